/- The law FnExactMateWatchdog returns true at every input; nothing is asked of the input beyond what the row itself asks. -/
import Derived.Test.YtagleaabhljkfaaMateG
import Derived.Test.YtagleaabhljkfaaMateZ
import Derived.Test.YtagleaabhljkfaaRows
set_option linter.unusedSimpArgs false
set_option linter.unusedVariables false
namespace Go.Ab
open Go Go.RowKit Go.Proofs
attribute [local irreducible] XC Rdr IntKind.wrap xw xos xqs xr xd
set_option maxRecDepth 100000

end Go.Ab
namespace Go.Proofs.Ytagleaabhljkfaa
open Go Go.RowKit Go.ChangeShapes Go.WideShapes Go.ChangeAt Go.Ab
theorem ownfnExactMateWatchdog : ownKnob Try.prog.godebug = none := by kernel_rfl
theorem laidfnExactMateWatchdog : laidOutB Try.prog = true := by kernel_rfl
set_option maxRecDepth 100000 in
theorem fnExactMateWatchdog_lifted (os : Os) (started : os.Started) (H : Type) (enc : TypeId × Value → H) :
    ReturnsInHanded {} Try.checked os 7 .any (Rows.fnExactMateWatchdogSpec.pre6 enc Try.prog Try.f7 Rows.fnExactMateWatchdogRow.domain Rows.fnExactMateWatchdogRow.apart) (Rows.fnExactMateWatchdogSpec.post enc Try.prog Try.f7 Rows.fnExactMateWatchdogRow.apart Rows.fnExactMateWatchdogRow.fresh Rows.fnExactMateWatchdogRow.handsOn Rows.fnExactMateWatchdogRow.again) :=
  law_reads (C := Try.checked) (bt := 4) ownfnExactMateWatchdog started (by kernel_rfl) Try.func7
    (ChangeSpec.witness6 (enc := enc) (C := Try.checked) false ⟨#[], #[.slice none 0 0, .int .i64 0], []⟩ 8 (by kernel_rfl) (by kernel_rfl) (by kernel_rfl) (by kernel_rfl))
    laidfnExactMateWatchdog [.sl 11 (.st [.st [.str, .int .i64, .str, .int .i64, .int .i64, .int .i64, .int .i64], .int .i64, .int .i64, .int .i64, .int .i64]), .int .i64] (by kernel_rfl) rfl rfl Try.underlying4
    (fun ds hd => match ds, hd with | [d1, d2], _ => rfl)
    (fun ds h => by
      obtain ⟨_, _, rfl, h1, _, _, rfl, h2, rfl⟩ := h
      obtain ⟨l, rfl, hw⟩ := args_MateRunS h1
      rw [Has] at h2
      obtain ⟨n, rfl, _⟩ := h2
      exact law_Watchdog l n hw
)
set_option maxRecDepth 100000
theorem fnExactMateWatchdog_jf0 : (Rows.fnExactMateWatchdogRow.wf (OpenSpec.ofChange Rows.fnExactMateWatchdogSpec)) = true := by kernel_rfl
theorem fnExactMateWatchdog_jf3 : (Try.f7.params.all (Try.checked.prog.readableRec ·)) = true := by kernel_rfl
theorem fnExactMateWatchdog_jf4 : (namedTie Try.checked.prog Rows.fnExactMateWatchdogRow.named Rows.fnExactMateWatchdogSpec.vars) = true := by kernel_rfl
theorem fnExactMateWatchdog_jf5 : ((Rows.fnExactMateWatchdogRow.stops == [])) = true := by kernel_rfl
theorem fnExactMateWatchdog_jf7 : ((Rows.fnExactMateWatchdogRow.knobs == [])) = true := by kernel_rfl
theorem fnExactMateWatchdog_jf9 : ((Rows.fnExactMateWatchdogRow.inPlace == Try.checked.prog.inPlace 7)) = true := by kernel_rfl
theorem fnExactMateWatchdog_jf10 : ((Rows.fnExactMateWatchdogRow.unfollowed == Try.checked.prog.unfollowed 7)) = true := by kernel_rfl
theorem fnExactMateWatchdog_jf11 : ((Rows.fnExactMateWatchdogRow.recurses == Try.checked.prog.recurses 7)) = true := by kernel_rfl
theorem fnExactMateWatchdog_jf12 : ((Rows.fnExactMateWatchdogRow.named == Try.checked.prog.varsNamed 7)) = true := by kernel_rfl
theorem fnExactMateWatchdog_jf13 : ((Rows.fnExactMateWatchdogRow.maps == (Try.f7.params.toList ++ Rows.fnExactMateWatchdogSpec.plain.varTypes Try.checked.prog).any (Try.checked.prog.mapsRec ·))) = true := by kernel_rfl
theorem fnExactMateWatchdog_jf14 : ((Rows.fnExactMateWatchdogRow.ifaces == (Try.f7.params.toList ++ Rows.fnExactMateWatchdogSpec.plain.varTypes Try.checked.prog).any (Try.checked.prog.ifacesRec ·))) = true := by kernel_rfl
theorem fnExactMateWatchdog_jf15 : ((Rows.fnExactMateWatchdogRow.mapsOut == Try.checked.prog.mapsAmong Try.f7.resultTypes.toList)) = true := by kernel_rfl
theorem fnExactMateWatchdog_jf16 : ((Rows.fnExactMateWatchdogRow.loops == (Try.f7.params.toList ++ Rows.fnExactMateWatchdogSpec.plain.varTypes Try.checked.prog).any (Try.checked.prog.loopsFrom ·))) = true := by kernel_rfl
theorem fnExactMateWatchdog_jf17 : ((Rows.fnExactMateWatchdogRow.wideKeys == (Try.f7.params.toList ++ Rows.fnExactMateWatchdogSpec.plain.varTypes Try.checked.prog ++ Try.f7.resultTypes.toList).any (Try.checked.prog.wideKeysFrom ·))) = true := by kernel_rfl
theorem fnExactMateWatchdog_jf18 : (Rows.fnExactMateWatchdogSpec.vars.all (Try.checked.prog.varReadable ·)) = true := by kernel_rfl
theorem fnExactMateWatchdog_jf19 : (Try.f7.resultTypes.all (fun t => Try.checked.prog.readableRec t && decide (t < Try.checked.prog.types.size))) = true := by kernel_rfl
theorem fnExactMateWatchdog_jf20 : ((Rows.fnExactMateWatchdogRow.ifacesOut == Try.f7.resultTypes.toList.any (Try.checked.prog.ifacesRec ·))) = true := by kernel_rfl
theorem fnExactMateWatchdog_jf21 : ((Rows.fnExactMateWatchdogRow.loopsOut == Try.f7.resultTypes.toList.any (Try.checked.prog.loopsFrom ·))) = true := by kernel_rfl
theorem fnExactMateWatchdog_jf22 : ((Rows.fnExactMateWatchdogRow.plainKeys == Try.checked.prog.plainKeys)) = true := by kernel_rfl
theorem fnExactMateWatchdog_jf23 : (Rows.fnExactMateWatchdogRow.shortTexts.isNone) = true := by kernel_rfl
theorem fnExactMateWatchdog_jf28 : ((Rows.fnExactMateWatchdogRow.kinds == (if Rows.fnExactMateWatchdogRow.domain.isEmpty then [] else Try.f7.params.toList.map fun t => match Try.checked.prog.underlying t with | some (.int k) => some k | _ => none))) = true := by kernel_rfl
theorem fnExactMateWatchdog_jf29 : ((Rows.fnExactMateWatchdogRow.pinned == Rows.fnExactMateWatchdogRow.pinnedBy)) = true := by kernel_rfl
theorem fnExactMateWatchdog_jf30 : ((Rows.fnExactMateWatchdogRow.veiled == (Try.f7.params.toList ++ Rows.fnExactMateWatchdogSpec.plain.varTypes Try.checked.prog ++ Try.f7.resultTypes.toList).any (Try.checked.prog.veiledRec ·))) = true := by kernel_rfl
theorem fnExactMateWatchdog_jf31 : (Rows.fnExactMateWatchdogRow.veiledFits Try.checked.prog Try.f7.params.toList (Try.f7.params.toList ++ Rows.fnExactMateWatchdogSpec.plain.varTypes Try.checked.prog ++ Try.f7.resultTypes.toList)) = true := by kernel_rfl
theorem fnExactMateWatchdog_jf : joinedFacts Try.checked.prog 7 Try.f7 Rows.fnExactMateWatchdogSpec Rows.fnExactMateWatchdogRow = true := (and_mk (and_mk (and_mk (and_mk (and_mk (and_mk (and_mk (and_mk (and_mk (and_mk (and_mk (and_mk (and_mk (and_mk (and_mk (and_mk (and_mk (and_mk (and_mk (and_mk (and_mk (and_mk (and_mk (and_mk (and_mk (and_mk (and_mk (and_mk (and_mk (and_mk (and_mk fnExactMateWatchdog_jf0 fac1) fac2) fnExactMateWatchdog_jf3) fnExactMateWatchdog_jf4) fnExactMateWatchdog_jf5) fac6) fnExactMateWatchdog_jf7) fac8) fnExactMateWatchdog_jf9) fnExactMateWatchdog_jf10) fnExactMateWatchdog_jf11) fnExactMateWatchdog_jf12) fnExactMateWatchdog_jf13) fnExactMateWatchdog_jf14) fnExactMateWatchdog_jf15) fnExactMateWatchdog_jf16) fnExactMateWatchdog_jf17) fnExactMateWatchdog_jf18) fnExactMateWatchdog_jf19) fnExactMateWatchdog_jf20) fnExactMateWatchdog_jf21) fnExactMateWatchdog_jf22) fnExactMateWatchdog_jf23) fac24) fac25) fac26) fac27) fnExactMateWatchdog_jf28) fnExactMateWatchdog_jf29) fnExactMateWatchdog_jf30) fnExactMateWatchdog_jf31)
theorem fnExactMateWatchdog_holds : Rows.FnExactMateWatchdogSaid :=
  OpenClaim.holds_of_wide 7 Try.f7 rfl rfl rfl rfl rfl rfl rfl ⟨rfl, rfl, rfl, rfl, rfl⟩ rfl rfl rfl rfl rfl (by kernel_rfl) Try.func7 fnExactMateWatchdog_jf
    (of_decide_eq_true (by kernel_rfl)) (by unfold Func.isWrapper; first | (rw [if_pos (by decide +kernel)]; kernel_rfl) | (rw [if_neg (by decide +kernel)]; exact ⟨rfl, rfl⟩))
    (fun os started H enc _ => fnExactMateWatchdog_lifted os started H enc)
#print axioms fnExactMateWatchdog_holds
end Go.Proofs.Ytagleaabhljkfaa

