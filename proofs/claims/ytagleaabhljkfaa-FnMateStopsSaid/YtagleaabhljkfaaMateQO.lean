/- The law FnMateStops returns true at every input; nothing is asked of the input beyond what the row itself asks. -/
import Derived.Test.YtagleaabhljkfaaMateG
import Derived.Test.YtagleaabhljkfaaMateQL
import Derived.Test.YtagleaabhljkfaaRows
set_option linter.unusedSimpArgs false
set_option linter.unusedVariables false
namespace Go.Ab
open Go Go.RowKit Go.Proofs
attribute [local irreducible] XC Rdr IntKind.wrap xw xos xqs xr xd
set_option maxRecDepth 100000

end Go.Ab
namespace Go.Proofs.Ytagleaabhljkfaa
open Go Go.RowKit Go.ChangeShapes Go.WideShapes Go.ChangeAt Go.Ab
theorem ownfnMateStops : ownKnob Try.prog.godebug = none := by kernel_rfl
theorem laidfnMateStops : laidOutB Try.prog = true := by kernel_rfl
set_option maxRecDepth 100000 in
theorem fnMateStops_lifted (os : Os) (started : os.Started) (H : Type) (enc : TypeId × Value → H) :
    ReturnsInHanded {} Try.checked os 6 .any (Rows.fnMateStopsSpec.pre6 enc Try.prog Try.f6 Rows.fnMateStopsRow.domain Rows.fnMateStopsRow.apart) (Rows.fnMateStopsSpec.post enc Try.prog Try.f6 Rows.fnMateStopsRow.apart Rows.fnMateStopsRow.fresh Rows.fnMateStopsRow.handsOn Rows.fnMateStopsRow.again) :=
  law_reads (C := Try.checked) (bt := 4) ownfnMateStops started (by kernel_rfl) Try.func6
    (ChangeSpec.witness6 (enc := enc) (C := Try.checked) false ⟨#[], #[.slice none 0 0], []⟩ 8 (by kernel_rfl) (by kernel_rfl) (by kernel_rfl) (by kernel_rfl))
    laidfnMateStops [.sl 1 (.int .u8)] (by kernel_rfl) rfl rfl Try.underlying4
    (fun ds hd => match ds, hd with | [d1], _ => rfl)
    (fun ds h => by
      obtain ⟨_, _, rfl, h1, rfl⟩ := h
      rw [Has] at h1
      obtain ⟨ds, rfl, hl, hx⟩ := h1
      obtain ⟨c, rfl, hc⟩ := u8_list hx
      exact law_MateStops c (by simpa using hl) hc
)
set_option maxRecDepth 100000
theorem fnMateStops_jf0 : (Rows.fnMateStopsRow.wf (OpenSpec.ofChange Rows.fnMateStopsSpec)) = true := by kernel_rfl
theorem fnMateStops_jf3 : (Try.f6.params.all (Try.checked.prog.readableRec ·)) = true := by kernel_rfl
theorem fnMateStops_jf4 : (namedTie Try.checked.prog Rows.fnMateStopsRow.named Rows.fnMateStopsSpec.vars) = true := by kernel_rfl
theorem fnMateStops_jf5 : ((Rows.fnMateStopsRow.stops == [])) = true := by kernel_rfl
theorem fnMateStops_jf7 : ((Rows.fnMateStopsRow.knobs == [])) = true := by kernel_rfl
theorem fnMateStops_jf9 : ((Rows.fnMateStopsRow.inPlace == Try.checked.prog.inPlace 6)) = true := by kernel_rfl
theorem fnMateStops_jf10 : ((Rows.fnMateStopsRow.unfollowed == Try.checked.prog.unfollowed 6)) = true := by kernel_rfl
theorem fnMateStops_jf11 : ((Rows.fnMateStopsRow.recurses == Try.checked.prog.recurses 6)) = true := by kernel_rfl
theorem fnMateStops_jf12 : ((Rows.fnMateStopsRow.named == Try.checked.prog.varsNamed 6)) = true := by kernel_rfl
theorem fnMateStops_jf13 : ((Rows.fnMateStopsRow.maps == (Try.f6.params.toList ++ Rows.fnMateStopsSpec.plain.varTypes Try.checked.prog).any (Try.checked.prog.mapsRec ·))) = true := by kernel_rfl
theorem fnMateStops_jf14 : ((Rows.fnMateStopsRow.ifaces == (Try.f6.params.toList ++ Rows.fnMateStopsSpec.plain.varTypes Try.checked.prog).any (Try.checked.prog.ifacesRec ·))) = true := by kernel_rfl
theorem fnMateStops_jf15 : ((Rows.fnMateStopsRow.mapsOut == Try.checked.prog.mapsAmong Try.f6.resultTypes.toList)) = true := by kernel_rfl
theorem fnMateStops_jf16 : ((Rows.fnMateStopsRow.loops == (Try.f6.params.toList ++ Rows.fnMateStopsSpec.plain.varTypes Try.checked.prog).any (Try.checked.prog.loopsFrom ·))) = true := by kernel_rfl
theorem fnMateStops_jf17 : ((Rows.fnMateStopsRow.wideKeys == (Try.f6.params.toList ++ Rows.fnMateStopsSpec.plain.varTypes Try.checked.prog ++ Try.f6.resultTypes.toList).any (Try.checked.prog.wideKeysFrom ·))) = true := by kernel_rfl
theorem fnMateStops_jf18 : (Rows.fnMateStopsSpec.vars.all (Try.checked.prog.varReadable ·)) = true := by kernel_rfl
theorem fnMateStops_jf19 : (Try.f6.resultTypes.all (fun t => Try.checked.prog.readableRec t && decide (t < Try.checked.prog.types.size))) = true := by kernel_rfl
theorem fnMateStops_jf20 : ((Rows.fnMateStopsRow.ifacesOut == Try.f6.resultTypes.toList.any (Try.checked.prog.ifacesRec ·))) = true := by kernel_rfl
theorem fnMateStops_jf21 : ((Rows.fnMateStopsRow.loopsOut == Try.f6.resultTypes.toList.any (Try.checked.prog.loopsFrom ·))) = true := by kernel_rfl
theorem fnMateStops_jf22 : ((Rows.fnMateStopsRow.plainKeys == Try.checked.prog.plainKeys)) = true := by kernel_rfl
theorem fnMateStops_jf23 : (Rows.fnMateStopsRow.shortTexts.isNone) = true := by kernel_rfl
theorem fnMateStops_jf28 : ((Rows.fnMateStopsRow.kinds == (if Rows.fnMateStopsRow.domain.isEmpty then [] else Try.f6.params.toList.map fun t => match Try.checked.prog.underlying t with | some (.int k) => some k | _ => none))) = true := by kernel_rfl
theorem fnMateStops_jf29 : ((Rows.fnMateStopsRow.pinned == Rows.fnMateStopsRow.pinnedBy)) = true := by kernel_rfl
theorem fnMateStops_jf30 : ((Rows.fnMateStopsRow.veiled == (Try.f6.params.toList ++ Rows.fnMateStopsSpec.plain.varTypes Try.checked.prog ++ Try.f6.resultTypes.toList).any (Try.checked.prog.veiledRec ·))) = true := by kernel_rfl
theorem fnMateStops_jf31 : (Rows.fnMateStopsRow.veiledFits Try.checked.prog Try.f6.params.toList (Try.f6.params.toList ++ Rows.fnMateStopsSpec.plain.varTypes Try.checked.prog ++ Try.f6.resultTypes.toList)) = true := by kernel_rfl
theorem fnMateStops_jf : joinedFacts Try.checked.prog 6 Try.f6 Rows.fnMateStopsSpec Rows.fnMateStopsRow = true := (and_mk (and_mk (and_mk (and_mk (and_mk (and_mk (and_mk (and_mk (and_mk (and_mk (and_mk (and_mk (and_mk (and_mk (and_mk (and_mk (and_mk (and_mk (and_mk (and_mk (and_mk (and_mk (and_mk (and_mk (and_mk (and_mk (and_mk (and_mk (and_mk (and_mk (and_mk fnMateStops_jf0 fac1) fac2) fnMateStops_jf3) fnMateStops_jf4) fnMateStops_jf5) fac6) fnMateStops_jf7) fac8) fnMateStops_jf9) fnMateStops_jf10) fnMateStops_jf11) fnMateStops_jf12) fnMateStops_jf13) fnMateStops_jf14) fnMateStops_jf15) fnMateStops_jf16) fnMateStops_jf17) fnMateStops_jf18) fnMateStops_jf19) fnMateStops_jf20) fnMateStops_jf21) fnMateStops_jf22) fnMateStops_jf23) fac24) fac25) fac26) fac27) fnMateStops_jf28) fnMateStops_jf29) fnMateStops_jf30) fnMateStops_jf31)
theorem fnMateStops_holds : Rows.FnMateStopsSaid :=
  OpenClaim.holds_of_wide 6 Try.f6 rfl rfl rfl rfl rfl rfl rfl ⟨rfl, rfl, rfl, rfl, rfl⟩ rfl rfl rfl rfl rfl (by kernel_rfl) Try.func6 fnMateStops_jf
    (of_decide_eq_true (by kernel_rfl)) (by unfold Func.isWrapper; first | (rw [if_pos (by decide +kernel)]; kernel_rfl) | (rw [if_neg (by decide +kernel)]; exact ⟨rfl, rfl⟩))
    (fun os started H enc _ => fnMateStops_lifted os started H enc)
#print axioms fnMateStops_holds
end Go.Proofs.Ytagleaabhljkfaa

