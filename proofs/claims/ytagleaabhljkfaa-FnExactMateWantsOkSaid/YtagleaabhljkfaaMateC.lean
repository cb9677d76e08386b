/- The law FnExactMateWantsOk returns true at every input; nothing is asked of the input beyond what the row itself asks. -/
import Derived.Test.YtagleaabhljkfaaMateG
import Derived.Test.YtagleaabhljkfaaMateB
import Derived.Test.YtagleaabhljkfaaRows
set_option linter.unusedSimpArgs false
set_option linter.unusedVariables false
namespace Go.Ab
open Go Go.RowKit Go.Proofs
attribute [local irreducible] XC Rdr IntKind.wrap xw xos xqs xr
set_option maxRecDepth 100000

end Go.Ab
namespace Go.Proofs.Ytagleaabhljkfaa
open Go Go.RowKit Go.ChangeShapes Go.WideShapes Go.ChangeAt Go.Ab
theorem ownfnExactMateWantsOk : ownKnob Try.prog.godebug = none := by kernel_rfl
theorem laidfnExactMateWantsOk : laidOutB Try.prog = true := by kernel_rfl
set_option maxRecDepth 100000 in
theorem fnExactMateWantsOk_lifted (os : Os) (started : os.Started) (H : Type) (enc : TypeId × Value → H) :
    ReturnsInHanded {} Try.checked os 4 .any (Rows.fnExactMateWantsOkSpec.pre6 enc Try.prog Try.f4 Rows.fnExactMateWantsOkRow.domain Rows.fnExactMateWantsOkRow.apart) (Rows.fnExactMateWantsOkSpec.post enc Try.prog Try.f4 Rows.fnExactMateWantsOkRow.apart Rows.fnExactMateWantsOkRow.fresh Rows.fnExactMateWantsOkRow.handsOn Rows.fnExactMateWantsOkRow.again) :=
  law_reads (C := Try.checked) (bt := 4) ownfnExactMateWantsOk started (by kernel_rfl) Try.func4
    (ChangeSpec.witness6 (enc := enc) (C := Try.checked) false ⟨#[], #[.slice none 0 0], []⟩ 8 (by kernel_rfl) (by kernel_rfl) (by kernel_rfl) (by kernel_rfl))
    laidfnExactMateWantsOk [.sl 7 (.st [.str, .int .i64, .str, .int .i64, .int .i64, .int .i64, .int .i64])] (by kernel_rfl) rfl rfl Try.underlying4
    (fun ds hd => match ds, hd with | [d1], _ => rfl)
    (fun ds h => by
      obtain ⟨_, _, rfl, h1, rfl⟩ := h
      obtain ⟨l, rfl, hw⟩ := args_MateWantS h1
      exact law_MateWantsOk l hw
)
set_option maxRecDepth 100000
theorem fnExactMateWantsOk_jf0 : (Rows.fnExactMateWantsOkRow.wf (OpenSpec.ofChange Rows.fnExactMateWantsOkSpec)) = true := by kernel_rfl
theorem fnExactMateWantsOk_jf3 : (Try.f4.params.all (Try.checked.prog.readableRec ·)) = true := by kernel_rfl
theorem fnExactMateWantsOk_jf4 : (namedTie Try.checked.prog Rows.fnExactMateWantsOkRow.named Rows.fnExactMateWantsOkSpec.vars) = true := by kernel_rfl
theorem fnExactMateWantsOk_jf5 : ((Rows.fnExactMateWantsOkRow.stops == [])) = true := by kernel_rfl
theorem fnExactMateWantsOk_jf7 : ((Rows.fnExactMateWantsOkRow.knobs == [])) = true := by kernel_rfl
theorem fnExactMateWantsOk_jf9 : ((Rows.fnExactMateWantsOkRow.inPlace == Try.checked.prog.inPlace 4)) = true := by kernel_rfl
theorem fnExactMateWantsOk_jf10 : ((Rows.fnExactMateWantsOkRow.unfollowed == Try.checked.prog.unfollowed 4)) = true := by kernel_rfl
theorem fnExactMateWantsOk_jf11 : ((Rows.fnExactMateWantsOkRow.recurses == Try.checked.prog.recurses 4)) = true := by kernel_rfl
theorem fnExactMateWantsOk_jf12 : ((Rows.fnExactMateWantsOkRow.named == Try.checked.prog.varsNamed 4)) = true := by kernel_rfl
theorem fnExactMateWantsOk_jf13 : ((Rows.fnExactMateWantsOkRow.maps == (Try.f4.params.toList ++ Rows.fnExactMateWantsOkSpec.plain.varTypes Try.checked.prog).any (Try.checked.prog.mapsRec ·))) = true := by kernel_rfl
theorem fnExactMateWantsOk_jf14 : ((Rows.fnExactMateWantsOkRow.ifaces == (Try.f4.params.toList ++ Rows.fnExactMateWantsOkSpec.plain.varTypes Try.checked.prog).any (Try.checked.prog.ifacesRec ·))) = true := by kernel_rfl
theorem fnExactMateWantsOk_jf15 : ((Rows.fnExactMateWantsOkRow.mapsOut == Try.checked.prog.mapsAmong Try.f4.resultTypes.toList)) = true := by kernel_rfl
theorem fnExactMateWantsOk_jf16 : ((Rows.fnExactMateWantsOkRow.loops == (Try.f4.params.toList ++ Rows.fnExactMateWantsOkSpec.plain.varTypes Try.checked.prog).any (Try.checked.prog.loopsFrom ·))) = true := by kernel_rfl
theorem fnExactMateWantsOk_jf17 : ((Rows.fnExactMateWantsOkRow.wideKeys == (Try.f4.params.toList ++ Rows.fnExactMateWantsOkSpec.plain.varTypes Try.checked.prog ++ Try.f4.resultTypes.toList).any (Try.checked.prog.wideKeysFrom ·))) = true := by kernel_rfl
theorem fnExactMateWantsOk_jf18 : (Rows.fnExactMateWantsOkSpec.vars.all (Try.checked.prog.varReadable ·)) = true := by kernel_rfl
theorem fnExactMateWantsOk_jf19 : (Try.f4.resultTypes.all (fun t => Try.checked.prog.readableRec t && decide (t < Try.checked.prog.types.size))) = true := by kernel_rfl
theorem fnExactMateWantsOk_jf20 : ((Rows.fnExactMateWantsOkRow.ifacesOut == Try.f4.resultTypes.toList.any (Try.checked.prog.ifacesRec ·))) = true := by kernel_rfl
theorem fnExactMateWantsOk_jf21 : ((Rows.fnExactMateWantsOkRow.loopsOut == Try.f4.resultTypes.toList.any (Try.checked.prog.loopsFrom ·))) = true := by kernel_rfl
theorem fnExactMateWantsOk_jf22 : ((Rows.fnExactMateWantsOkRow.plainKeys == Try.checked.prog.plainKeys)) = true := by kernel_rfl
theorem fnExactMateWantsOk_jf23 : (Rows.fnExactMateWantsOkRow.shortTexts.isNone) = true := by kernel_rfl
theorem fnExactMateWantsOk_jf28 : ((Rows.fnExactMateWantsOkRow.kinds == (if Rows.fnExactMateWantsOkRow.domain.isEmpty then [] else Try.f4.params.toList.map fun t => match Try.checked.prog.underlying t with | some (.int k) => some k | _ => none))) = true := by kernel_rfl
theorem fnExactMateWantsOk_jf29 : ((Rows.fnExactMateWantsOkRow.pinned == Rows.fnExactMateWantsOkRow.pinnedBy)) = true := by kernel_rfl
theorem fnExactMateWantsOk_jf30 : ((Rows.fnExactMateWantsOkRow.veiled == (Try.f4.params.toList ++ Rows.fnExactMateWantsOkSpec.plain.varTypes Try.checked.prog ++ Try.f4.resultTypes.toList).any (Try.checked.prog.veiledRec ·))) = true := by kernel_rfl
theorem fnExactMateWantsOk_jf31 : (Rows.fnExactMateWantsOkRow.veiledFits Try.checked.prog Try.f4.params.toList (Try.f4.params.toList ++ Rows.fnExactMateWantsOkSpec.plain.varTypes Try.checked.prog ++ Try.f4.resultTypes.toList)) = true := by kernel_rfl
theorem fnExactMateWantsOk_jf : joinedFacts Try.checked.prog 4 Try.f4 Rows.fnExactMateWantsOkSpec Rows.fnExactMateWantsOkRow = true := (and_mk (and_mk (and_mk (and_mk (and_mk (and_mk (and_mk (and_mk (and_mk (and_mk (and_mk (and_mk (and_mk (and_mk (and_mk (and_mk (and_mk (and_mk (and_mk (and_mk (and_mk (and_mk (and_mk (and_mk (and_mk (and_mk (and_mk (and_mk (and_mk (and_mk (and_mk fnExactMateWantsOk_jf0 fac1) fac2) fnExactMateWantsOk_jf3) fnExactMateWantsOk_jf4) fnExactMateWantsOk_jf5) fac6) fnExactMateWantsOk_jf7) fac8) fnExactMateWantsOk_jf9) fnExactMateWantsOk_jf10) fnExactMateWantsOk_jf11) fnExactMateWantsOk_jf12) fnExactMateWantsOk_jf13) fnExactMateWantsOk_jf14) fnExactMateWantsOk_jf15) fnExactMateWantsOk_jf16) fnExactMateWantsOk_jf17) fnExactMateWantsOk_jf18) fnExactMateWantsOk_jf19) fnExactMateWantsOk_jf20) fnExactMateWantsOk_jf21) fnExactMateWantsOk_jf22) fnExactMateWantsOk_jf23) fac24) fac25) fac26) fac27) fnExactMateWantsOk_jf28) fnExactMateWantsOk_jf29) fnExactMateWantsOk_jf30) fnExactMateWantsOk_jf31)
theorem fnExactMateWantsOk_holds : Rows.FnExactMateWantsOkSaid :=
  OpenClaim.holds_of_wide 4 Try.f4 rfl rfl rfl rfl rfl rfl rfl ⟨rfl, rfl, rfl, rfl, rfl⟩ rfl rfl rfl rfl rfl (by kernel_rfl) Try.func4 fnExactMateWantsOk_jf
    (of_decide_eq_true (by kernel_rfl)) (by unfold Func.isWrapper; first | (rw [if_pos (by decide +kernel)]; kernel_rfl) | (rw [if_neg (by decide +kernel)]; exact ⟨rfl, rfl⟩))
    (fun os started H enc _ => fnExactMateWantsOk_lifted os started H enc)
#print axioms fnExactMateWantsOk_holds
end Go.Proofs.Ytagleaabhljkfaa

