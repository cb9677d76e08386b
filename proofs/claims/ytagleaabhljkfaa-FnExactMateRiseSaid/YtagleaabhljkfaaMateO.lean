/- The law FnExactMateRise returns true at every input; nothing is asked of the input beyond what the row itself asks. -/
import Derived.Test.YtagleaabhljkfaaMateG
import Derived.Test.YtagleaabhljkfaaMateN
import Derived.Test.YtagleaabhljkfaaRows
set_option linter.unusedSimpArgs false
set_option linter.unusedVariables false
namespace Go.Ab
open Go Go.RowKit Go.Proofs
attribute [local irreducible] XC Rdr IntKind.wrap xw xos xqs xr xd
set_option maxRecDepth 100000

end Go.Ab
namespace Go.Proofs.Ytagleaabhljkfaa
open Go Go.RowKit Go.ChangeShapes Go.WideShapes Go.ChangeAt Go.Ab
theorem ownfnExactMateRise : ownKnob Try.prog.godebug = none := by kernel_rfl
theorem laidfnExactMateRise : laidOutB Try.prog = true := by kernel_rfl
set_option maxRecDepth 100000 in
theorem fnExactMateRise_lifted (os : Os) (started : os.Started) (H : Type) (enc : TypeId × Value → H) :
    ReturnsInHanded {} Try.checked os 11 .any (Rows.fnExactMateRiseSpec.pre6 enc Try.prog Try.f11 Rows.fnExactMateRiseRow.domain Rows.fnExactMateRiseRow.apart) (Rows.fnExactMateRiseSpec.post enc Try.prog Try.f11 Rows.fnExactMateRiseRow.apart Rows.fnExactMateRiseRow.fresh Rows.fnExactMateRiseRow.handsOn Rows.fnExactMateRiseRow.again) :=
  law_reads (C := Try.checked) (bt := 4) ownfnExactMateRise started (by kernel_rfl) Try.func11
    (ChangeSpec.witness6 (enc := enc) (C := Try.checked) false ⟨#[], #[.agg #[.string ⟨#[]⟩, .bool false, .int .i64 0, .bool false, .int .i64 0, .slice none 0 0, .slice none 0 0, .slice none 0 0, .slice none 0 0]], []⟩ 8 (by kernel_rfl) (by kernel_rfl) (by kernel_rfl) (by kernel_rfl))
    laidfnExactMateRise [.st [.str, .bool, .int .i64, .bool, .int .i64, .sl 7 (.st [.str, .int .i64, .str, .int .i64, .int .i64, .int .i64, .int .i64]), .sl 11 (.st [.st [.str, .int .i64, .str, .int .i64, .int .i64, .int .i64, .int .i64], .int .i64, .int .i64, .int .i64, .int .i64]), .sl 4 (.st [.str, .str, .int .i64, .int .i64]), .sl 4 (.st [.str, .str, .int .i64, .int .i64])]] (by kernel_rfl) rfl rfl Try.underlying4
    (fun ds hd => match ds, hd with | [d1], _ => rfl)
    (fun ds h => by
      obtain ⟨_, _, rfl, h1, rfl⟩ := h
      obtain ⟨x, rfl, hw⟩ := args_Mate h1
      exact law_Rise x hw
)
set_option maxRecDepth 100000
theorem fnExactMateRise_jf0 : (Rows.fnExactMateRiseRow.wf (OpenSpec.ofChange Rows.fnExactMateRiseSpec)) = true := by kernel_rfl
theorem fnExactMateRise_jf3 : (Try.f11.params.all (Try.checked.prog.readableRec ·)) = true := by kernel_rfl
theorem fnExactMateRise_jf4 : (namedTie Try.checked.prog Rows.fnExactMateRiseRow.named Rows.fnExactMateRiseSpec.vars) = true := by kernel_rfl
theorem fnExactMateRise_jf5 : ((Rows.fnExactMateRiseRow.stops == [])) = true := by kernel_rfl
theorem fnExactMateRise_jf7 : ((Rows.fnExactMateRiseRow.knobs == [])) = true := by kernel_rfl
theorem fnExactMateRise_jf9 : ((Rows.fnExactMateRiseRow.inPlace == Try.checked.prog.inPlace 11)) = true := by kernel_rfl
theorem fnExactMateRise_jf10 : ((Rows.fnExactMateRiseRow.unfollowed == Try.checked.prog.unfollowed 11)) = true := by kernel_rfl
theorem fnExactMateRise_jf11 : ((Rows.fnExactMateRiseRow.recurses == Try.checked.prog.recurses 11)) = true := by kernel_rfl
theorem fnExactMateRise_jf12 : ((Rows.fnExactMateRiseRow.named == Try.checked.prog.varsNamed 11)) = true := by kernel_rfl
theorem fnExactMateRise_jf13 : ((Rows.fnExactMateRiseRow.maps == (Try.f11.params.toList ++ Rows.fnExactMateRiseSpec.plain.varTypes Try.checked.prog).any (Try.checked.prog.mapsRec ·))) = true := by kernel_rfl
theorem fnExactMateRise_jf14 : ((Rows.fnExactMateRiseRow.ifaces == (Try.f11.params.toList ++ Rows.fnExactMateRiseSpec.plain.varTypes Try.checked.prog).any (Try.checked.prog.ifacesRec ·))) = true := by kernel_rfl
theorem fnExactMateRise_jf15 : ((Rows.fnExactMateRiseRow.mapsOut == Try.checked.prog.mapsAmong Try.f11.resultTypes.toList)) = true := by kernel_rfl
theorem fnExactMateRise_jf16 : ((Rows.fnExactMateRiseRow.loops == (Try.f11.params.toList ++ Rows.fnExactMateRiseSpec.plain.varTypes Try.checked.prog).any (Try.checked.prog.loopsFrom ·))) = true := by kernel_rfl
theorem fnExactMateRise_jf17 : ((Rows.fnExactMateRiseRow.wideKeys == (Try.f11.params.toList ++ Rows.fnExactMateRiseSpec.plain.varTypes Try.checked.prog ++ Try.f11.resultTypes.toList).any (Try.checked.prog.wideKeysFrom ·))) = true := by kernel_rfl
theorem fnExactMateRise_jf18 : (Rows.fnExactMateRiseSpec.vars.all (Try.checked.prog.varReadable ·)) = true := by kernel_rfl
theorem fnExactMateRise_jf19 : (Try.f11.resultTypes.all (fun t => Try.checked.prog.readableRec t && decide (t < Try.checked.prog.types.size))) = true := by kernel_rfl
theorem fnExactMateRise_jf20 : ((Rows.fnExactMateRiseRow.ifacesOut == Try.f11.resultTypes.toList.any (Try.checked.prog.ifacesRec ·))) = true := by kernel_rfl
theorem fnExactMateRise_jf21 : ((Rows.fnExactMateRiseRow.loopsOut == Try.f11.resultTypes.toList.any (Try.checked.prog.loopsFrom ·))) = true := by kernel_rfl
theorem fnExactMateRise_jf22 : ((Rows.fnExactMateRiseRow.plainKeys == Try.checked.prog.plainKeys)) = true := by kernel_rfl
theorem fnExactMateRise_jf23 : (Rows.fnExactMateRiseRow.shortTexts.isNone) = true := by kernel_rfl
theorem fnExactMateRise_jf28 : ((Rows.fnExactMateRiseRow.kinds == (if Rows.fnExactMateRiseRow.domain.isEmpty then [] else Try.f11.params.toList.map fun t => match Try.checked.prog.underlying t with | some (.int k) => some k | _ => none))) = true := by kernel_rfl
theorem fnExactMateRise_jf29 : ((Rows.fnExactMateRiseRow.pinned == Rows.fnExactMateRiseRow.pinnedBy)) = true := by kernel_rfl
theorem fnExactMateRise_jf30 : ((Rows.fnExactMateRiseRow.veiled == (Try.f11.params.toList ++ Rows.fnExactMateRiseSpec.plain.varTypes Try.checked.prog ++ Try.f11.resultTypes.toList).any (Try.checked.prog.veiledRec ·))) = true := by kernel_rfl
theorem fnExactMateRise_jf31 : (Rows.fnExactMateRiseRow.veiledFits Try.checked.prog Try.f11.params.toList (Try.f11.params.toList ++ Rows.fnExactMateRiseSpec.plain.varTypes Try.checked.prog ++ Try.f11.resultTypes.toList)) = true := by kernel_rfl
theorem fnExactMateRise_jf : joinedFacts Try.checked.prog 11 Try.f11 Rows.fnExactMateRiseSpec Rows.fnExactMateRiseRow = true := (and_mk (and_mk (and_mk (and_mk (and_mk (and_mk (and_mk (and_mk (and_mk (and_mk (and_mk (and_mk (and_mk (and_mk (and_mk (and_mk (and_mk (and_mk (and_mk (and_mk (and_mk (and_mk (and_mk (and_mk (and_mk (and_mk (and_mk (and_mk (and_mk (and_mk (and_mk fnExactMateRise_jf0 fac1) fac2) fnExactMateRise_jf3) fnExactMateRise_jf4) fnExactMateRise_jf5) fac6) fnExactMateRise_jf7) fac8) fnExactMateRise_jf9) fnExactMateRise_jf10) fnExactMateRise_jf11) fnExactMateRise_jf12) fnExactMateRise_jf13) fnExactMateRise_jf14) fnExactMateRise_jf15) fnExactMateRise_jf16) fnExactMateRise_jf17) fnExactMateRise_jf18) fnExactMateRise_jf19) fnExactMateRise_jf20) fnExactMateRise_jf21) fnExactMateRise_jf22) fnExactMateRise_jf23) fac24) fac25) fac26) fac27) fnExactMateRise_jf28) fnExactMateRise_jf29) fnExactMateRise_jf30) fnExactMateRise_jf31)
theorem fnExactMateRise_holds : Rows.FnExactMateRiseSaid :=
  OpenClaim.holds_of_wide 11 Try.f11 rfl rfl rfl rfl rfl rfl rfl ⟨rfl, rfl, rfl, rfl, rfl⟩ rfl rfl rfl rfl rfl (by kernel_rfl) Try.func11 fnExactMateRise_jf
    (of_decide_eq_true (by kernel_rfl)) (by unfold Func.isWrapper; first | (rw [if_pos (by decide +kernel)]; kernel_rfl) | (rw [if_neg (by decide +kernel)]; exact ⟨rfl, rfl⟩))
    (fun os started H enc _ => fnExactMateRise_lifted os started H enc)
#print axioms fnExactMateRise_holds
end Go.Proofs.Ytagleaabhljkfaa

