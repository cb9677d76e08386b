/- The law FnExactMateValid returns true at every input; nothing is asked of the input beyond what the row itself asks. -/
import Derived.Test.YtagleaabhljkfaaMateG
import Derived.Test.YtagleaabhljkfaaMateE
import Derived.Test.YtagleaabhljkfaaRows
set_option linter.unusedSimpArgs false
set_option linter.unusedVariables false
namespace Go.Ab
open Go Go.RowKit Go.Proofs
attribute [local irreducible] XC Rdr IntKind.wrap xw xos xqs xr
set_option maxRecDepth 100000

end Go.Ab
namespace Go.Proofs.Ytagleaabhljkfaa
open Go Go.RowKit Go.ChangeShapes Go.WideShapes Go.ChangeAt Go.Ab
theorem ownfnExactMateValid : ownKnob Try.prog.godebug = none := by kernel_rfl
theorem laidfnExactMateValid : laidOutB Try.prog = true := by kernel_rfl
set_option maxRecDepth 100000 in
theorem fnExactMateValid_lifted (os : Os) (started : os.Started) (H : Type) (enc : TypeId × Value → H) :
    ReturnsInHanded {} Try.checked os 9 .any (Rows.fnExactMateValidSpec.pre6 enc Try.prog Try.f9 Rows.fnExactMateValidRow.domain Rows.fnExactMateValidRow.apart) (Rows.fnExactMateValidSpec.post enc Try.prog Try.f9 Rows.fnExactMateValidRow.apart Rows.fnExactMateValidRow.fresh Rows.fnExactMateValidRow.handsOn Rows.fnExactMateValidRow.again) :=
  law_reads (C := Try.checked) (bt := 4) ownfnExactMateValid started (by kernel_rfl) Try.func9
    (ChangeSpec.witness6 (enc := enc) (C := Try.checked) false ⟨#[], #[.agg #[.string ⟨#[]⟩, .bool false, .int .i64 0, .bool false, .int .i64 0, .slice none 0 0, .slice none 0 0, .slice none 0 0, .slice none 0 0]], []⟩ 8 (by kernel_rfl) (by kernel_rfl) (by kernel_rfl) (by kernel_rfl))
    laidfnExactMateValid [.st [.str, .bool, .int .i64, .bool, .int .i64, .sl 7 (.st [.str, .int .i64, .str, .int .i64, .int .i64, .int .i64, .int .i64]), .sl 11 (.st [.st [.str, .int .i64, .str, .int .i64, .int .i64, .int .i64, .int .i64], .int .i64, .int .i64, .int .i64, .int .i64]), .sl 4 (.st [.str, .str, .int .i64, .int .i64]), .sl 4 (.st [.str, .str, .int .i64, .int .i64])]] (by kernel_rfl) rfl rfl Try.underlying4
    (fun ds hd => match ds, hd with | [d1], _ => rfl)
    (fun ds h => by
      obtain ⟨_, _, rfl, h1, rfl⟩ := h
      obtain ⟨x, rfl, hw⟩ := args_Mate h1
      exact law_MateValid x hw
)
set_option maxRecDepth 100000
theorem fnExactMateValid_jf0 : (Rows.fnExactMateValidRow.wf (OpenSpec.ofChange Rows.fnExactMateValidSpec)) = true := by kernel_rfl
theorem fnExactMateValid_jf3 : (Try.f9.params.all (Try.checked.prog.readableRec ·)) = true := by kernel_rfl
theorem fnExactMateValid_jf4 : (namedTie Try.checked.prog Rows.fnExactMateValidRow.named Rows.fnExactMateValidSpec.vars) = true := by kernel_rfl
theorem fnExactMateValid_jf5 : ((Rows.fnExactMateValidRow.stops == [])) = true := by kernel_rfl
theorem fnExactMateValid_jf7 : ((Rows.fnExactMateValidRow.knobs == [])) = true := by kernel_rfl
theorem fnExactMateValid_jf9 : ((Rows.fnExactMateValidRow.inPlace == Try.checked.prog.inPlace 9)) = true := by kernel_rfl
theorem fnExactMateValid_jf10 : ((Rows.fnExactMateValidRow.unfollowed == Try.checked.prog.unfollowed 9)) = true := by kernel_rfl
theorem fnExactMateValid_jf11 : ((Rows.fnExactMateValidRow.recurses == Try.checked.prog.recurses 9)) = true := by kernel_rfl
theorem fnExactMateValid_jf12 : ((Rows.fnExactMateValidRow.named == Try.checked.prog.varsNamed 9)) = true := by kernel_rfl
theorem fnExactMateValid_jf13 : ((Rows.fnExactMateValidRow.maps == (Try.f9.params.toList ++ Rows.fnExactMateValidSpec.plain.varTypes Try.checked.prog).any (Try.checked.prog.mapsRec ·))) = true := by kernel_rfl
theorem fnExactMateValid_jf14 : ((Rows.fnExactMateValidRow.ifaces == (Try.f9.params.toList ++ Rows.fnExactMateValidSpec.plain.varTypes Try.checked.prog).any (Try.checked.prog.ifacesRec ·))) = true := by kernel_rfl
theorem fnExactMateValid_jf15 : ((Rows.fnExactMateValidRow.mapsOut == Try.checked.prog.mapsAmong Try.f9.resultTypes.toList)) = true := by kernel_rfl
theorem fnExactMateValid_jf16 : ((Rows.fnExactMateValidRow.loops == (Try.f9.params.toList ++ Rows.fnExactMateValidSpec.plain.varTypes Try.checked.prog).any (Try.checked.prog.loopsFrom ·))) = true := by kernel_rfl
theorem fnExactMateValid_jf17 : ((Rows.fnExactMateValidRow.wideKeys == (Try.f9.params.toList ++ Rows.fnExactMateValidSpec.plain.varTypes Try.checked.prog ++ Try.f9.resultTypes.toList).any (Try.checked.prog.wideKeysFrom ·))) = true := by kernel_rfl
theorem fnExactMateValid_jf18 : (Rows.fnExactMateValidSpec.vars.all (Try.checked.prog.varReadable ·)) = true := by kernel_rfl
theorem fnExactMateValid_jf19 : (Try.f9.resultTypes.all (fun t => Try.checked.prog.readableRec t && decide (t < Try.checked.prog.types.size))) = true := by kernel_rfl
theorem fnExactMateValid_jf20 : ((Rows.fnExactMateValidRow.ifacesOut == Try.f9.resultTypes.toList.any (Try.checked.prog.ifacesRec ·))) = true := by kernel_rfl
theorem fnExactMateValid_jf21 : ((Rows.fnExactMateValidRow.loopsOut == Try.f9.resultTypes.toList.any (Try.checked.prog.loopsFrom ·))) = true := by kernel_rfl
theorem fnExactMateValid_jf22 : ((Rows.fnExactMateValidRow.plainKeys == Try.checked.prog.plainKeys)) = true := by kernel_rfl
theorem fnExactMateValid_jf23 : (Rows.fnExactMateValidRow.shortTexts.isNone) = true := by kernel_rfl
theorem fnExactMateValid_jf28 : ((Rows.fnExactMateValidRow.kinds == (if Rows.fnExactMateValidRow.domain.isEmpty then [] else Try.f9.params.toList.map fun t => match Try.checked.prog.underlying t with | some (.int k) => some k | _ => none))) = true := by kernel_rfl
theorem fnExactMateValid_jf29 : ((Rows.fnExactMateValidRow.pinned == Rows.fnExactMateValidRow.pinnedBy)) = true := by kernel_rfl
theorem fnExactMateValid_jf30 : ((Rows.fnExactMateValidRow.veiled == (Try.f9.params.toList ++ Rows.fnExactMateValidSpec.plain.varTypes Try.checked.prog ++ Try.f9.resultTypes.toList).any (Try.checked.prog.veiledRec ·))) = true := by kernel_rfl
theorem fnExactMateValid_jf31 : (Rows.fnExactMateValidRow.veiledFits Try.checked.prog Try.f9.params.toList (Try.f9.params.toList ++ Rows.fnExactMateValidSpec.plain.varTypes Try.checked.prog ++ Try.f9.resultTypes.toList)) = true := by kernel_rfl
theorem fnExactMateValid_jf : joinedFacts Try.checked.prog 9 Try.f9 Rows.fnExactMateValidSpec Rows.fnExactMateValidRow = true := (and_mk (and_mk (and_mk (and_mk (and_mk (and_mk (and_mk (and_mk (and_mk (and_mk (and_mk (and_mk (and_mk (and_mk (and_mk (and_mk (and_mk (and_mk (and_mk (and_mk (and_mk (and_mk (and_mk (and_mk (and_mk (and_mk (and_mk (and_mk (and_mk (and_mk (and_mk fnExactMateValid_jf0 fac1) fac2) fnExactMateValid_jf3) fnExactMateValid_jf4) fnExactMateValid_jf5) fac6) fnExactMateValid_jf7) fac8) fnExactMateValid_jf9) fnExactMateValid_jf10) fnExactMateValid_jf11) fnExactMateValid_jf12) fnExactMateValid_jf13) fnExactMateValid_jf14) fnExactMateValid_jf15) fnExactMateValid_jf16) fnExactMateValid_jf17) fnExactMateValid_jf18) fnExactMateValid_jf19) fnExactMateValid_jf20) fnExactMateValid_jf21) fnExactMateValid_jf22) fnExactMateValid_jf23) fac24) fac25) fac26) fac27) fnExactMateValid_jf28) fnExactMateValid_jf29) fnExactMateValid_jf30) fnExactMateValid_jf31)
theorem fnExactMateValid_holds : Rows.FnExactMateValidSaid :=
  OpenClaim.holds_of_wide 9 Try.f9 rfl rfl rfl rfl rfl rfl rfl ⟨rfl, rfl, rfl, rfl, rfl⟩ rfl rfl rfl rfl rfl (by kernel_rfl) Try.func9 fnExactMateValid_jf
    (of_decide_eq_true (by kernel_rfl)) (by unfold Func.isWrapper; first | (rw [if_pos (by decide +kernel)]; kernel_rfl) | (rw [if_neg (by decide +kernel)]; exact ⟨rfl, rfl⟩))
    (fun os started H enc _ => fnExactMateValid_lifted os started H enc)
#print axioms fnExactMateValid_holds
end Go.Proofs.Ytagleaabhljkfaa

