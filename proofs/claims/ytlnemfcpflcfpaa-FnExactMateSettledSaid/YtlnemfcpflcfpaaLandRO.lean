/- The law FnExactMateSettled returns true at every input; nothing is asked of the input beyond what the row itself asks. -/
import Derived.Test.YtlnemfcpflcfpaaLandJ
import Derived.Test.YtlnemfcpflcfpaaLandR
import Derived.Test.YtlnemfcpflcfpaaRows
set_option linter.unusedSimpArgs false
set_option linter.unusedVariables false
namespace Go.Ab
open Go Go.RowKit Go.Proofs
attribute [local irreducible] XC Rdr IntKind.wrap xw xos xqs xr xd
set_option maxRecDepth 100000

end Go.Ab
namespace Go.Proofs.Ytlnemfcpflcfpaa
open Go Go.RowKit Go.ChangeShapes Go.WideShapes Go.ChangeAt Go.Ab
theorem ownfnExactMateSettled : ownKnob Try.prog.godebug = none := by kernel_rfl
theorem laidfnExactMateSettled : laidOutB Try.prog = true := by kernel_rfl
set_option maxRecDepth 100000 in
theorem fnExactMateSettled_lifted (os : Os) (started : os.Started) (H : Type) (enc : TypeId × Value → H) :
    ReturnsInHanded {} Try.checked os 10 .any (Rows.fnExactMateSettledSpec.pre6 enc Try.prog Try.f10 Rows.fnExactMateSettledRow.domain Rows.fnExactMateSettledRow.apart) (Rows.fnExactMateSettledSpec.post enc Try.prog Try.f10 Rows.fnExactMateSettledRow.apart Rows.fnExactMateSettledRow.fresh Rows.fnExactMateSettledRow.handsOn Rows.fnExactMateSettledRow.again) :=
  law_reads (C := Try.checked) (bt := 4) ownfnExactMateSettled started (by kernel_rfl) Try.func10
    (ChangeSpec.witness6 (enc := enc) (C := Try.checked) false ⟨#[], #[.agg #[.int .i64 0, .slice none 0 0, .slice none 0 0, .slice none 0 0, .slice none 0 0]], []⟩ 8 (by kernel_rfl) (by kernel_rfl) (by kernel_rfl) (by kernel_rfl))
    laidfnExactMateSettled [.st [.st [.int .i64, .sl 5 (.st [.str, .str, .str, .int .i64, .int .i64]), .sl 3 (.st [.str, .int .i64, .sl 7 (.st [.str, .int .i64, .str, .int .i64, .int .i64, .int .i64, .int .i64])])], .sl 9 (.st [.str, .bool, .int .i64, .bool, .int .i64, .sl 7 (.st [.str, .int .i64, .str, .int .i64, .int .i64, .int .i64, .int .i64]), .sl 11 (.st [.st [.str, .int .i64, .str, .int .i64, .int .i64, .int .i64, .int .i64], .int .i64, .int .i64, .int .i64, .int .i64]), .sl 4 (.st [.str, .str, .int .i64, .int .i64]), .sl 4 (.st [.str, .str, .int .i64, .int .i64])]), .sl 1 (.str)]] (by kernel_rfl) rfl rfl Try.underlying4
    (fun ds hd => match ds, hd with | [d1], _ => rfl)
    (fun ds h => by
      obtain ⟨_, _, rfl, h1, rfl⟩ := h
      obtain ⟨x, rfl, hw⟩ := args_MateWorld h1
      exact law_Settled x hw
)
set_option maxRecDepth 100000
theorem fnExactMateSettled_jf0 : (Rows.fnExactMateSettledRow.wf (OpenSpec.ofChange Rows.fnExactMateSettledSpec)) = true := by kernel_rfl
theorem fnExactMateSettled_jf3 : (Try.f10.params.all (Try.checked.prog.readableRec ·)) = true := by kernel_rfl
theorem fnExactMateSettled_jf4 : (namedTie Try.checked.prog Rows.fnExactMateSettledRow.named Rows.fnExactMateSettledSpec.vars) = true := by kernel_rfl
theorem fnExactMateSettled_jf5 : ((Rows.fnExactMateSettledRow.stops == [])) = true := by kernel_rfl
theorem fnExactMateSettled_jf7 : ((Rows.fnExactMateSettledRow.knobs == [])) = true := by kernel_rfl
theorem fnExactMateSettled_jf9 : ((Rows.fnExactMateSettledRow.inPlace == Try.checked.prog.inPlace 10)) = true := by kernel_rfl
theorem fnExactMateSettled_jf10 : ((Rows.fnExactMateSettledRow.unfollowed == Try.checked.prog.unfollowed 10)) = true := by kernel_rfl
theorem fnExactMateSettled_jf11 : ((Rows.fnExactMateSettledRow.recurses == Try.checked.prog.recurses 10)) = true := by kernel_rfl
theorem fnExactMateSettled_jf12 : ((Rows.fnExactMateSettledRow.named == Try.checked.prog.varsNamed 10)) = true := by kernel_rfl
theorem fnExactMateSettled_jf13 : ((Rows.fnExactMateSettledRow.maps == (Try.f10.params.toList ++ Rows.fnExactMateSettledSpec.plain.varTypes Try.checked.prog).any (Try.checked.prog.mapsRec ·))) = true := by kernel_rfl
theorem fnExactMateSettled_jf14 : ((Rows.fnExactMateSettledRow.ifaces == (Try.f10.params.toList ++ Rows.fnExactMateSettledSpec.plain.varTypes Try.checked.prog).any (Try.checked.prog.ifacesRec ·))) = true := by kernel_rfl
theorem fnExactMateSettled_jf15 : ((Rows.fnExactMateSettledRow.mapsOut == Try.checked.prog.mapsAmong Try.f10.resultTypes.toList)) = true := by kernel_rfl
theorem fnExactMateSettled_jf16 : ((Rows.fnExactMateSettledRow.loops == (Try.f10.params.toList ++ Rows.fnExactMateSettledSpec.plain.varTypes Try.checked.prog).any (Try.checked.prog.loopsFrom ·))) = true := by kernel_rfl
theorem fnExactMateSettled_jf17 : ((Rows.fnExactMateSettledRow.wideKeys == (Try.f10.params.toList ++ Rows.fnExactMateSettledSpec.plain.varTypes Try.checked.prog ++ Try.f10.resultTypes.toList).any (Try.checked.prog.wideKeysFrom ·))) = true := by kernel_rfl
theorem fnExactMateSettled_jf18 : (Rows.fnExactMateSettledSpec.vars.all (Try.checked.prog.varReadable ·)) = true := by kernel_rfl
theorem fnExactMateSettled_jf19 : (Try.f10.resultTypes.all (fun t => Try.checked.prog.readableRec t && decide (t < Try.checked.prog.types.size))) = true := by kernel_rfl
theorem fnExactMateSettled_jf20 : ((Rows.fnExactMateSettledRow.ifacesOut == Try.f10.resultTypes.toList.any (Try.checked.prog.ifacesRec ·))) = true := by kernel_rfl
theorem fnExactMateSettled_jf21 : ((Rows.fnExactMateSettledRow.loopsOut == Try.f10.resultTypes.toList.any (Try.checked.prog.loopsFrom ·))) = true := by kernel_rfl
theorem fnExactMateSettled_jf22 : ((Rows.fnExactMateSettledRow.plainKeys == Try.checked.prog.plainKeys)) = true := by kernel_rfl
theorem fnExactMateSettled_jf23 : (Rows.fnExactMateSettledRow.shortTexts.isNone) = true := by kernel_rfl
theorem fnExactMateSettled_jf28 : ((Rows.fnExactMateSettledRow.kinds == (if Rows.fnExactMateSettledRow.domain.isEmpty then [] else Try.f10.params.toList.map fun t => match Try.checked.prog.underlying t with | some (.int k) => some k | _ => none))) = true := by kernel_rfl
theorem fnExactMateSettled_jf29 : ((Rows.fnExactMateSettledRow.pinned == Rows.fnExactMateSettledRow.pinnedBy)) = true := by kernel_rfl
theorem fnExactMateSettled_jf30 : ((Rows.fnExactMateSettledRow.veiled == (Try.f10.params.toList ++ Rows.fnExactMateSettledSpec.plain.varTypes Try.checked.prog ++ Try.f10.resultTypes.toList).any (Try.checked.prog.veiledRec ·))) = true := by kernel_rfl
theorem fnExactMateSettled_jf31 : (Rows.fnExactMateSettledRow.veiledFits Try.checked.prog Try.f10.params.toList (Try.f10.params.toList ++ Rows.fnExactMateSettledSpec.plain.varTypes Try.checked.prog ++ Try.f10.resultTypes.toList)) = true := by kernel_rfl
theorem fnExactMateSettled_jf : joinedFacts Try.checked.prog 10 Try.f10 Rows.fnExactMateSettledSpec Rows.fnExactMateSettledRow = true := (and_mk (and_mk (and_mk (and_mk (and_mk (and_mk (and_mk (and_mk (and_mk (and_mk (and_mk (and_mk (and_mk (and_mk (and_mk (and_mk (and_mk (and_mk (and_mk (and_mk (and_mk (and_mk (and_mk (and_mk (and_mk (and_mk (and_mk (and_mk (and_mk (and_mk (and_mk fnExactMateSettled_jf0 fac1) fac2) fnExactMateSettled_jf3) fnExactMateSettled_jf4) fnExactMateSettled_jf5) fac6) fnExactMateSettled_jf7) fac8) fnExactMateSettled_jf9) fnExactMateSettled_jf10) fnExactMateSettled_jf11) fnExactMateSettled_jf12) fnExactMateSettled_jf13) fnExactMateSettled_jf14) fnExactMateSettled_jf15) fnExactMateSettled_jf16) fnExactMateSettled_jf17) fnExactMateSettled_jf18) fnExactMateSettled_jf19) fnExactMateSettled_jf20) fnExactMateSettled_jf21) fnExactMateSettled_jf22) fnExactMateSettled_jf23) fac24) fac25) fac26) fac27) fnExactMateSettled_jf28) fnExactMateSettled_jf29) fnExactMateSettled_jf30) fnExactMateSettled_jf31)
theorem fnExactMateSettled_holds : Rows.FnExactMateSettledSaid :=
  OpenClaim.holds_of_wide 10 Try.f10 rfl rfl rfl rfl rfl rfl rfl ⟨rfl, rfl, rfl, rfl, rfl⟩ rfl rfl rfl rfl rfl (by kernel_rfl) Try.func10 fnExactMateSettled_jf
    (of_decide_eq_true (by kernel_rfl)) (by unfold Func.isWrapper; first | (rw [if_pos (by decide +kernel)]; kernel_rfl) | (rw [if_neg (by decide +kernel)]; exact ⟨rfl, rfl⟩))
    (fun os started H enc _ => fnExactMateSettled_lifted os started H enc)
#print axioms fnExactMateSettled_holds
end Go.Proofs.Ytlnemfcpflcfpaa

