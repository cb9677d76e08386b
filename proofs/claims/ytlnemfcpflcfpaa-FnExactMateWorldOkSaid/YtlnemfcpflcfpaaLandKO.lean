/- The law FnExactMateWorldOk returns true at every input; nothing is asked of the input beyond what the row itself asks. -/
import Derived.Test.YtlnemfcpflcfpaaLandJ
import Derived.Test.YtlnemfcpflcfpaaLandKL
import Derived.Test.YtlnemfcpflcfpaaRows
set_option linter.unusedSimpArgs false
set_option linter.unusedVariables false
namespace Go.Ab
open Go Go.RowKit Go.Proofs
attribute [local irreducible] XC Rdr IntKind.wrap xw xos xqs xr xd
set_option maxRecDepth 100000

end Go.Ab
namespace Go.Proofs.Ytlnemfcpflcfpaa
open Go Go.RowKit Go.ChangeShapes Go.WideShapes Go.ChangeAt Go.Ab
theorem ownfnExactMateWorldOk : ownKnob Try.prog.godebug = none := by kernel_rfl
theorem laidfnExactMateWorldOk : laidOutB Try.prog = true := by kernel_rfl
set_option maxRecDepth 100000 in
theorem fnExactMateWorldOk_lifted (os : Os) (started : os.Started) (H : Type) (enc : TypeId × Value → H) :
    ReturnsInHanded {} Try.checked os 8 .any (Rows.fnExactMateWorldOkSpec.pre6 enc Try.prog Try.f8 Rows.fnExactMateWorldOkRow.domain Rows.fnExactMateWorldOkRow.apart) (Rows.fnExactMateWorldOkSpec.post enc Try.prog Try.f8 Rows.fnExactMateWorldOkRow.apart Rows.fnExactMateWorldOkRow.fresh Rows.fnExactMateWorldOkRow.handsOn Rows.fnExactMateWorldOkRow.again) :=
  law_reads (C := Try.checked) (bt := 4) ownfnExactMateWorldOk started (by kernel_rfl) Try.func8
    (ChangeSpec.witness6 (enc := enc) (C := Try.checked) false ⟨#[], #[.agg #[.int .i64 0, .slice none 0 0, .slice none 0 0, .slice none 0 0, .slice none 0 0]], []⟩ 8 (by kernel_rfl) (by kernel_rfl) (by kernel_rfl) (by kernel_rfl))
    laidfnExactMateWorldOk [.st [.st [.int .i64, .sl 5 (.st [.str, .str, .str, .int .i64, .int .i64]), .sl 3 (.st [.str, .int .i64, .sl 7 (.st [.str, .int .i64, .str, .int .i64, .int .i64, .int .i64, .int .i64])])], .sl 9 (.st [.str, .bool, .int .i64, .bool, .int .i64, .sl 7 (.st [.str, .int .i64, .str, .int .i64, .int .i64, .int .i64, .int .i64]), .sl 11 (.st [.st [.str, .int .i64, .str, .int .i64, .int .i64, .int .i64, .int .i64], .int .i64, .int .i64, .int .i64, .int .i64]), .sl 4 (.st [.str, .str, .int .i64, .int .i64]), .sl 4 (.st [.str, .str, .int .i64, .int .i64])]), .sl 1 (.str)]] (by kernel_rfl) rfl rfl Try.underlying4
    (fun ds hd => match ds, hd with | [d1], _ => rfl)
    (fun ds h => by
      obtain ⟨_, _, rfl, h1, rfl⟩ := h
      obtain ⟨x, rfl, hw⟩ := args_MateWorld h1
      exact law_WorldOk x hw
)
set_option maxRecDepth 100000
theorem fnExactMateWorldOk_jf0 : (Rows.fnExactMateWorldOkRow.wf (OpenSpec.ofChange Rows.fnExactMateWorldOkSpec)) = true := by kernel_rfl
theorem fnExactMateWorldOk_jf3 : (Try.f8.params.all (Try.checked.prog.readableRec ·)) = true := by kernel_rfl
theorem fnExactMateWorldOk_jf4 : (namedTie Try.checked.prog Rows.fnExactMateWorldOkRow.named Rows.fnExactMateWorldOkSpec.vars) = true := by kernel_rfl
theorem fnExactMateWorldOk_jf5 : ((Rows.fnExactMateWorldOkRow.stops == [])) = true := by kernel_rfl
theorem fnExactMateWorldOk_jf7 : ((Rows.fnExactMateWorldOkRow.knobs == [])) = true := by kernel_rfl
theorem fnExactMateWorldOk_jf9 : ((Rows.fnExactMateWorldOkRow.inPlace == Try.checked.prog.inPlace 8)) = true := by kernel_rfl
theorem fnExactMateWorldOk_jf10 : ((Rows.fnExactMateWorldOkRow.unfollowed == Try.checked.prog.unfollowed 8)) = true := by kernel_rfl
theorem fnExactMateWorldOk_jf11 : ((Rows.fnExactMateWorldOkRow.recurses == Try.checked.prog.recurses 8)) = true := by kernel_rfl
theorem fnExactMateWorldOk_jf12 : ((Rows.fnExactMateWorldOkRow.named == Try.checked.prog.varsNamed 8)) = true := by kernel_rfl
theorem fnExactMateWorldOk_jf13 : ((Rows.fnExactMateWorldOkRow.maps == (Try.f8.params.toList ++ Rows.fnExactMateWorldOkSpec.plain.varTypes Try.checked.prog).any (Try.checked.prog.mapsRec ·))) = true := by kernel_rfl
theorem fnExactMateWorldOk_jf14 : ((Rows.fnExactMateWorldOkRow.ifaces == (Try.f8.params.toList ++ Rows.fnExactMateWorldOkSpec.plain.varTypes Try.checked.prog).any (Try.checked.prog.ifacesRec ·))) = true := by kernel_rfl
theorem fnExactMateWorldOk_jf15 : ((Rows.fnExactMateWorldOkRow.mapsOut == Try.checked.prog.mapsAmong Try.f8.resultTypes.toList)) = true := by kernel_rfl
theorem fnExactMateWorldOk_jf16 : ((Rows.fnExactMateWorldOkRow.loops == (Try.f8.params.toList ++ Rows.fnExactMateWorldOkSpec.plain.varTypes Try.checked.prog).any (Try.checked.prog.loopsFrom ·))) = true := by kernel_rfl
theorem fnExactMateWorldOk_jf17 : ((Rows.fnExactMateWorldOkRow.wideKeys == (Try.f8.params.toList ++ Rows.fnExactMateWorldOkSpec.plain.varTypes Try.checked.prog ++ Try.f8.resultTypes.toList).any (Try.checked.prog.wideKeysFrom ·))) = true := by kernel_rfl
theorem fnExactMateWorldOk_jf18 : (Rows.fnExactMateWorldOkSpec.vars.all (Try.checked.prog.varReadable ·)) = true := by kernel_rfl
theorem fnExactMateWorldOk_jf19 : (Try.f8.resultTypes.all (fun t => Try.checked.prog.readableRec t && decide (t < Try.checked.prog.types.size))) = true := by kernel_rfl
theorem fnExactMateWorldOk_jf20 : ((Rows.fnExactMateWorldOkRow.ifacesOut == Try.f8.resultTypes.toList.any (Try.checked.prog.ifacesRec ·))) = true := by kernel_rfl
theorem fnExactMateWorldOk_jf21 : ((Rows.fnExactMateWorldOkRow.loopsOut == Try.f8.resultTypes.toList.any (Try.checked.prog.loopsFrom ·))) = true := by kernel_rfl
theorem fnExactMateWorldOk_jf22 : ((Rows.fnExactMateWorldOkRow.plainKeys == Try.checked.prog.plainKeys)) = true := by kernel_rfl
theorem fnExactMateWorldOk_jf23 : (Rows.fnExactMateWorldOkRow.shortTexts.isNone) = true := by kernel_rfl
theorem fnExactMateWorldOk_jf28 : ((Rows.fnExactMateWorldOkRow.kinds == (if Rows.fnExactMateWorldOkRow.domain.isEmpty then [] else Try.f8.params.toList.map fun t => match Try.checked.prog.underlying t with | some (.int k) => some k | _ => none))) = true := by kernel_rfl
theorem fnExactMateWorldOk_jf29 : ((Rows.fnExactMateWorldOkRow.pinned == Rows.fnExactMateWorldOkRow.pinnedBy)) = true := by kernel_rfl
theorem fnExactMateWorldOk_jf30 : ((Rows.fnExactMateWorldOkRow.veiled == (Try.f8.params.toList ++ Rows.fnExactMateWorldOkSpec.plain.varTypes Try.checked.prog ++ Try.f8.resultTypes.toList).any (Try.checked.prog.veiledRec ·))) = true := by kernel_rfl
theorem fnExactMateWorldOk_jf31 : (Rows.fnExactMateWorldOkRow.veiledFits Try.checked.prog Try.f8.params.toList (Try.f8.params.toList ++ Rows.fnExactMateWorldOkSpec.plain.varTypes Try.checked.prog ++ Try.f8.resultTypes.toList)) = true := by kernel_rfl
theorem fnExactMateWorldOk_jf : joinedFacts Try.checked.prog 8 Try.f8 Rows.fnExactMateWorldOkSpec Rows.fnExactMateWorldOkRow = true := (and_mk (and_mk (and_mk (and_mk (and_mk (and_mk (and_mk (and_mk (and_mk (and_mk (and_mk (and_mk (and_mk (and_mk (and_mk (and_mk (and_mk (and_mk (and_mk (and_mk (and_mk (and_mk (and_mk (and_mk (and_mk (and_mk (and_mk (and_mk (and_mk (and_mk (and_mk fnExactMateWorldOk_jf0 fac1) fac2) fnExactMateWorldOk_jf3) fnExactMateWorldOk_jf4) fnExactMateWorldOk_jf5) fac6) fnExactMateWorldOk_jf7) fac8) fnExactMateWorldOk_jf9) fnExactMateWorldOk_jf10) fnExactMateWorldOk_jf11) fnExactMateWorldOk_jf12) fnExactMateWorldOk_jf13) fnExactMateWorldOk_jf14) fnExactMateWorldOk_jf15) fnExactMateWorldOk_jf16) fnExactMateWorldOk_jf17) fnExactMateWorldOk_jf18) fnExactMateWorldOk_jf19) fnExactMateWorldOk_jf20) fnExactMateWorldOk_jf21) fnExactMateWorldOk_jf22) fnExactMateWorldOk_jf23) fac24) fac25) fac26) fac27) fnExactMateWorldOk_jf28) fnExactMateWorldOk_jf29) fnExactMateWorldOk_jf30) fnExactMateWorldOk_jf31)
theorem fnExactMateWorldOk_holds : Rows.FnExactMateWorldOkSaid :=
  OpenClaim.holds_of_wide 8 Try.f8 rfl rfl rfl rfl rfl rfl rfl ⟨rfl, rfl, rfl, rfl, rfl⟩ rfl rfl rfl rfl rfl (by kernel_rfl) Try.func8 fnExactMateWorldOk_jf
    (of_decide_eq_true (by kernel_rfl)) (by unfold Func.isWrapper; first | (rw [if_pos (by decide +kernel)]; kernel_rfl) | (rw [if_neg (by decide +kernel)]; exact ⟨rfl, rfl⟩))
    (fun os started H enc _ => fnExactMateWorldOk_lifted os started H enc)
#print axioms fnExactMateWorldOk_holds
end Go.Proofs.Ytlnemfcpflcfpaa

