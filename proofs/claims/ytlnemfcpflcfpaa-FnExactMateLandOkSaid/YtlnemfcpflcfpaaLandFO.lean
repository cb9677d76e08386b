/- The law FnExactMateLandOk returns true at every input; nothing is asked of the input beyond what the row itself asks. -/
import Derived.Test.YtlnemfcpflcfpaaLandJ
import Derived.Test.YtlnemfcpflcfpaaLandFL
import Derived.Test.YtlnemfcpflcfpaaRows
set_option linter.unusedSimpArgs false
set_option linter.unusedVariables false
namespace Go.Ab
open Go Go.RowKit Go.Proofs
attribute [local irreducible] XC Rdr IntKind.wrap xw xos xqs xr xd
set_option maxRecDepth 100000

end Go.Ab
namespace Go.Proofs.Ytlnemfcpflcfpaa
open Go Go.RowKit Go.ChangeShapes Go.WideShapes Go.ChangeAt Go.Ab
theorem ownfnExactMateLandOk : ownKnob Try.prog.godebug = none := by kernel_rfl
theorem laidfnExactMateLandOk : laidOutB Try.prog = true := by kernel_rfl
set_option maxRecDepth 100000 in
theorem fnExactMateLandOk_lifted (os : Os) (started : os.Started) (H : Type) (enc : TypeId × Value → H) :
    ReturnsInHanded {} Try.checked os 3 .any (Rows.fnExactMateLandOkSpec.pre6 enc Try.prog Try.f3 Rows.fnExactMateLandOkRow.domain Rows.fnExactMateLandOkRow.apart) (Rows.fnExactMateLandOkSpec.post enc Try.prog Try.f3 Rows.fnExactMateLandOkRow.apart Rows.fnExactMateLandOkRow.fresh Rows.fnExactMateLandOkRow.handsOn Rows.fnExactMateLandOkRow.again) :=
  law_reads (C := Try.checked) (bt := 4) ownfnExactMateLandOk started (by kernel_rfl) Try.func3
    (ChangeSpec.witness6 (enc := enc) (C := Try.checked) false ⟨#[], #[.agg #[.int .i64 0, .slice none 0 0, .slice none 0 0]], []⟩ 8 (by kernel_rfl) (by kernel_rfl) (by kernel_rfl) (by kernel_rfl))
    laidfnExactMateLandOk [.st [.int .i64, .sl 5 (.st [.str, .str, .str, .int .i64, .int .i64]), .sl 3 (.st [.str, .int .i64, .sl 7 (.st [.str, .int .i64, .str, .int .i64, .int .i64, .int .i64, .int .i64])])]] (by kernel_rfl) rfl rfl Try.underlying4
    (fun ds hd => match ds, hd with | [d1], _ => rfl)
    (fun ds h => by
      obtain ⟨_, _, rfl, h1, rfl⟩ := h
      obtain ⟨x, rfl, hw⟩ := args_MateLand h1
      exact law_LandOk x hw
)
set_option maxRecDepth 100000
theorem fnExactMateLandOk_jf0 : (Rows.fnExactMateLandOkRow.wf (OpenSpec.ofChange Rows.fnExactMateLandOkSpec)) = true := by kernel_rfl
theorem fnExactMateLandOk_jf3 : (Try.f3.params.all (Try.checked.prog.readableRec ·)) = true := by kernel_rfl
theorem fnExactMateLandOk_jf4 : (namedTie Try.checked.prog Rows.fnExactMateLandOkRow.named Rows.fnExactMateLandOkSpec.vars) = true := by kernel_rfl
theorem fnExactMateLandOk_jf5 : ((Rows.fnExactMateLandOkRow.stops == [])) = true := by kernel_rfl
theorem fnExactMateLandOk_jf7 : ((Rows.fnExactMateLandOkRow.knobs == [])) = true := by kernel_rfl
theorem fnExactMateLandOk_jf9 : ((Rows.fnExactMateLandOkRow.inPlace == Try.checked.prog.inPlace 3)) = true := by kernel_rfl
theorem fnExactMateLandOk_jf10 : ((Rows.fnExactMateLandOkRow.unfollowed == Try.checked.prog.unfollowed 3)) = true := by kernel_rfl
theorem fnExactMateLandOk_jf11 : ((Rows.fnExactMateLandOkRow.recurses == Try.checked.prog.recurses 3)) = true := by kernel_rfl
theorem fnExactMateLandOk_jf12 : ((Rows.fnExactMateLandOkRow.named == Try.checked.prog.varsNamed 3)) = true := by kernel_rfl
theorem fnExactMateLandOk_jf13 : ((Rows.fnExactMateLandOkRow.maps == (Try.f3.params.toList ++ Rows.fnExactMateLandOkSpec.plain.varTypes Try.checked.prog).any (Try.checked.prog.mapsRec ·))) = true := by kernel_rfl
theorem fnExactMateLandOk_jf14 : ((Rows.fnExactMateLandOkRow.ifaces == (Try.f3.params.toList ++ Rows.fnExactMateLandOkSpec.plain.varTypes Try.checked.prog).any (Try.checked.prog.ifacesRec ·))) = true := by kernel_rfl
theorem fnExactMateLandOk_jf15 : ((Rows.fnExactMateLandOkRow.mapsOut == Try.checked.prog.mapsAmong Try.f3.resultTypes.toList)) = true := by kernel_rfl
theorem fnExactMateLandOk_jf16 : ((Rows.fnExactMateLandOkRow.loops == (Try.f3.params.toList ++ Rows.fnExactMateLandOkSpec.plain.varTypes Try.checked.prog).any (Try.checked.prog.loopsFrom ·))) = true := by kernel_rfl
theorem fnExactMateLandOk_jf17 : ((Rows.fnExactMateLandOkRow.wideKeys == (Try.f3.params.toList ++ Rows.fnExactMateLandOkSpec.plain.varTypes Try.checked.prog ++ Try.f3.resultTypes.toList).any (Try.checked.prog.wideKeysFrom ·))) = true := by kernel_rfl
theorem fnExactMateLandOk_jf18 : (Rows.fnExactMateLandOkSpec.vars.all (Try.checked.prog.varReadable ·)) = true := by kernel_rfl
theorem fnExactMateLandOk_jf19 : (Try.f3.resultTypes.all (fun t => Try.checked.prog.readableRec t && decide (t < Try.checked.prog.types.size))) = true := by kernel_rfl
theorem fnExactMateLandOk_jf20 : ((Rows.fnExactMateLandOkRow.ifacesOut == Try.f3.resultTypes.toList.any (Try.checked.prog.ifacesRec ·))) = true := by kernel_rfl
theorem fnExactMateLandOk_jf21 : ((Rows.fnExactMateLandOkRow.loopsOut == Try.f3.resultTypes.toList.any (Try.checked.prog.loopsFrom ·))) = true := by kernel_rfl
theorem fnExactMateLandOk_jf22 : ((Rows.fnExactMateLandOkRow.plainKeys == Try.checked.prog.plainKeys)) = true := by kernel_rfl
theorem fnExactMateLandOk_jf23 : (Rows.fnExactMateLandOkRow.shortTexts.isNone) = true := by kernel_rfl
theorem fnExactMateLandOk_jf28 : ((Rows.fnExactMateLandOkRow.kinds == (if Rows.fnExactMateLandOkRow.domain.isEmpty then [] else Try.f3.params.toList.map fun t => match Try.checked.prog.underlying t with | some (.int k) => some k | _ => none))) = true := by kernel_rfl
theorem fnExactMateLandOk_jf29 : ((Rows.fnExactMateLandOkRow.pinned == Rows.fnExactMateLandOkRow.pinnedBy)) = true := by kernel_rfl
theorem fnExactMateLandOk_jf30 : ((Rows.fnExactMateLandOkRow.veiled == (Try.f3.params.toList ++ Rows.fnExactMateLandOkSpec.plain.varTypes Try.checked.prog ++ Try.f3.resultTypes.toList).any (Try.checked.prog.veiledRec ·))) = true := by kernel_rfl
theorem fnExactMateLandOk_jf31 : (Rows.fnExactMateLandOkRow.veiledFits Try.checked.prog Try.f3.params.toList (Try.f3.params.toList ++ Rows.fnExactMateLandOkSpec.plain.varTypes Try.checked.prog ++ Try.f3.resultTypes.toList)) = true := by kernel_rfl
theorem fnExactMateLandOk_jf : joinedFacts Try.checked.prog 3 Try.f3 Rows.fnExactMateLandOkSpec Rows.fnExactMateLandOkRow = true := (and_mk (and_mk (and_mk (and_mk (and_mk (and_mk (and_mk (and_mk (and_mk (and_mk (and_mk (and_mk (and_mk (and_mk (and_mk (and_mk (and_mk (and_mk (and_mk (and_mk (and_mk (and_mk (and_mk (and_mk (and_mk (and_mk (and_mk (and_mk (and_mk (and_mk (and_mk fnExactMateLandOk_jf0 fac1) fac2) fnExactMateLandOk_jf3) fnExactMateLandOk_jf4) fnExactMateLandOk_jf5) fac6) fnExactMateLandOk_jf7) fac8) fnExactMateLandOk_jf9) fnExactMateLandOk_jf10) fnExactMateLandOk_jf11) fnExactMateLandOk_jf12) fnExactMateLandOk_jf13) fnExactMateLandOk_jf14) fnExactMateLandOk_jf15) fnExactMateLandOk_jf16) fnExactMateLandOk_jf17) fnExactMateLandOk_jf18) fnExactMateLandOk_jf19) fnExactMateLandOk_jf20) fnExactMateLandOk_jf21) fnExactMateLandOk_jf22) fnExactMateLandOk_jf23) fac24) fac25) fac26) fac27) fnExactMateLandOk_jf28) fnExactMateLandOk_jf29) fnExactMateLandOk_jf30) fnExactMateLandOk_jf31)
theorem fnExactMateLandOk_holds : Rows.FnExactMateLandOkSaid :=
  OpenClaim.holds_of_wide 3 Try.f3 rfl rfl rfl rfl rfl rfl rfl ⟨rfl, rfl, rfl, rfl, rfl⟩ rfl rfl rfl rfl rfl (by kernel_rfl) Try.func3 fnExactMateLandOk_jf
    (of_decide_eq_true (by kernel_rfl)) (by unfold Func.isWrapper; first | (rw [if_pos (by decide +kernel)]; kernel_rfl) | (rw [if_neg (by decide +kernel)]; exact ⟨rfl, rfl⟩))
    (fun os started H enc _ => fnExactMateLandOk_lifted os started H enc)
#print axioms fnExactMateLandOk_holds
end Go.Proofs.Ytlnemfcpflcfpaa

