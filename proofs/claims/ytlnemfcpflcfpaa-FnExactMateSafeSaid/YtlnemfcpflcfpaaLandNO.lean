/- The law FnExactMateSafe returns true at every input; nothing is asked of the input beyond what the row itself asks. -/
import Derived.Test.YtlnemfcpflcfpaaLandJ
import Derived.Test.YtlnemfcpflcfpaaLandN
import Derived.Test.YtlnemfcpflcfpaaRows
set_option linter.unusedSimpArgs false
set_option linter.unusedVariables false
namespace Go.Ab
open Go Go.RowKit Go.Proofs
attribute [local irreducible] XC Rdr IntKind.wrap xw xos xqs xr xd
set_option maxRecDepth 100000

end Go.Ab
namespace Go.Proofs.Ytlnemfcpflcfpaa
open Go Go.RowKit Go.ChangeShapes Go.WideShapes Go.ChangeAt Go.Ab
theorem ownfnExactMateSafe : ownKnob Try.prog.godebug = none := by kernel_rfl
theorem laidfnExactMateSafe : laidOutB Try.prog = true := by kernel_rfl
set_option maxRecDepth 100000 in
theorem fnExactMateSafe_lifted (os : Os) (started : os.Started) (H : Type) (enc : TypeId × Value → H) :
    ReturnsInHanded {} Try.checked os 9 .any (Rows.fnExactMateSafeSpec.pre6 enc Try.prog Try.f9 Rows.fnExactMateSafeRow.domain Rows.fnExactMateSafeRow.apart) (Rows.fnExactMateSafeSpec.post enc Try.prog Try.f9 Rows.fnExactMateSafeRow.apart Rows.fnExactMateSafeRow.fresh Rows.fnExactMateSafeRow.handsOn Rows.fnExactMateSafeRow.again) :=
  law_reads (C := Try.checked) (bt := 4) ownfnExactMateSafe started (by kernel_rfl) Try.func9
    (ChangeSpec.witness6 (enc := enc) (C := Try.checked) false ⟨#[], #[.agg #[.int .i64 0, .slice none 0 0, .slice none 0 0, .slice none 0 0, .slice none 0 0]], []⟩ 8 (by kernel_rfl) (by kernel_rfl) (by kernel_rfl) (by kernel_rfl))
    laidfnExactMateSafe [.st [.st [.int .i64, .sl 5 (.st [.str, .str, .str, .int .i64, .int .i64]), .sl 3 (.st [.str, .int .i64, .sl 7 (.st [.str, .int .i64, .str, .int .i64, .int .i64, .int .i64, .int .i64])])], .sl 9 (.st [.str, .bool, .int .i64, .bool, .int .i64, .sl 7 (.st [.str, .int .i64, .str, .int .i64, .int .i64, .int .i64, .int .i64]), .sl 11 (.st [.st [.str, .int .i64, .str, .int .i64, .int .i64, .int .i64, .int .i64], .int .i64, .int .i64, .int .i64, .int .i64]), .sl 4 (.st [.str, .str, .int .i64, .int .i64]), .sl 4 (.st [.str, .str, .int .i64, .int .i64])]), .sl 1 (.str)]] (by kernel_rfl) rfl rfl Try.underlying4
    (fun ds hd => match ds, hd with | [d1], _ => rfl)
    (fun ds h => by
      obtain ⟨_, _, rfl, h1, rfl⟩ := h
      obtain ⟨x, rfl, hw⟩ := args_MateWorld h1
      exact law_Safe x hw
)
set_option maxRecDepth 100000
theorem fnExactMateSafe_jf0 : (Rows.fnExactMateSafeRow.wf (OpenSpec.ofChange Rows.fnExactMateSafeSpec)) = true := by kernel_rfl
theorem fnExactMateSafe_jf3 : (Try.f9.params.all (Try.checked.prog.readableRec ·)) = true := by kernel_rfl
theorem fnExactMateSafe_jf4 : (namedTie Try.checked.prog Rows.fnExactMateSafeRow.named Rows.fnExactMateSafeSpec.vars) = true := by kernel_rfl
theorem fnExactMateSafe_jf5 : ((Rows.fnExactMateSafeRow.stops == [])) = true := by kernel_rfl
theorem fnExactMateSafe_jf7 : ((Rows.fnExactMateSafeRow.knobs == [])) = true := by kernel_rfl
theorem fnExactMateSafe_jf9 : ((Rows.fnExactMateSafeRow.inPlace == Try.checked.prog.inPlace 9)) = true := by kernel_rfl
theorem fnExactMateSafe_jf10 : ((Rows.fnExactMateSafeRow.unfollowed == Try.checked.prog.unfollowed 9)) = true := by kernel_rfl
theorem fnExactMateSafe_jf11 : ((Rows.fnExactMateSafeRow.recurses == Try.checked.prog.recurses 9)) = true := by kernel_rfl
theorem fnExactMateSafe_jf12 : ((Rows.fnExactMateSafeRow.named == Try.checked.prog.varsNamed 9)) = true := by kernel_rfl
theorem fnExactMateSafe_jf13 : ((Rows.fnExactMateSafeRow.maps == (Try.f9.params.toList ++ Rows.fnExactMateSafeSpec.plain.varTypes Try.checked.prog).any (Try.checked.prog.mapsRec ·))) = true := by kernel_rfl
theorem fnExactMateSafe_jf14 : ((Rows.fnExactMateSafeRow.ifaces == (Try.f9.params.toList ++ Rows.fnExactMateSafeSpec.plain.varTypes Try.checked.prog).any (Try.checked.prog.ifacesRec ·))) = true := by kernel_rfl
theorem fnExactMateSafe_jf15 : ((Rows.fnExactMateSafeRow.mapsOut == Try.checked.prog.mapsAmong Try.f9.resultTypes.toList)) = true := by kernel_rfl
theorem fnExactMateSafe_jf16 : ((Rows.fnExactMateSafeRow.loops == (Try.f9.params.toList ++ Rows.fnExactMateSafeSpec.plain.varTypes Try.checked.prog).any (Try.checked.prog.loopsFrom ·))) = true := by kernel_rfl
theorem fnExactMateSafe_jf17 : ((Rows.fnExactMateSafeRow.wideKeys == (Try.f9.params.toList ++ Rows.fnExactMateSafeSpec.plain.varTypes Try.checked.prog ++ Try.f9.resultTypes.toList).any (Try.checked.prog.wideKeysFrom ·))) = true := by kernel_rfl
theorem fnExactMateSafe_jf18 : (Rows.fnExactMateSafeSpec.vars.all (Try.checked.prog.varReadable ·)) = true := by kernel_rfl
theorem fnExactMateSafe_jf19 : (Try.f9.resultTypes.all (fun t => Try.checked.prog.readableRec t && decide (t < Try.checked.prog.types.size))) = true := by kernel_rfl
theorem fnExactMateSafe_jf20 : ((Rows.fnExactMateSafeRow.ifacesOut == Try.f9.resultTypes.toList.any (Try.checked.prog.ifacesRec ·))) = true := by kernel_rfl
theorem fnExactMateSafe_jf21 : ((Rows.fnExactMateSafeRow.loopsOut == Try.f9.resultTypes.toList.any (Try.checked.prog.loopsFrom ·))) = true := by kernel_rfl
theorem fnExactMateSafe_jf22 : ((Rows.fnExactMateSafeRow.plainKeys == Try.checked.prog.plainKeys)) = true := by kernel_rfl
theorem fnExactMateSafe_jf23 : (Rows.fnExactMateSafeRow.shortTexts.isNone) = true := by kernel_rfl
theorem fnExactMateSafe_jf28 : ((Rows.fnExactMateSafeRow.kinds == (if Rows.fnExactMateSafeRow.domain.isEmpty then [] else Try.f9.params.toList.map fun t => match Try.checked.prog.underlying t with | some (.int k) => some k | _ => none))) = true := by kernel_rfl
theorem fnExactMateSafe_jf29 : ((Rows.fnExactMateSafeRow.pinned == Rows.fnExactMateSafeRow.pinnedBy)) = true := by kernel_rfl
theorem fnExactMateSafe_jf30 : ((Rows.fnExactMateSafeRow.veiled == (Try.f9.params.toList ++ Rows.fnExactMateSafeSpec.plain.varTypes Try.checked.prog ++ Try.f9.resultTypes.toList).any (Try.checked.prog.veiledRec ·))) = true := by kernel_rfl
theorem fnExactMateSafe_jf31 : (Rows.fnExactMateSafeRow.veiledFits Try.checked.prog Try.f9.params.toList (Try.f9.params.toList ++ Rows.fnExactMateSafeSpec.plain.varTypes Try.checked.prog ++ Try.f9.resultTypes.toList)) = true := by kernel_rfl
theorem fnExactMateSafe_jf : joinedFacts Try.checked.prog 9 Try.f9 Rows.fnExactMateSafeSpec Rows.fnExactMateSafeRow = true := (and_mk (and_mk (and_mk (and_mk (and_mk (and_mk (and_mk (and_mk (and_mk (and_mk (and_mk (and_mk (and_mk (and_mk (and_mk (and_mk (and_mk (and_mk (and_mk (and_mk (and_mk (and_mk (and_mk (and_mk (and_mk (and_mk (and_mk (and_mk (and_mk (and_mk (and_mk fnExactMateSafe_jf0 fac1) fac2) fnExactMateSafe_jf3) fnExactMateSafe_jf4) fnExactMateSafe_jf5) fac6) fnExactMateSafe_jf7) fac8) fnExactMateSafe_jf9) fnExactMateSafe_jf10) fnExactMateSafe_jf11) fnExactMateSafe_jf12) fnExactMateSafe_jf13) fnExactMateSafe_jf14) fnExactMateSafe_jf15) fnExactMateSafe_jf16) fnExactMateSafe_jf17) fnExactMateSafe_jf18) fnExactMateSafe_jf19) fnExactMateSafe_jf20) fnExactMateSafe_jf21) fnExactMateSafe_jf22) fnExactMateSafe_jf23) fac24) fac25) fac26) fac27) fnExactMateSafe_jf28) fnExactMateSafe_jf29) fnExactMateSafe_jf30) fnExactMateSafe_jf31)
theorem fnExactMateSafe_holds : Rows.FnExactMateSafeSaid :=
  OpenClaim.holds_of_wide 9 Try.f9 rfl rfl rfl rfl rfl rfl rfl ⟨rfl, rfl, rfl, rfl, rfl⟩ rfl rfl rfl rfl rfl (by kernel_rfl) Try.func9 fnExactMateSafe_jf
    (of_decide_eq_true (by kernel_rfl)) (by unfold Func.isWrapper; first | (rw [if_pos (by decide +kernel)]; kernel_rfl) | (rw [if_neg (by decide +kernel)]; exact ⟨rfl, rfl⟩))
    (fun os started H enc _ => fnExactMateSafe_lifted os started H enc)
#print axioms fnExactMateSafe_holds
end Go.Proofs.Ytlnemfcpflcfpaa

