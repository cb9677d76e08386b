/- The law FnExactStewWorldOk returns true at every input; nothing is asked of the input beyond what the row itself asks. -/
import Derived.Test.YtalddljlemppnaaStewG
import Derived.Test.YtalddljlemppnaaStewW
import Derived.Test.YtalddljlemppnaaRows
set_option linter.unusedSimpArgs false
set_option linter.unusedVariables false
namespace Go.Ab
open Go Go.RowKit Go.Proofs
attribute [local irreducible] XC Rdr IntKind.wrap xw xos xqs xr
set_option maxRecDepth 100000

end Go.Ab
namespace Go.Proofs.Ytalddljlemppnaa
open Go Go.RowKit Go.ChangeShapes Go.WideShapes Go.ChangeAt Go.Ab
theorem ownfnExactStewWorldOk : ownKnob Try.prog.godebug = none := by kernel_rfl
theorem laidfnExactStewWorldOk : laidOutB Try.prog = true := by kernel_rfl
set_option maxRecDepth 100000 in
theorem fnExactStewWorldOk_lifted (os : Os) (started : os.Started) (H : Type) (enc : TypeId × Value → H) :
    ReturnsInHanded {} Try.checked os 5 .any (Rows.fnExactStewWorldOkSpec.pre6 enc Try.prog Try.f5 Rows.fnExactStewWorldOkRow.domain Rows.fnExactStewWorldOkRow.apart) (Rows.fnExactStewWorldOkSpec.post enc Try.prog Try.f5 Rows.fnExactStewWorldOkRow.apart Rows.fnExactStewWorldOkRow.fresh Rows.fnExactStewWorldOkRow.handsOn Rows.fnExactStewWorldOkRow.again) :=
  law_reads (C := Try.checked) (bt := 4) ownfnExactStewWorldOk started (by kernel_rfl) Try.func5
    (ChangeSpec.witness6 (enc := enc) (C := Try.checked) false ⟨#[], #[.agg #[.slice none 0 0, .int .i64 0, .slice none 0 0, .slice none 0 0, .slice none 0 0]], []⟩ 8 (by kernel_rfl) (by kernel_rfl) (by kernel_rfl) (by kernel_rfl))
    laidfnExactStewWorldOk [.st [.sl 4 (.st [.int .i64, .sl 13 (.st [.str, .int .i64, .bool, .int .i64, .int .i64, .int .i64, .int .i64, .int .i64, .int .i64, .int .i64, .int .i64, .int .i64, .int .i64]), .sl 7 (.st [.str, .int .i64, .int .i64, .int .i64, .int .i64, .bool, .str]), .sl 2 (.st [.str, .bool])]), .st [.int .i64, .sl 13 (.st [.str, .int .i64, .bool, .int .i64, .int .i64, .int .i64, .int .i64, .int .i64, .int .i64, .int .i64, .int .i64, .int .i64, .int .i64]), .sl 7 (.st [.str, .int .i64, .int .i64, .int .i64, .int .i64, .bool, .str]), .sl 2 (.st [.str, .bool])]]] (by kernel_rfl) rfl rfl Try.underlying4
    (fun ds hd => match ds, hd with | [d1], _ => rfl)
    (fun ds h => by
      obtain ⟨_, _, rfl, h1, rfl⟩ := h
      obtain ⟨x, rfl, hw⟩ := args_StewWorld h1
      exact law_StewWorldOk x hw
)
set_option maxRecDepth 100000
theorem fnExactStewWorldOk_jf0 : (Rows.fnExactStewWorldOkRow.wf (OpenSpec.ofChange Rows.fnExactStewWorldOkSpec)) = true := by kernel_rfl
theorem fnExactStewWorldOk_jf3 : (Try.f5.params.all (Try.checked.prog.readableRec ·)) = true := by kernel_rfl
theorem fnExactStewWorldOk_jf4 : (namedTie Try.checked.prog Rows.fnExactStewWorldOkRow.named Rows.fnExactStewWorldOkSpec.vars) = true := by kernel_rfl
theorem fnExactStewWorldOk_jf5 : ((Rows.fnExactStewWorldOkRow.stops == [])) = true := by kernel_rfl
theorem fnExactStewWorldOk_jf7 : ((Rows.fnExactStewWorldOkRow.knobs == [])) = true := by kernel_rfl
theorem fnExactStewWorldOk_jf9 : ((Rows.fnExactStewWorldOkRow.inPlace == Try.checked.prog.inPlace 5)) = true := by kernel_rfl
theorem fnExactStewWorldOk_jf10 : ((Rows.fnExactStewWorldOkRow.unfollowed == Try.checked.prog.unfollowed 5)) = true := by kernel_rfl
theorem fnExactStewWorldOk_jf11 : ((Rows.fnExactStewWorldOkRow.recurses == Try.checked.prog.recurses 5)) = true := by kernel_rfl
theorem fnExactStewWorldOk_jf12 : ((Rows.fnExactStewWorldOkRow.named == Try.checked.prog.varsNamed 5)) = true := by kernel_rfl
theorem fnExactStewWorldOk_jf13 : ((Rows.fnExactStewWorldOkRow.maps == (Try.f5.params.toList ++ Rows.fnExactStewWorldOkSpec.plain.varTypes Try.checked.prog).any (Try.checked.prog.mapsRec ·))) = true := by kernel_rfl
theorem fnExactStewWorldOk_jf14 : ((Rows.fnExactStewWorldOkRow.ifaces == (Try.f5.params.toList ++ Rows.fnExactStewWorldOkSpec.plain.varTypes Try.checked.prog).any (Try.checked.prog.ifacesRec ·))) = true := by kernel_rfl
theorem fnExactStewWorldOk_jf15 : ((Rows.fnExactStewWorldOkRow.mapsOut == Try.checked.prog.mapsAmong Try.f5.resultTypes.toList)) = true := by kernel_rfl
theorem fnExactStewWorldOk_jf16 : ((Rows.fnExactStewWorldOkRow.loops == (Try.f5.params.toList ++ Rows.fnExactStewWorldOkSpec.plain.varTypes Try.checked.prog).any (Try.checked.prog.loopsFrom ·))) = true := by kernel_rfl
theorem fnExactStewWorldOk_jf17 : ((Rows.fnExactStewWorldOkRow.wideKeys == (Try.f5.params.toList ++ Rows.fnExactStewWorldOkSpec.plain.varTypes Try.checked.prog ++ Try.f5.resultTypes.toList).any (Try.checked.prog.wideKeysFrom ·))) = true := by kernel_rfl
theorem fnExactStewWorldOk_jf18 : (Rows.fnExactStewWorldOkSpec.vars.all (Try.checked.prog.varReadable ·)) = true := by kernel_rfl
theorem fnExactStewWorldOk_jf19 : (Try.f5.resultTypes.all (fun t => Try.checked.prog.readableRec t && decide (t < Try.checked.prog.types.size))) = true := by kernel_rfl
theorem fnExactStewWorldOk_jf20 : ((Rows.fnExactStewWorldOkRow.ifacesOut == Try.f5.resultTypes.toList.any (Try.checked.prog.ifacesRec ·))) = true := by kernel_rfl
theorem fnExactStewWorldOk_jf21 : ((Rows.fnExactStewWorldOkRow.loopsOut == Try.f5.resultTypes.toList.any (Try.checked.prog.loopsFrom ·))) = true := by kernel_rfl
theorem fnExactStewWorldOk_jf22 : ((Rows.fnExactStewWorldOkRow.plainKeys == Try.checked.prog.plainKeys)) = true := by kernel_rfl
theorem fnExactStewWorldOk_jf23 : (Rows.fnExactStewWorldOkRow.shortTexts.isNone) = true := by kernel_rfl
theorem fnExactStewWorldOk_jf28 : ((Rows.fnExactStewWorldOkRow.kinds == (if Rows.fnExactStewWorldOkRow.domain.isEmpty then [] else Try.f5.params.toList.map fun t => match Try.checked.prog.underlying t with | some (.int k) => some k | _ => none))) = true := by kernel_rfl
theorem fnExactStewWorldOk_jf29 : ((Rows.fnExactStewWorldOkRow.pinned == Rows.fnExactStewWorldOkRow.pinnedBy)) = true := by kernel_rfl
theorem fnExactStewWorldOk_jf30 : ((Rows.fnExactStewWorldOkRow.veiled == (Try.f5.params.toList ++ Rows.fnExactStewWorldOkSpec.plain.varTypes Try.checked.prog ++ Try.f5.resultTypes.toList).any (Try.checked.prog.veiledRec ·))) = true := by kernel_rfl
theorem fnExactStewWorldOk_jf31 : (Rows.fnExactStewWorldOkRow.veiledFits Try.checked.prog Try.f5.params.toList (Try.f5.params.toList ++ Rows.fnExactStewWorldOkSpec.plain.varTypes Try.checked.prog ++ Try.f5.resultTypes.toList)) = true := by kernel_rfl
theorem fnExactStewWorldOk_jf : joinedFacts Try.checked.prog 5 Try.f5 Rows.fnExactStewWorldOkSpec Rows.fnExactStewWorldOkRow = true := (and_mk (and_mk (and_mk (and_mk (and_mk (and_mk (and_mk (and_mk (and_mk (and_mk (and_mk (and_mk (and_mk (and_mk (and_mk (and_mk (and_mk (and_mk (and_mk (and_mk (and_mk (and_mk (and_mk (and_mk (and_mk (and_mk (and_mk (and_mk (and_mk (and_mk (and_mk fnExactStewWorldOk_jf0 fac1) fac2) fnExactStewWorldOk_jf3) fnExactStewWorldOk_jf4) fnExactStewWorldOk_jf5) fac6) fnExactStewWorldOk_jf7) fac8) fnExactStewWorldOk_jf9) fnExactStewWorldOk_jf10) fnExactStewWorldOk_jf11) fnExactStewWorldOk_jf12) fnExactStewWorldOk_jf13) fnExactStewWorldOk_jf14) fnExactStewWorldOk_jf15) fnExactStewWorldOk_jf16) fnExactStewWorldOk_jf17) fnExactStewWorldOk_jf18) fnExactStewWorldOk_jf19) fnExactStewWorldOk_jf20) fnExactStewWorldOk_jf21) fnExactStewWorldOk_jf22) fnExactStewWorldOk_jf23) fac24) fac25) fac26) fac27) fnExactStewWorldOk_jf28) fnExactStewWorldOk_jf29) fnExactStewWorldOk_jf30) fnExactStewWorldOk_jf31)
theorem fnExactStewWorldOk_holds : Rows.FnExactStewWorldOkSaid :=
  OpenClaim.holds_of_wide 5 Try.f5 rfl rfl rfl rfl rfl rfl rfl ⟨rfl, rfl, rfl, rfl, rfl⟩ rfl rfl rfl rfl rfl (by kernel_rfl) Try.func5 fnExactStewWorldOk_jf
    (of_decide_eq_true (by kernel_rfl)) (by unfold Func.isWrapper; first | (rw [if_pos (by decide +kernel)]; kernel_rfl) | (rw [if_neg (by decide +kernel)]; exact ⟨rfl, rfl⟩))
    (fun os started H enc _ => fnExactStewWorldOk_lifted os started H enc)
#print axioms fnExactStewWorldOk_holds
end Go.Proofs.Ytalddljlemppnaa

