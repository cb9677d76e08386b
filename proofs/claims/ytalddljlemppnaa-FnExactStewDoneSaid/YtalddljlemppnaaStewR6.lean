/- The law FnExactStewDone returns true at every input; nothing is asked of the input beyond what the row itself asks. -/
import Derived.Test.YtalddljlemppnaaStewG
import Derived.Test.YtalddljlemppnaaStewR5
import Derived.Test.YtalddljlemppnaaRows
set_option linter.unusedSimpArgs false
set_option linter.unusedVariables false
namespace Go.Ab
open Go Go.RowKit Go.Proofs
attribute [local irreducible] XC Rdr IntKind.wrap xw xos xqs xr xd
set_option maxRecDepth 100000

end Go.Ab
namespace Go.Proofs.Ytalddljlemppnaa
open Go Go.RowKit Go.ChangeShapes Go.WideShapes Go.ChangeAt Go.Ab
theorem ownfnExactStewDone : ownKnob Try.prog.godebug = none := by kernel_rfl
theorem laidfnExactStewDone : laidOutB Try.prog = true := by kernel_rfl
set_option maxRecDepth 100000 in
theorem fnExactStewDone_lifted (os : Os) (started : os.Started) (H : Type) (enc : TypeId × Value → H) :
    ReturnsInHanded {} Try.checked os 8 .any (Rows.fnExactStewDoneSpec.pre6 enc Try.prog Try.f8 Rows.fnExactStewDoneRow.domain Rows.fnExactStewDoneRow.apart) (Rows.fnExactStewDoneSpec.post enc Try.prog Try.f8 Rows.fnExactStewDoneRow.apart Rows.fnExactStewDoneRow.fresh Rows.fnExactStewDoneRow.handsOn Rows.fnExactStewDoneRow.again) :=
  law_reads (C := Try.checked) (bt := 4) ownfnExactStewDone started (by kernel_rfl) Try.func8
    (ChangeSpec.witness6 (enc := enc) (C := Try.checked) false ⟨#[], #[.agg #[.int .i64 0, .slice none 0 0, .slice none 0 0, .slice none 0 0]], []⟩ 8 (by kernel_rfl) (by kernel_rfl) (by kernel_rfl) (by kernel_rfl))
    laidfnExactStewDone [.st [.int .i64, .sl 13 (.st [.str, .int .i64, .bool, .int .i64, .int .i64, .int .i64, .int .i64, .int .i64, .int .i64, .int .i64, .int .i64, .int .i64, .int .i64]), .sl 7 (.st [.str, .int .i64, .int .i64, .int .i64, .int .i64, .bool, .str]), .sl 2 (.st [.str, .bool])]] (by kernel_rfl) rfl rfl Try.underlying4
    (fun ds hd => match ds, hd with | [d1], _ => rfl)
    (fun ds h => by
      obtain ⟨_, _, rfl, h1, rfl⟩ := h
      obtain ⟨x, rfl, hw⟩ := args_StewBook h1
      exact law_StewDone x hw
)
set_option maxRecDepth 100000
theorem fnExactStewDone_jf0 : (Rows.fnExactStewDoneRow.wf (OpenSpec.ofChange Rows.fnExactStewDoneSpec)) = true := by kernel_rfl
theorem fnExactStewDone_jf3 : (Try.f8.params.all (Try.checked.prog.readableRec ·)) = true := by kernel_rfl
theorem fnExactStewDone_jf4 : (namedTie Try.checked.prog Rows.fnExactStewDoneRow.named Rows.fnExactStewDoneSpec.vars) = true := by kernel_rfl
theorem fnExactStewDone_jf5 : ((Rows.fnExactStewDoneRow.stops == [])) = true := by kernel_rfl
theorem fnExactStewDone_jf7 : ((Rows.fnExactStewDoneRow.knobs == [])) = true := by kernel_rfl
theorem fnExactStewDone_jf9 : ((Rows.fnExactStewDoneRow.inPlace == Try.checked.prog.inPlace 8)) = true := by kernel_rfl
theorem fnExactStewDone_jf10 : ((Rows.fnExactStewDoneRow.unfollowed == Try.checked.prog.unfollowed 8)) = true := by kernel_rfl
theorem fnExactStewDone_jf11 : ((Rows.fnExactStewDoneRow.recurses == Try.checked.prog.recurses 8)) = true := by kernel_rfl
theorem fnExactStewDone_jf12 : ((Rows.fnExactStewDoneRow.named == Try.checked.prog.varsNamed 8)) = true := by kernel_rfl
theorem fnExactStewDone_jf13 : ((Rows.fnExactStewDoneRow.maps == (Try.f8.params.toList ++ Rows.fnExactStewDoneSpec.plain.varTypes Try.checked.prog).any (Try.checked.prog.mapsRec ·))) = true := by kernel_rfl
theorem fnExactStewDone_jf14 : ((Rows.fnExactStewDoneRow.ifaces == (Try.f8.params.toList ++ Rows.fnExactStewDoneSpec.plain.varTypes Try.checked.prog).any (Try.checked.prog.ifacesRec ·))) = true := by kernel_rfl
theorem fnExactStewDone_jf15 : ((Rows.fnExactStewDoneRow.mapsOut == Try.checked.prog.mapsAmong Try.f8.resultTypes.toList)) = true := by kernel_rfl
theorem fnExactStewDone_jf16 : ((Rows.fnExactStewDoneRow.loops == (Try.f8.params.toList ++ Rows.fnExactStewDoneSpec.plain.varTypes Try.checked.prog).any (Try.checked.prog.loopsFrom ·))) = true := by kernel_rfl
theorem fnExactStewDone_jf17 : ((Rows.fnExactStewDoneRow.wideKeys == (Try.f8.params.toList ++ Rows.fnExactStewDoneSpec.plain.varTypes Try.checked.prog ++ Try.f8.resultTypes.toList).any (Try.checked.prog.wideKeysFrom ·))) = true := by kernel_rfl
theorem fnExactStewDone_jf18 : (Rows.fnExactStewDoneSpec.vars.all (Try.checked.prog.varReadable ·)) = true := by kernel_rfl
theorem fnExactStewDone_jf19 : (Try.f8.resultTypes.all (fun t => Try.checked.prog.readableRec t && decide (t < Try.checked.prog.types.size))) = true := by kernel_rfl
theorem fnExactStewDone_jf20 : ((Rows.fnExactStewDoneRow.ifacesOut == Try.f8.resultTypes.toList.any (Try.checked.prog.ifacesRec ·))) = true := by kernel_rfl
theorem fnExactStewDone_jf21 : ((Rows.fnExactStewDoneRow.loopsOut == Try.f8.resultTypes.toList.any (Try.checked.prog.loopsFrom ·))) = true := by kernel_rfl
theorem fnExactStewDone_jf22 : ((Rows.fnExactStewDoneRow.plainKeys == Try.checked.prog.plainKeys)) = true := by kernel_rfl
theorem fnExactStewDone_jf23 : (Rows.fnExactStewDoneRow.shortTexts.isNone) = true := by kernel_rfl
theorem fnExactStewDone_jf28 : ((Rows.fnExactStewDoneRow.kinds == (if Rows.fnExactStewDoneRow.domain.isEmpty then [] else Try.f8.params.toList.map fun t => match Try.checked.prog.underlying t with | some (.int k) => some k | _ => none))) = true := by kernel_rfl
theorem fnExactStewDone_jf29 : ((Rows.fnExactStewDoneRow.pinned == Rows.fnExactStewDoneRow.pinnedBy)) = true := by kernel_rfl
theorem fnExactStewDone_jf30 : ((Rows.fnExactStewDoneRow.veiled == (Try.f8.params.toList ++ Rows.fnExactStewDoneSpec.plain.varTypes Try.checked.prog ++ Try.f8.resultTypes.toList).any (Try.checked.prog.veiledRec ·))) = true := by kernel_rfl
theorem fnExactStewDone_jf31 : (Rows.fnExactStewDoneRow.veiledFits Try.checked.prog Try.f8.params.toList (Try.f8.params.toList ++ Rows.fnExactStewDoneSpec.plain.varTypes Try.checked.prog ++ Try.f8.resultTypes.toList)) = true := by kernel_rfl
theorem fnExactStewDone_jf : joinedFacts Try.checked.prog 8 Try.f8 Rows.fnExactStewDoneSpec Rows.fnExactStewDoneRow = true := (and_mk (and_mk (and_mk (and_mk (and_mk (and_mk (and_mk (and_mk (and_mk (and_mk (and_mk (and_mk (and_mk (and_mk (and_mk (and_mk (and_mk (and_mk (and_mk (and_mk (and_mk (and_mk (and_mk (and_mk (and_mk (and_mk (and_mk (and_mk (and_mk (and_mk (and_mk fnExactStewDone_jf0 fac1) fac2) fnExactStewDone_jf3) fnExactStewDone_jf4) fnExactStewDone_jf5) fac6) fnExactStewDone_jf7) fac8) fnExactStewDone_jf9) fnExactStewDone_jf10) fnExactStewDone_jf11) fnExactStewDone_jf12) fnExactStewDone_jf13) fnExactStewDone_jf14) fnExactStewDone_jf15) fnExactStewDone_jf16) fnExactStewDone_jf17) fnExactStewDone_jf18) fnExactStewDone_jf19) fnExactStewDone_jf20) fnExactStewDone_jf21) fnExactStewDone_jf22) fnExactStewDone_jf23) fac24) fac25) fac26) fac27) fnExactStewDone_jf28) fnExactStewDone_jf29) fnExactStewDone_jf30) fnExactStewDone_jf31)
theorem fnExactStewDone_holds : Rows.FnExactStewDoneSaid :=
  OpenClaim.holds_of_wide 8 Try.f8 rfl rfl rfl rfl rfl rfl rfl ⟨rfl, rfl, rfl, rfl, rfl⟩ rfl rfl rfl rfl rfl (by kernel_rfl) Try.func8 fnExactStewDone_jf
    (of_decide_eq_true (by kernel_rfl)) (by unfold Func.isWrapper; first | (rw [if_pos (by decide +kernel)]; kernel_rfl) | (rw [if_neg (by decide +kernel)]; exact ⟨rfl, rfl⟩))
    (fun os started H enc _ => fnExactStewDone_lifted os started H enc)
#print axioms fnExactStewDone_holds
end Go.Proofs.Ytalddljlemppnaa

