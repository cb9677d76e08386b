/- The law FnExactStewValid returns true at every input; nothing is asked of the input beyond what the row itself asks. -/
import Derived.Test.YtalddljlemppnaaStewG
import Derived.Test.YtalddljlemppnaaStewE
import Derived.Test.YtalddljlemppnaaRows
set_option linter.unusedSimpArgs false
set_option linter.unusedVariables false
namespace Go.Ab
open Go Go.RowKit Go.Proofs
attribute [local irreducible] XC Rdr IntKind.wrap xw xos xqs xr
set_option maxRecDepth 100000

end Go.Ab
namespace Go.Proofs.Ytalddljlemppnaa
open Go Go.RowKit Go.ChangeShapes Go.WideShapes Go.ChangeAt Go.Ab
theorem ownfnExactStewValid : ownKnob Try.prog.godebug = none := by kernel_rfl
theorem laidfnExactStewValid : laidOutB Try.prog = true := by kernel_rfl
set_option maxRecDepth 100000 in
theorem fnExactStewValid_lifted (os : Os) (started : os.Started) (H : Type) (enc : TypeId × Value → H) :
    ReturnsInHanded {} Try.checked os 4 .any (Rows.fnExactStewValidSpec.pre6 enc Try.prog Try.f4 Rows.fnExactStewValidRow.domain Rows.fnExactStewValidRow.apart) (Rows.fnExactStewValidSpec.post enc Try.prog Try.f4 Rows.fnExactStewValidRow.apart Rows.fnExactStewValidRow.fresh Rows.fnExactStewValidRow.handsOn Rows.fnExactStewValidRow.again) :=
  law_reads (C := Try.checked) (bt := 4) ownfnExactStewValid started (by kernel_rfl) Try.func4
    (ChangeSpec.witness6 (enc := enc) (C := Try.checked) false ⟨#[], #[.agg #[.int .i64 0, .slice none 0 0, .slice none 0 0, .slice none 0 0]], []⟩ 8 (by kernel_rfl) (by kernel_rfl) (by kernel_rfl) (by kernel_rfl))
    laidfnExactStewValid [.st [.int .i64, .sl 13 (.st [.str, .int .i64, .bool, .int .i64, .int .i64, .int .i64, .int .i64, .int .i64, .int .i64, .int .i64, .int .i64, .int .i64, .int .i64]), .sl 7 (.st [.str, .int .i64, .int .i64, .int .i64, .int .i64, .bool, .str]), .sl 2 (.st [.str, .bool])]] (by kernel_rfl) rfl rfl Try.underlying4
    (fun ds hd => match ds, hd with | [d1], _ => rfl)
    (fun ds h => by
      obtain ⟨_, _, rfl, h1, rfl⟩ := h
      obtain ⟨x, rfl, hw⟩ := args_StewBook h1
      exact law_StewValid x hw
)
set_option maxRecDepth 100000
theorem fnExactStewValid_jf0 : (Rows.fnExactStewValidRow.wf (OpenSpec.ofChange Rows.fnExactStewValidSpec)) = true := by kernel_rfl
theorem fnExactStewValid_jf3 : (Try.f4.params.all (Try.checked.prog.readableRec ·)) = true := by kernel_rfl
theorem fnExactStewValid_jf4 : (namedTie Try.checked.prog Rows.fnExactStewValidRow.named Rows.fnExactStewValidSpec.vars) = true := by kernel_rfl
theorem fnExactStewValid_jf5 : ((Rows.fnExactStewValidRow.stops == [])) = true := by kernel_rfl
theorem fnExactStewValid_jf7 : ((Rows.fnExactStewValidRow.knobs == [])) = true := by kernel_rfl
theorem fnExactStewValid_jf9 : ((Rows.fnExactStewValidRow.inPlace == Try.checked.prog.inPlace 4)) = true := by kernel_rfl
theorem fnExactStewValid_jf10 : ((Rows.fnExactStewValidRow.unfollowed == Try.checked.prog.unfollowed 4)) = true := by kernel_rfl
theorem fnExactStewValid_jf11 : ((Rows.fnExactStewValidRow.recurses == Try.checked.prog.recurses 4)) = true := by kernel_rfl
theorem fnExactStewValid_jf12 : ((Rows.fnExactStewValidRow.named == Try.checked.prog.varsNamed 4)) = true := by kernel_rfl
theorem fnExactStewValid_jf13 : ((Rows.fnExactStewValidRow.maps == (Try.f4.params.toList ++ Rows.fnExactStewValidSpec.plain.varTypes Try.checked.prog).any (Try.checked.prog.mapsRec ·))) = true := by kernel_rfl
theorem fnExactStewValid_jf14 : ((Rows.fnExactStewValidRow.ifaces == (Try.f4.params.toList ++ Rows.fnExactStewValidSpec.plain.varTypes Try.checked.prog).any (Try.checked.prog.ifacesRec ·))) = true := by kernel_rfl
theorem fnExactStewValid_jf15 : ((Rows.fnExactStewValidRow.mapsOut == Try.checked.prog.mapsAmong Try.f4.resultTypes.toList)) = true := by kernel_rfl
theorem fnExactStewValid_jf16 : ((Rows.fnExactStewValidRow.loops == (Try.f4.params.toList ++ Rows.fnExactStewValidSpec.plain.varTypes Try.checked.prog).any (Try.checked.prog.loopsFrom ·))) = true := by kernel_rfl
theorem fnExactStewValid_jf17 : ((Rows.fnExactStewValidRow.wideKeys == (Try.f4.params.toList ++ Rows.fnExactStewValidSpec.plain.varTypes Try.checked.prog ++ Try.f4.resultTypes.toList).any (Try.checked.prog.wideKeysFrom ·))) = true := by kernel_rfl
theorem fnExactStewValid_jf18 : (Rows.fnExactStewValidSpec.vars.all (Try.checked.prog.varReadable ·)) = true := by kernel_rfl
theorem fnExactStewValid_jf19 : (Try.f4.resultTypes.all (fun t => Try.checked.prog.readableRec t && decide (t < Try.checked.prog.types.size))) = true := by kernel_rfl
theorem fnExactStewValid_jf20 : ((Rows.fnExactStewValidRow.ifacesOut == Try.f4.resultTypes.toList.any (Try.checked.prog.ifacesRec ·))) = true := by kernel_rfl
theorem fnExactStewValid_jf21 : ((Rows.fnExactStewValidRow.loopsOut == Try.f4.resultTypes.toList.any (Try.checked.prog.loopsFrom ·))) = true := by kernel_rfl
theorem fnExactStewValid_jf22 : ((Rows.fnExactStewValidRow.plainKeys == Try.checked.prog.plainKeys)) = true := by kernel_rfl
theorem fnExactStewValid_jf23 : (Rows.fnExactStewValidRow.shortTexts.isNone) = true := by kernel_rfl
theorem fnExactStewValid_jf28 : ((Rows.fnExactStewValidRow.kinds == (if Rows.fnExactStewValidRow.domain.isEmpty then [] else Try.f4.params.toList.map fun t => match Try.checked.prog.underlying t with | some (.int k) => some k | _ => none))) = true := by kernel_rfl
theorem fnExactStewValid_jf29 : ((Rows.fnExactStewValidRow.pinned == Rows.fnExactStewValidRow.pinnedBy)) = true := by kernel_rfl
theorem fnExactStewValid_jf30 : ((Rows.fnExactStewValidRow.veiled == (Try.f4.params.toList ++ Rows.fnExactStewValidSpec.plain.varTypes Try.checked.prog ++ Try.f4.resultTypes.toList).any (Try.checked.prog.veiledRec ·))) = true := by kernel_rfl
theorem fnExactStewValid_jf31 : (Rows.fnExactStewValidRow.veiledFits Try.checked.prog Try.f4.params.toList (Try.f4.params.toList ++ Rows.fnExactStewValidSpec.plain.varTypes Try.checked.prog ++ Try.f4.resultTypes.toList)) = true := by kernel_rfl
theorem fnExactStewValid_jf : joinedFacts Try.checked.prog 4 Try.f4 Rows.fnExactStewValidSpec Rows.fnExactStewValidRow = true := (and_mk (and_mk (and_mk (and_mk (and_mk (and_mk (and_mk (and_mk (and_mk (and_mk (and_mk (and_mk (and_mk (and_mk (and_mk (and_mk (and_mk (and_mk (and_mk (and_mk (and_mk (and_mk (and_mk (and_mk (and_mk (and_mk (and_mk (and_mk (and_mk (and_mk (and_mk fnExactStewValid_jf0 fac1) fac2) fnExactStewValid_jf3) fnExactStewValid_jf4) fnExactStewValid_jf5) fac6) fnExactStewValid_jf7) fac8) fnExactStewValid_jf9) fnExactStewValid_jf10) fnExactStewValid_jf11) fnExactStewValid_jf12) fnExactStewValid_jf13) fnExactStewValid_jf14) fnExactStewValid_jf15) fnExactStewValid_jf16) fnExactStewValid_jf17) fnExactStewValid_jf18) fnExactStewValid_jf19) fnExactStewValid_jf20) fnExactStewValid_jf21) fnExactStewValid_jf22) fnExactStewValid_jf23) fac24) fac25) fac26) fac27) fnExactStewValid_jf28) fnExactStewValid_jf29) fnExactStewValid_jf30) fnExactStewValid_jf31)
theorem fnExactStewValid_holds : Rows.FnExactStewValidSaid :=
  OpenClaim.holds_of_wide 4 Try.f4 rfl rfl rfl rfl rfl rfl rfl ⟨rfl, rfl, rfl, rfl, rfl⟩ rfl rfl rfl rfl rfl (by kernel_rfl) Try.func4 fnExactStewValid_jf
    (of_decide_eq_true (by kernel_rfl)) (by unfold Func.isWrapper; first | (rw [if_pos (by decide +kernel)]; kernel_rfl) | (rw [if_neg (by decide +kernel)]; exact ⟨rfl, rfl⟩))
    (fun os started H enc _ => fnExactStewValid_lifted os started H enc)
#print axioms fnExactStewValid_holds
end Go.Proofs.Ytalddljlemppnaa

