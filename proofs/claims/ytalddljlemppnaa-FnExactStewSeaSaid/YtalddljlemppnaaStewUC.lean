/- The law FnExactStewSea returns true at every input; nothing is asked of the input beyond what the row itself asks. -/
import Derived.Test.YtalddljlemppnaaStewG
import Derived.Test.YtalddljlemppnaaStewQ3
import Derived.Test.YtalddljlemppnaaRows
set_option linter.unusedSimpArgs false
set_option linter.unusedVariables false
namespace Go.Ab
open Go Go.RowKit Go.Proofs
attribute [local irreducible] XC Rdr IntKind.wrap xw xos xqs xr xd
set_option maxRecDepth 100000
end Go.Ab
namespace Go.Proofs.Ytalddljlemppnaa
open Go Go.RowKit Go.ChangeShapes Go.WideShapes Go.ChangeAt Go.Ab
theorem ownfnExactStewSea : ownKnob Try.prog.godebug = none := by kernel_rfl
theorem laidfnExactStewSea : laidOutB Try.prog = true := by kernel_rfl
set_option maxRecDepth 100000 in
theorem fnExactStewSea_lifted (os : Os) (started : os.Started) (H : Type) (enc : TypeId × Value → H) :
  ReturnsInHanded {} Try.checked os 11 .any (Rows.fnExactStewSeaSpec.pre6 enc Try.prog Try.f11 Rows.fnExactStewSeaRow.domain Rows.fnExactStewSeaRow.apart) (Rows.fnExactStewSeaSpec.post enc Try.prog Try.f11 Rows.fnExactStewSeaRow.apart Rows.fnExactStewSeaRow.fresh Rows.fnExactStewSeaRow.handsOn Rows.fnExactStewSeaRow.again) :=
 law_reads (C := Try.checked) (bt := 4) ownfnExactStewSea started (by kernel_rfl) Try.func11
  (ChangeSpec.witness6 (enc := enc) (C := Try.checked) false ⟨#[], #[.agg #[.int .i64 0, .slice none 0 0, .slice none 0 0, .slice none 0 0], .agg #[.int .i64 0, .string ⟨#[]⟩, .int .i64 0, .bool false, .int .i64 0, .int .i64 0, .int .i64 0, .int .i64 0, .int .i64 0, .int .i64 0, .int .i64 0, .int .i64 0, .int .i64 0, .int .i64 0, .string ⟨#[]⟩, .int .i64 0, .bool false]], []⟩ 8 (by kernel_rfl) (by kernel_rfl) (by kernel_rfl) (by kernel_rfl))
  laidfnExactStewSea [.st [.int .i64, .sl 13 (.st [.str, .int .i64, .bool, .int .i64, .int .i64, .int .i64, .int .i64, .int .i64, .int .i64, .int .i64, .int .i64, .int .i64, .int .i64]), .sl 7 (.st [.str, .int .i64, .int .i64, .int .i64, .int .i64, .bool, .str]), .sl 2 (.st [.str, .bool])], .st [.int .i64, .st [.str, .int .i64, .bool, .int .i64, .int .i64, .int .i64, .int .i64, .int .i64, .int .i64, .int .i64, .int .i64, .int .i64, .int .i64], .str, .int .i64, .bool]] (by kernel_rfl) rfl rfl Try.underlying4
  (fun ds hd => match ds, hd with | [d1, d2], _ => rfl)
  (fun ds h => by
   obtain ⟨_, _, rfl, h1, _, _, rfl, h2, rfl⟩ := h
   obtain ⟨x, rfl, hw⟩ := args_StewBook h1
   obtain ⟨e, rfl, he⟩ := args_StewEvent h2
   exact law_StewSea x e hw he
)
set_option maxRecDepth 100000
theorem fnExactStewSea_jf0 : (Rows.fnExactStewSeaRow.wf (OpenSpec.ofChange Rows.fnExactStewSeaSpec)) = true := by kernel_rfl
theorem fnExactStewSea_jf3 : (Try.f11.params.all (Try.checked.prog.readableRec ·)) = true := by kernel_rfl
theorem fnExactStewSea_jf4 : (namedTie Try.checked.prog Rows.fnExactStewSeaRow.named Rows.fnExactStewSeaSpec.vars) = true := by kernel_rfl
theorem fnExactStewSea_jf5 : ((Rows.fnExactStewSeaRow.stops == [])) = true := by kernel_rfl
theorem fnExactStewSea_jf7 : ((Rows.fnExactStewSeaRow.knobs == [])) = true := by kernel_rfl
theorem fnExactStewSea_jf9 : ((Rows.fnExactStewSeaRow.inPlace == Try.checked.prog.inPlace 11)) = true := by kernel_rfl
theorem fnExactStewSea_jf10 : ((Rows.fnExactStewSeaRow.unfollowed == Try.checked.prog.unfollowed 11)) = true := by kernel_rfl
theorem fnExactStewSea_jf11 : ((Rows.fnExactStewSeaRow.recurses == Try.checked.prog.recurses 11)) = true := by kernel_rfl
theorem fnExactStewSea_jf12 : ((Rows.fnExactStewSeaRow.named == Try.checked.prog.varsNamed 11)) = true := by kernel_rfl
theorem fnExactStewSea_jf13 : ((Rows.fnExactStewSeaRow.maps == (Try.f11.params.toList ++ Rows.fnExactStewSeaSpec.plain.varTypes Try.checked.prog).any (Try.checked.prog.mapsRec ·))) = true := by kernel_rfl
theorem fnExactStewSea_jf14 : ((Rows.fnExactStewSeaRow.ifaces == (Try.f11.params.toList ++ Rows.fnExactStewSeaSpec.plain.varTypes Try.checked.prog).any (Try.checked.prog.ifacesRec ·))) = true := by kernel_rfl
theorem fnExactStewSea_jf15 : ((Rows.fnExactStewSeaRow.mapsOut == Try.checked.prog.mapsAmong Try.f11.resultTypes.toList)) = true := by kernel_rfl
theorem fnExactStewSea_jf16 : ((Rows.fnExactStewSeaRow.loops == (Try.f11.params.toList ++ Rows.fnExactStewSeaSpec.plain.varTypes Try.checked.prog).any (Try.checked.prog.loopsFrom ·))) = true := by kernel_rfl
theorem fnExactStewSea_jf17 : ((Rows.fnExactStewSeaRow.wideKeys == (Try.f11.params.toList ++ Rows.fnExactStewSeaSpec.plain.varTypes Try.checked.prog ++ Try.f11.resultTypes.toList).any (Try.checked.prog.wideKeysFrom ·))) = true := by kernel_rfl
theorem fnExactStewSea_jf18 : (Rows.fnExactStewSeaSpec.vars.all (Try.checked.prog.varReadable ·)) = true := by kernel_rfl
theorem fnExactStewSea_jf19 : (Try.f11.resultTypes.all (fun t => Try.checked.prog.readableRec t && decide (t < Try.checked.prog.types.size))) = true := by kernel_rfl
theorem fnExactStewSea_jf20 : ((Rows.fnExactStewSeaRow.ifacesOut == Try.f11.resultTypes.toList.any (Try.checked.prog.ifacesRec ·))) = true := by kernel_rfl
theorem fnExactStewSea_jf21 : ((Rows.fnExactStewSeaRow.loopsOut == Try.f11.resultTypes.toList.any (Try.checked.prog.loopsFrom ·))) = true := by kernel_rfl
theorem fnExactStewSea_jf22 : ((Rows.fnExactStewSeaRow.plainKeys == Try.checked.prog.plainKeys)) = true := by kernel_rfl
theorem fnExactStewSea_jf23 : (Rows.fnExactStewSeaRow.shortTexts.isNone) = true := by kernel_rfl
theorem fnExactStewSea_jf28 : ((Rows.fnExactStewSeaRow.kinds == (if Rows.fnExactStewSeaRow.domain.isEmpty then [] else Try.f11.params.toList.map fun t => match Try.checked.prog.underlying t with | some (.int k) => some k | _ => none))) = true := by kernel_rfl
theorem fnExactStewSea_jf29 : ((Rows.fnExactStewSeaRow.pinned == Rows.fnExactStewSeaRow.pinnedBy)) = true := by kernel_rfl
theorem fnExactStewSea_jf30 : ((Rows.fnExactStewSeaRow.veiled == (Try.f11.params.toList ++ Rows.fnExactStewSeaSpec.plain.varTypes Try.checked.prog ++ Try.f11.resultTypes.toList).any (Try.checked.prog.veiledRec ·))) = true := by kernel_rfl
theorem fnExactStewSea_jf31 : (Rows.fnExactStewSeaRow.veiledFits Try.checked.prog Try.f11.params.toList (Try.f11.params.toList ++ Rows.fnExactStewSeaSpec.plain.varTypes Try.checked.prog ++ Try.f11.resultTypes.toList)) = true := by kernel_rfl
theorem fnExactStewSea_jf : joinedFacts Try.checked.prog 11 Try.f11 Rows.fnExactStewSeaSpec Rows.fnExactStewSeaRow = true := (and_mk (and_mk (and_mk (and_mk (and_mk (and_mk (and_mk (and_mk (and_mk (and_mk (and_mk (and_mk (and_mk (and_mk (and_mk (and_mk (and_mk (and_mk (and_mk (and_mk (and_mk (and_mk (and_mk (and_mk (and_mk (and_mk (and_mk (and_mk (and_mk (and_mk (and_mk fnExactStewSea_jf0 fac1) fac2) fnExactStewSea_jf3) fnExactStewSea_jf4) fnExactStewSea_jf5) fac6) fnExactStewSea_jf7) fac8) fnExactStewSea_jf9) fnExactStewSea_jf10) fnExactStewSea_jf11) fnExactStewSea_jf12) fnExactStewSea_jf13) fnExactStewSea_jf14) fnExactStewSea_jf15) fnExactStewSea_jf16) fnExactStewSea_jf17) fnExactStewSea_jf18) fnExactStewSea_jf19) fnExactStewSea_jf20) fnExactStewSea_jf21) fnExactStewSea_jf22) fnExactStewSea_jf23) fac24) fac25) fac26) fac27) fnExactStewSea_jf28) fnExactStewSea_jf29) fnExactStewSea_jf30) fnExactStewSea_jf31)
theorem fnExactStewSea_holds : Rows.FnExactStewSeaSaid :=
 OpenClaim.holds_of_wide 11 Try.f11 rfl rfl rfl rfl rfl rfl rfl ⟨rfl, rfl, rfl, rfl, rfl⟩ rfl rfl rfl rfl rfl (by kernel_rfl) Try.func11 fnExactStewSea_jf
  (of_decide_eq_true (by kernel_rfl)) (by unfold Func.isWrapper; first | (rw [if_pos (by decide +kernel)]; kernel_rfl) | (rw [if_neg (by decide +kernel)]; exact ⟨rfl, rfl⟩))
  (fun os started H enc _ => fnExactStewSea_lifted os started H enc)
#print axioms fnExactStewSea_holds
end Go.Proofs.Ytalddljlemppnaa
