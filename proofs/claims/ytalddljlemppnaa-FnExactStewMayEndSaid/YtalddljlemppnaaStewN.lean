/- The law FnExactStewMayEnd returns true at every input; nothing is asked of the input beyond what the row itself asks. -/
import Derived.Test.YtalddljlemppnaaStewG
import Derived.Test.YtalddljlemppnaaStewM
import Derived.Test.YtalddljlemppnaaRows
set_option linter.unusedSimpArgs false
set_option linter.unusedVariables false
namespace Go.Ab
open Go Go.RowKit Go.Proofs
attribute [local irreducible] XC Rdr IntKind.wrap xw xos xqs xr
set_option maxRecDepth 100000

end Go.Ab
namespace Go.Proofs.Ytalddljlemppnaa
open Go Go.RowKit Go.ChangeShapes Go.WideShapes Go.ChangeAt Go.Ab
theorem ownfnExactStewMayEnd : ownKnob Try.prog.godebug = none := by kernel_rfl
theorem laidfnExactStewMayEnd : laidOutB Try.prog = true := by kernel_rfl
set_option maxRecDepth 100000 in
theorem fnExactStewMayEnd_lifted (os : Os) (started : os.Started) (H : Type) (enc : TypeId × Value → H) :
    ReturnsInHanded {} Try.checked os 7 .any (Rows.fnExactStewMayEndSpec.pre6 enc Try.prog Try.f7 Rows.fnExactStewMayEndRow.domain Rows.fnExactStewMayEndRow.apart) (Rows.fnExactStewMayEndSpec.post enc Try.prog Try.f7 Rows.fnExactStewMayEndRow.apart Rows.fnExactStewMayEndRow.fresh Rows.fnExactStewMayEndRow.handsOn Rows.fnExactStewMayEndRow.again) :=
  law_reads (C := Try.checked) (bt := 4) ownfnExactStewMayEnd started (by kernel_rfl) Try.func7
    (ChangeSpec.witness6 (enc := enc) (C := Try.checked) false ⟨#[], #[.agg #[.int .i64 0, .slice none 0 0, .slice none 0 0, .slice none 0 0], .string ⟨#[]⟩, .int .i64 0], []⟩ 8 (by kernel_rfl) (by kernel_rfl) (by kernel_rfl) (by kernel_rfl))
    laidfnExactStewMayEnd [.st [.int .i64, .sl 13 (.st [.str, .int .i64, .bool, .int .i64, .int .i64, .int .i64, .int .i64, .int .i64, .int .i64, .int .i64, .int .i64, .int .i64, .int .i64]), .sl 7 (.st [.str, .int .i64, .int .i64, .int .i64, .int .i64, .bool, .str]), .sl 2 (.st [.str, .bool])], .str, .int .i64] (by kernel_rfl) rfl rfl Try.underlying4
    (fun ds hd => match ds, hd with | [d1, d2, d3], _ => rfl)
    (fun ds h => by
      obtain ⟨_, _, rfl, h1, _, _, rfl, h2, _, _, rfl, h3, rfl⟩ := h
      obtain ⟨x, rfl, hw⟩ := args_StewBook h1
      rw [Has] at h2
      rw [Has] at h3
      obtain ⟨s, rfl, _⟩ := h2
      obtain ⟨k, rfl, _⟩ := h3
      exact law_StewMayEnd x s k hw
)
set_option maxRecDepth 100000
theorem fnExactStewMayEnd_jf0 : (Rows.fnExactStewMayEndRow.wf (OpenSpec.ofChange Rows.fnExactStewMayEndSpec)) = true := by kernel_rfl
theorem fnExactStewMayEnd_jf3 : (Try.f7.params.all (Try.checked.prog.readableRec ·)) = true := by kernel_rfl
theorem fnExactStewMayEnd_jf4 : (namedTie Try.checked.prog Rows.fnExactStewMayEndRow.named Rows.fnExactStewMayEndSpec.vars) = true := by kernel_rfl
theorem fnExactStewMayEnd_jf5 : ((Rows.fnExactStewMayEndRow.stops == [])) = true := by kernel_rfl
theorem fnExactStewMayEnd_jf7 : ((Rows.fnExactStewMayEndRow.knobs == [])) = true := by kernel_rfl
theorem fnExactStewMayEnd_jf9 : ((Rows.fnExactStewMayEndRow.inPlace == Try.checked.prog.inPlace 7)) = true := by kernel_rfl
theorem fnExactStewMayEnd_jf10 : ((Rows.fnExactStewMayEndRow.unfollowed == Try.checked.prog.unfollowed 7)) = true := by kernel_rfl
theorem fnExactStewMayEnd_jf11 : ((Rows.fnExactStewMayEndRow.recurses == Try.checked.prog.recurses 7)) = true := by kernel_rfl
theorem fnExactStewMayEnd_jf12 : ((Rows.fnExactStewMayEndRow.named == Try.checked.prog.varsNamed 7)) = true := by kernel_rfl
theorem fnExactStewMayEnd_jf13 : ((Rows.fnExactStewMayEndRow.maps == (Try.f7.params.toList ++ Rows.fnExactStewMayEndSpec.plain.varTypes Try.checked.prog).any (Try.checked.prog.mapsRec ·))) = true := by kernel_rfl
theorem fnExactStewMayEnd_jf14 : ((Rows.fnExactStewMayEndRow.ifaces == (Try.f7.params.toList ++ Rows.fnExactStewMayEndSpec.plain.varTypes Try.checked.prog).any (Try.checked.prog.ifacesRec ·))) = true := by kernel_rfl
theorem fnExactStewMayEnd_jf15 : ((Rows.fnExactStewMayEndRow.mapsOut == Try.checked.prog.mapsAmong Try.f7.resultTypes.toList)) = true := by kernel_rfl
theorem fnExactStewMayEnd_jf16 : ((Rows.fnExactStewMayEndRow.loops == (Try.f7.params.toList ++ Rows.fnExactStewMayEndSpec.plain.varTypes Try.checked.prog).any (Try.checked.prog.loopsFrom ·))) = true := by kernel_rfl
theorem fnExactStewMayEnd_jf17 : ((Rows.fnExactStewMayEndRow.wideKeys == (Try.f7.params.toList ++ Rows.fnExactStewMayEndSpec.plain.varTypes Try.checked.prog ++ Try.f7.resultTypes.toList).any (Try.checked.prog.wideKeysFrom ·))) = true := by kernel_rfl
theorem fnExactStewMayEnd_jf18 : (Rows.fnExactStewMayEndSpec.vars.all (Try.checked.prog.varReadable ·)) = true := by kernel_rfl
theorem fnExactStewMayEnd_jf19 : (Try.f7.resultTypes.all (fun t => Try.checked.prog.readableRec t && decide (t < Try.checked.prog.types.size))) = true := by kernel_rfl
theorem fnExactStewMayEnd_jf20 : ((Rows.fnExactStewMayEndRow.ifacesOut == Try.f7.resultTypes.toList.any (Try.checked.prog.ifacesRec ·))) = true := by kernel_rfl
theorem fnExactStewMayEnd_jf21 : ((Rows.fnExactStewMayEndRow.loopsOut == Try.f7.resultTypes.toList.any (Try.checked.prog.loopsFrom ·))) = true := by kernel_rfl
theorem fnExactStewMayEnd_jf22 : ((Rows.fnExactStewMayEndRow.plainKeys == Try.checked.prog.plainKeys)) = true := by kernel_rfl
theorem fnExactStewMayEnd_jf23 : (Rows.fnExactStewMayEndRow.shortTexts.isNone) = true := by kernel_rfl
theorem fnExactStewMayEnd_jf28 : ((Rows.fnExactStewMayEndRow.kinds == (if Rows.fnExactStewMayEndRow.domain.isEmpty then [] else Try.f7.params.toList.map fun t => match Try.checked.prog.underlying t with | some (.int k) => some k | _ => none))) = true := by kernel_rfl
theorem fnExactStewMayEnd_jf29 : ((Rows.fnExactStewMayEndRow.pinned == Rows.fnExactStewMayEndRow.pinnedBy)) = true := by kernel_rfl
theorem fnExactStewMayEnd_jf30 : ((Rows.fnExactStewMayEndRow.veiled == (Try.f7.params.toList ++ Rows.fnExactStewMayEndSpec.plain.varTypes Try.checked.prog ++ Try.f7.resultTypes.toList).any (Try.checked.prog.veiledRec ·))) = true := by kernel_rfl
theorem fnExactStewMayEnd_jf31 : (Rows.fnExactStewMayEndRow.veiledFits Try.checked.prog Try.f7.params.toList (Try.f7.params.toList ++ Rows.fnExactStewMayEndSpec.plain.varTypes Try.checked.prog ++ Try.f7.resultTypes.toList)) = true := by kernel_rfl
theorem fnExactStewMayEnd_jf : joinedFacts Try.checked.prog 7 Try.f7 Rows.fnExactStewMayEndSpec Rows.fnExactStewMayEndRow = true := (and_mk (and_mk (and_mk (and_mk (and_mk (and_mk (and_mk (and_mk (and_mk (and_mk (and_mk (and_mk (and_mk (and_mk (and_mk (and_mk (and_mk (and_mk (and_mk (and_mk (and_mk (and_mk (and_mk (and_mk (and_mk (and_mk (and_mk (and_mk (and_mk (and_mk (and_mk fnExactStewMayEnd_jf0 fac1) fac2) fnExactStewMayEnd_jf3) fnExactStewMayEnd_jf4) fnExactStewMayEnd_jf5) fac6) fnExactStewMayEnd_jf7) fac8) fnExactStewMayEnd_jf9) fnExactStewMayEnd_jf10) fnExactStewMayEnd_jf11) fnExactStewMayEnd_jf12) fnExactStewMayEnd_jf13) fnExactStewMayEnd_jf14) fnExactStewMayEnd_jf15) fnExactStewMayEnd_jf16) fnExactStewMayEnd_jf17) fnExactStewMayEnd_jf18) fnExactStewMayEnd_jf19) fnExactStewMayEnd_jf20) fnExactStewMayEnd_jf21) fnExactStewMayEnd_jf22) fnExactStewMayEnd_jf23) fac24) fac25) fac26) fac27) fnExactStewMayEnd_jf28) fnExactStewMayEnd_jf29) fnExactStewMayEnd_jf30) fnExactStewMayEnd_jf31)
theorem fnExactStewMayEnd_holds : Rows.FnExactStewMayEndSaid :=
  OpenClaim.holds_of_wide 7 Try.f7 rfl rfl rfl rfl rfl rfl rfl ⟨rfl, rfl, rfl, rfl, rfl⟩ rfl rfl rfl rfl rfl (by kernel_rfl) Try.func7 fnExactStewMayEnd_jf
    (of_decide_eq_true (by kernel_rfl)) (by unfold Func.isWrapper; first | (rw [if_pos (by decide +kernel)]; kernel_rfl) | (rw [if_neg (by decide +kernel)]; exact ⟨rfl, rfl⟩))
    (fun os started H enc _ => fnExactStewMayEnd_lifted os started H enc)
#print axioms fnExactStewMayEnd_holds
end Go.Proofs.Ytalddljlemppnaa

