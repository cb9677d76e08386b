/- The law FnExactMateFall returns true at every input; nothing is asked of the input beyond what the row itself asks. -/
import Derived.Test.YtagleaabhljkfaaMateG
import Derived.Test.YtagleaabhljkfaaMateFL
import Derived.Test.YtagleaabhljkfaaRows
set_option linter.unusedSimpArgs false
set_option linter.unusedVariables false
namespace Go.Ab
open Go Go.RowKit Go.Proofs
attribute [local irreducible] XC Rdr IntKind.wrap xw xos xqs xr xd
set_option maxRecDepth 100000

end Go.Ab
namespace Go.Proofs.Ytagleaabhljkfaa
open Go Go.RowKit Go.ChangeShapes Go.WideShapes Go.ChangeAt Go.Ab
theorem ownfnExactMateFall : ownKnob Try.prog.godebug = none := by kernel_rfl
theorem laidfnExactMateFall : laidOutB Try.prog = true := by kernel_rfl
set_option maxRecDepth 100000 in
theorem fnExactMateFall_lifted (os : Os) (started : os.Started) (H : Type) (enc : TypeId × Value → H) :
    ReturnsInHanded {} Try.checked os 12 .any (Rows.fnExactMateFallSpec.pre6 enc Try.prog Try.f12 Rows.fnExactMateFallRow.domain Rows.fnExactMateFallRow.apart) (Rows.fnExactMateFallSpec.post enc Try.prog Try.f12 Rows.fnExactMateFallRow.apart Rows.fnExactMateFallRow.fresh Rows.fnExactMateFallRow.handsOn Rows.fnExactMateFallRow.again) :=
  law_reads (C := Try.checked) (bt := 4) ownfnExactMateFall started (by kernel_rfl) Try.func12
    (ChangeSpec.witness6 (enc := enc) (C := Try.checked) false ⟨#[], #[.agg #[.string ⟨#[]⟩, .bool false, .int .i64 0, .bool false, .int .i64 0, .slice none 0 0, .slice none 0 0, .slice none 0 0, .slice none 0 0], .bool false], []⟩ 8 (by kernel_rfl) (by kernel_rfl) (by kernel_rfl) (by kernel_rfl))
    laidfnExactMateFall [.st [.str, .bool, .int .i64, .bool, .int .i64, .sl 7 (.st [.str, .int .i64, .str, .int .i64, .int .i64, .int .i64, .int .i64]), .sl 11 (.st [.st [.str, .int .i64, .str, .int .i64, .int .i64, .int .i64, .int .i64], .int .i64, .int .i64, .int .i64, .int .i64]), .sl 4 (.st [.str, .str, .int .i64, .int .i64]), .sl 4 (.st [.str, .str, .int .i64, .int .i64])], .bool] (by kernel_rfl) rfl rfl Try.underlying4
    (fun ds hd => match ds, hd with | [d1, d2], _ => rfl)
    (fun ds h => by
      obtain ⟨_, _, rfl, h1, _, _, rfl, h2, rfl⟩ := h
      obtain ⟨x, rfl, hw⟩ := args_Mate h1
      rw [Has] at h2
      obtain ⟨m, rfl⟩ := h2
      exact law_Fall x m hw
)
set_option maxRecDepth 100000
theorem fnExactMateFall_jf0 : (Rows.fnExactMateFallRow.wf (OpenSpec.ofChange Rows.fnExactMateFallSpec)) = true := by kernel_rfl
theorem fnExactMateFall_jf3 : (Try.f12.params.all (Try.checked.prog.readableRec ·)) = true := by kernel_rfl
theorem fnExactMateFall_jf4 : (namedTie Try.checked.prog Rows.fnExactMateFallRow.named Rows.fnExactMateFallSpec.vars) = true := by kernel_rfl
theorem fnExactMateFall_jf5 : ((Rows.fnExactMateFallRow.stops == [])) = true := by kernel_rfl
theorem fnExactMateFall_jf7 : ((Rows.fnExactMateFallRow.knobs == [])) = true := by kernel_rfl
theorem fnExactMateFall_jf9 : ((Rows.fnExactMateFallRow.inPlace == Try.checked.prog.inPlace 12)) = true := by kernel_rfl
theorem fnExactMateFall_jf10 : ((Rows.fnExactMateFallRow.unfollowed == Try.checked.prog.unfollowed 12)) = true := by kernel_rfl
theorem fnExactMateFall_jf11 : ((Rows.fnExactMateFallRow.recurses == Try.checked.prog.recurses 12)) = true := by kernel_rfl
theorem fnExactMateFall_jf12 : ((Rows.fnExactMateFallRow.named == Try.checked.prog.varsNamed 12)) = true := by kernel_rfl
theorem fnExactMateFall_jf13 : ((Rows.fnExactMateFallRow.maps == (Try.f12.params.toList ++ Rows.fnExactMateFallSpec.plain.varTypes Try.checked.prog).any (Try.checked.prog.mapsRec ·))) = true := by kernel_rfl
theorem fnExactMateFall_jf14 : ((Rows.fnExactMateFallRow.ifaces == (Try.f12.params.toList ++ Rows.fnExactMateFallSpec.plain.varTypes Try.checked.prog).any (Try.checked.prog.ifacesRec ·))) = true := by kernel_rfl
theorem fnExactMateFall_jf15 : ((Rows.fnExactMateFallRow.mapsOut == Try.checked.prog.mapsAmong Try.f12.resultTypes.toList)) = true := by kernel_rfl
theorem fnExactMateFall_jf16 : ((Rows.fnExactMateFallRow.loops == (Try.f12.params.toList ++ Rows.fnExactMateFallSpec.plain.varTypes Try.checked.prog).any (Try.checked.prog.loopsFrom ·))) = true := by kernel_rfl
theorem fnExactMateFall_jf17 : ((Rows.fnExactMateFallRow.wideKeys == (Try.f12.params.toList ++ Rows.fnExactMateFallSpec.plain.varTypes Try.checked.prog ++ Try.f12.resultTypes.toList).any (Try.checked.prog.wideKeysFrom ·))) = true := by kernel_rfl
theorem fnExactMateFall_jf18 : (Rows.fnExactMateFallSpec.vars.all (Try.checked.prog.varReadable ·)) = true := by kernel_rfl
theorem fnExactMateFall_jf19 : (Try.f12.resultTypes.all (fun t => Try.checked.prog.readableRec t && decide (t < Try.checked.prog.types.size))) = true := by kernel_rfl
theorem fnExactMateFall_jf20 : ((Rows.fnExactMateFallRow.ifacesOut == Try.f12.resultTypes.toList.any (Try.checked.prog.ifacesRec ·))) = true := by kernel_rfl
theorem fnExactMateFall_jf21 : ((Rows.fnExactMateFallRow.loopsOut == Try.f12.resultTypes.toList.any (Try.checked.prog.loopsFrom ·))) = true := by kernel_rfl
theorem fnExactMateFall_jf22 : ((Rows.fnExactMateFallRow.plainKeys == Try.checked.prog.plainKeys)) = true := by kernel_rfl
theorem fnExactMateFall_jf23 : (Rows.fnExactMateFallRow.shortTexts.isNone) = true := by kernel_rfl
theorem fnExactMateFall_jf28 : ((Rows.fnExactMateFallRow.kinds == (if Rows.fnExactMateFallRow.domain.isEmpty then [] else Try.f12.params.toList.map fun t => match Try.checked.prog.underlying t with | some (.int k) => some k | _ => none))) = true := by kernel_rfl
theorem fnExactMateFall_jf29 : ((Rows.fnExactMateFallRow.pinned == Rows.fnExactMateFallRow.pinnedBy)) = true := by kernel_rfl
theorem fnExactMateFall_jf30 : ((Rows.fnExactMateFallRow.veiled == (Try.f12.params.toList ++ Rows.fnExactMateFallSpec.plain.varTypes Try.checked.prog ++ Try.f12.resultTypes.toList).any (Try.checked.prog.veiledRec ·))) = true := by kernel_rfl
theorem fnExactMateFall_jf31 : (Rows.fnExactMateFallRow.veiledFits Try.checked.prog Try.f12.params.toList (Try.f12.params.toList ++ Rows.fnExactMateFallSpec.plain.varTypes Try.checked.prog ++ Try.f12.resultTypes.toList)) = true := by kernel_rfl
theorem fnExactMateFall_jf : joinedFacts Try.checked.prog 12 Try.f12 Rows.fnExactMateFallSpec Rows.fnExactMateFallRow = true := (and_mk (and_mk (and_mk (and_mk (and_mk (and_mk (and_mk (and_mk (and_mk (and_mk (and_mk (and_mk (and_mk (and_mk (and_mk (and_mk (and_mk (and_mk (and_mk (and_mk (and_mk (and_mk (and_mk (and_mk (and_mk (and_mk (and_mk (and_mk (and_mk (and_mk (and_mk fnExactMateFall_jf0 fac1) fac2) fnExactMateFall_jf3) fnExactMateFall_jf4) fnExactMateFall_jf5) fac6) fnExactMateFall_jf7) fac8) fnExactMateFall_jf9) fnExactMateFall_jf10) fnExactMateFall_jf11) fnExactMateFall_jf12) fnExactMateFall_jf13) fnExactMateFall_jf14) fnExactMateFall_jf15) fnExactMateFall_jf16) fnExactMateFall_jf17) fnExactMateFall_jf18) fnExactMateFall_jf19) fnExactMateFall_jf20) fnExactMateFall_jf21) fnExactMateFall_jf22) fnExactMateFall_jf23) fac24) fac25) fac26) fac27) fnExactMateFall_jf28) fnExactMateFall_jf29) fnExactMateFall_jf30) fnExactMateFall_jf31)
theorem fnExactMateFall_holds : Rows.FnExactMateFallSaid :=
  OpenClaim.holds_of_wide 12 Try.f12 rfl rfl rfl rfl rfl rfl rfl ⟨rfl, rfl, rfl, rfl, rfl⟩ rfl rfl rfl rfl rfl (by kernel_rfl) Try.func12 fnExactMateFall_jf
    (of_decide_eq_true (by kernel_rfl)) (by unfold Func.isWrapper; first | (rw [if_pos (by decide +kernel)]; kernel_rfl) | (rw [if_neg (by decide +kernel)]; exact ⟨rfl, rfl⟩))
    (fun os started H enc _ => fnExactMateFall_lifted os started H enc)
#print axioms fnExactMateFall_holds
end Go.Proofs.Ytagleaabhljkfaa

