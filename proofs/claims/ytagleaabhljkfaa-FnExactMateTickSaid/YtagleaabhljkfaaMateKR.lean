/- The law FnExactMateTick returns true at every input; nothing is asked of the input beyond what the row itself asks. -/
import Derived.Test.YtagleaabhljkfaaMateG
import Derived.Test.YtagleaabhljkfaaMateKQ
import Derived.Test.YtagleaabhljkfaaRows
set_option linter.unusedSimpArgs false
set_option linter.unusedVariables false
namespace Go.Ab
open Go Go.RowKit Go.Proofs
attribute [local irreducible] XC Rdr IntKind.wrap xw xos xqs xr xd
set_option maxRecDepth 100000
end Go.Ab
namespace Go.Proofs.Ytagleaabhljkfaa
open Go Go.RowKit Go.ChangeShapes Go.WideShapes Go.ChangeAt Go.Ab
theorem ownfnExactMateTick : ownKnob Try.prog.godebug = none := by kernel_rfl
theorem laidfnExactMateTick : laidOutB Try.prog = true := by kernel_rfl
set_option maxRecDepth 100000 in
theorem fnExactMateTick_lifted (os : Os) (started : os.Started) (H : Type) (enc : TypeId × Value → H) :
  ReturnsInHanded {} Try.checked os 8 .any (Rows.fnExactMateTickSpec.pre6 enc Try.prog Try.f8 Rows.fnExactMateTickRow.domain Rows.fnExactMateTickRow.apart) (Rows.fnExactMateTickSpec.post enc Try.prog Try.f8 Rows.fnExactMateTickRow.apart Rows.fnExactMateTickRow.fresh Rows.fnExactMateTickRow.handsOn Rows.fnExactMateTickRow.again) :=
 law_reads (C := Try.checked) (bt := 4) ownfnExactMateTick started (by kernel_rfl) Try.func8
  (ChangeSpec.witness6 (enc := enc) (C := Try.checked) false ⟨#[], #[.agg #[.string ⟨#[]⟩, .bool false, .int .i64 0, .bool false, .int .i64 0, .slice none 0 0, .slice none 0 0, .slice none 0 0, .slice none 0 0], .int .i64 0], []⟩ 8 (by kernel_rfl) (by kernel_rfl) (by kernel_rfl) (by kernel_rfl))
  laidfnExactMateTick [.st [.str, .bool, .int .i64, .bool, .int .i64, .sl 7 (.st [.str, .int .i64, .str, .int .i64, .int .i64, .int .i64, .int .i64]), .sl 11 (.st [.st [.str, .int .i64, .str, .int .i64, .int .i64, .int .i64, .int .i64], .int .i64, .int .i64, .int .i64, .int .i64]), .sl 4 (.st [.str, .str, .int .i64, .int .i64]), .sl 4 (.st [.str, .str, .int .i64, .int .i64])], .int .i64] (by kernel_rfl) rfl rfl Try.underlying4
  (fun ds hd => match ds, hd with | [d1, d2], _ => rfl)
  (fun ds h => by
   obtain ⟨_, _, rfl, h1, _, _, rfl, h2, rfl⟩ := h
   obtain ⟨x, rfl, hw⟩ := args_Mate h1
   rw [Has] at h2
   obtain ⟨n, rfl, _⟩ := h2
   exact law_Tick x n hw
)
set_option maxRecDepth 100000
theorem fnExactMateTick_jf0 : (Rows.fnExactMateTickRow.wf (OpenSpec.ofChange Rows.fnExactMateTickSpec)) = true := by kernel_rfl
theorem fnExactMateTick_jf3 : (Try.f8.params.all (Try.checked.prog.readableRec ·)) = true := by kernel_rfl
theorem fnExactMateTick_jf4 : (namedTie Try.checked.prog Rows.fnExactMateTickRow.named Rows.fnExactMateTickSpec.vars) = true := by kernel_rfl
theorem fnExactMateTick_jf5 : ((Rows.fnExactMateTickRow.stops == [])) = true := by kernel_rfl
theorem fnExactMateTick_jf7 : ((Rows.fnExactMateTickRow.knobs == [])) = true := by kernel_rfl
theorem fnExactMateTick_jf9 : ((Rows.fnExactMateTickRow.inPlace == Try.checked.prog.inPlace 8)) = true := by kernel_rfl
theorem fnExactMateTick_jf10 : ((Rows.fnExactMateTickRow.unfollowed == Try.checked.prog.unfollowed 8)) = true := by kernel_rfl
theorem fnExactMateTick_jf11 : ((Rows.fnExactMateTickRow.recurses == Try.checked.prog.recurses 8)) = true := by kernel_rfl
theorem fnExactMateTick_jf12 : ((Rows.fnExactMateTickRow.named == Try.checked.prog.varsNamed 8)) = true := by kernel_rfl
theorem fnExactMateTick_jf13 : ((Rows.fnExactMateTickRow.maps == (Try.f8.params.toList ++ Rows.fnExactMateTickSpec.plain.varTypes Try.checked.prog).any (Try.checked.prog.mapsRec ·))) = true := by kernel_rfl
theorem fnExactMateTick_jf14 : ((Rows.fnExactMateTickRow.ifaces == (Try.f8.params.toList ++ Rows.fnExactMateTickSpec.plain.varTypes Try.checked.prog).any (Try.checked.prog.ifacesRec ·))) = true := by kernel_rfl
theorem fnExactMateTick_jf15 : ((Rows.fnExactMateTickRow.mapsOut == Try.checked.prog.mapsAmong Try.f8.resultTypes.toList)) = true := by kernel_rfl
theorem fnExactMateTick_jf16 : ((Rows.fnExactMateTickRow.loops == (Try.f8.params.toList ++ Rows.fnExactMateTickSpec.plain.varTypes Try.checked.prog).any (Try.checked.prog.loopsFrom ·))) = true := by kernel_rfl
theorem fnExactMateTick_jf17 : ((Rows.fnExactMateTickRow.wideKeys == (Try.f8.params.toList ++ Rows.fnExactMateTickSpec.plain.varTypes Try.checked.prog ++ Try.f8.resultTypes.toList).any (Try.checked.prog.wideKeysFrom ·))) = true := by kernel_rfl
theorem fnExactMateTick_jf18 : (Rows.fnExactMateTickSpec.vars.all (Try.checked.prog.varReadable ·)) = true := by kernel_rfl
theorem fnExactMateTick_jf19 : (Try.f8.resultTypes.all (fun t => Try.checked.prog.readableRec t && decide (t < Try.checked.prog.types.size))) = true := by kernel_rfl
theorem fnExactMateTick_jf20 : ((Rows.fnExactMateTickRow.ifacesOut == Try.f8.resultTypes.toList.any (Try.checked.prog.ifacesRec ·))) = true := by kernel_rfl
theorem fnExactMateTick_jf21 : ((Rows.fnExactMateTickRow.loopsOut == Try.f8.resultTypes.toList.any (Try.checked.prog.loopsFrom ·))) = true := by kernel_rfl
theorem fnExactMateTick_jf22 : ((Rows.fnExactMateTickRow.plainKeys == Try.checked.prog.plainKeys)) = true := by kernel_rfl
theorem fnExactMateTick_jf23 : (Rows.fnExactMateTickRow.shortTexts.isNone) = true := by kernel_rfl
theorem fnExactMateTick_jf28 : ((Rows.fnExactMateTickRow.kinds == (if Rows.fnExactMateTickRow.domain.isEmpty then [] else Try.f8.params.toList.map fun t => match Try.checked.prog.underlying t with | some (.int k) => some k | _ => none))) = true := by kernel_rfl
theorem fnExactMateTick_jf29 : ((Rows.fnExactMateTickRow.pinned == Rows.fnExactMateTickRow.pinnedBy)) = true := by kernel_rfl
theorem fnExactMateTick_jf30 : ((Rows.fnExactMateTickRow.veiled == (Try.f8.params.toList ++ Rows.fnExactMateTickSpec.plain.varTypes Try.checked.prog ++ Try.f8.resultTypes.toList).any (Try.checked.prog.veiledRec ·))) = true := by kernel_rfl
theorem fnExactMateTick_jf31 : (Rows.fnExactMateTickRow.veiledFits Try.checked.prog Try.f8.params.toList (Try.f8.params.toList ++ Rows.fnExactMateTickSpec.plain.varTypes Try.checked.prog ++ Try.f8.resultTypes.toList)) = true := by kernel_rfl
theorem fnExactMateTick_jf : joinedFacts Try.checked.prog 8 Try.f8 Rows.fnExactMateTickSpec Rows.fnExactMateTickRow = true := (and_mk (and_mk (and_mk (and_mk (and_mk (and_mk (and_mk (and_mk (and_mk (and_mk (and_mk (and_mk (and_mk (and_mk (and_mk (and_mk (and_mk (and_mk (and_mk (and_mk (and_mk (and_mk (and_mk (and_mk (and_mk (and_mk (and_mk (and_mk (and_mk (and_mk (and_mk fnExactMateTick_jf0 fac1) fac2) fnExactMateTick_jf3) fnExactMateTick_jf4) fnExactMateTick_jf5) fac6) fnExactMateTick_jf7) fac8) fnExactMateTick_jf9) fnExactMateTick_jf10) fnExactMateTick_jf11) fnExactMateTick_jf12) fnExactMateTick_jf13) fnExactMateTick_jf14) fnExactMateTick_jf15) fnExactMateTick_jf16) fnExactMateTick_jf17) fnExactMateTick_jf18) fnExactMateTick_jf19) fnExactMateTick_jf20) fnExactMateTick_jf21) fnExactMateTick_jf22) fnExactMateTick_jf23) fac24) fac25) fac26) fac27) fnExactMateTick_jf28) fnExactMateTick_jf29) fnExactMateTick_jf30) fnExactMateTick_jf31)
theorem fnExactMateTick_holds : Rows.FnExactMateTickSaid :=
 OpenClaim.holds_of_wide 8 Try.f8 rfl rfl rfl rfl rfl rfl rfl ⟨rfl, rfl, rfl, rfl, rfl⟩ rfl rfl rfl rfl rfl (by kernel_rfl) Try.func8 fnExactMateTick_jf
  (of_decide_eq_true (by kernel_rfl)) (by unfold Func.isWrapper; first | (rw [if_pos (by decide +kernel)]; kernel_rfl) | (rw [if_neg (by decide +kernel)]; exact ⟨rfl, rfl⟩))
  (fun os started H enc _ => fnExactMateTick_lifted os started H enc)
#print axioms fnExactMateTick_holds
end Go.Proofs.Ytagleaabhljkfaa
