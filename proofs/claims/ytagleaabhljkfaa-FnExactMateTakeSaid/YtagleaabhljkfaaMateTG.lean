/- The law FnExactMateTake returns true at every input; nothing is asked of the input beyond what the row itself asks. -/
import Derived.Test.YtagleaabhljkfaaMateG
import Derived.Test.YtagleaabhljkfaaMateTF
import Derived.Test.YtagleaabhljkfaaRows
set_option linter.unusedSimpArgs false
set_option linter.unusedVariables false
namespace Go.Ab
open Go Go.RowKit Go.Proofs
attribute [local irreducible] XC Rdr IntKind.wrap xw xos xqs xr xd
set_option maxRecDepth 100000

end Go.Ab
namespace Go.Proofs.Ytagleaabhljkfaa
open Go Go.RowKit Go.ChangeShapes Go.WideShapes Go.ChangeAt Go.Ab
theorem ownfnExactMateTake : ownKnob Try.prog.godebug = none := by kernel_rfl
theorem laidfnExactMateTake : laidOutB Try.prog = true := by kernel_rfl
set_option maxRecDepth 100000 in
theorem fnExactMateTake_lifted (os : Os) (started : os.Started) (H : Type) (enc : TypeId × Value → H) :
    ReturnsInHanded {} Try.checked os 13 .any (Rows.fnExactMateTakeSpec.pre6 enc Try.prog Try.f13 Rows.fnExactMateTakeRow.domain Rows.fnExactMateTakeRow.apart) (Rows.fnExactMateTakeSpec.post enc Try.prog Try.f13 Rows.fnExactMateTakeRow.apart Rows.fnExactMateTakeRow.fresh Rows.fnExactMateTakeRow.handsOn Rows.fnExactMateTakeRow.again) :=
  law_reads (C := Try.checked) (bt := 4) ownfnExactMateTake started (by kernel_rfl) Try.func13
    (ChangeSpec.witness6 (enc := enc) (C := Try.checked) false ⟨#[], #[.agg #[.string ⟨#[]⟩, .bool false, .int .i64 0, .bool false, .int .i64 0, .slice none 0 0, .slice none 0 0, .slice none 0 0, .slice none 0 0], .agg #[.int .i64 0, .string ⟨#[]⟩, .int .i64 0, .slice none 0 0, .string ⟨#[]⟩, .string ⟨#[]⟩, .int .i64 0]], []⟩ 8 (by kernel_rfl) (by kernel_rfl) (by kernel_rfl) (by kernel_rfl))
    laidfnExactMateTake [.st [.str, .bool, .int .i64, .bool, .int .i64, .sl 7 (.st [.str, .int .i64, .str, .int .i64, .int .i64, .int .i64, .int .i64]), .sl 11 (.st [.st [.str, .int .i64, .str, .int .i64, .int .i64, .int .i64, .int .i64], .int .i64, .int .i64, .int .i64, .int .i64]), .sl 4 (.st [.str, .str, .int .i64, .int .i64]), .sl 4 (.st [.str, .str, .int .i64, .int .i64])], .st [.int .i64, .str, .int .i64, .sl 7 (.st [.str, .int .i64, .str, .int .i64, .int .i64, .int .i64, .int .i64]), .str, .str, .int .i64]] (by kernel_rfl) rfl rfl Try.underlying4
    (fun ds hd => match ds, hd with | [d1, d2], _ => rfl)
    (fun ds h => by
      obtain ⟨_, _, rfl, h1, _, _, rfl, h2, rfl⟩ := h
      obtain ⟨x, rfl, hw⟩ := args_Mate h1
      obtain ⟨p, rfl, hp⟩ := args_MateParcel h2
      exact law_Take x p hw hp
)
set_option maxRecDepth 100000
theorem fnExactMateTake_jf0 : (Rows.fnExactMateTakeRow.wf (OpenSpec.ofChange Rows.fnExactMateTakeSpec)) = true := by kernel_rfl
theorem fnExactMateTake_jf3 : (Try.f13.params.all (Try.checked.prog.readableRec ·)) = true := by kernel_rfl
theorem fnExactMateTake_jf4 : (namedTie Try.checked.prog Rows.fnExactMateTakeRow.named Rows.fnExactMateTakeSpec.vars) = true := by kernel_rfl
theorem fnExactMateTake_jf5 : ((Rows.fnExactMateTakeRow.stops == [])) = true := by kernel_rfl
theorem fnExactMateTake_jf7 : ((Rows.fnExactMateTakeRow.knobs == [])) = true := by kernel_rfl
theorem fnExactMateTake_jf9 : ((Rows.fnExactMateTakeRow.inPlace == Try.checked.prog.inPlace 13)) = true := by kernel_rfl
theorem fnExactMateTake_jf10 : ((Rows.fnExactMateTakeRow.unfollowed == Try.checked.prog.unfollowed 13)) = true := by kernel_rfl
theorem fnExactMateTake_jf11 : ((Rows.fnExactMateTakeRow.recurses == Try.checked.prog.recurses 13)) = true := by kernel_rfl
theorem fnExactMateTake_jf12 : ((Rows.fnExactMateTakeRow.named == Try.checked.prog.varsNamed 13)) = true := by kernel_rfl
theorem fnExactMateTake_jf13 : ((Rows.fnExactMateTakeRow.maps == (Try.f13.params.toList ++ Rows.fnExactMateTakeSpec.plain.varTypes Try.checked.prog).any (Try.checked.prog.mapsRec ·))) = true := by kernel_rfl
theorem fnExactMateTake_jf14 : ((Rows.fnExactMateTakeRow.ifaces == (Try.f13.params.toList ++ Rows.fnExactMateTakeSpec.plain.varTypes Try.checked.prog).any (Try.checked.prog.ifacesRec ·))) = true := by kernel_rfl
theorem fnExactMateTake_jf15 : ((Rows.fnExactMateTakeRow.mapsOut == Try.checked.prog.mapsAmong Try.f13.resultTypes.toList)) = true := by kernel_rfl
theorem fnExactMateTake_jf16 : ((Rows.fnExactMateTakeRow.loops == (Try.f13.params.toList ++ Rows.fnExactMateTakeSpec.plain.varTypes Try.checked.prog).any (Try.checked.prog.loopsFrom ·))) = true := by kernel_rfl
theorem fnExactMateTake_jf17 : ((Rows.fnExactMateTakeRow.wideKeys == (Try.f13.params.toList ++ Rows.fnExactMateTakeSpec.plain.varTypes Try.checked.prog ++ Try.f13.resultTypes.toList).any (Try.checked.prog.wideKeysFrom ·))) = true := by kernel_rfl
theorem fnExactMateTake_jf18 : (Rows.fnExactMateTakeSpec.vars.all (Try.checked.prog.varReadable ·)) = true := by kernel_rfl
theorem fnExactMateTake_jf19 : (Try.f13.resultTypes.all (fun t => Try.checked.prog.readableRec t && decide (t < Try.checked.prog.types.size))) = true := by kernel_rfl
theorem fnExactMateTake_jf20 : ((Rows.fnExactMateTakeRow.ifacesOut == Try.f13.resultTypes.toList.any (Try.checked.prog.ifacesRec ·))) = true := by kernel_rfl
theorem fnExactMateTake_jf21 : ((Rows.fnExactMateTakeRow.loopsOut == Try.f13.resultTypes.toList.any (Try.checked.prog.loopsFrom ·))) = true := by kernel_rfl
theorem fnExactMateTake_jf22 : ((Rows.fnExactMateTakeRow.plainKeys == Try.checked.prog.plainKeys)) = true := by kernel_rfl
theorem fnExactMateTake_jf23 : (Rows.fnExactMateTakeRow.shortTexts.isNone) = true := by kernel_rfl
theorem fnExactMateTake_jf28 : ((Rows.fnExactMateTakeRow.kinds == (if Rows.fnExactMateTakeRow.domain.isEmpty then [] else Try.f13.params.toList.map fun t => match Try.checked.prog.underlying t with | some (.int k) => some k | _ => none))) = true := by kernel_rfl
theorem fnExactMateTake_jf29 : ((Rows.fnExactMateTakeRow.pinned == Rows.fnExactMateTakeRow.pinnedBy)) = true := by kernel_rfl
theorem fnExactMateTake_jf30 : ((Rows.fnExactMateTakeRow.veiled == (Try.f13.params.toList ++ Rows.fnExactMateTakeSpec.plain.varTypes Try.checked.prog ++ Try.f13.resultTypes.toList).any (Try.checked.prog.veiledRec ·))) = true := by kernel_rfl
theorem fnExactMateTake_jf31 : (Rows.fnExactMateTakeRow.veiledFits Try.checked.prog Try.f13.params.toList (Try.f13.params.toList ++ Rows.fnExactMateTakeSpec.plain.varTypes Try.checked.prog ++ Try.f13.resultTypes.toList)) = true := by kernel_rfl
theorem fnExactMateTake_jf : joinedFacts Try.checked.prog 13 Try.f13 Rows.fnExactMateTakeSpec Rows.fnExactMateTakeRow = true := (and_mk (and_mk (and_mk (and_mk (and_mk (and_mk (and_mk (and_mk (and_mk (and_mk (and_mk (and_mk (and_mk (and_mk (and_mk (and_mk (and_mk (and_mk (and_mk (and_mk (and_mk (and_mk (and_mk (and_mk (and_mk (and_mk (and_mk (and_mk (and_mk (and_mk (and_mk fnExactMateTake_jf0 fac1) fac2) fnExactMateTake_jf3) fnExactMateTake_jf4) fnExactMateTake_jf5) fac6) fnExactMateTake_jf7) fac8) fnExactMateTake_jf9) fnExactMateTake_jf10) fnExactMateTake_jf11) fnExactMateTake_jf12) fnExactMateTake_jf13) fnExactMateTake_jf14) fnExactMateTake_jf15) fnExactMateTake_jf16) fnExactMateTake_jf17) fnExactMateTake_jf18) fnExactMateTake_jf19) fnExactMateTake_jf20) fnExactMateTake_jf21) fnExactMateTake_jf22) fnExactMateTake_jf23) fac24) fac25) fac26) fac27) fnExactMateTake_jf28) fnExactMateTake_jf29) fnExactMateTake_jf30) fnExactMateTake_jf31)
theorem fnExactMateTake_holds : Rows.FnExactMateTakeSaid :=
  OpenClaim.holds_of_wide 13 Try.f13 rfl rfl rfl rfl rfl rfl rfl ⟨rfl, rfl, rfl, rfl, rfl⟩ rfl rfl rfl rfl rfl (by kernel_rfl) Try.func13 fnExactMateTake_jf
    (of_decide_eq_true (by kernel_rfl)) (by unfold Func.isWrapper; first | (rw [if_pos (by decide +kernel)]; kernel_rfl) | (rw [if_neg (by decide +kernel)]; exact ⟨rfl, rfl⟩))
    (fun os started H enc _ => fnExactMateTake_lifted os started H enc)
#print axioms fnExactMateTake_holds
end Go.Proofs.Ytagleaabhljkfaa

