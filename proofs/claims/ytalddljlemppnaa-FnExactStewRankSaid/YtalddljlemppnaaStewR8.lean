/- The law FnExactStewRank returns true at every input; nothing is asked of the input beyond what the row itself asks. -/
import Derived.Test.YtalddljlemppnaaStewG
import Derived.Test.YtalddljlemppnaaStewR7
import Derived.Test.YtalddljlemppnaaRows
set_option linter.unusedSimpArgs false
set_option linter.unusedVariables false
namespace Go.Ab
open Go Go.RowKit Go.Proofs
attribute [local irreducible] XC Rdr IntKind.wrap xw xos xqs xr xd
set_option maxRecDepth 100000

end Go.Ab
namespace Go.Proofs.Ytalddljlemppnaa
open Go Go.RowKit Go.ChangeShapes Go.WideShapes Go.ChangeAt Go.Ab
theorem ownfnExactStewRank : ownKnob Try.prog.godebug = none := by kernel_rfl
theorem laidfnExactStewRank : laidOutB Try.prog = true := by kernel_rfl
set_option maxRecDepth 100000 in
theorem fnExactStewRank_lifted (os : Os) (started : os.Started) (H : Type) (enc : TypeId × Value → H) :
    ReturnsInHanded {} Try.checked os 9 .any (Rows.fnExactStewRankSpec.pre6 enc Try.prog Try.f9 Rows.fnExactStewRankRow.domain Rows.fnExactStewRankRow.apart) (Rows.fnExactStewRankSpec.post enc Try.prog Try.f9 Rows.fnExactStewRankRow.apart Rows.fnExactStewRankRow.fresh Rows.fnExactStewRankRow.handsOn Rows.fnExactStewRankRow.again) :=
  law_reads (C := Try.checked) (bt := 4) ownfnExactStewRank started (by kernel_rfl) Try.func9
    (ChangeSpec.witness6 (enc := enc) (C := Try.checked) false ⟨#[], #[.agg #[.int .i64 0, .slice none 0 0, .slice none 0 0, .slice none 0 0]], []⟩ 8 (by kernel_rfl) (by kernel_rfl) (by kernel_rfl) (by kernel_rfl))
    laidfnExactStewRank [.st [.int .i64, .sl 13 (.st [.str, .int .i64, .bool, .int .i64, .int .i64, .int .i64, .int .i64, .int .i64, .int .i64, .int .i64, .int .i64, .int .i64, .int .i64]), .sl 7 (.st [.str, .int .i64, .int .i64, .int .i64, .int .i64, .bool, .str]), .sl 2 (.st [.str, .bool])]] (by kernel_rfl) rfl rfl Try.underlying4
    (fun ds hd => match ds, hd with | [d1], _ => rfl)
    (fun ds h => by
      obtain ⟨_, _, rfl, h1, rfl⟩ := h
      obtain ⟨x, rfl, hw⟩ := args_StewBook h1
      exact law_StewRank x hw
)
set_option maxRecDepth 100000
theorem fnExactStewRank_jf0 : (Rows.fnExactStewRankRow.wf (OpenSpec.ofChange Rows.fnExactStewRankSpec)) = true := by kernel_rfl
theorem fnExactStewRank_jf3 : (Try.f9.params.all (Try.checked.prog.readableRec ·)) = true := by kernel_rfl
theorem fnExactStewRank_jf4 : (namedTie Try.checked.prog Rows.fnExactStewRankRow.named Rows.fnExactStewRankSpec.vars) = true := by kernel_rfl
theorem fnExactStewRank_jf5 : ((Rows.fnExactStewRankRow.stops == [])) = true := by kernel_rfl
theorem fnExactStewRank_jf7 : ((Rows.fnExactStewRankRow.knobs == [])) = true := by kernel_rfl
theorem fnExactStewRank_jf9 : ((Rows.fnExactStewRankRow.inPlace == Try.checked.prog.inPlace 9)) = true := by kernel_rfl
theorem fnExactStewRank_jf10 : ((Rows.fnExactStewRankRow.unfollowed == Try.checked.prog.unfollowed 9)) = true := by kernel_rfl
theorem fnExactStewRank_jf11 : ((Rows.fnExactStewRankRow.recurses == Try.checked.prog.recurses 9)) = true := by kernel_rfl
theorem fnExactStewRank_jf12 : ((Rows.fnExactStewRankRow.named == Try.checked.prog.varsNamed 9)) = true := by kernel_rfl
theorem fnExactStewRank_jf13 : ((Rows.fnExactStewRankRow.maps == (Try.f9.params.toList ++ Rows.fnExactStewRankSpec.plain.varTypes Try.checked.prog).any (Try.checked.prog.mapsRec ·))) = true := by kernel_rfl
theorem fnExactStewRank_jf14 : ((Rows.fnExactStewRankRow.ifaces == (Try.f9.params.toList ++ Rows.fnExactStewRankSpec.plain.varTypes Try.checked.prog).any (Try.checked.prog.ifacesRec ·))) = true := by kernel_rfl
theorem fnExactStewRank_jf15 : ((Rows.fnExactStewRankRow.mapsOut == Try.checked.prog.mapsAmong Try.f9.resultTypes.toList)) = true := by kernel_rfl
theorem fnExactStewRank_jf16 : ((Rows.fnExactStewRankRow.loops == (Try.f9.params.toList ++ Rows.fnExactStewRankSpec.plain.varTypes Try.checked.prog).any (Try.checked.prog.loopsFrom ·))) = true := by kernel_rfl
theorem fnExactStewRank_jf17 : ((Rows.fnExactStewRankRow.wideKeys == (Try.f9.params.toList ++ Rows.fnExactStewRankSpec.plain.varTypes Try.checked.prog ++ Try.f9.resultTypes.toList).any (Try.checked.prog.wideKeysFrom ·))) = true := by kernel_rfl
theorem fnExactStewRank_jf18 : (Rows.fnExactStewRankSpec.vars.all (Try.checked.prog.varReadable ·)) = true := by kernel_rfl
theorem fnExactStewRank_jf19 : (Try.f9.resultTypes.all (fun t => Try.checked.prog.readableRec t && decide (t < Try.checked.prog.types.size))) = true := by kernel_rfl
theorem fnExactStewRank_jf20 : ((Rows.fnExactStewRankRow.ifacesOut == Try.f9.resultTypes.toList.any (Try.checked.prog.ifacesRec ·))) = true := by kernel_rfl
theorem fnExactStewRank_jf21 : ((Rows.fnExactStewRankRow.loopsOut == Try.f9.resultTypes.toList.any (Try.checked.prog.loopsFrom ·))) = true := by kernel_rfl
theorem fnExactStewRank_jf22 : ((Rows.fnExactStewRankRow.plainKeys == Try.checked.prog.plainKeys)) = true := by kernel_rfl
theorem fnExactStewRank_jf23 : (Rows.fnExactStewRankRow.shortTexts.isNone) = true := by kernel_rfl
theorem fnExactStewRank_jf28 : ((Rows.fnExactStewRankRow.kinds == (if Rows.fnExactStewRankRow.domain.isEmpty then [] else Try.f9.params.toList.map fun t => match Try.checked.prog.underlying t with | some (.int k) => some k | _ => none))) = true := by kernel_rfl
theorem fnExactStewRank_jf29 : ((Rows.fnExactStewRankRow.pinned == Rows.fnExactStewRankRow.pinnedBy)) = true := by kernel_rfl
theorem fnExactStewRank_jf30 : ((Rows.fnExactStewRankRow.veiled == (Try.f9.params.toList ++ Rows.fnExactStewRankSpec.plain.varTypes Try.checked.prog ++ Try.f9.resultTypes.toList).any (Try.checked.prog.veiledRec ·))) = true := by kernel_rfl
theorem fnExactStewRank_jf31 : (Rows.fnExactStewRankRow.veiledFits Try.checked.prog Try.f9.params.toList (Try.f9.params.toList ++ Rows.fnExactStewRankSpec.plain.varTypes Try.checked.prog ++ Try.f9.resultTypes.toList)) = true := by kernel_rfl
theorem fnExactStewRank_jf : joinedFacts Try.checked.prog 9 Try.f9 Rows.fnExactStewRankSpec Rows.fnExactStewRankRow = true := (and_mk (and_mk (and_mk (and_mk (and_mk (and_mk (and_mk (and_mk (and_mk (and_mk (and_mk (and_mk (and_mk (and_mk (and_mk (and_mk (and_mk (and_mk (and_mk (and_mk (and_mk (and_mk (and_mk (and_mk (and_mk (and_mk (and_mk (and_mk (and_mk (and_mk (and_mk fnExactStewRank_jf0 fac1) fac2) fnExactStewRank_jf3) fnExactStewRank_jf4) fnExactStewRank_jf5) fac6) fnExactStewRank_jf7) fac8) fnExactStewRank_jf9) fnExactStewRank_jf10) fnExactStewRank_jf11) fnExactStewRank_jf12) fnExactStewRank_jf13) fnExactStewRank_jf14) fnExactStewRank_jf15) fnExactStewRank_jf16) fnExactStewRank_jf17) fnExactStewRank_jf18) fnExactStewRank_jf19) fnExactStewRank_jf20) fnExactStewRank_jf21) fnExactStewRank_jf22) fnExactStewRank_jf23) fac24) fac25) fac26) fac27) fnExactStewRank_jf28) fnExactStewRank_jf29) fnExactStewRank_jf30) fnExactStewRank_jf31)
theorem fnExactStewRank_holds : Rows.FnExactStewRankSaid :=
  OpenClaim.holds_of_wide 9 Try.f9 rfl rfl rfl rfl rfl rfl rfl ⟨rfl, rfl, rfl, rfl, rfl⟩ rfl rfl rfl rfl rfl (by kernel_rfl) Try.func9 fnExactStewRank_jf
    (of_decide_eq_true (by kernel_rfl)) (by unfold Func.isWrapper; first | (rw [if_pos (by decide +kernel)]; kernel_rfl) | (rw [if_neg (by decide +kernel)]; exact ⟨rfl, rfl⟩))
    (fun os started H enc _ => fnExactStewRank_lifted os started H enc)
#print axioms fnExactStewRank_holds
end Go.Proofs.Ytalddljlemppnaa

