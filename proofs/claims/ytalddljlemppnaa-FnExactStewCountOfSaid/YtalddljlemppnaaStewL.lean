/- The law FnExactStewCountOf returns true at every input; nothing is asked of the input beyond what the row itself asks. -/
import Derived.Test.YtalddljlemppnaaStewG
import Derived.Test.YtalddljlemppnaaStewK
import Derived.Test.YtalddljlemppnaaRows
set_option linter.unusedSimpArgs false
set_option linter.unusedVariables false
namespace Go.Ab
open Go Go.RowKit Go.Proofs
attribute [local irreducible] XC Rdr IntKind.wrap xw xos xqs xr
set_option maxRecDepth 100000

end Go.Ab
namespace Go.Proofs.Ytalddljlemppnaa
open Go Go.RowKit Go.ChangeShapes Go.WideShapes Go.ChangeAt Go.Ab
theorem ownfnExactStewCountOf : ownKnob Try.prog.godebug = none := by kernel_rfl
theorem laidfnExactStewCountOf : laidOutB Try.prog = true := by kernel_rfl
set_option maxRecDepth 100000 in
theorem fnExactStewCountOf_lifted (os : Os) (started : os.Started) (H : Type) (enc : TypeId × Value → H) :
    ReturnsInHanded {} Try.checked os 6 .any (Rows.fnExactStewCountOfSpec.pre6 enc Try.prog Try.f6 Rows.fnExactStewCountOfRow.domain Rows.fnExactStewCountOfRow.apart) (Rows.fnExactStewCountOfSpec.post enc Try.prog Try.f6 Rows.fnExactStewCountOfRow.apart Rows.fnExactStewCountOfRow.fresh Rows.fnExactStewCountOfRow.handsOn Rows.fnExactStewCountOfRow.again) :=
  law_reads (C := Try.checked) (bt := 4) ownfnExactStewCountOf started (by kernel_rfl) Try.func6
    (ChangeSpec.witness6 (enc := enc) (C := Try.checked) false ⟨#[], #[.agg #[.int .i64 0, .slice none 0 0, .slice none 0 0, .slice none 0 0], .string ⟨#[]⟩], []⟩ 8 (by kernel_rfl) (by kernel_rfl) (by kernel_rfl) (by kernel_rfl))
    laidfnExactStewCountOf [.st [.int .i64, .sl 13 (.st [.str, .int .i64, .bool, .int .i64, .int .i64, .int .i64, .int .i64, .int .i64, .int .i64, .int .i64, .int .i64, .int .i64, .int .i64]), .sl 7 (.st [.str, .int .i64, .int .i64, .int .i64, .int .i64, .bool, .str]), .sl 2 (.st [.str, .bool])], .str] (by kernel_rfl) rfl rfl Try.underlying4
    (fun ds hd => match ds, hd with | [d1, d2], _ => rfl)
    (fun ds h => by
      obtain ⟨_, _, rfl, h1, _, _, rfl, h2, rfl⟩ := h
      obtain ⟨x, rfl, hw⟩ := args_StewBook h1
      rw [Has] at h2
      obtain ⟨s, rfl, _⟩ := h2
      exact law_StewCountOf x s hw
)
set_option maxRecDepth 100000
theorem fnExactStewCountOf_jf0 : (Rows.fnExactStewCountOfRow.wf (OpenSpec.ofChange Rows.fnExactStewCountOfSpec)) = true := by kernel_rfl
theorem fnExactStewCountOf_jf3 : (Try.f6.params.all (Try.checked.prog.readableRec ·)) = true := by kernel_rfl
theorem fnExactStewCountOf_jf4 : (namedTie Try.checked.prog Rows.fnExactStewCountOfRow.named Rows.fnExactStewCountOfSpec.vars) = true := by kernel_rfl
theorem fnExactStewCountOf_jf5 : ((Rows.fnExactStewCountOfRow.stops == [])) = true := by kernel_rfl
theorem fnExactStewCountOf_jf7 : ((Rows.fnExactStewCountOfRow.knobs == [])) = true := by kernel_rfl
theorem fnExactStewCountOf_jf9 : ((Rows.fnExactStewCountOfRow.inPlace == Try.checked.prog.inPlace 6)) = true := by kernel_rfl
theorem fnExactStewCountOf_jf10 : ((Rows.fnExactStewCountOfRow.unfollowed == Try.checked.prog.unfollowed 6)) = true := by kernel_rfl
theorem fnExactStewCountOf_jf11 : ((Rows.fnExactStewCountOfRow.recurses == Try.checked.prog.recurses 6)) = true := by kernel_rfl
theorem fnExactStewCountOf_jf12 : ((Rows.fnExactStewCountOfRow.named == Try.checked.prog.varsNamed 6)) = true := by kernel_rfl
theorem fnExactStewCountOf_jf13 : ((Rows.fnExactStewCountOfRow.maps == (Try.f6.params.toList ++ Rows.fnExactStewCountOfSpec.plain.varTypes Try.checked.prog).any (Try.checked.prog.mapsRec ·))) = true := by kernel_rfl
theorem fnExactStewCountOf_jf14 : ((Rows.fnExactStewCountOfRow.ifaces == (Try.f6.params.toList ++ Rows.fnExactStewCountOfSpec.plain.varTypes Try.checked.prog).any (Try.checked.prog.ifacesRec ·))) = true := by kernel_rfl
theorem fnExactStewCountOf_jf15 : ((Rows.fnExactStewCountOfRow.mapsOut == Try.checked.prog.mapsAmong Try.f6.resultTypes.toList)) = true := by kernel_rfl
theorem fnExactStewCountOf_jf16 : ((Rows.fnExactStewCountOfRow.loops == (Try.f6.params.toList ++ Rows.fnExactStewCountOfSpec.plain.varTypes Try.checked.prog).any (Try.checked.prog.loopsFrom ·))) = true := by kernel_rfl
theorem fnExactStewCountOf_jf17 : ((Rows.fnExactStewCountOfRow.wideKeys == (Try.f6.params.toList ++ Rows.fnExactStewCountOfSpec.plain.varTypes Try.checked.prog ++ Try.f6.resultTypes.toList).any (Try.checked.prog.wideKeysFrom ·))) = true := by kernel_rfl
theorem fnExactStewCountOf_jf18 : (Rows.fnExactStewCountOfSpec.vars.all (Try.checked.prog.varReadable ·)) = true := by kernel_rfl
theorem fnExactStewCountOf_jf19 : (Try.f6.resultTypes.all (fun t => Try.checked.prog.readableRec t && decide (t < Try.checked.prog.types.size))) = true := by kernel_rfl
theorem fnExactStewCountOf_jf20 : ((Rows.fnExactStewCountOfRow.ifacesOut == Try.f6.resultTypes.toList.any (Try.checked.prog.ifacesRec ·))) = true := by kernel_rfl
theorem fnExactStewCountOf_jf21 : ((Rows.fnExactStewCountOfRow.loopsOut == Try.f6.resultTypes.toList.any (Try.checked.prog.loopsFrom ·))) = true := by kernel_rfl
theorem fnExactStewCountOf_jf22 : ((Rows.fnExactStewCountOfRow.plainKeys == Try.checked.prog.plainKeys)) = true := by kernel_rfl
theorem fnExactStewCountOf_jf23 : (Rows.fnExactStewCountOfRow.shortTexts.isNone) = true := by kernel_rfl
theorem fnExactStewCountOf_jf28 : ((Rows.fnExactStewCountOfRow.kinds == (if Rows.fnExactStewCountOfRow.domain.isEmpty then [] else Try.f6.params.toList.map fun t => match Try.checked.prog.underlying t with | some (.int k) => some k | _ => none))) = true := by kernel_rfl
theorem fnExactStewCountOf_jf29 : ((Rows.fnExactStewCountOfRow.pinned == Rows.fnExactStewCountOfRow.pinnedBy)) = true := by kernel_rfl
theorem fnExactStewCountOf_jf30 : ((Rows.fnExactStewCountOfRow.veiled == (Try.f6.params.toList ++ Rows.fnExactStewCountOfSpec.plain.varTypes Try.checked.prog ++ Try.f6.resultTypes.toList).any (Try.checked.prog.veiledRec ·))) = true := by kernel_rfl
theorem fnExactStewCountOf_jf31 : (Rows.fnExactStewCountOfRow.veiledFits Try.checked.prog Try.f6.params.toList (Try.f6.params.toList ++ Rows.fnExactStewCountOfSpec.plain.varTypes Try.checked.prog ++ Try.f6.resultTypes.toList)) = true := by kernel_rfl
theorem fnExactStewCountOf_jf : joinedFacts Try.checked.prog 6 Try.f6 Rows.fnExactStewCountOfSpec Rows.fnExactStewCountOfRow = true := (and_mk (and_mk (and_mk (and_mk (and_mk (and_mk (and_mk (and_mk (and_mk (and_mk (and_mk (and_mk (and_mk (and_mk (and_mk (and_mk (and_mk (and_mk (and_mk (and_mk (and_mk (and_mk (and_mk (and_mk (and_mk (and_mk (and_mk (and_mk (and_mk (and_mk (and_mk fnExactStewCountOf_jf0 fac1) fac2) fnExactStewCountOf_jf3) fnExactStewCountOf_jf4) fnExactStewCountOf_jf5) fac6) fnExactStewCountOf_jf7) fac8) fnExactStewCountOf_jf9) fnExactStewCountOf_jf10) fnExactStewCountOf_jf11) fnExactStewCountOf_jf12) fnExactStewCountOf_jf13) fnExactStewCountOf_jf14) fnExactStewCountOf_jf15) fnExactStewCountOf_jf16) fnExactStewCountOf_jf17) fnExactStewCountOf_jf18) fnExactStewCountOf_jf19) fnExactStewCountOf_jf20) fnExactStewCountOf_jf21) fnExactStewCountOf_jf22) fnExactStewCountOf_jf23) fac24) fac25) fac26) fac27) fnExactStewCountOf_jf28) fnExactStewCountOf_jf29) fnExactStewCountOf_jf30) fnExactStewCountOf_jf31)
theorem fnExactStewCountOf_holds : Rows.FnExactStewCountOfSaid :=
  OpenClaim.holds_of_wide 6 Try.f6 rfl rfl rfl rfl rfl rfl rfl ⟨rfl, rfl, rfl, rfl, rfl⟩ rfl rfl rfl rfl rfl (by kernel_rfl) Try.func6 fnExactStewCountOf_jf
    (of_decide_eq_true (by kernel_rfl)) (by unfold Func.isWrapper; first | (rw [if_pos (by decide +kernel)]; kernel_rfl) | (rw [if_neg (by decide +kernel)]; exact ⟨rfl, rfl⟩))
    (fun os started H enc _ => fnExactStewCountOf_lifted os started H enc)
#print axioms fnExactStewCountOf_holds
end Go.Proofs.Ytalddljlemppnaa

