/- The law FnExactFleetReportOf returns true at every input; nothing is asked of the input beyond what the row itself asks. -/
import Derived.Test.YtjajdgljjompgaaPiloJ
import Derived.Test.YtjajdgljjompgaaPiloI
import Derived.Test.YtjajdgljjompgaaRows
set_option linter.unusedSimpArgs false
set_option linter.unusedVariables false
namespace Go.Ab
open Go Go.RowKit Go.Proofs
attribute [local irreducible] XC Rdr IntKind.wrap xw xos xqs xr xd
set_option maxRecDepth 100000

end Go.Ab
namespace Go.Proofs.Ytjajdgljjompgaa
open Go Go.RowKit Go.ChangeShapes Go.WideShapes Go.ChangeAt Go.Ab
theorem ownfnExactFleetReportOf : ownKnob Try.prog.godebug = none := by kernel_rfl
theorem laidfnExactFleetReportOf : laidOutB Try.prog = true := by kernel_rfl
set_option maxRecDepth 100000 in
theorem fnExactFleetReportOf_lifted (os : Os) (started : os.Started) (H : Type) (enc : TypeId × Value → H) :
    ReturnsInHanded {} Try.checked os 7 .any (Rows.fnExactFleetReportOfSpec.pre6 enc Try.prog Try.f7 Rows.fnExactFleetReportOfRow.domain Rows.fnExactFleetReportOfRow.apart) (Rows.fnExactFleetReportOfSpec.post enc Try.prog Try.f7 Rows.fnExactFleetReportOfRow.apart Rows.fnExactFleetReportOfRow.fresh Rows.fnExactFleetReportOfRow.handsOn Rows.fnExactFleetReportOfRow.again) :=
  law_reads (C := Try.checked) (bt := 4) ownfnExactFleetReportOf started (by kernel_rfl) Try.func7
    (ChangeSpec.witness6 (enc := enc) (C := Try.checked) false ⟨#[], #[.agg #[.string ⟨#[]⟩, .bool false, .int .i64 0, .bool false, .int .i64 0, .slice none 0 0, .slice none 0 0, .slice none 0 0, .slice none 0 0]], []⟩ 8 (by kernel_rfl) (by kernel_rfl) (by kernel_rfl) (by kernel_rfl))
    laidfnExactFleetReportOf [.st [.str, .bool, .int .i64, .bool, .int .i64, .sl 7 (.st [.str, .int .i64, .str, .int .i64, .int .i64, .int .i64, .int .i64]), .sl 11 (.st [.st [.str, .int .i64, .str, .int .i64, .int .i64, .int .i64, .int .i64], .int .i64, .int .i64, .int .i64, .int .i64]), .sl 4 (.st [.str, .str, .int .i64, .int .i64]), .sl 4 (.st [.str, .str, .int .i64, .int .i64])]] (by kernel_rfl) rfl rfl Try.underlying4
    (fun ds hd => match ds, hd with | [d1], _ => rfl)
    (fun ds h => by
      obtain ⟨_, _, rfl, h1, rfl⟩ := h
      obtain ⟨x, rfl, hw⟩ := args_Mate h1
      exact law_Rep x hw
)
set_option maxRecDepth 100000
theorem fnExactFleetReportOf_jf0 : (Rows.fnExactFleetReportOfRow.wf (OpenSpec.ofChange Rows.fnExactFleetReportOfSpec)) = true := by kernel_rfl
theorem fnExactFleetReportOf_jf3 : (Try.f7.params.all (Try.checked.prog.readableRec ·)) = true := by kernel_rfl
theorem fnExactFleetReportOf_jf4 : (namedTie Try.checked.prog Rows.fnExactFleetReportOfRow.named Rows.fnExactFleetReportOfSpec.vars) = true := by kernel_rfl
theorem fnExactFleetReportOf_jf5 : ((Rows.fnExactFleetReportOfRow.stops == [])) = true := by kernel_rfl
theorem fnExactFleetReportOf_jf7 : ((Rows.fnExactFleetReportOfRow.knobs == [])) = true := by kernel_rfl
theorem fnExactFleetReportOf_jf9 : ((Rows.fnExactFleetReportOfRow.inPlace == Try.checked.prog.inPlace 7)) = true := by kernel_rfl
theorem fnExactFleetReportOf_jf10 : ((Rows.fnExactFleetReportOfRow.unfollowed == Try.checked.prog.unfollowed 7)) = true := by kernel_rfl
theorem fnExactFleetReportOf_jf11 : ((Rows.fnExactFleetReportOfRow.recurses == Try.checked.prog.recurses 7)) = true := by kernel_rfl
theorem fnExactFleetReportOf_jf12 : ((Rows.fnExactFleetReportOfRow.named == Try.checked.prog.varsNamed 7)) = true := by kernel_rfl
theorem fnExactFleetReportOf_jf13 : ((Rows.fnExactFleetReportOfRow.maps == (Try.f7.params.toList ++ Rows.fnExactFleetReportOfSpec.plain.varTypes Try.checked.prog).any (Try.checked.prog.mapsRec ·))) = true := by kernel_rfl
theorem fnExactFleetReportOf_jf14 : ((Rows.fnExactFleetReportOfRow.ifaces == (Try.f7.params.toList ++ Rows.fnExactFleetReportOfSpec.plain.varTypes Try.checked.prog).any (Try.checked.prog.ifacesRec ·))) = true := by kernel_rfl
theorem fnExactFleetReportOf_jf15 : ((Rows.fnExactFleetReportOfRow.mapsOut == Try.checked.prog.mapsAmong Try.f7.resultTypes.toList)) = true := by kernel_rfl
theorem fnExactFleetReportOf_jf16 : ((Rows.fnExactFleetReportOfRow.loops == (Try.f7.params.toList ++ Rows.fnExactFleetReportOfSpec.plain.varTypes Try.checked.prog).any (Try.checked.prog.loopsFrom ·))) = true := by kernel_rfl
theorem fnExactFleetReportOf_jf17 : ((Rows.fnExactFleetReportOfRow.wideKeys == (Try.f7.params.toList ++ Rows.fnExactFleetReportOfSpec.plain.varTypes Try.checked.prog ++ Try.f7.resultTypes.toList).any (Try.checked.prog.wideKeysFrom ·))) = true := by kernel_rfl
theorem fnExactFleetReportOf_jf18 : (Rows.fnExactFleetReportOfSpec.vars.all (Try.checked.prog.varReadable ·)) = true := by kernel_rfl
theorem fnExactFleetReportOf_jf19 : (Try.f7.resultTypes.all (fun t => Try.checked.prog.readableRec t && decide (t < Try.checked.prog.types.size))) = true := by kernel_rfl
theorem fnExactFleetReportOf_jf20 : ((Rows.fnExactFleetReportOfRow.ifacesOut == Try.f7.resultTypes.toList.any (Try.checked.prog.ifacesRec ·))) = true := by kernel_rfl
theorem fnExactFleetReportOf_jf21 : ((Rows.fnExactFleetReportOfRow.loopsOut == Try.f7.resultTypes.toList.any (Try.checked.prog.loopsFrom ·))) = true := by kernel_rfl
theorem fnExactFleetReportOf_jf22 : ((Rows.fnExactFleetReportOfRow.plainKeys == Try.checked.prog.plainKeys)) = true := by kernel_rfl
theorem fnExactFleetReportOf_jf23 : (Rows.fnExactFleetReportOfRow.shortTexts.isNone) = true := by kernel_rfl
theorem fnExactFleetReportOf_jf28 : ((Rows.fnExactFleetReportOfRow.kinds == (if Rows.fnExactFleetReportOfRow.domain.isEmpty then [] else Try.f7.params.toList.map fun t => match Try.checked.prog.underlying t with | some (.int k) => some k | _ => none))) = true := by kernel_rfl
theorem fnExactFleetReportOf_jf29 : ((Rows.fnExactFleetReportOfRow.pinned == Rows.fnExactFleetReportOfRow.pinnedBy)) = true := by kernel_rfl
theorem fnExactFleetReportOf_jf30 : ((Rows.fnExactFleetReportOfRow.veiled == (Try.f7.params.toList ++ Rows.fnExactFleetReportOfSpec.plain.varTypes Try.checked.prog ++ Try.f7.resultTypes.toList).any (Try.checked.prog.veiledRec ·))) = true := by kernel_rfl
theorem fnExactFleetReportOf_jf31 : (Rows.fnExactFleetReportOfRow.veiledFits Try.checked.prog Try.f7.params.toList (Try.f7.params.toList ++ Rows.fnExactFleetReportOfSpec.plain.varTypes Try.checked.prog ++ Try.f7.resultTypes.toList)) = true := by kernel_rfl
theorem fnExactFleetReportOf_jf : joinedFacts Try.checked.prog 7 Try.f7 Rows.fnExactFleetReportOfSpec Rows.fnExactFleetReportOfRow = true := (and_mk (and_mk (and_mk (and_mk (and_mk (and_mk (and_mk (and_mk (and_mk (and_mk (and_mk (and_mk (and_mk (and_mk (and_mk (and_mk (and_mk (and_mk (and_mk (and_mk (and_mk (and_mk (and_mk (and_mk (and_mk (and_mk (and_mk (and_mk (and_mk (and_mk (and_mk fnExactFleetReportOf_jf0 fac1) fac2) fnExactFleetReportOf_jf3) fnExactFleetReportOf_jf4) fnExactFleetReportOf_jf5) fac6) fnExactFleetReportOf_jf7) fac8) fnExactFleetReportOf_jf9) fnExactFleetReportOf_jf10) fnExactFleetReportOf_jf11) fnExactFleetReportOf_jf12) fnExactFleetReportOf_jf13) fnExactFleetReportOf_jf14) fnExactFleetReportOf_jf15) fnExactFleetReportOf_jf16) fnExactFleetReportOf_jf17) fnExactFleetReportOf_jf18) fnExactFleetReportOf_jf19) fnExactFleetReportOf_jf20) fnExactFleetReportOf_jf21) fnExactFleetReportOf_jf22) fnExactFleetReportOf_jf23) fac24) fac25) fac26) fac27) fnExactFleetReportOf_jf28) fnExactFleetReportOf_jf29) fnExactFleetReportOf_jf30) fnExactFleetReportOf_jf31)
theorem fnExactFleetReportOf_holds : Rows.FnExactFleetReportOfSaid :=
  OpenClaim.holds_of_wide 7 Try.f7 rfl rfl rfl rfl rfl rfl rfl ⟨rfl, rfl, rfl, rfl, rfl⟩ rfl rfl rfl rfl rfl (by kernel_rfl) Try.func7 fnExactFleetReportOf_jf
    (of_decide_eq_true (by kernel_rfl)) (by unfold Func.isWrapper; first | (rw [if_pos (by decide +kernel)]; kernel_rfl) | (rw [if_neg (by decide +kernel)]; exact ⟨rfl, rfl⟩))
    (fun os started H enc _ => fnExactFleetReportOf_lifted os started H enc)
#print axioms fnExactFleetReportOf_holds
end Go.Proofs.Ytjajdgljjompgaa

