/- The law FnExactPilotUsed returns true at every input; nothing is asked of the input beyond what the row itself asks. -/
import Derived.Test.YtjajdgljjompgaaPiloK
import Derived.Test.YtjajdgljjompgaaPiloV
import Derived.Test.YtjajdgljjompgaaRows
set_option linter.unusedSimpArgs false
set_option linter.unusedVariables false
namespace Go.Ab
open Go Go.RowKit Go.Proofs
attribute [local irreducible] XC Rdr IntKind.wrap xw xos xqs xr xd
set_option maxRecDepth 100000

end Go.Ab
namespace Go.Proofs.Ytjajdgljjompgaa
open Go Go.RowKit Go.ChangeShapes Go.WideShapes Go.ChangeAt Go.Ab
theorem ownfnExactPilotUsed : ownKnob Try.prog.godebug = none := by kernel_rfl
theorem laidfnExactPilotUsed : laidOutB Try.prog = true := by kernel_rfl
set_option maxRecDepth 100000 in
theorem fnExactPilotUsed_lifted (os : Os) (started : os.Started) (H : Type) (enc : TypeId × Value → H) :
    ReturnsInHanded {} Try.checked os 6 .any (Rows.fnExactPilotUsedSpec.pre6 enc Try.prog Try.f6 Rows.fnExactPilotUsedRow.domain Rows.fnExactPilotUsedRow.apart) (Rows.fnExactPilotUsedSpec.post enc Try.prog Try.f6 Rows.fnExactPilotUsedRow.apart Rows.fnExactPilotUsedRow.fresh Rows.fnExactPilotUsedRow.handsOn Rows.fnExactPilotUsedRow.again) :=
  law_reads (C := Try.checked) (bt := 4) ownfnExactPilotUsed started (by kernel_rfl) Try.func6
    (ChangeSpec.witness6 (enc := enc) (C := Try.checked) false ⟨#[], #[.agg #[.bool false, .slice none 0 0, .slice none 0 0, .slice none 0 0], .string ⟨#[]⟩], []⟩ 8 (by kernel_rfl) (by kernel_rfl) (by kernel_rfl) (by kernel_rfl))
    laidfnExactPilotUsed [.st [.bool, .sl 6 (.st [.str, .str, .sl 1 (.str), .int .i64, .int .i64, .bool]), .sl 2 (.st [.str, .int .i64]), .sl 12 (.st [.str, .str, .int .i64, .int .i64, .int .i64, .int .i64, .str, .sl 2 (.st [.str, .int .i64]), .int .i64, .str, .str, .str])], .str] (by kernel_rfl) rfl rfl Try.underlying4
    (fun ds hd => match ds, hd with | [d1, d2], _ => rfl)
    (fun ds h => by
      obtain ⟨_, _, rfl, h1, _, _, rfl, h2, rfl⟩ := h
      obtain ⟨x, rfl, hw⟩ := args_PilotFleet h1
      rw [Has] at h2
      obtain ⟨m, rfl, _⟩ := h2
      exact law_Used x m hw
)
set_option maxRecDepth 100000
theorem fnExactPilotUsed_jf0 : (Rows.fnExactPilotUsedRow.wf (OpenSpec.ofChange Rows.fnExactPilotUsedSpec)) = true := by kernel_rfl
theorem fnExactPilotUsed_jf3 : (Try.f6.params.all (Try.checked.prog.readableRec ·)) = true := by kernel_rfl
theorem fnExactPilotUsed_jf4 : (namedTie Try.checked.prog Rows.fnExactPilotUsedRow.named Rows.fnExactPilotUsedSpec.vars) = true := by kernel_rfl
theorem fnExactPilotUsed_jf5 : ((Rows.fnExactPilotUsedRow.stops == [])) = true := by kernel_rfl
theorem fnExactPilotUsed_jf7 : ((Rows.fnExactPilotUsedRow.knobs == [])) = true := by kernel_rfl
theorem fnExactPilotUsed_jf9 : ((Rows.fnExactPilotUsedRow.inPlace == Try.checked.prog.inPlace 6)) = true := by kernel_rfl
theorem fnExactPilotUsed_jf10 : ((Rows.fnExactPilotUsedRow.unfollowed == Try.checked.prog.unfollowed 6)) = true := by kernel_rfl
theorem fnExactPilotUsed_jf11 : ((Rows.fnExactPilotUsedRow.recurses == Try.checked.prog.recurses 6)) = true := by kernel_rfl
theorem fnExactPilotUsed_jf12 : ((Rows.fnExactPilotUsedRow.named == Try.checked.prog.varsNamed 6)) = true := by kernel_rfl
theorem fnExactPilotUsed_jf13 : ((Rows.fnExactPilotUsedRow.maps == (Try.f6.params.toList ++ Rows.fnExactPilotUsedSpec.plain.varTypes Try.checked.prog).any (Try.checked.prog.mapsRec ·))) = true := by kernel_rfl
theorem fnExactPilotUsed_jf14 : ((Rows.fnExactPilotUsedRow.ifaces == (Try.f6.params.toList ++ Rows.fnExactPilotUsedSpec.plain.varTypes Try.checked.prog).any (Try.checked.prog.ifacesRec ·))) = true := by kernel_rfl
theorem fnExactPilotUsed_jf15 : ((Rows.fnExactPilotUsedRow.mapsOut == Try.checked.prog.mapsAmong Try.f6.resultTypes.toList)) = true := by kernel_rfl
theorem fnExactPilotUsed_jf16 : ((Rows.fnExactPilotUsedRow.loops == (Try.f6.params.toList ++ Rows.fnExactPilotUsedSpec.plain.varTypes Try.checked.prog).any (Try.checked.prog.loopsFrom ·))) = true := by kernel_rfl
theorem fnExactPilotUsed_jf17 : ((Rows.fnExactPilotUsedRow.wideKeys == (Try.f6.params.toList ++ Rows.fnExactPilotUsedSpec.plain.varTypes Try.checked.prog ++ Try.f6.resultTypes.toList).any (Try.checked.prog.wideKeysFrom ·))) = true := by kernel_rfl
theorem fnExactPilotUsed_jf18 : (Rows.fnExactPilotUsedSpec.vars.all (Try.checked.prog.varReadable ·)) = true := by kernel_rfl
theorem fnExactPilotUsed_jf19 : (Try.f6.resultTypes.all (fun t => Try.checked.prog.readableRec t && decide (t < Try.checked.prog.types.size))) = true := by kernel_rfl
theorem fnExactPilotUsed_jf20 : ((Rows.fnExactPilotUsedRow.ifacesOut == Try.f6.resultTypes.toList.any (Try.checked.prog.ifacesRec ·))) = true := by kernel_rfl
theorem fnExactPilotUsed_jf21 : ((Rows.fnExactPilotUsedRow.loopsOut == Try.f6.resultTypes.toList.any (Try.checked.prog.loopsFrom ·))) = true := by kernel_rfl
theorem fnExactPilotUsed_jf22 : ((Rows.fnExactPilotUsedRow.plainKeys == Try.checked.prog.plainKeys)) = true := by kernel_rfl
theorem fnExactPilotUsed_jf23 : (Rows.fnExactPilotUsedRow.shortTexts.isNone) = true := by kernel_rfl
theorem fnExactPilotUsed_jf28 : ((Rows.fnExactPilotUsedRow.kinds == (if Rows.fnExactPilotUsedRow.domain.isEmpty then [] else Try.f6.params.toList.map fun t => match Try.checked.prog.underlying t with | some (.int k) => some k | _ => none))) = true := by kernel_rfl
theorem fnExactPilotUsed_jf29 : ((Rows.fnExactPilotUsedRow.pinned == Rows.fnExactPilotUsedRow.pinnedBy)) = true := by kernel_rfl
theorem fnExactPilotUsed_jf30 : ((Rows.fnExactPilotUsedRow.veiled == (Try.f6.params.toList ++ Rows.fnExactPilotUsedSpec.plain.varTypes Try.checked.prog ++ Try.f6.resultTypes.toList).any (Try.checked.prog.veiledRec ·))) = true := by kernel_rfl
theorem fnExactPilotUsed_jf31 : (Rows.fnExactPilotUsedRow.veiledFits Try.checked.prog Try.f6.params.toList (Try.f6.params.toList ++ Rows.fnExactPilotUsedSpec.plain.varTypes Try.checked.prog ++ Try.f6.resultTypes.toList)) = true := by kernel_rfl
theorem fnExactPilotUsed_jf : joinedFacts Try.checked.prog 6 Try.f6 Rows.fnExactPilotUsedSpec Rows.fnExactPilotUsedRow = true := (and_mk (and_mk (and_mk (and_mk (and_mk (and_mk (and_mk (and_mk (and_mk (and_mk (and_mk (and_mk (and_mk (and_mk (and_mk (and_mk (and_mk (and_mk (and_mk (and_mk (and_mk (and_mk (and_mk (and_mk (and_mk (and_mk (and_mk (and_mk (and_mk (and_mk (and_mk fnExactPilotUsed_jf0 fac1) fac2) fnExactPilotUsed_jf3) fnExactPilotUsed_jf4) fnExactPilotUsed_jf5) fac6) fnExactPilotUsed_jf7) fac8) fnExactPilotUsed_jf9) fnExactPilotUsed_jf10) fnExactPilotUsed_jf11) fnExactPilotUsed_jf12) fnExactPilotUsed_jf13) fnExactPilotUsed_jf14) fnExactPilotUsed_jf15) fnExactPilotUsed_jf16) fnExactPilotUsed_jf17) fnExactPilotUsed_jf18) fnExactPilotUsed_jf19) fnExactPilotUsed_jf20) fnExactPilotUsed_jf21) fnExactPilotUsed_jf22) fnExactPilotUsed_jf23) fac24) fac25) fac26) fac27) fnExactPilotUsed_jf28) fnExactPilotUsed_jf29) fnExactPilotUsed_jf30) fnExactPilotUsed_jf31)
theorem fnExactPilotUsed_holds : Rows.FnExactPilotUsedSaid :=
  OpenClaim.holds_of_wide 6 Try.f6 rfl rfl rfl rfl rfl rfl rfl ⟨rfl, rfl, rfl, rfl, rfl⟩ rfl rfl rfl rfl rfl (by kernel_rfl) Try.func6 fnExactPilotUsed_jf
    (of_decide_eq_true (by kernel_rfl)) (by unfold Func.isWrapper; first | (rw [if_pos (by decide +kernel)]; kernel_rfl) | (rw [if_neg (by decide +kernel)]; exact ⟨rfl, rfl⟩))
    (fun os started H enc _ => fnExactPilotUsed_lifted os started H enc)
#print axioms fnExactPilotUsed_holds
end Go.Proofs.Ytjajdgljjompgaa

