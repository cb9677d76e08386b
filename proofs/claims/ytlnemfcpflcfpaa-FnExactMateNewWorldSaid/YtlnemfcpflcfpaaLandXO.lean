/- The law FnExactMateNewWorld returns true at every input; nothing is asked of the input beyond what the row itself asks. -/
import Derived.Test.YtlnemfcpflcfpaaLandJ
import Derived.Test.YtlnemfcpflcfpaaLandX
import Derived.Test.YtlnemfcpflcfpaaRows
set_option linter.unusedSimpArgs false
set_option linter.unusedVariables false
namespace Go.Ab
open Go Go.RowKit Go.Proofs
attribute [local irreducible] XC Rdr IntKind.wrap xw xos xqs xr xd
set_option maxRecDepth 100000

end Go.Ab
namespace Go.Proofs.Ytlnemfcpflcfpaa
open Go Go.RowKit Go.ChangeShapes Go.WideShapes Go.ChangeAt Go.Ab
theorem ownfnExactMateNewWorld : ownKnob Try.prog.godebug = none := by kernel_rfl
theorem laidfnExactMateNewWorld : laidOutB Try.prog = true := by kernel_rfl
set_option maxRecDepth 100000 in
theorem fnExactMateNewWorld_lifted (os : Os) (started : os.Started) (H : Type) (enc : TypeId × Value → H) :
    ReturnsInHanded {} Try.checked os 7 .any (Rows.fnExactMateNewWorldSpec.pre6 enc Try.prog Try.f7 Rows.fnExactMateNewWorldRow.domain Rows.fnExactMateNewWorldRow.apart) (Rows.fnExactMateNewWorldSpec.post enc Try.prog Try.f7 Rows.fnExactMateNewWorldRow.apart Rows.fnExactMateNewWorldRow.fresh Rows.fnExactMateNewWorldRow.handsOn Rows.fnExactMateNewWorldRow.again) :=
  law_reads (C := Try.checked) (bt := 4) ownfnExactMateNewWorld started (by kernel_rfl) Try.func7
    (ChangeSpec.witness6 (enc := enc) (C := Try.checked) false ⟨#[], #[.slice none 0 0], []⟩ 8 (by kernel_rfl) (by kernel_rfl) (by kernel_rfl) (by kernel_rfl))
    laidfnExactMateNewWorld [.sl 1 .str] (by kernel_rfl) rfl rfl Try.underlying4
    (fun ds hd => match ds, hd with | [d1], _ => rfl)
    (fun ds h => by
      obtain ⟨_, _, rfl, h1, rfl⟩ := h
      obtain ⟨l, rfl, hw⟩ := args_StringS h1
      exact law_NW l hw
)
set_option maxRecDepth 100000
theorem fnExactMateNewWorld_jf0 : (Rows.fnExactMateNewWorldRow.wf (OpenSpec.ofChange Rows.fnExactMateNewWorldSpec)) = true := by kernel_rfl
theorem fnExactMateNewWorld_jf3 : (Try.f7.params.all (Try.checked.prog.readableRec ·)) = true := by kernel_rfl
theorem fnExactMateNewWorld_jf4 : (namedTie Try.checked.prog Rows.fnExactMateNewWorldRow.named Rows.fnExactMateNewWorldSpec.vars) = true := by kernel_rfl
theorem fnExactMateNewWorld_jf5 : ((Rows.fnExactMateNewWorldRow.stops == [])) = true := by kernel_rfl
theorem fnExactMateNewWorld_jf7 : ((Rows.fnExactMateNewWorldRow.knobs == [])) = true := by kernel_rfl
theorem fnExactMateNewWorld_jf9 : ((Rows.fnExactMateNewWorldRow.inPlace == Try.checked.prog.inPlace 7)) = true := by kernel_rfl
theorem fnExactMateNewWorld_jf10 : ((Rows.fnExactMateNewWorldRow.unfollowed == Try.checked.prog.unfollowed 7)) = true := by kernel_rfl
theorem fnExactMateNewWorld_jf11 : ((Rows.fnExactMateNewWorldRow.recurses == Try.checked.prog.recurses 7)) = true := by kernel_rfl
theorem fnExactMateNewWorld_jf12 : ((Rows.fnExactMateNewWorldRow.named == Try.checked.prog.varsNamed 7)) = true := by kernel_rfl
theorem fnExactMateNewWorld_jf13 : ((Rows.fnExactMateNewWorldRow.maps == (Try.f7.params.toList ++ Rows.fnExactMateNewWorldSpec.plain.varTypes Try.checked.prog).any (Try.checked.prog.mapsRec ·))) = true := by kernel_rfl
theorem fnExactMateNewWorld_jf14 : ((Rows.fnExactMateNewWorldRow.ifaces == (Try.f7.params.toList ++ Rows.fnExactMateNewWorldSpec.plain.varTypes Try.checked.prog).any (Try.checked.prog.ifacesRec ·))) = true := by kernel_rfl
theorem fnExactMateNewWorld_jf15 : ((Rows.fnExactMateNewWorldRow.mapsOut == Try.checked.prog.mapsAmong Try.f7.resultTypes.toList)) = true := by kernel_rfl
theorem fnExactMateNewWorld_jf16 : ((Rows.fnExactMateNewWorldRow.loops == (Try.f7.params.toList ++ Rows.fnExactMateNewWorldSpec.plain.varTypes Try.checked.prog).any (Try.checked.prog.loopsFrom ·))) = true := by kernel_rfl
theorem fnExactMateNewWorld_jf17 : ((Rows.fnExactMateNewWorldRow.wideKeys == (Try.f7.params.toList ++ Rows.fnExactMateNewWorldSpec.plain.varTypes Try.checked.prog ++ Try.f7.resultTypes.toList).any (Try.checked.prog.wideKeysFrom ·))) = true := by kernel_rfl
theorem fnExactMateNewWorld_jf18 : (Rows.fnExactMateNewWorldSpec.vars.all (Try.checked.prog.varReadable ·)) = true := by kernel_rfl
theorem fnExactMateNewWorld_jf19 : (Try.f7.resultTypes.all (fun t => Try.checked.prog.readableRec t && decide (t < Try.checked.prog.types.size))) = true := by kernel_rfl
theorem fnExactMateNewWorld_jf20 : ((Rows.fnExactMateNewWorldRow.ifacesOut == Try.f7.resultTypes.toList.any (Try.checked.prog.ifacesRec ·))) = true := by kernel_rfl
theorem fnExactMateNewWorld_jf21 : ((Rows.fnExactMateNewWorldRow.loopsOut == Try.f7.resultTypes.toList.any (Try.checked.prog.loopsFrom ·))) = true := by kernel_rfl
theorem fnExactMateNewWorld_jf22 : ((Rows.fnExactMateNewWorldRow.plainKeys == Try.checked.prog.plainKeys)) = true := by kernel_rfl
theorem fnExactMateNewWorld_jf23 : (Rows.fnExactMateNewWorldRow.shortTexts.isNone) = true := by kernel_rfl
theorem fnExactMateNewWorld_jf28 : ((Rows.fnExactMateNewWorldRow.kinds == (if Rows.fnExactMateNewWorldRow.domain.isEmpty then [] else Try.f7.params.toList.map fun t => match Try.checked.prog.underlying t with | some (.int k) => some k | _ => none))) = true := by kernel_rfl
theorem fnExactMateNewWorld_jf29 : ((Rows.fnExactMateNewWorldRow.pinned == Rows.fnExactMateNewWorldRow.pinnedBy)) = true := by kernel_rfl
theorem fnExactMateNewWorld_jf30 : ((Rows.fnExactMateNewWorldRow.veiled == (Try.f7.params.toList ++ Rows.fnExactMateNewWorldSpec.plain.varTypes Try.checked.prog ++ Try.f7.resultTypes.toList).any (Try.checked.prog.veiledRec ·))) = true := by kernel_rfl
theorem fnExactMateNewWorld_jf31 : (Rows.fnExactMateNewWorldRow.veiledFits Try.checked.prog Try.f7.params.toList (Try.f7.params.toList ++ Rows.fnExactMateNewWorldSpec.plain.varTypes Try.checked.prog ++ Try.f7.resultTypes.toList)) = true := by kernel_rfl
theorem fnExactMateNewWorld_jf : joinedFacts Try.checked.prog 7 Try.f7 Rows.fnExactMateNewWorldSpec Rows.fnExactMateNewWorldRow = true := (and_mk (and_mk (and_mk (and_mk (and_mk (and_mk (and_mk (and_mk (and_mk (and_mk (and_mk (and_mk (and_mk (and_mk (and_mk (and_mk (and_mk (and_mk (and_mk (and_mk (and_mk (and_mk (and_mk (and_mk (and_mk (and_mk (and_mk (and_mk (and_mk (and_mk (and_mk fnExactMateNewWorld_jf0 fac1) fac2) fnExactMateNewWorld_jf3) fnExactMateNewWorld_jf4) fnExactMateNewWorld_jf5) fac6) fnExactMateNewWorld_jf7) fac8) fnExactMateNewWorld_jf9) fnExactMateNewWorld_jf10) fnExactMateNewWorld_jf11) fnExactMateNewWorld_jf12) fnExactMateNewWorld_jf13) fnExactMateNewWorld_jf14) fnExactMateNewWorld_jf15) fnExactMateNewWorld_jf16) fnExactMateNewWorld_jf17) fnExactMateNewWorld_jf18) fnExactMateNewWorld_jf19) fnExactMateNewWorld_jf20) fnExactMateNewWorld_jf21) fnExactMateNewWorld_jf22) fnExactMateNewWorld_jf23) fac24) fac25) fac26) fac27) fnExactMateNewWorld_jf28) fnExactMateNewWorld_jf29) fnExactMateNewWorld_jf30) fnExactMateNewWorld_jf31)
theorem fnExactMateNewWorld_holds : Rows.FnExactMateNewWorldSaid :=
  OpenClaim.holds_of_wide 7 Try.f7 rfl rfl rfl rfl rfl rfl rfl ⟨rfl, rfl, rfl, rfl, rfl⟩ rfl rfl rfl rfl rfl (by kernel_rfl) Try.func7 fnExactMateNewWorld_jf
    (of_decide_eq_true (by kernel_rfl)) (by unfold Func.isWrapper; first | (rw [if_pos (by decide +kernel)]; kernel_rfl) | (rw [if_neg (by decide +kernel)]; exact ⟨rfl, rfl⟩))
    (fun os started H enc _ => fnExactMateNewWorld_lifted os started H enc)
#print axioms fnExactMateNewWorld_holds
end Go.Proofs.Ytlnemfcpflcfpaa

