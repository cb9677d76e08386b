/- The law FnMateFalls returns true at every input; nothing is asked of the input beyond what the row itself asks. -/
import Derived.Test.YtagleaabhljkfaaMateG
import Derived.Test.YtagleaabhljkfaaMateQ3
import Derived.Test.YtagleaabhljkfaaRows
set_option linter.unusedSimpArgs false
set_option linter.unusedVariables false
namespace Go.Ab
open Go Go.RowKit Go.Proofs
attribute [local irreducible] XC Rdr IntKind.wrap xw xos xqs xr xd
set_option maxRecDepth 100000
end Go.Ab
namespace Go.Proofs.Ytagleaabhljkfaa
open Go Go.RowKit Go.ChangeShapes Go.WideShapes Go.ChangeAt Go.Ab
theorem ownfnMateFalls : ownKnob Try.prog.godebug = none := by kernel_rfl
theorem laidfnMateFalls : laidOutB Try.prog = true := by kernel_rfl
set_option maxRecDepth 100000 in
theorem fnMateFalls_lifted (os : Os) (started : os.Started) (H : Type) (enc : TypeId × Value → H) :
  ReturnsInHanded {} Try.checked os 10 .any (Rows.fnMateFallsSpec.pre6 enc Try.prog Try.f10 Rows.fnMateFallsRow.domain Rows.fnMateFallsRow.apart) (Rows.fnMateFallsSpec.post enc Try.prog Try.f10 Rows.fnMateFallsRow.apart Rows.fnMateFallsRow.fresh Rows.fnMateFallsRow.handsOn Rows.fnMateFallsRow.again) :=
 law_reads (C := Try.checked) (bt := 4) ownfnMateFalls started (by kernel_rfl) Try.func10
  (ChangeSpec.witness6 (enc := enc) (C := Try.checked) false ⟨#[], #[.slice none 0 0], []⟩ 8 (by kernel_rfl) (by kernel_rfl) (by kernel_rfl) (by kernel_rfl))
  laidfnMateFalls [.sl 1 (.int .u8)] (by kernel_rfl) rfl rfl Try.underlying4
  (fun ds hd => match ds, hd with | [d1], _ => rfl)
  (fun ds h => by
   obtain ⟨_, _, rfl, h1, rfl⟩ := h
   rw [Has] at h1
   obtain ⟨ds, rfl, hl, hx⟩ := h1
   obtain ⟨c, rfl, hc⟩ := u8_list hx
   exact law_MateFalls c (by simpa using hl) hc
)
set_option maxRecDepth 100000
theorem fnMateFalls_jf0 : (Rows.fnMateFallsRow.wf (OpenSpec.ofChange Rows.fnMateFallsSpec)) = true := by kernel_rfl
theorem fnMateFalls_jf3 : (Try.f10.params.all (Try.checked.prog.readableRec ·)) = true := by kernel_rfl
theorem fnMateFalls_jf4 : (namedTie Try.checked.prog Rows.fnMateFallsRow.named Rows.fnMateFallsSpec.vars) = true := by kernel_rfl
theorem fnMateFalls_jf5 : ((Rows.fnMateFallsRow.stops == [])) = true := by kernel_rfl
theorem fnMateFalls_jf7 : ((Rows.fnMateFallsRow.knobs == [])) = true := by kernel_rfl
theorem fnMateFalls_jf9 : ((Rows.fnMateFallsRow.inPlace == Try.checked.prog.inPlace 10)) = true := by kernel_rfl
theorem fnMateFalls_jf10 : ((Rows.fnMateFallsRow.unfollowed == Try.checked.prog.unfollowed 10)) = true := by kernel_rfl
theorem fnMateFalls_jf11 : ((Rows.fnMateFallsRow.recurses == Try.checked.prog.recurses 10)) = true := by kernel_rfl
theorem fnMateFalls_jf12 : ((Rows.fnMateFallsRow.named == Try.checked.prog.varsNamed 10)) = true := by kernel_rfl
theorem fnMateFalls_jf13 : ((Rows.fnMateFallsRow.maps == (Try.f10.params.toList ++ Rows.fnMateFallsSpec.plain.varTypes Try.checked.prog).any (Try.checked.prog.mapsRec ·))) = true := by kernel_rfl
theorem fnMateFalls_jf14 : ((Rows.fnMateFallsRow.ifaces == (Try.f10.params.toList ++ Rows.fnMateFallsSpec.plain.varTypes Try.checked.prog).any (Try.checked.prog.ifacesRec ·))) = true := by kernel_rfl
theorem fnMateFalls_jf15 : ((Rows.fnMateFallsRow.mapsOut == Try.checked.prog.mapsAmong Try.f10.resultTypes.toList)) = true := by kernel_rfl
theorem fnMateFalls_jf16 : ((Rows.fnMateFallsRow.loops == (Try.f10.params.toList ++ Rows.fnMateFallsSpec.plain.varTypes Try.checked.prog).any (Try.checked.prog.loopsFrom ·))) = true := by kernel_rfl
theorem fnMateFalls_jf17 : ((Rows.fnMateFallsRow.wideKeys == (Try.f10.params.toList ++ Rows.fnMateFallsSpec.plain.varTypes Try.checked.prog ++ Try.f10.resultTypes.toList).any (Try.checked.prog.wideKeysFrom ·))) = true := by kernel_rfl
theorem fnMateFalls_jf18 : (Rows.fnMateFallsSpec.vars.all (Try.checked.prog.varReadable ·)) = true := by kernel_rfl
theorem fnMateFalls_jf19 : (Try.f10.resultTypes.all (fun t => Try.checked.prog.readableRec t && decide (t < Try.checked.prog.types.size))) = true := by kernel_rfl
theorem fnMateFalls_jf20 : ((Rows.fnMateFallsRow.ifacesOut == Try.f10.resultTypes.toList.any (Try.checked.prog.ifacesRec ·))) = true := by kernel_rfl
theorem fnMateFalls_jf21 : ((Rows.fnMateFallsRow.loopsOut == Try.f10.resultTypes.toList.any (Try.checked.prog.loopsFrom ·))) = true := by kernel_rfl
theorem fnMateFalls_jf22 : ((Rows.fnMateFallsRow.plainKeys == Try.checked.prog.plainKeys)) = true := by kernel_rfl
theorem fnMateFalls_jf23 : (Rows.fnMateFallsRow.shortTexts.isNone) = true := by kernel_rfl
theorem fnMateFalls_jf28 : ((Rows.fnMateFallsRow.kinds == (if Rows.fnMateFallsRow.domain.isEmpty then [] else Try.f10.params.toList.map fun t => match Try.checked.prog.underlying t with | some (.int k) => some k | _ => none))) = true := by kernel_rfl
theorem fnMateFalls_jf29 : ((Rows.fnMateFallsRow.pinned == Rows.fnMateFallsRow.pinnedBy)) = true := by kernel_rfl
theorem fnMateFalls_jf30 : ((Rows.fnMateFallsRow.veiled == (Try.f10.params.toList ++ Rows.fnMateFallsSpec.plain.varTypes Try.checked.prog ++ Try.f10.resultTypes.toList).any (Try.checked.prog.veiledRec ·))) = true := by kernel_rfl
theorem fnMateFalls_jf31 : (Rows.fnMateFallsRow.veiledFits Try.checked.prog Try.f10.params.toList (Try.f10.params.toList ++ Rows.fnMateFallsSpec.plain.varTypes Try.checked.prog ++ Try.f10.resultTypes.toList)) = true := by kernel_rfl
theorem fnMateFalls_jf : joinedFacts Try.checked.prog 10 Try.f10 Rows.fnMateFallsSpec Rows.fnMateFallsRow = true := (and_mk (and_mk (and_mk (and_mk (and_mk (and_mk (and_mk (and_mk (and_mk (and_mk (and_mk (and_mk (and_mk (and_mk (and_mk (and_mk (and_mk (and_mk (and_mk (and_mk (and_mk (and_mk (and_mk (and_mk (and_mk (and_mk (and_mk (and_mk (and_mk (and_mk (and_mk fnMateFalls_jf0 fac1) fac2) fnMateFalls_jf3) fnMateFalls_jf4) fnMateFalls_jf5) fac6) fnMateFalls_jf7) fac8) fnMateFalls_jf9) fnMateFalls_jf10) fnMateFalls_jf11) fnMateFalls_jf12) fnMateFalls_jf13) fnMateFalls_jf14) fnMateFalls_jf15) fnMateFalls_jf16) fnMateFalls_jf17) fnMateFalls_jf18) fnMateFalls_jf19) fnMateFalls_jf20) fnMateFalls_jf21) fnMateFalls_jf22) fnMateFalls_jf23) fac24) fac25) fac26) fac27) fnMateFalls_jf28) fnMateFalls_jf29) fnMateFalls_jf30) fnMateFalls_jf31)
theorem fnMateFalls_holds : Rows.FnMateFallsSaid :=
 OpenClaim.holds_of_wide 10 Try.f10 rfl rfl rfl rfl rfl rfl rfl ⟨rfl, rfl, rfl, rfl, rfl⟩ rfl rfl rfl rfl rfl (by kernel_rfl) Try.func10 fnMateFalls_jf
  (of_decide_eq_true (by kernel_rfl)) (by unfold Func.isWrapper; first | (rw [if_pos (by decide +kernel)]; kernel_rfl) | (rw [if_neg (by decide +kernel)]; exact ⟨rfl, rfl⟩))
  (fun os started H enc _ => fnMateFalls_lifted os started H enc)
#print axioms fnMateFalls_holds
end Go.Proofs.Ytagleaabhljkfaa
