/- FnMerged: the row over the printed walk: for every input the law returns true and each argument reads afterwards as it did. No condition. Written by rowgen.py (a program of this session's). -/
import Derived.Test.YthodhcalknelcaaRows
import Derived.Test.YthodhcalknelcaaFacts
import Derived.Test.YthodhcalknelcaaPFnMergedx
import Derived.Test.YthodhcalknelcaaOpen
import Derived.Test.YthodhcalknelcaaPureFnMerged
import Derived.WalkKit
import Derived.ProofKit
import Derived.OpenShut
import Derived.ShutString
import Derived.ChangeOld
import Derived.Below
import Derived.SizedLaws
namespace Go.Proofs.Ythodhcalknelcaa.fnMerged
open Go.ChangeShapes Go.WideShapes Go.ChangeAt Go.RowKit
open Go.ChangeMaps (open_string shut_string)
open Go.Proofs.YthodhcalknelcaaOpen Go.Proofs.Ythodhcalknelcaa.PFnMerged Go.Proofs.YthodhcalknelcaaW.PrintWords
set_option linter.unusedVariables false
set_option linter.unusedSimpArgs false
theorem own : ownKnob Try.prog.godebug = none := by kernel_rfl
theorem laidOut : laidOutB Try.prog = true := by kernel_rfl
theorem o5 : Opens Try.prog 5 (Kd.int .u8) (fun n => (Lit.int .u8 n).wf = true) := opens_int Try.underlying5
theorem o45 : Opens Try.prog 45 (Kd.slice 5 (Kd.int .u8)) (fun l => l.length ≤ 9223372036854775807 ∧ ∀ x ∈ l, (Lit.int .u8 x).wf = true) := opens_slice Try.underlying45 o5 (by kernel_rfl) 5
theorem okTypes : ∀ t ∈ [45], Try.prog.readableRec t = true ∧ t < Try.prog.types.size := by
  intro t ht; simp only [List.mem_cons, List.not_mem_nil, or_false] at ht; rcases ht with rfl <;> exact ⟨by kernel_rfl, of_decide_eq_true (by kernel_rfl)⟩
set_option maxRecDepth 100000 in
theorem lifted (os : Os) (started : os.Started) (H : Type) (enc : TypeId × Value → H) :
    ReturnsInHanded {} Try.checked os 17 .any (Rows.fnMergedSpec.pre6 enc Try.prog Try.f17 Rows.fnMergedRow.domain false) (Rows.fnMergedSpec.post enc Try.prog Try.f17 false true false false) := by
  refine returnsInHanded_of_change_sized (C := Try.checked) own started (by kernel_rfl) Try.func17
    (ChangeSpec.witness6 (enc := enc) (C := Try.checked) false ⟨#[], #[.slice none 0 0], []⟩ 8 (by kernel_rfl) (by kernel_rfl) (by kernel_rfl) (by kernel_rfl)) ?_
  intro W base args ds gs before hval0 hW hcnd hsz0 _
  have hval : ∀ (j : Nat) t v, Try.f17.params[j]? = some t → args[j]? = some v → Value.okWide Try.prog W .any base t v := hval0
  have hW' := hW
  obtain ⟨p, q, hA0, hV, rfl, hfz, hnd⟩ := hW
  have hA : DataW.TrodAll enc Try.prog W 0 (fun _ => true) true Try.f17.params.toList args.toList ds p := hA0
  rw [Try.params17] at hA hval
  have hAk := hA
  obtain ⟨v0, vs0, d0, ds0, p0, q0, hargs0, rfl, rfl, h0, r0⟩ := trodAll_cons hA
  obtain ⟨rfl, rfl, rfl⟩ := trodAll_nil r0
  obtain rfl : args = #[v0] := by cases args; simp_all
  obtain ⟨rfl, rfl⟩ := trodVars_none hV
  obtain ⟨n0, hn0⟩ := h0
  obtain ⟨l0, hK0, w0⟩ := o45 _ _ _ _ _ _ hn0
  obtain ⟨A0, c0, rfl, hc0, hr0⟩ := slice_of Try.underlying45 (hval 0 45 v0 rfl rfl) hK0
  obtain ⟨k, hk⟩ := Pure.FnMerged.main l0 w0
  refine (PFnMerged.laws_FnMerged.calls k _ _ l0 true W hr0 hc0 hk).mono fun e W' ⟨he, bel0⟩ => ?_
  subst he
  have bel : Below W.heap.size W W' := bel0
  have hst := args_stay laidOut bel okTypes (fun x hx => hW'.lt x (by first | (simp at hx; done) | simpa using hx)) hAk
  exact ⟨_, rfl, _, _, _, [], _, [], hW', trodAll_mk1 (shut_bool Try.underlying4 _), hst, rfl, bel.frame _, fun h => by cases h⟩
theorem over : Rows.fnMergedRow.holds Try.pinned (OpenSpec.ofChange Rows.fnMergedSpec) :=
  OpenClaim.holds_of_wide 17 Try.f17 rfl rfl rfl rfl rfl rfl rfl ⟨rfl, rfl, rfl, rfl, rfl⟩ rfl rfl rfl rfl rfl (by kernel_rfl) Try.func17 (Facts.joined (by kernel_rfl))
    (of_decide_eq_true (by kernel_rfl)) (by unfold Func.isWrapper; first | (rw [if_pos (by decide +kernel)]; kernel_rfl) | (rw [if_neg (by decide +kernel)]; exact ⟨rfl, rfl⟩))
    (fun os started H enc _ => lifted os started H enc)
end Go.Proofs.Ythodhcalknelcaa.fnMerged
namespace Go.Proofs.Ythodhcalknelcaa
/-- The row, under a short name, for the claim. -/
theorem fnMerged_holds : Rows.FnMergedSaid := fnMerged.over
end Go.Proofs.Ythodhcalknelcaa
