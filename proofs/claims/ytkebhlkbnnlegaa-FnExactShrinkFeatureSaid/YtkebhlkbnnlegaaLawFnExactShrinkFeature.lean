/- FnExactShrinkFeature: the row over the printed walk: for every input the law returns true and each argument reads afterwards as it did. No condition. Written by rowgen.py (a program of this session's). -/
import Derived.Test.YtkebhlkbnnlegaaRows
import Derived.Test.YtkebhlkbnnlegaaFacts
import Derived.Test.YtkebhlkbnnlegaaPFnExactShrinkFeaturex
import Derived.Test.YtkebhlkbnnlegaaOpen
import Derived.Test.YtkebhlkbnnlegaaPureFnExactShrinkFeature
import Derived.WalkKit
import Derived.ProofKit
import Derived.OpenShut
import Derived.ShutString
import Derived.ChangeOld
import Derived.Below
import Derived.SizedLaws
namespace Go.Proofs.Ytkebhlkbnnlegaa.fnExactShrinkFeature
open Go.ChangeShapes Go.WideShapes Go.ChangeAt Go.RowKit
open Go.ChangeMaps (open_string shut_string)
open Go.Proofs.YtkebhlkbnnlegaaOpen Go.Proofs.Ytkebhlkbnnlegaa.PFnExactShrinkFeature Go.Proofs.YtkebhlkbnnlegaaW.PrintWords
set_option linter.unusedVariables false
set_option linter.unusedSimpArgs false
theorem own : ownKnob Try.prog.godebug = none := by kernel_rfl
theorem laidOut : laidOutB Try.prog = true := by kernel_rfl
theorem o3 : Opens Try.prog 3 (Kd.int .i64) (fun n => (Lit.int .i64 n).wf = true) := opens_int Try.underlying3
theorem o9 : Opens Try.prog 9 Kd.string (fun s => s.size ≤ 9223372036854775807) := opens_string Try.underlying9
theorem o85 : Opens Try.prog 85 k85 (fun x => ((Lit.int .i64 x.f0).wf = true ∧ (Lit.int .i64 x.f1).wf = true)) := opens_struct Try.underlying85 (opensFs_cons o3 (by kernel_rfl) (by kernel_rfl) (opensFs_one o3 (by kernel_rfl) (by kernel_rfl))) (by kernel_rfl) (fun x : S85 => (x.f0, x.f1)) (fun p => ⟨p.1, p.2⟩) (fun _ => rfl)
theorem o22 : Opens Try.prog 22 (Kd.slice 85 k85) (fun l => l.length ≤ 9223372036854775807 ∧ ∀ x ∈ l, ((Lit.int .i64 x.f0).wf = true ∧ (Lit.int .i64 x.f1).wf = true)) := opens_slice Try.underlying22 o85 (by kernel_rfl) 85
theorem o24 : Opens Try.prog 24 k24 (fun x => ((Lit.int .i64 x.f0).wf = true ∧ (Lit.int .i64 x.f1).wf = true ∧ (Lit.int .i64 x.f2).wf = true ∧ x.f3.size ≤ 9223372036854775807 ∧ (x.f4.length ≤ 9223372036854775807 ∧ ∀ y ∈ x.f4, ((Lit.int .i64 y.f0).wf = true ∧ (Lit.int .i64 y.f1).wf = true)))) := opens_struct Try.underlying24 (opensFs_cons o3 (by kernel_rfl) (by kernel_rfl) (opensFs_cons o3 (by kernel_rfl) (by kernel_rfl) (opensFs_cons o3 (by kernel_rfl) (by kernel_rfl) (opensFs_cons o9 (by kernel_rfl) (by kernel_rfl) (opensFs_one o22 (by kernel_rfl) (by kernel_rfl)))))) (by kernel_rfl) (fun x : S24 => (x.f0, x.f1, x.f2, x.f3, x.f4)) (fun p => ⟨p.1, p.2.1, p.2.2.1, p.2.2.2.1, p.2.2.2.2⟩) (fun _ => rfl)
theorem o35 : Opens Try.prog 35 (Kd.slice 24 k24) (fun l => l.length ≤ 9223372036854775807 ∧ ∀ x ∈ l, ((Lit.int .i64 x.f0).wf = true ∧ (Lit.int .i64 x.f1).wf = true ∧ (Lit.int .i64 x.f2).wf = true ∧ x.f3.size ≤ 9223372036854775807 ∧ (x.f4.length ≤ 9223372036854775807 ∧ ∀ y ∈ x.f4, ((Lit.int .i64 y.f0).wf = true ∧ (Lit.int .i64 y.f1).wf = true)))) := opens_slice Try.underlying35 o24 (by kernel_rfl) 24
theorem okTypes : ∀ t ∈ [24, 35, 3], Try.prog.readableRec t = true ∧ t < Try.prog.types.size := by
  intro t ht; simp only [List.mem_cons, List.not_mem_nil, or_false] at ht; rcases ht with rfl | rfl | rfl <;> exact ⟨by kernel_rfl, of_decide_eq_true (by kernel_rfl)⟩
set_option maxRecDepth 100000 in
theorem lifted (os : Os) (started : os.Started) (H : Type) (enc : TypeId × Value → H) :
    ReturnsInHanded {} Try.checked os 5 .any (Rows.fnExactShrinkFeatureSpec.pre6 enc Try.prog Try.f5 Rows.fnExactShrinkFeatureRow.domain false) (Rows.fnExactShrinkFeatureSpec.post enc Try.prog Try.f5 false true false false) := by
  refine returnsInHanded_of_change_sized (C := Try.checked) own started (by kernel_rfl) Try.func5
    (ChangeSpec.witness6 (enc := enc) (C := Try.checked) false ⟨#[], #[.agg #[.int .i64 0, .int .i64 0, .int .i64 0, .string ⟨#[]⟩, .slice none 0 0], .slice none 0 0, .int .i64 0], []⟩ 8 (by kernel_rfl) (by kernel_rfl) (by kernel_rfl) (by kernel_rfl)) ?_
  intro W base args ds gs before hval0 hW hcnd hsz0 _
  have hval : ∀ (j : Nat) t v, Try.f5.params[j]? = some t → args[j]? = some v → Value.okWide Try.prog W .any base t v := hval0
  have hW' := hW
  obtain ⟨p, q, hA0, hV, rfl, hfz, hnd⟩ := hW
  have hA : DataW.TrodAll enc Try.prog W 0 (fun _ => true) true Try.f5.params.toList args.toList ds p := hA0
  rw [Try.params5] at hA hval
  have hAk := hA
  obtain ⟨v0, vs0, d0, ds0, p0, q0, hargs0, rfl, rfl, h0, r0⟩ := trodAll_cons hA
  obtain ⟨v1, vs1, d1, ds1, p1, q1, hargs1, rfl, rfl, h1, r1⟩ := trodAll_cons r0
  obtain ⟨v2, vs2, d2, ds2, p2, q2, hargs2, rfl, rfl, h2, r2⟩ := trodAll_cons r1
  obtain ⟨rfl, rfl, rfl⟩ := trodAll_nil r2
  obtain rfl : args = #[v0, v1, v2] := by cases args; simp_all
  obtain ⟨rfl, rfl⟩ := trodVars_none hV
  obtain ⟨n0, hn0⟩ := h0
  obtain ⟨x0, hK0, w0⟩ := o24 _ _ _ _ _ _ hn0
  obtain ⟨cs0, rfl⟩ := agg_of Try.underlying24 (hval 0 24 v0 rfl rfl)
  obtain ⟨a0_0, a0_1, a0_2, a0_3, l0_4⟩ := x0
  obtain ⟨b0_0, b0_1, b0_2, b0_3, b0_4⟩ := w0
  have hcs0 := hK0
  generalize hcell0 : (Value.agg cs0).cells.toList = lst0 at hcs0
  obtain ⟨_, _, rfl, rfl, ⟨_, _, rfl, rfl, ⟨_, _, rfl, rfl, ⟨_, _, rfl, rfl, ⟨A0_4, c0_4, rfl, hc0_4, hr0_4⟩⟩⟩⟩⟩ := hcs0
  obtain rfl : cs0 = #[.int .i64 a0_0, .int .i64 a0_1, .int .i64 a0_2, .string a0_3, .slice A0_4 l0_4.length c0_4] := by cases cs0; simpa [Value.cells] using hcell0
  obtain ⟨n1, hn1⟩ := h1
  obtain ⟨l1, hK1, w1⟩ := o35 _ _ _ _ _ _ hn1
  obtain ⟨A1, c1, rfl, hc1, hr1⟩ := slice_of Try.underlying35 (hval 1 35 v1 rfl rfl) hK1
  obtain ⟨a2, rfl, rfl, rfl, w2⟩ := open_int Try.underlying3 (hval 2 3 v2 rfl rfl) h2
  obtain ⟨k, hk⟩ := Pure.FnExactShrinkFeature.main a0_0 a0_1 a0_2 a0_3 l0_4 l1 a2 b0_0 b0_1 b0_2 b0_3 b0_4 w1 w2
  refine (PFnExactShrinkFeature.laws_FnExactShrinkFeature.calls k a0_0 a0_1 a0_2 a0_3 _ _ l0_4 _ _ l1 a2 true W hr0_4 hc0_4 hr1 hc1 hk).mono fun e W' ⟨he, bel0⟩ => ?_
  subst he
  have bel : Below W.heap.size W W' := bel0
  have hst := args_stay laidOut bel okTypes (fun x hx => hW'.lt x (by first | (simp at hx; done) | simpa using hx)) hAk
  exact ⟨_, rfl, _, _, _, [], _, [], hW', trodAll_mk1 (shut_bool Try.underlying4 _), hst, rfl, bel.frame _, fun h => by cases h⟩
theorem over : Rows.fnExactShrinkFeatureRow.holds Try.pinned (OpenSpec.ofChange Rows.fnExactShrinkFeatureSpec) :=
  OpenClaim.holds_of_wide 5 Try.f5 rfl rfl rfl rfl rfl rfl rfl ⟨rfl, rfl, rfl, rfl, rfl⟩ rfl rfl rfl rfl rfl (by kernel_rfl) Try.func5 (Facts.joined (by kernel_rfl))
    (of_decide_eq_true (by kernel_rfl)) (by unfold Func.isWrapper; first | (rw [if_pos (by decide +kernel)]; kernel_rfl) | (rw [if_neg (by decide +kernel)]; exact ⟨rfl, rfl⟩))
    (fun os started H enc _ => lifted os started H enc)
end Go.Proofs.Ytkebhlkbnnlegaa.fnExactShrinkFeature
namespace Go.Proofs.Ytkebhlkbnnlegaa
/-- The row, under a short name, for the claim. -/
theorem fnExactShrinkFeature_holds : Rows.FnExactShrinkFeatureSaid := fnExactShrinkFeature.over
end Go.Proofs.Ytkebhlkbnnlegaa
