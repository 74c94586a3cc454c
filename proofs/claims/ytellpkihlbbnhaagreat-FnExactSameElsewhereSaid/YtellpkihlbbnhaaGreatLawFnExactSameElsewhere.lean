/- FnExactSameElsewhere: the row over the printed walk: for every input the law returns true and each argument reads afterwards as it did. No condition. Written by rowgen.py (a program of this session's). -/
import Derived.Test.YtellpkihlbbnhaaGreatRows
import Derived.Test.YtellpkihlbbnhaaGreatFacts
import Derived.Test.YtellpkihlbbnhaaGreatPFnExactSameElsewherex
import Derived.Test.YtellpkihlbbnhaaGreatOpen
import Derived.Test.YtellpkihlbbnhaaGreatPureFnExactSameElsewhere
import Derived.WalkKit
import Derived.ProofKit
import Derived.OpenShut
import Derived.ShutString
import Derived.ChangeOld
import Derived.Below
import Derived.SizedLaws
namespace Go.Proofs.YtellpkihlbbnhaaGreat.fnExactSameElsewhere
open Go.ChangeShapes Go.WideShapes Go.ChangeAt Go.RowKit
open Go.ChangeMaps (open_string shut_string)
open Go.Proofs.YtellpkihlbbnhaaGreatOpen Go.Proofs.YtellpkihlbbnhaaGreat.PFnExactSameElsewhere Go.Proofs.YtellpkihlbbnhaaGreatW.PrintWords
set_option linter.unusedVariables false
set_option linter.unusedSimpArgs false
theorem own : ownKnob Tryz.prog.godebug = none := by kernel_rfl
theorem laidOut : laidOutB Tryz.prog = true := by kernel_rfl
theorem o3 : Opens Tryz.prog 3 (Kd.int .i64) (fun n => (Lit.int .i64 n).wf = true) := opens_int Tryz.underlying3
theorem o9 : Opens Tryz.prog 9 Kd.string (fun s => s.size ≤ 9223372036854775807) := opens_string Tryz.underlying9
theorem o131 : Opens Tryz.prog 131 k131 (fun x => ((Lit.int .i64 x.f0).wf = true ∧ (Lit.int .i64 x.f1).wf = true)) := opens_struct Tryz.underlying131 (opensFs_cons o3 (by kernel_rfl) (by kernel_rfl) (opensFs_one o3 (by kernel_rfl) (by kernel_rfl))) (by kernel_rfl) (fun x : S131 => (x.f0, x.f1)) (fun p => ⟨p.1, p.2⟩) (fun _ => rfl)
theorem o48 : Opens Tryz.prog 48 (Kd.slice 131 k131) (fun l => l.length ≤ 9223372036854775807 ∧ ∀ x ∈ l, ((Lit.int .i64 x.f0).wf = true ∧ (Lit.int .i64 x.f1).wf = true)) := opens_slice Tryz.underlying48 o131 (by kernel_rfl) 131
theorem o50 : Opens Tryz.prog 50 k50 (fun x => ((Lit.int .i64 x.f0).wf = true ∧ (Lit.int .i64 x.f1).wf = true ∧ (Lit.int .i64 x.f2).wf = true ∧ x.f3.size ≤ 9223372036854775807 ∧ (x.f4.length ≤ 9223372036854775807 ∧ ∀ y ∈ x.f4, ((Lit.int .i64 y.f0).wf = true ∧ (Lit.int .i64 y.f1).wf = true)))) := opens_struct Tryz.underlying50 (opensFs_cons o3 (by kernel_rfl) (by kernel_rfl) (opensFs_cons o3 (by kernel_rfl) (by kernel_rfl) (opensFs_cons o3 (by kernel_rfl) (by kernel_rfl) (opensFs_cons o9 (by kernel_rfl) (by kernel_rfl) (opensFs_one o48 (by kernel_rfl) (by kernel_rfl)))))) (by kernel_rfl) (fun x : S50 => (x.f0, x.f1, x.f2, x.f3, x.f4)) (fun p => ⟨p.1, p.2.1, p.2.2.1, p.2.2.2.1, p.2.2.2.2⟩) (fun _ => rfl)
theorem o22 : Opens Tryz.prog 22 (Kd.slice 50 k50) (fun l => l.length ≤ 9223372036854775807 ∧ ∀ x ∈ l, ((Lit.int .i64 x.f0).wf = true ∧ (Lit.int .i64 x.f1).wf = true ∧ (Lit.int .i64 x.f2).wf = true ∧ x.f3.size ≤ 9223372036854775807 ∧ (x.f4.length ≤ 9223372036854775807 ∧ ∀ y ∈ x.f4, ((Lit.int .i64 y.f0).wf = true ∧ (Lit.int .i64 y.f1).wf = true)))) := opens_slice Tryz.underlying22 o50 (by kernel_rfl) 50
theorem o33 : Opens Tryz.prog 33 (Kd.slice 3 (Kd.int .i64)) (fun l => l.length ≤ 9223372036854775807 ∧ ∀ x ∈ l, (Lit.int .i64 x).wf = true) := opens_slice Tryz.underlying33 o3 (by kernel_rfl) 3
theorem okTypes : ∀ t ∈ [22, 22, 33], Tryz.prog.readableRec t = true ∧ t < Tryz.prog.types.size := by
  intro t ht; simp only [List.mem_cons, List.not_mem_nil, or_false] at ht; rcases ht with rfl | rfl | rfl <;> exact ⟨by kernel_rfl, of_decide_eq_true (by kernel_rfl)⟩
set_option maxRecDepth 100000 in
theorem lifted (os : Os) (started : os.Started) (H : Type) (enc : TypeId × Value → H) :
    ReturnsInHanded {} Tryz.checked os 7 .any (Rows.fnExactSameElsewhereSpec.pre6 enc Tryz.prog Tryz.f7 Rows.fnExactSameElsewhereRow.domain false) (Rows.fnExactSameElsewhereSpec.post enc Tryz.prog Tryz.f7 false true false false) := by
  refine returnsInHanded_of_change_sized (C := Tryz.checked) own started (by kernel_rfl) Tryz.func7
    (ChangeSpec.witness6 (enc := enc) (C := Tryz.checked) false ⟨#[], #[.slice none 0 0, .slice none 0 0, .slice none 0 0], []⟩ 8 (by kernel_rfl) (by kernel_rfl) (by kernel_rfl) (by kernel_rfl)) ?_
  intro W base args ds gs before hval0 hW hcnd hsz0 _
  have hval : ∀ (j : Nat) t v, Tryz.f7.params[j]? = some t → args[j]? = some v → Value.okWide Tryz.prog W .any base t v := hval0
  have hW' := hW
  obtain ⟨p, q, hA0, hV, rfl, hfz, hnd⟩ := hW
  have hA : DataW.TrodAll enc Tryz.prog W 0 (fun _ => true) true Tryz.f7.params.toList args.toList ds p := hA0
  rw [Tryz.params7] at hA hval
  have hAk := hA
  obtain ⟨v0, vs0, d0, ds0, p0, q0, hargs0, rfl, rfl, h0, r0⟩ := trodAll_cons hA
  obtain ⟨v1, vs1, d1, ds1, p1, q1, hargs1, rfl, rfl, h1, r1⟩ := trodAll_cons r0
  obtain ⟨v2, vs2, d2, ds2, p2, q2, hargs2, rfl, rfl, h2, r2⟩ := trodAll_cons r1
  obtain ⟨rfl, rfl, rfl⟩ := trodAll_nil r2
  obtain rfl : args = #[v0, v1, v2] := by cases args; simp_all
  obtain ⟨rfl, rfl⟩ := trodVars_none hV
  obtain ⟨n0, hn0⟩ := h0
  obtain ⟨l0, hK0, w0⟩ := o22 _ _ _ _ _ _ hn0
  obtain ⟨A0, c0, rfl, hc0, hr0⟩ := slice_of Tryz.underlying22 (hval 0 22 v0 rfl rfl) hK0
  obtain ⟨n1, hn1⟩ := h1
  obtain ⟨l1, hK1, w1⟩ := o22 _ _ _ _ _ _ hn1
  obtain ⟨A1, c1, rfl, hc1, hr1⟩ := slice_of Tryz.underlying22 (hval 1 22 v1 rfl rfl) hK1
  obtain ⟨n2, hn2⟩ := h2
  obtain ⟨l2, hK2, w2⟩ := o33 _ _ _ _ _ _ hn2
  obtain ⟨A2, c2, rfl, hc2, hr2⟩ := slice_of Tryz.underlying33 (hval 2 33 v2 rfl rfl) hK2
  obtain ⟨k, hk⟩ := Pure.FnExactSameElsewhere.main l0 l1 l2 w0 w1 w2
  refine (PFnExactSameElsewhere.laws_FnExactSameElsewhere.calls k _ _ l0 _ _ l1 _ _ l2 true W hr0 hc0 hr1 hc1 hr2 hc2 hk).mono fun e W' ⟨he, bel0⟩ => ?_
  subst he
  have bel : Below W.heap.size W W' := bel0
  have hst := args_stay laidOut bel okTypes (fun x hx => hW'.lt x (by first | (simp at hx; done) | simpa using hx)) hAk
  exact ⟨_, rfl, _, _, _, [], _, [], hW', trodAll_mk1 (shut_bool Tryz.underlying4 _), hst, rfl, bel.frame _, fun h => by cases h⟩
theorem over : Rows.fnExactSameElsewhereRow.holds Tryz.pinned (OpenSpec.ofChange Rows.fnExactSameElsewhereSpec) :=
  OpenClaim.holds_of_wide 7 Tryz.f7 rfl rfl rfl rfl rfl rfl rfl ⟨rfl, rfl, rfl, rfl, rfl⟩ rfl rfl rfl rfl rfl (by kernel_rfl) Tryz.func7 (Facts.joined (by kernel_rfl))
    (of_decide_eq_true (by kernel_rfl)) (by unfold Func.isWrapper; first | (rw [if_pos (by decide +kernel)]; kernel_rfl) | (rw [if_neg (by decide +kernel)]; exact ⟨rfl, rfl⟩))
    (fun os started H enc _ => lifted os started H enc)
end Go.Proofs.YtellpkihlbbnhaaGreat.fnExactSameElsewhere
namespace Go.Proofs.YtellpkihlbbnhaaGreat
/-- The row, under a short name, for the claim. -/
theorem fnExactSameElsewhere_holds : Rows.FnExactSameElsewhereSaid := fnExactSameElsewhere.over
end Go.Proofs.YtellpkihlbbnhaaGreat
