/- FnExactMeetsBox: the row over the printed walk: for every input the law returns true and each argument reads afterwards as it did. No condition. Written by rowgen.py (a program of this session's). -/
import Derived.Test.YtlclpggodhodiaaRows
import Derived.Test.YtlclpggodhodiaaFacts
import Derived.Test.YtlclpggodhodiaaPFnExactMeetsBoxx
import Derived.Test.YtlclpggodhodiaaOpen
import Derived.Test.YtlclpggodhodiaaPureFnExactMeetsBox
import Derived.WalkKit
import Derived.ProofKit
import Derived.OpenShut
import Derived.ShutString
import Derived.ChangeOld
import Derived.Below
import Derived.SizedLaws
namespace Go.Proofs.Ytlclpggodhodiaa.fnExactMeetsBox
open Go.ChangeShapes Go.WideShapes Go.ChangeAt Go.RowKit
open Go.ChangeMaps (open_string shut_string)
open Go.Proofs.YtlclpggodhodiaaOpen Go.Proofs.Ytlclpggodhodiaa.PFnExactMeetsBox Go.Proofs.YtlclpggodhodiaaW.PrintWords
set_option linter.unusedVariables false
set_option linter.unusedSimpArgs false
theorem own : ownKnob Try.prog.godebug = none := by kernel_rfl
theorem laidOut : laidOutB Try.prog = true := by kernel_rfl
theorem o3 : Opens Try.prog 3 (Kd.int .i64) (fun n => (Lit.int .i64 n).wf = true) := opens_int Try.underlying3
theorem o31 : Opens Try.prog 31 (Kd.iso (Kd.pair (Kd.int .i64) (Kd.int .i64)) (fun x => x)) (fun x => ((Lit.int .i64 x.1).wf = true ∧ (Lit.int .i64 x.2).wf = true)) := opens_struct Try.underlying31 (opensFs_cons o3 (by kernel_rfl) (by kernel_rfl) (opensFs_one o3 (by kernel_rfl) (by kernel_rfl))) (by kernel_rfl) (fun x => x) (fun x => x) (fun _ => rfl)
theorem o67 : Opens Try.prog 67 (Kd.iso (Kd.pair (Kd.iso (Kd.pair (Kd.int .i64) (Kd.int .i64)) (fun x => x)) (Kd.iso (Kd.pair (Kd.int .i64) (Kd.int .i64)) (fun x => x))) (fun x => x)) (fun x => (((Lit.int .i64 x.1.1).wf = true ∧ (Lit.int .i64 x.1.2).wf = true) ∧ ((Lit.int .i64 x.2.1).wf = true ∧ (Lit.int .i64 x.2.2).wf = true))) := opens_struct Try.underlying67 (opensFs_cons o31 (by kernel_rfl) (by kernel_rfl) (opensFs_one o31 (by kernel_rfl) (by kernel_rfl))) (by kernel_rfl) (fun x => x) (fun x => x) (fun _ => rfl)
theorem o69 : Opens Try.prog 69 (Kd.iso (Kd.pair (Kd.iso (Kd.pair (Kd.int .i64) (Kd.int .i64)) (fun x => x)) (Kd.iso (Kd.pair (Kd.int .i64) (Kd.int .i64)) (fun x => x))) (fun x => x)) (fun x => (((Lit.int .i64 x.1.1).wf = true ∧ (Lit.int .i64 x.1.2).wf = true) ∧ ((Lit.int .i64 x.2.1).wf = true ∧ (Lit.int .i64 x.2.2).wf = true))) := opens_struct Try.underlying69 (opensFs_cons o31 (by kernel_rfl) (by kernel_rfl) (opensFs_one o31 (by kernel_rfl) (by kernel_rfl))) (by kernel_rfl) (fun x => x) (fun x => x) (fun _ => rfl)
theorem okTypes : ∀ t ∈ [67, 69], Try.prog.readableRec t = true ∧ t < Try.prog.types.size := by
  intro t ht; simp only [List.mem_cons, List.not_mem_nil, or_false] at ht; rcases ht with rfl | rfl <;> exact ⟨by kernel_rfl, of_decide_eq_true (by kernel_rfl)⟩
set_option maxRecDepth 100000 in
theorem lifted (os : Os) (started : os.Started) (H : Type) (enc : TypeId × Value → H) :
    ReturnsInHanded {} Try.checked os 13 .any (Rows.fnExactMeetsBoxSpec.pre6 enc Try.prog Try.f13 Rows.fnExactMeetsBoxRow.domain false) (Rows.fnExactMeetsBoxSpec.post enc Try.prog Try.f13 false true false false) := by
  refine returnsInHanded_of_change_sized (C := Try.checked) own started (by kernel_rfl) Try.func13
    (ChangeSpec.witness6 (enc := enc) (C := Try.checked) false ⟨#[], #[.agg #[.int .i64 0, .int .i64 0, .int .i64 0, .int .i64 0], .agg #[.int .i64 0, .int .i64 0, .int .i64 0, .int .i64 0]], []⟩ 8 (by kernel_rfl) (by kernel_rfl) (by kernel_rfl) (by kernel_rfl)) ?_
  intro W base args ds gs before hval0 hW hcnd hsz0 _
  have hval : ∀ (j : Nat) t v, Try.f13.params[j]? = some t → args[j]? = some v → Value.okWide Try.prog W .any base t v := hval0
  have hW' := hW
  obtain ⟨p, q, hA0, hV, rfl, hfz, hnd⟩ := hW
  have hA : DataW.TrodAll enc Try.prog W 0 (fun _ => true) true Try.f13.params.toList args.toList ds p := hA0
  rw [Try.params13] at hA hval
  have hAk := hA
  obtain ⟨v0, vs0, d0, ds0, p0, q0, hargs0, rfl, rfl, h0, r0⟩ := trodAll_cons hA
  obtain ⟨v1, vs1, d1, ds1, p1, q1, hargs1, rfl, rfl, h1, r1⟩ := trodAll_cons r0
  obtain ⟨rfl, rfl, rfl⟩ := trodAll_nil r1
  obtain rfl : args = #[v0, v1] := by cases args; simp_all
  obtain ⟨rfl, rfl⟩ := trodVars_none hV
  obtain ⟨n0, hn0⟩ := h0
  obtain ⟨x0, hK0, w0⟩ := o67 _ _ _ _ _ _ hn0
  obtain ⟨cs0, rfl⟩ := agg_of Try.underlying67 (hval 0 67 v0 rfl rfl)
  obtain ⟨⟨a0_0, a0_1⟩, ⟨a0_2, a0_3⟩⟩ := x0
  obtain ⟨⟨b0_0, b0_1⟩, ⟨b0_2, b0_3⟩⟩ := w0
  have hcs0 := hK0
  generalize hcell0 : (Value.agg cs0).cells.toList = lst0 at hcs0
  obtain ⟨_, _, rfl, ⟨_, _, rfl, rfl, rfl⟩, ⟨_, _, rfl, rfl, rfl⟩⟩ := hcs0
  obtain rfl : cs0 = #[.int .i64 a0_0, .int .i64 a0_1, .int .i64 a0_2, .int .i64 a0_3] := by cases cs0; simpa [Value.cells] using hcell0
  obtain ⟨n1, hn1⟩ := h1
  obtain ⟨x1, hK1, w1⟩ := o69 _ _ _ _ _ _ hn1
  obtain ⟨cs1, rfl⟩ := agg_of Try.underlying69 (hval 1 69 v1 rfl rfl)
  obtain ⟨⟨a1_0, a1_1⟩, ⟨a1_2, a1_3⟩⟩ := x1
  obtain ⟨⟨b1_0, b1_1⟩, ⟨b1_2, b1_3⟩⟩ := w1
  have hcs1 := hK1
  generalize hcell1 : (Value.agg cs1).cells.toList = lst1 at hcs1
  obtain ⟨_, _, rfl, ⟨_, _, rfl, rfl, rfl⟩, ⟨_, _, rfl, rfl, rfl⟩⟩ := hcs1
  obtain rfl : cs1 = #[.int .i64 a1_0, .int .i64 a1_1, .int .i64 a1_2, .int .i64 a1_3] := by cases cs1; simpa [Value.cells] using hcell1
  obtain ⟨k, hk⟩ := Pure.FnExactMeetsBox.main a0_0 a0_1 a0_2 a0_3 a1_0 a1_1 a1_2 a1_3 b0_0 b0_1 b0_2 b0_3 b1_0 b1_1 b1_2 b1_3
  refine (PFnExactMeetsBox.laws_FnExactMeetsBox.calls k a0_0 a0_1 a0_2 a0_3 a1_0 a1_1 a1_2 a1_3 true W hk).mono fun e W' ⟨he, bel0⟩ => ?_
  subst he
  have bel : Below W.heap.size W W' := bel0
  have hst := args_stay laidOut bel okTypes (fun x hx => hW'.lt x (by first | (simp at hx; done) | simpa using hx)) hAk
  exact ⟨_, rfl, _, _, _, [], _, [], hW', trodAll_mk1 (shut_bool Try.underlying4 _), hst, rfl, bel.frame _, fun h => by cases h⟩
theorem over : Rows.fnExactMeetsBoxRow.holds Try.pinned (OpenSpec.ofChange Rows.fnExactMeetsBoxSpec) :=
  OpenClaim.holds_of_wide 13 Try.f13 rfl rfl rfl rfl rfl rfl rfl ⟨rfl, rfl, rfl, rfl, rfl⟩ rfl rfl rfl rfl rfl (by kernel_rfl) Try.func13 (Facts.joined (by kernel_rfl))
    (of_decide_eq_true (by kernel_rfl)) (by unfold Func.isWrapper; first | (rw [if_pos (by decide +kernel)]; kernel_rfl) | (rw [if_neg (by decide +kernel)]; exact ⟨rfl, rfl⟩))
    (fun os started H enc _ => lifted os started H enc)
end Go.Proofs.Ytlclpggodhodiaa.fnExactMeetsBox
namespace Go.Proofs.Ytlclpggodhodiaa
/-- The row, under a short name, for the claim. -/
theorem fnExactMeetsBox_holds : Rows.FnExactMeetsBoxSaid := fnExactMeetsBox.over
end Go.Proofs.Ytlclpggodhodiaa
