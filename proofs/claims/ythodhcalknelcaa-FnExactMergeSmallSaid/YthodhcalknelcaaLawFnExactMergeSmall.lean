/- FnExactMergeSmall: the row over the printed walk: for every input the law returns true and each argument reads afterwards as it did. No condition. Written by rowgen.py (a program of this session's). -/
import Derived.Test.YthodhcalknelcaaRows
import Derived.Test.YthodhcalknelcaaFacts
import Derived.Test.YthodhcalknelcaaPFnExactMergeSmallx
import Derived.Test.YthodhcalknelcaaOpen
import Derived.Test.YthodhcalknelcaaPureFnExactMergeSmall
import Derived.WalkKit
import Derived.ProofKit
import Derived.OpenShut
import Derived.ShutString
import Derived.ChangeOld
import Derived.Below
import Derived.SizedLaws
namespace Go.Proofs.Ythodhcalknelcaa.fnExactMergeSmall
open Go.ChangeShapes Go.WideShapes Go.ChangeAt Go.RowKit
open Go.ChangeMaps (open_string shut_string)
open Go.Proofs.YthodhcalknelcaaOpen Go.Proofs.Ythodhcalknelcaa.PFnExactMergeSmall Go.Proofs.YthodhcalknelcaaW.PrintWords
set_option linter.unusedVariables false
set_option linter.unusedSimpArgs false
theorem own : ownKnob Try.prog.godebug = none := by kernel_rfl
theorem laidOut : laidOutB Try.prog = true := by kernel_rfl
theorem o3 : Opens Try.prog 3 (Kd.int .i64) (fun n => (Lit.int .i64 n).wf = true) := opens_int Try.underlying3
theorem o9 : Opens Try.prog 9 Kd.string (fun s => s.size ≤ 9223372036854775807) := opens_string Try.underlying9
theorem o23 : Opens Try.prog 23 (Kd.iso (Kd.pair (Kd.int .i64) (Kd.pair (Kd.int .i64) Kd.string)) (fun x => x)) (fun x => ((Lit.int .i64 x.1).wf = true ∧ (Lit.int .i64 x.2.1).wf = true ∧ x.2.2.size ≤ 9223372036854775807)) := opens_struct Try.underlying23 (opensFs_cons o3 (by kernel_rfl) (by kernel_rfl) (opensFs_cons o3 (by kernel_rfl) (by kernel_rfl) (opensFs_one o9 (by kernel_rfl) (by kernel_rfl)))) (by kernel_rfl) (fun x => x) (fun x => x) (fun _ => rfl)
theorem okTypes : ∀ t ∈ [23, 3], Try.prog.readableRec t = true ∧ t < Try.prog.types.size := by
  intro t ht; simp only [List.mem_cons, List.not_mem_nil, or_false] at ht; rcases ht with rfl | rfl <;> exact ⟨by kernel_rfl, of_decide_eq_true (by kernel_rfl)⟩
set_option maxRecDepth 100000 in
theorem lifted (os : Os) (started : os.Started) (H : Type) (enc : TypeId × Value → H) :
    ReturnsInHanded {} Try.checked os 18 .any (Rows.fnExactMergeSmallSpec.pre6 enc Try.prog Try.f18 Rows.fnExactMergeSmallRow.domain false) (Rows.fnExactMergeSmallSpec.post enc Try.prog Try.f18 false true false false) := by
  refine returnsInHanded_of_change_sized (C := Try.checked) own started (by kernel_rfl) Try.func18
    (ChangeSpec.witness6 (enc := enc) (C := Try.checked) false ⟨#[], #[.agg #[.int .i64 0, .int .i64 0, .string ⟨#[]⟩], .int .i64 0], []⟩ 8 (by kernel_rfl) (by kernel_rfl) (by kernel_rfl) (by kernel_rfl)) ?_
  intro W base args ds gs before hval0 hW hcnd hsz0 _
  have hval : ∀ (j : Nat) t v, Try.f18.params[j]? = some t → args[j]? = some v → Value.okWide Try.prog W .any base t v := hval0
  have hW' := hW
  obtain ⟨p, q, hA0, hV, rfl, hfz, hnd⟩ := hW
  have hA : DataW.TrodAll enc Try.prog W 0 (fun _ => true) true Try.f18.params.toList args.toList ds p := hA0
  rw [Try.params18] at hA hval
  have hAk := hA
  obtain ⟨v0, vs0, d0, ds0, p0, q0, hargs0, rfl, rfl, h0, r0⟩ := trodAll_cons hA
  obtain ⟨v1, vs1, d1, ds1, p1, q1, hargs1, rfl, rfl, h1, r1⟩ := trodAll_cons r0
  obtain ⟨rfl, rfl, rfl⟩ := trodAll_nil r1
  obtain rfl : args = #[v0, v1] := by cases args; simp_all
  obtain ⟨rfl, rfl⟩ := trodVars_none hV
  obtain ⟨n0, hn0⟩ := h0
  obtain ⟨x0, hK0, w0⟩ := o23 _ _ _ _ _ _ hn0
  obtain ⟨cs0, rfl⟩ := agg_of Try.underlying23 (hval 0 23 v0 rfl rfl)
  obtain ⟨a0_0, a0_1, a0_2⟩ := x0
  obtain ⟨b0_0, b0_1, b0_2⟩ := w0
  have hcs0 := hK0
  generalize hcell0 : (Value.agg cs0).cells.toList = lst0 at hcs0
  obtain ⟨_, _, rfl, rfl, ⟨_, _, rfl, rfl, rfl⟩⟩ := hcs0
  obtain rfl : cs0 = #[.int .i64 a0_0, .int .i64 a0_1, .string a0_2] := by cases cs0; simpa [Value.cells] using hcell0
  obtain ⟨a1, rfl, rfl, rfl, w1⟩ := open_int Try.underlying3 (hval 1 3 v1 rfl rfl) h1
  obtain ⟨k, hk⟩ := Pure.FnExactMergeSmall.main a0_0 a0_1 a0_2 a1 b0_0 b0_1 b0_2 w1
  refine (PFnExactMergeSmall.laws_FnExactMergeSmall.calls k a0_0 a0_1 a0_2 a1 true W hk).mono fun e W' ⟨he, bel0⟩ => ?_
  subst he
  have bel : Below W.heap.size W W' := bel0
  have hst := args_stay laidOut bel okTypes (fun x hx => hW'.lt x (by first | (simp at hx; done) | simpa using hx)) hAk
  exact ⟨_, rfl, _, _, _, [], _, [], hW', trodAll_mk1 (shut_bool Try.underlying4 _), hst, rfl, bel.frame _, fun h => by cases h⟩
theorem over : Rows.fnExactMergeSmallRow.holds Try.pinned (OpenSpec.ofChange Rows.fnExactMergeSmallSpec) :=
  OpenClaim.holds_of_wide 18 Try.f18 rfl rfl rfl rfl rfl rfl rfl ⟨rfl, rfl, rfl, rfl, rfl⟩ rfl rfl rfl rfl rfl (by kernel_rfl) Try.func18 (Facts.joined (by kernel_rfl))
    (of_decide_eq_true (by kernel_rfl)) (by unfold Func.isWrapper; first | (rw [if_pos (by decide +kernel)]; kernel_rfl) | (rw [if_neg (by decide +kernel)]; exact ⟨rfl, rfl⟩))
    (fun os started H enc _ => lifted os started H enc)
end Go.Proofs.Ythodhcalknelcaa.fnExactMergeSmall
namespace Go.Proofs.Ythodhcalknelcaa
/-- The row, under a short name, for the claim. -/
theorem fnExactMergeSmall_holds : Rows.FnExactMergeSmallSaid := fnExactMergeSmall.over
end Go.Proofs.Ythodhcalknelcaa
