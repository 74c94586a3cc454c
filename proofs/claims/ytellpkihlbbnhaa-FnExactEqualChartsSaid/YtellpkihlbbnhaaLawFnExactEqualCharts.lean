/- FnExactEqualCharts: the row over the printed walk: for every input the law returns true and each argument reads afterwards as it did. No condition. Written by rowgen.py (a program of this session's). -/
import Derived.Test.YtellpkihlbbnhaaRows
import Derived.Test.YtellpkihlbbnhaaFacts
import Derived.Test.YtellpkihlbbnhaaPFnExactEqualChartsx
import Derived.Test.YtellpkihlbbnhaaOpen
import Derived.Test.YtellpkihlbbnhaaPureFnExactEqualCharts
import Derived.WalkKit
import Derived.ProofKit
import Derived.OpenShut
import Derived.ShutString
import Derived.ChangeOld
import Derived.Below
import Derived.SizedLaws
namespace Go.Proofs.Ytellpkihlbbnhaa.fnExactEqualCharts
open Go.ChangeShapes Go.WideShapes Go.ChangeAt Go.RowKit
open Go.ChangeMaps (open_string shut_string)
open Go.Proofs.YtellpkihlbbnhaaOpen Go.Proofs.Ytellpkihlbbnhaa.PFnExactEqualCharts Go.Proofs.YtellpkihlbbnhaaW.PrintWords
set_option linter.unusedVariables false
set_option linter.unusedSimpArgs false
theorem own : ownKnob Try.prog.godebug = none := by kernel_rfl
theorem laidOut : laidOutB Try.prog = true := by kernel_rfl
theorem o3 : Opens Try.prog 3 (Kd.int .i64) (fun n => (Lit.int .i64 n).wf = true) := opens_int Try.underlying3
theorem o9 : Opens Try.prog 9 Kd.string (fun s => s.size ≤ 9223372036854775807) := opens_string Try.underlying9
theorem o51 : Opens Try.prog 51 k51 (fun x => ((Lit.int .i64 x.f0).wf = true ∧ (Lit.int .i64 x.f1).wf = true)) := opens_struct Try.underlying51 (opensFs_cons o3 (by kernel_rfl) (by kernel_rfl) (opensFs_one o3 (by kernel_rfl) (by kernel_rfl))) (by kernel_rfl) (fun x : S51 => (x.f0, x.f1)) (fun p => ⟨p.1, p.2⟩) (fun _ => rfl)
theorem o47 : Opens Try.prog 47 (Kd.slice 51 k51) (fun l => l.length ≤ 9223372036854775807 ∧ ∀ x ∈ l, ((Lit.int .i64 x.f0).wf = true ∧ (Lit.int .i64 x.f1).wf = true)) := opens_slice Try.underlying47 o51 (by kernel_rfl) 51
theorem o49 : Opens Try.prog 49 k49 (fun x => ((Lit.int .i64 x.f0).wf = true ∧ (Lit.int .i64 x.f1).wf = true ∧ (Lit.int .i64 x.f2).wf = true ∧ x.f3.size ≤ 9223372036854775807 ∧ (x.f4.length ≤ 9223372036854775807 ∧ ∀ y ∈ x.f4, ((Lit.int .i64 y.f0).wf = true ∧ (Lit.int .i64 y.f1).wf = true)))) := opens_struct Try.underlying49 (opensFs_cons o3 (by kernel_rfl) (by kernel_rfl) (opensFs_cons o3 (by kernel_rfl) (by kernel_rfl) (opensFs_cons o3 (by kernel_rfl) (by kernel_rfl) (opensFs_cons o9 (by kernel_rfl) (by kernel_rfl) (opensFs_one o47 (by kernel_rfl) (by kernel_rfl)))))) (by kernel_rfl) (fun x : S49 => (x.f0, x.f1, x.f2, x.f3, x.f4)) (fun p => ⟨p.1, p.2.1, p.2.2.1, p.2.2.2.1, p.2.2.2.2⟩) (fun _ => rfl)
theorem o22 : Opens Try.prog 22 (Kd.slice 49 k49) (fun l => l.length ≤ 9223372036854775807 ∧ ∀ x ∈ l, ((Lit.int .i64 x.f0).wf = true ∧ (Lit.int .i64 x.f1).wf = true ∧ (Lit.int .i64 x.f2).wf = true ∧ x.f3.size ≤ 9223372036854775807 ∧ (x.f4.length ≤ 9223372036854775807 ∧ ∀ y ∈ x.f4, ((Lit.int .i64 y.f0).wf = true ∧ (Lit.int .i64 y.f1).wf = true)))) := opens_slice Try.underlying22 o49 (by kernel_rfl) 49
theorem o53 : Opens Try.prog 53 k53 (fun x => (((Lit.int .i64 x.f0.f0).wf = true ∧ (Lit.int .i64 x.f0.f1).wf = true) ∧ ((Lit.int .i64 x.f1.f0).wf = true ∧ (Lit.int .i64 x.f1.f1).wf = true))) := opens_struct Try.underlying53 (opensFs_cons o51 (by kernel_rfl) (by kernel_rfl) (opensFs_one o51 (by kernel_rfl) (by kernel_rfl))) (by kernel_rfl) (fun x : S53 => (x.f0, x.f1)) (fun p => ⟨p.1, p.2⟩) (fun _ => rfl)
theorem o55 : Opens Try.prog 55 k55 (fun x => ((Lit.int .i64 x.f0).wf = true ∧ x.f1.size ≤ 9223372036854775807 ∧ (((Lit.int .i64 x.f2.f0.f0).wf = true ∧ (Lit.int .i64 x.f2.f0.f1).wf = true) ∧ ((Lit.int .i64 x.f2.f1.f0).wf = true ∧ (Lit.int .i64 x.f2.f1.f1).wf = true)))) := opens_struct Try.underlying55 (opensFs_cons o3 (by kernel_rfl) (by kernel_rfl) (opensFs_cons o9 (by kernel_rfl) (by kernel_rfl) (opensFs_one o53 (by kernel_rfl) (by kernel_rfl)))) (by kernel_rfl) (fun x : S55 => (x.f0, x.f1, x.f2)) (fun p => ⟨p.1, p.2.1, p.2.2⟩) (fun _ => rfl)
theorem o23 : Opens Try.prog 23 (Kd.slice 55 k55) (fun l => l.length ≤ 9223372036854775807 ∧ ∀ x ∈ l, ((Lit.int .i64 x.f0).wf = true ∧ x.f1.size ≤ 9223372036854775807 ∧ (((Lit.int .i64 x.f2.f0.f0).wf = true ∧ (Lit.int .i64 x.f2.f0.f1).wf = true) ∧ ((Lit.int .i64 x.f2.f1.f0).wf = true ∧ (Lit.int .i64 x.f2.f1.f1).wf = true)))) := opens_slice Try.underlying23 o55 (by kernel_rfl) 55
theorem o25 : Opens Try.prog 25 (Kd.iso (Kd.pair (Kd.slice 49 k49) (Kd.slice 55 k55)) (fun x => x)) (fun x => ((x.1.length ≤ 9223372036854775807 ∧ ∀ y ∈ x.1, ((Lit.int .i64 y.f0).wf = true ∧ (Lit.int .i64 y.f1).wf = true ∧ (Lit.int .i64 y.f2).wf = true ∧ y.f3.size ≤ 9223372036854775807 ∧ (y.f4.length ≤ 9223372036854775807 ∧ ∀ z ∈ y.f4, ((Lit.int .i64 z.f0).wf = true ∧ (Lit.int .i64 z.f1).wf = true)))) ∧ (x.2.length ≤ 9223372036854775807 ∧ ∀ y ∈ x.2, ((Lit.int .i64 y.f0).wf = true ∧ y.f1.size ≤ 9223372036854775807 ∧ (((Lit.int .i64 y.f2.f0.f0).wf = true ∧ (Lit.int .i64 y.f2.f0.f1).wf = true) ∧ ((Lit.int .i64 y.f2.f1.f0).wf = true ∧ (Lit.int .i64 y.f2.f1.f1).wf = true)))))) := opens_struct Try.underlying25 (opensFs_cons o22 (by kernel_rfl) (by kernel_rfl) (opensFs_one o23 (by kernel_rfl) (by kernel_rfl))) (by kernel_rfl) (fun x => x) (fun x => x) (fun _ => rfl)
theorem okTypes : ∀ t ∈ [25, 25], Try.prog.readableRec t = true ∧ t < Try.prog.types.size := by
  intro t ht; simp only [List.mem_cons, List.not_mem_nil, or_false] at ht; rcases ht with rfl | rfl <;> exact ⟨by kernel_rfl, of_decide_eq_true (by kernel_rfl)⟩
set_option maxRecDepth 100000 in
theorem lifted (os : Os) (started : os.Started) (H : Type) (enc : TypeId × Value → H) :
    ReturnsInHanded {} Try.checked os 3 .any (Rows.fnExactEqualChartsSpec.pre6 enc Try.prog Try.f3 Rows.fnExactEqualChartsRow.domain false) (Rows.fnExactEqualChartsSpec.post enc Try.prog Try.f3 false true false false) := by
  refine returnsInHanded_of_change_sized (C := Try.checked) own started (by kernel_rfl) Try.func3
    (ChangeSpec.witness6 (enc := enc) (C := Try.checked) false ⟨#[], #[.agg #[.slice none 0 0, .slice none 0 0], .agg #[.slice none 0 0, .slice none 0 0]], []⟩ 8 (by kernel_rfl) (by kernel_rfl) (by kernel_rfl) (by kernel_rfl)) ?_
  intro W base args ds gs before hval0 hW hcnd hsz0 _
  have hval : ∀ (j : Nat) t v, Try.f3.params[j]? = some t → args[j]? = some v → Value.okWide Try.prog W .any base t v := hval0
  have hW' := hW
  obtain ⟨p, q, hA0, hV, rfl, hfz, hnd⟩ := hW
  have hA : DataW.TrodAll enc Try.prog W 0 (fun _ => true) true Try.f3.params.toList args.toList ds p := hA0
  rw [Try.params3] at hA hval
  have hAk := hA
  obtain ⟨v0, vs0, d0, ds0, p0, q0, hargs0, rfl, rfl, h0, r0⟩ := trodAll_cons hA
  obtain ⟨v1, vs1, d1, ds1, p1, q1, hargs1, rfl, rfl, h1, r1⟩ := trodAll_cons r0
  obtain ⟨rfl, rfl, rfl⟩ := trodAll_nil r1
  obtain rfl : args = #[v0, v1] := by cases args; simp_all
  obtain ⟨rfl, rfl⟩ := trodVars_none hV
  obtain ⟨n0, hn0⟩ := h0
  obtain ⟨x0, hK0, w0⟩ := o25 _ _ _ _ _ _ hn0
  obtain ⟨cs0, rfl⟩ := agg_of Try.underlying25 (hval 0 25 v0 rfl rfl)
  obtain ⟨l0_0, l0_1⟩ := x0
  obtain ⟨b0_0, b0_1⟩ := w0
  have hcs0 := hK0
  generalize hcell0 : (Value.agg cs0).cells.toList = lst0 at hcs0
  obtain ⟨_, _, rfl, ⟨A0_0, c0_0, rfl, hc0_0, hr0_0⟩, ⟨A0_1, c0_1, rfl, hc0_1, hr0_1⟩⟩ := hcs0
  obtain rfl : cs0 = #[.slice A0_0 l0_0.length c0_0, .slice A0_1 l0_1.length c0_1] := by cases cs0; simpa [Value.cells] using hcell0
  obtain ⟨n1, hn1⟩ := h1
  obtain ⟨x1, hK1, w1⟩ := o25 _ _ _ _ _ _ hn1
  obtain ⟨cs1, rfl⟩ := agg_of Try.underlying25 (hval 1 25 v1 rfl rfl)
  obtain ⟨l1_0, l1_1⟩ := x1
  obtain ⟨b1_0, b1_1⟩ := w1
  have hcs1 := hK1
  generalize hcell1 : (Value.agg cs1).cells.toList = lst1 at hcs1
  obtain ⟨_, _, rfl, ⟨A1_0, c1_0, rfl, hc1_0, hr1_0⟩, ⟨A1_1, c1_1, rfl, hc1_1, hr1_1⟩⟩ := hcs1
  obtain rfl : cs1 = #[.slice A1_0 l1_0.length c1_0, .slice A1_1 l1_1.length c1_1] := by cases cs1; simpa [Value.cells] using hcell1
  obtain ⟨k, hk⟩ := Pure.FnExactEqualCharts.main l0_0 l0_1 l1_0 l1_1 b0_0 b0_1 b1_0 b1_1
  refine (PFnExactEqualCharts.laws_FnExactEqualCharts.calls k _ _ l0_0 _ _ l0_1 _ _ l1_0 _ _ l1_1 true W hr0_0 hc0_0 hr0_1 hc0_1 hr1_0 hc1_0 hr1_1 hc1_1 hk).mono fun e W' ⟨he, bel0⟩ => ?_
  subst he
  have bel : Below W.heap.size W W' := bel0
  have hst := args_stay laidOut bel okTypes (fun x hx => hW'.lt x (by first | (simp at hx; done) | simpa using hx)) hAk
  exact ⟨_, rfl, _, _, _, [], _, [], hW', trodAll_mk1 (shut_bool Try.underlying4 _), hst, rfl, bel.frame _, fun h => by cases h⟩
theorem over : Rows.fnExactEqualChartsRow.holds Try.pinned (OpenSpec.ofChange Rows.fnExactEqualChartsSpec) :=
  OpenClaim.holds_of_wide 3 Try.f3 rfl rfl rfl rfl rfl rfl rfl ⟨rfl, rfl, rfl, rfl, rfl⟩ rfl rfl rfl rfl rfl (by kernel_rfl) Try.func3 (Facts.joined (by kernel_rfl))
    (of_decide_eq_true (by kernel_rfl)) (by unfold Func.isWrapper; first | (rw [if_pos (by decide +kernel)]; kernel_rfl) | (rw [if_neg (by decide +kernel)]; exact ⟨rfl, rfl⟩))
    (fun os started H enc _ => lifted os started H enc)
end Go.Proofs.Ytellpkihlbbnhaa.fnExactEqualCharts
namespace Go.Proofs.Ytellpkihlbbnhaa
/-- The row, under a short name, for the claim. -/
theorem fnExactEqualCharts_holds : Rows.FnExactEqualChartsSaid := fnExactEqualCharts.over
end Go.Proofs.Ytellpkihlbbnhaa
