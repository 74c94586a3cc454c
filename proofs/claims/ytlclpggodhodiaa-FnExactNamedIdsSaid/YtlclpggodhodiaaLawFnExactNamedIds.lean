/- FnExactNamedIds: the row over the printed walk: for every input the law returns true and each argument reads afterwards as it did. No condition. Written by rowgen.py (a program of this session's). -/
import Derived.Test.YtlclpggodhodiaaRows
import Derived.Test.YtlclpggodhodiaaFacts
import Derived.Test.YtlclpggodhodiaaPFnExactNamedIdsx
import Derived.Test.YtlclpggodhodiaaOpen
import Derived.Test.YtlclpggodhodiaaPureFnExactNamedIds
import Derived.WalkKit
import Derived.ProofKit
import Derived.OpenShut
import Derived.ShutString
import Derived.ChangeOld
import Derived.Below
import Derived.SizedLaws
namespace Go.Proofs.Ytlclpggodhodiaa.fnExactNamedIds
open Go.ChangeShapes Go.WideShapes Go.ChangeAt Go.RowKit
open Go.ChangeMaps (open_string shut_string)
open Go.Proofs.YtlclpggodhodiaaOpen Go.Proofs.Ytlclpggodhodiaa.PFnExactNamedIds Go.Proofs.YtlclpggodhodiaaW.PrintWords
set_option linter.unusedVariables false
set_option linter.unusedSimpArgs false
theorem own : ownKnob Try.prog.godebug = none := by kernel_rfl
theorem laidOut : laidOutB Try.prog = true := by kernel_rfl
theorem o3 : Opens Try.prog 3 (Kd.int .i64) (fun n => (Lit.int .i64 n).wf = true) := opens_int Try.underlying3
theorem o9 : Opens Try.prog 9 Kd.string (fun s => s.size ≤ 9223372036854775807) := opens_string Try.underlying9
theorem o31 : Opens Try.prog 31 k31 (fun x => ((Lit.int .i64 x.f0).wf = true ∧ (Lit.int .i64 x.f1).wf = true)) := opens_struct Try.underlying31 (opensFs_cons o3 (by kernel_rfl) (by kernel_rfl) (opensFs_one o3 (by kernel_rfl) (by kernel_rfl))) (by kernel_rfl) (fun x : S31 => (x.f0, x.f1)) (fun p => ⟨p.1, p.2⟩) (fun _ => rfl)
theorem o69 : Opens Try.prog 69 k69 (fun x => (((Lit.int .i64 x.f0.f0).wf = true ∧ (Lit.int .i64 x.f0.f1).wf = true) ∧ ((Lit.int .i64 x.f1.f0).wf = true ∧ (Lit.int .i64 x.f1.f1).wf = true))) := opens_struct Try.underlying69 (opensFs_cons o31 (by kernel_rfl) (by kernel_rfl) (opensFs_one o31 (by kernel_rfl) (by kernel_rfl))) (by kernel_rfl) (fun x : S69 => (x.f0, x.f1)) (fun p => ⟨p.1, p.2⟩) (fun _ => rfl)
theorem o117 : Opens Try.prog 117 k117 (fun x => ((Lit.int .i64 x.f0).wf = true ∧ x.f1.size ≤ 9223372036854775807 ∧ (((Lit.int .i64 x.f2.f0.f0).wf = true ∧ (Lit.int .i64 x.f2.f0.f1).wf = true) ∧ ((Lit.int .i64 x.f2.f1.f0).wf = true ∧ (Lit.int .i64 x.f2.f1.f1).wf = true)))) := opens_struct Try.underlying117 (opensFs_cons o3 (by kernel_rfl) (by kernel_rfl) (opensFs_cons o9 (by kernel_rfl) (by kernel_rfl) (opensFs_one o69 (by kernel_rfl) (by kernel_rfl)))) (by kernel_rfl) (fun x : S117 => (x.f0, x.f1, x.f2)) (fun p => ⟨p.1, p.2.1, p.2.2⟩) (fun _ => rfl)
theorem o57 : Opens Try.prog 57 (Kd.slice 117 k117) (fun l => l.length ≤ 9223372036854775807 ∧ ∀ x ∈ l, ((Lit.int .i64 x.f0).wf = true ∧ x.f1.size ≤ 9223372036854775807 ∧ (((Lit.int .i64 x.f2.f0.f0).wf = true ∧ (Lit.int .i64 x.f2.f0.f1).wf = true) ∧ ((Lit.int .i64 x.f2.f1.f0).wf = true ∧ (Lit.int .i64 x.f2.f1.f1).wf = true)))) := opens_slice Try.underlying57 o117 (by kernel_rfl) 117
theorem okTypes : ∀ t ∈ [57], Try.prog.readableRec t = true ∧ t < Try.prog.types.size := by
  intro t ht; simp only [List.mem_cons, List.not_mem_nil, or_false] at ht; rcases ht with rfl <;> exact ⟨by kernel_rfl, of_decide_eq_true (by kernel_rfl)⟩
set_option maxRecDepth 100000 in
theorem lifted (os : Os) (started : os.Started) (H : Type) (enc : TypeId × Value → H) :
    ReturnsInHanded {} Try.checked os 12 .any (Rows.fnExactNamedIdsSpec.pre6 enc Try.prog Try.f12 Rows.fnExactNamedIdsRow.domain false) (Rows.fnExactNamedIdsSpec.post enc Try.prog Try.f12 false true false false) := by
  refine returnsInHanded_of_change_sized (C := Try.checked) own started (by kernel_rfl) Try.func12
    (ChangeSpec.witness6 (enc := enc) (C := Try.checked) false ⟨#[], #[.slice none 0 0], []⟩ 8 (by kernel_rfl) (by kernel_rfl) (by kernel_rfl) (by kernel_rfl)) ?_
  intro W base args ds gs before hval0 hW hcnd hsz0 _
  have hval : ∀ (j : Nat) t v, Try.f12.params[j]? = some t → args[j]? = some v → Value.okWide Try.prog W .any base t v := hval0
  have hW' := hW
  obtain ⟨p, q, hA0, hV, rfl, hfz, hnd⟩ := hW
  have hA : DataW.TrodAll enc Try.prog W 0 (fun _ => true) true Try.f12.params.toList args.toList ds p := hA0
  rw [Try.params12] at hA hval
  have hAk := hA
  obtain ⟨v0, vs0, d0, ds0, p0, q0, hargs0, rfl, rfl, h0, r0⟩ := trodAll_cons hA
  obtain ⟨rfl, rfl, rfl⟩ := trodAll_nil r0
  obtain rfl : args = #[v0] := by cases args; simp_all
  obtain ⟨rfl, rfl⟩ := trodVars_none hV
  obtain ⟨n0, hn0⟩ := h0
  obtain ⟨l0, hK0, w0⟩ := o57 _ _ _ _ _ _ hn0
  obtain ⟨A0, c0, rfl, hc0, hr0⟩ := slice_of Try.underlying57 (hval 0 57 v0 rfl rfl) hK0
  obtain ⟨k, hk⟩ := Pure.FnExactNamedIds.main l0 w0
  refine (PFnExactNamedIds.laws_FnExactNamedIds.calls k _ _ l0 true W hr0 hc0 hk).mono fun e W' ⟨he, bel0⟩ => ?_
  subst he
  have bel : Below W.heap.size W W' := bel0
  have hst := args_stay laidOut bel okTypes (fun x hx => hW'.lt x (by first | (simp at hx; done) | simpa using hx)) hAk
  exact ⟨_, rfl, _, _, _, [], _, [], hW', trodAll_mk1 (shut_bool Try.underlying4 _), hst, rfl, bel.frame _, fun h => by cases h⟩
theorem over : Rows.fnExactNamedIdsRow.holds Try.pinned (OpenSpec.ofChange Rows.fnExactNamedIdsSpec) :=
  OpenClaim.holds_of_wide 12 Try.f12 rfl rfl rfl rfl rfl rfl rfl ⟨rfl, rfl, rfl, rfl, rfl⟩ rfl rfl rfl rfl rfl (by kernel_rfl) Try.func12 (Facts.joined (by kernel_rfl))
    (of_decide_eq_true (by kernel_rfl)) (by unfold Func.isWrapper; first | (rw [if_pos (by decide +kernel)]; kernel_rfl) | (rw [if_neg (by decide +kernel)]; exact ⟨rfl, rfl⟩))
    (fun os started H enc _ => lifted os started H enc)
end Go.Proofs.Ytlclpggodhodiaa.fnExactNamedIds
namespace Go.Proofs.Ytlclpggodhodiaa
/-- The row, under a short name, for the claim. -/
theorem fnExactNamedIds_holds : Rows.FnExactNamedIdsSaid := fnExactNamedIds.over
end Go.Proofs.Ytlclpggodhodiaa
