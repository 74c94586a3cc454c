-- Written by a program of this session's (evlaw.py).
import Derived.Test.YtkomgmgpgnjooaaGreatPFnExactUnplacedx3
namespace Go.Proofs.YtkomgmgpgnjooaaGreat.PFnExactUnplaced
open Go.RowKit Go.Proofs.YtkomgmgpgnjooaaGreatW.PrintWords Go.Proofs.YtkomgmgpgnjooaaGreatW.PrintLast Go.Proofs.YtkomgmgpgnjooaaGreatW.PrintMore Go.Proofs.YtkomgmgpgnjooaaGreatGeo Go.Proofs.YtkomgmgpgnjooaaGreatHand Go.Proofs.YtkomgmgpgnjooaaGreatMeet Go.Proofs.YtkomgmgpgnjooaaGreatQuiet Go.Proofs.YtkomgmgpgnjooaaGreatZ
open Go Go.Proofs.YtkomgmgpgnjooaaGreatEv
attribute [local go_sem] max2_int min2_int max_two min_two max_three min_three max_four min_four   -- for this text's walks alone
set_option linter.unusedVariables false
set_option linter.unusedSimpArgs false



set_option linter.unusedSimpArgs false

attribute [local go_sem high] eqA75
set_option linter.unusedVariables false
set_option linter.unusedSimpArgs false
set_option maxRecDepth 100000
noncomputable section
theorem impl_SideOf.snd : Snd env impl_SideOf.spec := ⟨⟨Tryz.f174, by kernel_rfl, by kernel_rfl, by kernel_rfl⟩, fun k h r he w us hA => by
  obtain ⟨t, ht, rfl⟩ := Option.map_eq_some_iff.1 (show (impl_SideOf.f ((h.1 : S75).f0) ((h.1 : S75).f1) ((h.2.1 : S75).f0) ((h.2.1 : S75).f1) ((h.2.2.1 : S75).f0) ((h.2.2.1 : S75).f1)).map impl_SideOf.toH = some r from he)
  match us, hA with
  | [u0, u1, u2], ⟨q0, q1, q2, _⟩ =>
  obtain ⟨v0, rfl, q0⟩ := q0
  have q0 := (H75.K _ _ _).1 q0
  match e0 : v0.toList, q0 with
  | [c0_0, c0_1], ⟨p0_0, p0_1, _⟩ =>
  obtain rfl : v0 = #[c0_0, c0_1] := by rw [← Array.toArray_toList (xs := v0), e0]
  obtain rfl := List.singleton_inj.1 (show [c0_0] = [Value.int .i64 ((h.1 : S75).f0)] from p0_0)
  obtain rfl := List.singleton_inj.1 (show [c0_1] = [Value.int .i64 ((h.1 : S75).f1)] from p0_1)
  obtain ⟨v1, rfl, q1⟩ := q1
  have q1 := (H75.K _ _ _).1 q1
  match e1 : v1.toList, q1 with
  | [c1_0, c1_1], ⟨p1_0, p1_1, _⟩ =>
  obtain rfl : v1 = #[c1_0, c1_1] := by rw [← Array.toArray_toList (xs := v1), e1]
  obtain rfl := List.singleton_inj.1 (show [c1_0] = [Value.int .i64 ((h.2.1 : S75).f0)] from p1_0)
  obtain rfl := List.singleton_inj.1 (show [c1_1] = [Value.int .i64 ((h.2.1 : S75).f1)] from p1_1)
  obtain ⟨v2, rfl, q2⟩ := q2
  have q2 := (H75.K _ _ _).1 q2
  match e2 : v2.toList, q2 with
  | [c2_0, c2_1], ⟨p2_0, p2_1, _⟩ =>
  obtain rfl : v2 = #[c2_0, c2_1] := by rw [← Array.toArray_toList (xs := v2), e2]
  obtain rfl := List.singleton_inj.1 (show [c2_0] = [Value.int .i64 ((h.2.2.1 : S75).f0)] from p2_0)
  obtain rfl := List.singleton_inj.1 (show [c2_1] = [Value.int .i64 ((h.2.2.1 : S75).f1)] from p2_1)
  refine (impl_SideOf.calls (w := w) (h := ht) ).mono ?_
  rintro e w' ⟨he, hw⟩
  exact ⟨_, he, hw, [.int .i64 t], [fun _ => False], rfl, ⟨rfl, trivial⟩, by simp [DJ]⟩⟩
def impl_BeforePoint.toH (t : Bool) : HL eΓ [.b] := (t, ())
def impl_BeforePoint.run (k : Nat) (h : HL eΓ [.st .s75, .st .s75]) : Option (HL eΓ [.b]) := (impl_BeforePoint.f ((h.1 : S75).f0) ((h.1 : S75).f1) ((h.2.1 : S75).f0) ((h.2.1 : S75).f1)).map impl_BeforePoint.toH
def impl_BeforePoint.spec : Spc env := ⟨199, [.st .s75, .st .s75], [.b], impl_BeforePoint.run⟩
def impl_BeforePoint.ap {R : Type} (k : Nat) (h0 : S75) (h1 : S75) (K : Bool → Option R) : Option R := (impl_BeforePoint.run k (h0, h1, ())).bind fun r => K (r.1 : Bool)
theorem impl_BeforePoint.ap_of {R : Type} {k : Nat} {h0 : S75} {h1 : S75} {r0 : Bool} {K : Bool → Option R} (h : impl_BeforePoint.run k (h0, h1, ()) = some (r0, ())) : impl_BeforePoint.ap k h0 h1 K = K r0 := by unfold impl_BeforePoint.ap; rw [h]; rfl
theorem impl_BeforePoint.go {a0_0 : Int} {a0_1 : Int} {a1_0 : Int} {a1_1 : Int} {t} (h : impl_BeforePoint.f a0_0 a0_1 a1_0 a1_1 = some t) (K : Nat) : impl_BeforePoint.run K ((⟨a0_0, a0_1⟩ : S75), (⟨a1_0, a1_1⟩ : S75), ()) = some (impl_BeforePoint.toH t) := by
  show Option.map _ (impl_BeforePoint.f a0_0 a0_1 a1_0 a1_1) = _
  rw [h]; rfl
theorem impl_BeforePoint.snd : Snd env impl_BeforePoint.spec := ⟨⟨Tryz.f199, by kernel_rfl, by kernel_rfl, by kernel_rfl⟩, fun k h r he w us hA => by
  obtain ⟨t, ht, rfl⟩ := Option.map_eq_some_iff.1 (show (impl_BeforePoint.f ((h.1 : S75).f0) ((h.1 : S75).f1) ((h.2.1 : S75).f0) ((h.2.1 : S75).f1)).map impl_BeforePoint.toH = some r from he)
  match us, hA with
  | [u0, u1], ⟨q0, q1, _⟩ =>
  obtain ⟨v0, rfl, q0⟩ := q0
  have q0 := (H75.K _ _ _).1 q0
  match e0 : v0.toList, q0 with
  | [c0_0, c0_1], ⟨p0_0, p0_1, _⟩ =>
  obtain rfl : v0 = #[c0_0, c0_1] := by rw [← Array.toArray_toList (xs := v0), e0]
  obtain rfl := List.singleton_inj.1 (show [c0_0] = [Value.int .i64 ((h.1 : S75).f0)] from p0_0)
  obtain rfl := List.singleton_inj.1 (show [c0_1] = [Value.int .i64 ((h.1 : S75).f1)] from p0_1)
  obtain ⟨v1, rfl, q1⟩ := q1
  have q1 := (H75.K _ _ _).1 q1
  match e1 : v1.toList, q1 with
  | [c1_0, c1_1], ⟨p1_0, p1_1, _⟩ =>
  obtain rfl : v1 = #[c1_0, c1_1] := by rw [← Array.toArray_toList (xs := v1), e1]
  obtain rfl := List.singleton_inj.1 (show [c1_0] = [Value.int .i64 ((h.2.1 : S75).f0)] from p1_0)
  obtain rfl := List.singleton_inj.1 (show [c1_1] = [Value.int .i64 ((h.2.1 : S75).f1)] from p1_1)
  refine (impl_BeforePoint.calls (w := w) (h := ht) ).mono ?_
  rintro e w' ⟨he, hw⟩
  exact ⟨_, he, hw, [.bool t], [fun _ => False], rfl, ⟨rfl, trivial⟩, by simp [DJ]⟩⟩
def impl_TurnSegment.Fs : List (Spc env) := []
def impl_TurnSegment.cut : Nat → Option (List (Lv SC)) := lk []
def impl_TurnSegment.ret (r0 : S133) : Option (HL eΓ [.st .s133]) := some (r0, ())
def impl_TurnSegment.run (k : Nat) (h : HL eΓ [.st .s133]) : Option (HL eΓ [.st .s133]) := evF env impl_TurnSegment.Fs Tryz.f205 impl_TurnSegment.cut [.st .s133] [.st .s133] k h
theorem impl_TurnSegment.ef (k : Nat) (h0 : S133) : impl_TurnSegment.run k (h0, ()) = impl_TurnSegment.ret (⟨(⟨h0.f1.f0, h0.f1.f1⟩ : S75), (⟨h0.f0.f0, h0.f0.f1⟩ : S75)⟩ : S133) := by kernel_rfl
def impl_TurnSegment.toH (t : Int × Int × Int × Int) : HL eΓ [.st .s133] := ((⟨(⟨t.1, t.2.1⟩ : S75), (⟨t.2.2.1, t.2.2.2⟩ : S75)⟩ : S133), ())
def impl_TurnSegment.spec : Spc env := ⟨205, [.st .s133], [.st .s133], impl_TurnSegment.run⟩
def impl_TurnSegment.ap {R : Type} (k : Nat) (h0 : S133) (K : S133 → Option R) : Option R := (impl_TurnSegment.run k (h0, ())).bind fun r => K (r.1 : S133)
theorem impl_TurnSegment.ap_of {R : Type} {k : Nat} {h0 : S133} {r0 : S133} {K : S133 → Option R} (h : impl_TurnSegment.run k (h0, ()) = some (r0, ())) : impl_TurnSegment.ap k h0 K = K r0 := by unfold impl_TurnSegment.ap; rw [h]; rfl
theorem impl_TurnSegment.snd : Snd env impl_TurnSegment.spec := evF_snd env_ok (sndN)
attribute [local irreducible] impl_TurnSegment.run
theorem impl_TurnSegment.rt (a0 : Int) (a1 : Int) (a2 : Int) (a3 : Int) : impl_TurnSegment.ret (⟨(⟨a0, a1⟩ : S75), (⟨a2, a3⟩ : S75)⟩ : S133) = some (impl_TurnSegment.toH (a0, a1, a2, a3)) := rfl
theorem impl_TurnSegment.go {a0_0 : Int} {a0_1 : Int} {a0_2 : Int} {a0_3 : Int} {t} (h : impl_TurnSegment.f a0_0 a0_1 a0_2 a0_3 = some t) (K : Nat) : impl_TurnSegment.run K ((⟨(⟨a0_0, a0_1⟩ : S75), (⟨a0_2, a0_3⟩ : S75)⟩ : S133), ()) = some (impl_TurnSegment.toH t) := by
  rw [impl_TurnSegment.ef]
  (try dsimp only)
  unfold impl_TurnSegment.f at h
  repeat' (with_reducible first
   | exact nos h
   | (cases some_inj h; exact impl_TurnSegment.rt _ _ _ _)
   | (simp only [Option.bind_some] at h)
   | (refine ite_by h ?_ ?_ <;> (intro hc h; (try simp only [nrm] at hc)))
   | refine itT ?_
   | refine itF ?_
   | (simp only [nr2] at h ⊢)
   | (exfalso; omega))
def impl_forward.Fs : List (Spc env) := [impl_BeforePoint.spec, impl_TurnSegment.spec]
def impl_forward.cut : Nat → Option (List (Lv SC)) := lk []
def impl_forward.ret (r0 : S133) : Option (HL eΓ [.st .s133]) := some (r0, ())
def impl_forward.run (k : Nat) (h : HL eΓ [.st .s133]) : Option (HL eΓ [.st .s133]) := evF env impl_forward.Fs Tryz.f198 impl_forward.cut [.st .s133] [.st .s133] k h
theorem impl_forward.ef (k : Nat) (h0 : S133) : impl_forward.run k (h0, ()) = impl_BeforePoint.ap k (⟨h0.f1.f0, h0.f1.f1⟩ : S75) (⟨h0.f0.f0, h0.f0.f1⟩ : S75) fun r1 => if r1 = true then (impl_TurnSegment.ap k (⟨(⟨h0.f0.f0, h0.f0.f1⟩ : S75), (⟨h0.f1.f0, h0.f1.f1⟩ : S75)⟩ : S133) fun r2 => impl_forward.ret (⟨(⟨r2.f0.f0, r2.f0.f1⟩ : S75), (⟨r2.f1.f0, r2.f1.f1⟩ : S75)⟩ : S133)) else (impl_forward.ret (⟨(⟨h0.f0.f0, h0.f0.f1⟩ : S75), (⟨h0.f1.f0, h0.f1.f1⟩ : S75)⟩ : S133)) := by kernel_rfl
def impl_forward.toH (t : Int × Int × Int × Int) : HL eΓ [.st .s133] := ((⟨(⟨t.1, t.2.1⟩ : S75), (⟨t.2.2.1, t.2.2.2⟩ : S75)⟩ : S133), ())
def impl_forward.spec : Spc env := ⟨198, [.st .s133], [.st .s133], impl_forward.run⟩
def impl_forward.ap {R : Type} (k : Nat) (h0 : S133) (K : S133 → Option R) : Option R := (impl_forward.run k (h0, ())).bind fun r => K (r.1 : S133)
theorem impl_forward.ap_of {R : Type} {k : Nat} {h0 : S133} {r0 : S133} {K : S133 → Option R} (h : impl_forward.run k (h0, ()) = some (r0, ())) : impl_forward.ap k h0 K = K r0 := by unfold impl_forward.ap; rw [h]; rfl
theorem impl_forward.snd : Snd env impl_forward.spec := evF_snd env_ok (sndC impl_BeforePoint.snd (sndC impl_TurnSegment.snd (sndN)))
attribute [local irreducible] impl_forward.run
theorem impl_forward.rt (a0 : Int) (a1 : Int) (a2 : Int) (a3 : Int) : impl_forward.ret (⟨(⟨a0, a1⟩ : S75), (⟨a2, a3⟩ : S75)⟩ : S133) = some (impl_forward.toH (a0, a1, a2, a3)) := rfl
theorem impl_forward.go {a0_0 : Int} {a0_1 : Int} {a0_2 : Int} {a0_3 : Int} {t} (h : impl_forward.f a0_0 a0_1 a0_2 a0_3 = some t) (K : Nat) : impl_forward.run K ((⟨(⟨a0_0, a0_1⟩ : S75), (⟨a0_2, a0_3⟩ : S75)⟩ : S133), ()) = some (impl_forward.toH t) := by
  rw [impl_forward.ef]
  (try dsimp only)
  unfold impl_forward.f at h
  repeat' (with_reducible first
   | exact nos h
   | (cases some_inj h; exact impl_forward.rt _ _ _ _)
   | (simp only [Option.bind_some] at h)
   | (refine ite_by h ?_ ?_ <;> (intro hc h; (try simp only [nrm] at hc)))
   | refine itT ?_
   | refine itF ?_
   | (refine bind_by h (fun t ht h => ?_); (first | refine (impl_BeforePoint.ap_of (impl_BeforePoint.go ht _)).trans ?_ | refine (impl_TurnSegment.ap_of (impl_TurnSegment.go ht _)).trans ?_); (try dsimp only at h ⊢))
   | (simp only [nr2] at h ⊢)
   | (exfalso; omega))
def impl_IsOn.toH (t : Bool) : HL eΓ [.b] := (t, ())
def impl_IsOn.run (k : Nat) (h : HL eΓ [.st .s133, .st .s75]) : Option (HL eΓ [.b]) := (impl_IsOn.f ((h.1 : S133).f0.f0) ((h.1 : S133).f0.f1) ((h.1 : S133).f1.f0) ((h.1 : S133).f1.f1) ((h.2.1 : S75).f0) ((h.2.1 : S75).f1)).map impl_IsOn.toH
def impl_IsOn.spec : Spc env := ⟨200, [.st .s133, .st .s75], [.b], impl_IsOn.run⟩
def impl_IsOn.ap {R : Type} (k : Nat) (h0 : S133) (h1 : S75) (K : Bool → Option R) : Option R := (impl_IsOn.run k (h0, h1, ())).bind fun r => K (r.1 : Bool)
theorem impl_IsOn.ap_of {R : Type} {k : Nat} {h0 : S133} {h1 : S75} {r0 : Bool} {K : Bool → Option R} (h : impl_IsOn.run k (h0, h1, ()) = some (r0, ())) : impl_IsOn.ap k h0 h1 K = K r0 := by unfold impl_IsOn.ap; rw [h]; rfl
theorem impl_IsOn.go {a0_0 : Int} {a0_1 : Int} {a0_2 : Int} {a0_3 : Int} {a1_0 : Int} {a1_1 : Int} {t} (h : impl_IsOn.f a0_0 a0_1 a0_2 a0_3 a1_0 a1_1 = some t) (K : Nat) : impl_IsOn.run K ((⟨(⟨a0_0, a0_1⟩ : S75), (⟨a0_2, a0_3⟩ : S75)⟩ : S133), (⟨a1_0, a1_1⟩ : S75), ()) = some (impl_IsOn.toH t) := by
  show Option.map _ (impl_IsOn.f a0_0 a0_1 a0_2 a0_3 a1_0 a1_1) = _
  rw [h]; rfl
theorem impl_IsOn.snd : Snd env impl_IsOn.spec := ⟨⟨Tryz.f200, by kernel_rfl, by kernel_rfl, by kernel_rfl⟩, fun k h r he w us hA => by
  obtain ⟨t, ht, rfl⟩ := Option.map_eq_some_iff.1 (show (impl_IsOn.f ((h.1 : S133).f0.f0) ((h.1 : S133).f0.f1) ((h.1 : S133).f1.f0) ((h.1 : S133).f1.f1) ((h.2.1 : S75).f0) ((h.2.1 : S75).f1)).map impl_IsOn.toH = some r from he)
  match us, hA with
  | [u0, u1], ⟨q0, q1, _⟩ =>
  obtain ⟨v0, rfl, q0⟩ := q0
  have q0 := (H133.K _ _ _).1 q0
  match e0 : v0.toList, q0 with
  | [c0_0, c0_1, c0_2, c0_3], ⟨p0_0, p0_1, p0_2, p0_3, _⟩ =>
  obtain rfl : v0 = #[c0_0, c0_1, c0_2, c0_3] := by rw [← Array.toArray_toList (xs := v0), e0]
  obtain rfl := List.singleton_inj.1 (show [c0_0] = [Value.int .i64 ((h.1 : S133).f0.f0)] from p0_0)
  obtain rfl := List.singleton_inj.1 (show [c0_1] = [Value.int .i64 ((h.1 : S133).f0.f1)] from p0_1)
  obtain rfl := List.singleton_inj.1 (show [c0_2] = [Value.int .i64 ((h.1 : S133).f1.f0)] from p0_2)
  obtain rfl := List.singleton_inj.1 (show [c0_3] = [Value.int .i64 ((h.1 : S133).f1.f1)] from p0_3)
  obtain ⟨v1, rfl, q1⟩ := q1
  have q1 := (H75.K _ _ _).1 q1
  match e1 : v1.toList, q1 with
  | [c1_0, c1_1], ⟨p1_0, p1_1, _⟩ =>
  obtain rfl : v1 = #[c1_0, c1_1] := by rw [← Array.toArray_toList (xs := v1), e1]
  obtain rfl := List.singleton_inj.1 (show [c1_0] = [Value.int .i64 ((h.2.1 : S75).f0)] from p1_0)
  obtain rfl := List.singleton_inj.1 (show [c1_1] = [Value.int .i64 ((h.2.1 : S75).f1)] from p1_1)
  refine (impl_IsOn.calls (w := w) (h := ht) ).mono ?_
  rintro e w' ⟨he, hw⟩
  exact ⟨_, he, hw, [.bool t], [fun _ => False], rfl, ⟨rfl, trivial⟩, by simp [DJ]⟩⟩
def impl_HowMeet.Fs : List (Spc env) := [impl_IsSegment.spec, impl_SideOf.spec, impl_forward.spec, impl_BeforePoint.spec, impl_IsOn.spec]
def impl_HowMeet.cut : Nat → Option (List (Lv SC)) := lk []
def impl_HowMeet.ret (r0 : Int) : Option (HL eΓ [.i .i64]) := some (r0, ())
def impl_HowMeet.run (k : Nat) (h : HL eΓ [.st .s133, .st .s133]) : Option (HL eΓ [.i .i64]) := evF env impl_HowMeet.Fs Tryz.f184 impl_HowMeet.cut [.st .s133, .st .s133] [.i .i64] k h
theorem impl_HowMeet.ef (k : Nat) (h0 : S133) (h1 : S133) : impl_HowMeet.run k (h0, h1, ()) = impl_IsSegment.ap k (⟨(⟨h0.f0.f0, h0.f0.f1⟩ : S75), (⟨h0.f1.f0, h0.f1.f1⟩ : S75)⟩ : S133) fun r1 => if (!r1) = true then (impl_HowMeet.ret 0) else (impl_IsSegment.ap k (⟨(⟨h1.f0.f0, h1.f0.f1⟩ : S75), (⟨h1.f1.f0, h1.f1.f1⟩ : S75)⟩ : S133) fun r2 => if (!r2) = true then (impl_HowMeet.ret 0) else (impl_SideOf.ap k (⟨h0.f0.f0, h0.f0.f1⟩ : S75) (⟨h0.f1.f0, h0.f1.f1⟩ : S75) (⟨h1.f0.f0, h1.f0.f1⟩ : S75) fun r3 => impl_SideOf.ap k (⟨h0.f0.f0, h0.f0.f1⟩ : S75) (⟨h0.f1.f0, h0.f1.f1⟩ : S75) (⟨h1.f1.f0, h1.f1.f1⟩ : S75) fun r4 => if r3 = 0 then (if r4 = 0 then (impl_forward.ap k (⟨(⟨h0.f0.f0, h0.f0.f1⟩ : S75), (⟨h0.f1.f0, h0.f1.f1⟩ : S75)⟩ : S133) fun r5 => impl_forward.ap k (⟨(⟨h1.f0.f0, h1.f0.f1⟩ : S75), (⟨h1.f1.f0, h1.f1.f1⟩ : S75)⟩ : S133) fun r6 => impl_BeforePoint.ap k (⟨r5.f0.f0, r5.f0.f1⟩ : S75) (⟨r6.f0.f0, r6.f0.f1⟩ : S75) fun r7 => if r7 = true then (impl_BeforePoint.ap k (⟨r6.f1.f0, r6.f1.f1⟩ : S75) (⟨r5.f1.f0, r5.f1.f1⟩ : S75) fun r8 => if r8 = true then (impl_BeforePoint.ap k (⟨r6.f1.f0, r6.f1.f1⟩ : S75) (⟨r6.f0.f0, r6.f0.f1⟩ : S75) fun r9 => if r9 = true then (impl_HowMeet.ret 0) else (if r6.f0.f0 = r6.f1.f0 ∧ (r6.f0.f1 = r6.f1.f1 ∧ True) then (impl_HowMeet.ret 1) else (impl_HowMeet.ret 3))) else (impl_BeforePoint.ap k (⟨r5.f1.f0, r5.f1.f1⟩ : S75) (⟨r6.f0.f0, r6.f0.f1⟩ : S75) fun r10 => if r10 = true then (impl_HowMeet.ret 0) else (if r6.f0.f0 = r5.f1.f0 ∧ (r6.f0.f1 = r5.f1.f1 ∧ True) then (impl_HowMeet.ret 1) else (impl_HowMeet.ret 3)))) else (impl_BeforePoint.ap k (⟨r6.f1.f0, r6.f1.f1⟩ : S75) (⟨r5.f1.f0, r5.f1.f1⟩ : S75) fun r11 => if r11 = true then (impl_BeforePoint.ap k (⟨r6.f1.f0, r6.f1.f1⟩ : S75) (⟨r5.f0.f0, r5.f0.f1⟩ : S75) fun r12 => if r12 = true then (impl_HowMeet.ret 0) else (if r5.f0.f0 = r6.f1.f0 ∧ (r5.f0.f1 = r6.f1.f1 ∧ True) then (impl_HowMeet.ret 1) else (impl_HowMeet.ret 3))) else (impl_BeforePoint.ap k (⟨r5.f1.f0, r5.f1.f1⟩ : S75) (⟨r5.f0.f0, r5.f0.f1⟩ : S75) fun r13 => if r13 = true then (impl_HowMeet.ret 0) else (if r5.f0.f0 = r5.f1.f0 ∧ (r5.f0.f1 = r5.f1.f1 ∧ True) then (impl_HowMeet.ret 1) else (impl_HowMeet.ret 3))))) else (if (wrap64 (r3 * r4)) < 0 then (impl_SideOf.ap k (⟨h1.f0.f0, h1.f0.f1⟩ : S75) (⟨h1.f1.f0, h1.f1.f1⟩ : S75) (⟨h0.f0.f0, h0.f0.f1⟩ : S75) fun r14 => impl_SideOf.ap k (⟨h1.f0.f0, h1.f0.f1⟩ : S75) (⟨h1.f1.f0, h1.f1.f1⟩ : S75) (⟨h0.f1.f0, h0.f1.f1⟩ : S75) fun r15 => if (wrap64 (r14 * r15)) < 0 then (impl_HowMeet.ret 2) else (impl_IsOn.ap k (⟨(⟨h0.f0.f0, h0.f0.f1⟩ : S75), (⟨h0.f1.f0, h0.f1.f1⟩ : S75)⟩ : S133) (⟨h1.f0.f0, h1.f0.f1⟩ : S75) fun r16 => if r16 = true then (impl_HowMeet.ret 1) else (impl_IsOn.ap k (⟨(⟨h0.f0.f0, h0.f0.f1⟩ : S75), (⟨h0.f1.f0, h0.f1.f1⟩ : S75)⟩ : S133) (⟨h1.f1.f0, h1.f1.f1⟩ : S75) fun r17 => if r17 = true then (impl_HowMeet.ret 1) else (impl_IsOn.ap k (⟨(⟨h1.f0.f0, h1.f0.f1⟩ : S75), (⟨h1.f1.f0, h1.f1.f1⟩ : S75)⟩ : S133) (⟨h0.f0.f0, h0.f0.f1⟩ : S75) fun r18 => if r18 = true then (impl_HowMeet.ret 1) else (impl_IsOn.ap k (⟨(⟨h1.f0.f0, h1.f0.f1⟩ : S75), (⟨h1.f1.f0, h1.f1.f1⟩ : S75)⟩ : S133) (⟨h0.f1.f0, h0.f1.f1⟩ : S75) fun r19 => if r19 = true then (impl_HowMeet.ret 1) else (impl_HowMeet.ret 0)))))) else (impl_IsOn.ap k (⟨(⟨h0.f0.f0, h0.f0.f1⟩ : S75), (⟨h0.f1.f0, h0.f1.f1⟩ : S75)⟩ : S133) (⟨h1.f0.f0, h1.f0.f1⟩ : S75) fun r20 => if r20 = true then (impl_HowMeet.ret 1) else (impl_IsOn.ap k (⟨(⟨h0.f0.f0, h0.f0.f1⟩ : S75), (⟨h0.f1.f0, h0.f1.f1⟩ : S75)⟩ : S133) (⟨h1.f1.f0, h1.f1.f1⟩ : S75) fun r21 => if r21 = true then (impl_HowMeet.ret 1) else (impl_IsOn.ap k (⟨(⟨h1.f0.f0, h1.f0.f1⟩ : S75), (⟨h1.f1.f0, h1.f1.f1⟩ : S75)⟩ : S133) (⟨h0.f0.f0, h0.f0.f1⟩ : S75) fun r22 => if r22 = true then (impl_HowMeet.ret 1) else (impl_IsOn.ap k (⟨(⟨h1.f0.f0, h1.f0.f1⟩ : S75), (⟨h1.f1.f0, h1.f1.f1⟩ : S75)⟩ : S133) (⟨h0.f1.f0, h0.f1.f1⟩ : S75) fun r23 => if r23 = true then (impl_HowMeet.ret 1) else (impl_HowMeet.ret 0))))))) else (if (wrap64 (r3 * r4)) < 0 then (impl_SideOf.ap k (⟨h1.f0.f0, h1.f0.f1⟩ : S75) (⟨h1.f1.f0, h1.f1.f1⟩ : S75) (⟨h0.f0.f0, h0.f0.f1⟩ : S75) fun r24 => impl_SideOf.ap k (⟨h1.f0.f0, h1.f0.f1⟩ : S75) (⟨h1.f1.f0, h1.f1.f1⟩ : S75) (⟨h0.f1.f0, h0.f1.f1⟩ : S75) fun r25 => if (wrap64 (r24 * r25)) < 0 then (impl_HowMeet.ret 2) else (impl_IsOn.ap k (⟨(⟨h0.f0.f0, h0.f0.f1⟩ : S75), (⟨h0.f1.f0, h0.f1.f1⟩ : S75)⟩ : S133) (⟨h1.f0.f0, h1.f0.f1⟩ : S75) fun r26 => if r26 = true then (impl_HowMeet.ret 1) else (impl_IsOn.ap k (⟨(⟨h0.f0.f0, h0.f0.f1⟩ : S75), (⟨h0.f1.f0, h0.f1.f1⟩ : S75)⟩ : S133) (⟨h1.f1.f0, h1.f1.f1⟩ : S75) fun r27 => if r27 = true then (impl_HowMeet.ret 1) else (impl_IsOn.ap k (⟨(⟨h1.f0.f0, h1.f0.f1⟩ : S75), (⟨h1.f1.f0, h1.f1.f1⟩ : S75)⟩ : S133) (⟨h0.f0.f0, h0.f0.f1⟩ : S75) fun r28 => if r28 = true then (impl_HowMeet.ret 1) else (impl_IsOn.ap k (⟨(⟨h1.f0.f0, h1.f0.f1⟩ : S75), (⟨h1.f1.f0, h1.f1.f1⟩ : S75)⟩ : S133) (⟨h0.f1.f0, h0.f1.f1⟩ : S75) fun r29 => if r29 = true then (impl_HowMeet.ret 1) else (impl_HowMeet.ret 0)))))) else (impl_IsOn.ap k (⟨(⟨h0.f0.f0, h0.f0.f1⟩ : S75), (⟨h0.f1.f0, h0.f1.f1⟩ : S75)⟩ : S133) (⟨h1.f0.f0, h1.f0.f1⟩ : S75) fun r30 => if r30 = true then (impl_HowMeet.ret 1) else (impl_IsOn.ap k (⟨(⟨h0.f0.f0, h0.f0.f1⟩ : S75), (⟨h0.f1.f0, h0.f1.f1⟩ : S75)⟩ : S133) (⟨h1.f1.f0, h1.f1.f1⟩ : S75) fun r31 => if r31 = true then (impl_HowMeet.ret 1) else (impl_IsOn.ap k (⟨(⟨h1.f0.f0, h1.f0.f1⟩ : S75), (⟨h1.f1.f0, h1.f1.f1⟩ : S75)⟩ : S133) (⟨h0.f0.f0, h0.f0.f1⟩ : S75) fun r32 => if r32 = true then (impl_HowMeet.ret 1) else (impl_IsOn.ap k (⟨(⟨h1.f0.f0, h1.f0.f1⟩ : S75), (⟨h1.f1.f0, h1.f1.f1⟩ : S75)⟩ : S133) (⟨h0.f1.f0, h0.f1.f1⟩ : S75) fun r33 => if r33 = true then (impl_HowMeet.ret 1) else (impl_HowMeet.ret 0)))))))) := by kernel_rfl
def impl_HowMeet.toH (t : Int) : HL eΓ [.i .i64] := (t, ())
def impl_HowMeet.spec : Spc env := ⟨184, [.st .s133, .st .s133], [.i .i64], impl_HowMeet.run⟩
def impl_HowMeet.ap {R : Type} (k : Nat) (h0 : S133) (h1 : S133) (K : Int → Option R) : Option R := (impl_HowMeet.run k (h0, h1, ())).bind fun r => K (r.1 : Int)
theorem impl_HowMeet.ap_of {R : Type} {k : Nat} {h0 : S133} {h1 : S133} {r0 : Int} {K : Int → Option R} (h : impl_HowMeet.run k (h0, h1, ()) = some (r0, ())) : impl_HowMeet.ap k h0 h1 K = K r0 := by unfold impl_HowMeet.ap; rw [h]; rfl
theorem impl_HowMeet.snd : Snd env impl_HowMeet.spec := evF_snd env_ok (sndC impl_IsSegment.snd (sndC impl_SideOf.snd (sndC impl_forward.snd (sndC impl_BeforePoint.snd (sndC impl_IsOn.snd (sndN))))))
attribute [local irreducible] impl_HowMeet.run
theorem impl_HowMeet.rt (a0 : Int) : impl_HowMeet.ret a0 = some (impl_HowMeet.toH (a0)) := rfl
theorem impl_HowMeet.go {k : Nat} {a0_0 : Int} {a0_1 : Int} {a0_2 : Int} {a0_3 : Int} {a1_0 : Int} {a1_1 : Int} {a1_2 : Int} {a1_3 : Int} {t} (h : impl_HowMeet.f k a0_0 a0_1 a0_2 a0_3 a1_0 a1_1 a1_2 a1_3 = some t) (K : Nat) (hK : k ≤ K) : impl_HowMeet.run K ((⟨(⟨a0_0, a0_1⟩ : S75), (⟨a0_2, a0_3⟩ : S75)⟩ : S133), (⟨(⟨a1_0, a1_1⟩ : S75), (⟨a1_2, a1_3⟩ : S75)⟩ : S133), ()) = some (impl_HowMeet.toH t) := by
  rw [impl_HowMeet.ef]
  (try dsimp only)
  unfold impl_HowMeet.f at h
  repeat' (with_reducible first
   | exact nos h
   | (cases some_inj h; exact impl_HowMeet.rt _)
   | ((have q : impl_HowMeet.j0 k _ _ _ _ _ _ _ _ _ = some _ := h; clear q); rcases k with _ | k <;> simp only [impl_HowMeet.j0, reduceCtorEq] at h)
   | ((have q : impl_HowMeet.j1 k _ _ _ _ _ _ _ _ _ _ _ = some _ := h; clear q); rcases k with _ | k <;> simp only [impl_HowMeet.j1, reduceCtorEq] at h)
   | ((have q : impl_HowMeet.j2 k _ _ _ _ _ _ _ _ = some _ := h; clear q); rcases k with _ | k <;> simp only [impl_HowMeet.j2, reduceCtorEq] at h)
   | ((have q : impl_HowMeet.j3 k _ _ _ _ = some _ := h; clear q); rcases k with _ | k <;> simp only [impl_HowMeet.j3, reduceCtorEq] at h)
   | ((have q : impl_HowMeet.j4 k _ _ _ _ _ _ _ _ _ = some _ := h; clear q); rcases k with _ | k <;> simp only [impl_HowMeet.j4, reduceCtorEq] at h)
   | (simp only [Option.bind_some] at h)
   | (refine ite_by h ?_ ?_ <;> (intro hc h; (try simp only [nrm] at hc)))
   | refine itT ?_
   | refine itF ?_
   | (refine bind_by h (fun t ht h => ?_); (first | refine (impl_IsSegment.ap_of (impl_IsSegment.go ht _)).trans ?_ | refine (impl_SideOf.ap_of (impl_SideOf.go ht _)).trans ?_ | refine (impl_forward.ap_of (impl_forward.go ht _)).trans ?_ | refine (impl_BeforePoint.ap_of (impl_BeforePoint.go ht _)).trans ?_ | refine (impl_IsOn.ap_of (impl_IsOn.go ht _)).trans ?_); (try dsimp only at h ⊢))
   | (simp only [nr2] at h ⊢)
   | (exfalso; omega))
def impl_IsRing.Fs : List (Spc env) := [impl_around.spec, impl_IsSegment.spec, impl_HowMeet.spec]
def impl_IsRing.fin : St eΓ → Option (HL eΓ [.b]) := finR env Tryz.f140.results.toList [.b]
def impl_IsRing.cut : Nat → Option (List (Lv SC)) := lk [(5, [⟨3, none, false⟩, ⟨18, none, false⟩, ⟨19, none, false⟩]), (10, [⟨3, none, false⟩, ⟨4, none, false⟩, ⟨18, none, false⟩, ⟨19, none, false⟩, ⟨28, none, false⟩, ⟨29, none, false⟩])]
def impl_IsRing.ret (r0 : Bool) : Option (HL eΓ [.b]) := some (r0, ())
def impl_IsRing.p5 (k : Nat) (x18 : Int) (x19 : Int) (x3 : List S133) : Option (HL eΓ [.b]) := evM env impl_IsRing.Fs Tryz.f140.ntmps impl_IsRing.fin impl_IsRing.cut k [.code (sub_ [1, 1, 1, 0, 1, 0, 0, 0] (bodyOf Tryz.f140)), .code (sub_ [1, 1, 1, 0, 1, 0, 0, 1] (bodyOf Tryz.f140)), .lp (sub_ [1, 1, 1, 0, 1, 0, 0] (bodyOf Tryz.f140)), .blk 0, .code (sub_ [1, 1, 1, 1] (bodyOf Tryz.f140))] (mkSt [(3, .c (.sl 0)), (18, .c (.v (.int .i64 x18))), (19, .c (.v (.int .i64 x19)))] [.row .own 133 (.st .s133) x3])
def impl_IsRing.p10 (k : Nat) (x4 : Int) (x18 : Int) (x19 : Int) (x28 : Int) (x29 : Int) (x3 : List S133) : Option (HL eΓ [.b]) := evM env impl_IsRing.Fs Tryz.f140.ntmps impl_IsRing.fin impl_IsRing.cut k [.code (sub_ [1, 1, 1, 0, 1, 0, 0, 1, 1, 0, 0, 1, 1, 1, 0, 0, 0] (bodyOf Tryz.f140)), .code (sub_ [1, 1, 1, 0, 1, 0, 0, 1, 1, 0, 0, 1, 1, 1, 0, 0, 1] (bodyOf Tryz.f140)), .lp (sub_ [1, 1, 1, 0, 1, 0, 0, 1, 1, 0, 0, 1, 1, 1, 0, 0] (bodyOf Tryz.f140)), .blk 2, .blk 1, .code (sub_ [1, 1, 1, 0, 1, 0, 0, 1, 1, 1] (bodyOf Tryz.f140)), .lp (sub_ [1, 1, 1, 0, 1, 0, 0] (bodyOf Tryz.f140)), .blk 0, .code (sub_ [1, 1, 1, 1] (bodyOf Tryz.f140))] (mkSt [(3, .c (.sl 0)), (4, .c (.v (.int .i64 x4))), (18, .c (.v (.int .i64 x18))), (19, .c (.v (.int .i64 x19))), (28, .c (.v (.int .i64 x28))), (29, .c (.v (.int .i64 x29)))] [.row .own 133 (.st .s133) x3])
theorem impl_IsRing.e5 (k : Nat) (x18 : Int) (x19 : Int) (x3 : List S133) : impl_IsRing.p5 (k + 1) x18 x19 x3 = if x19 < x18 then (if 0 ≤ x19 then (if x19 < (x3.length : Int) then (impl_IsSegment.ap k (⟨(⟨(rd_T133 x3 x19).f0.f0, (rd_T133 x3 x19).f0.f1⟩ : S75), (⟨(rd_T133 x3 x19).f1.f0, (rd_T133 x3 x19).f1.f1⟩ : S75)⟩ : S133) fun r1 => if (!r1) = true then (impl_IsRing.ret false) else (impl_IsRing.p10 k x19 x18 x19 x19 0 x3)) else none) else none) else (impl_IsRing.ret true) := by kernel_rfl
theorem impl_IsRing.e10 (k : Nat) (x4 : Int) (x18 : Int) (x19 : Int) (x28 : Int) (x29 : Int) (x3 : List S133) : impl_IsRing.p10 (k + 1) x4 x18 x19 x28 x29 x3 = if x29 < x28 then (if x29 = (wrap64 (x4 - 1)) then (if 0 ≤ x4 then (if x4 < (x3.length : Int) then (if 0 ≤ x29 then (if x29 < (x3.length : Int) then (impl_HowMeet.ap k (⟨(⟨(rd_T133 x3 x4).f0.f0, (rd_T133 x3 x4).f0.f1⟩ : S75), (⟨(rd_T133 x3 x4).f1.f0, (rd_T133 x3 x4).f1.f1⟩ : S75)⟩ : S133) (⟨(⟨(rd_T133 x3 x29).f0.f0, (rd_T133 x3 x29).f0.f1⟩ : S75), (⟨(rd_T133 x3 x29).f1.f0, (rd_T133 x3 x29).f1.f1⟩ : S75)⟩ : S133) fun r1 => if ¬ r1 = 1 then (impl_IsRing.ret false) else (impl_IsRing.p10 k x4 x18 x19 x28 (wrap64 (x29 + 1)) x3)) else none) else none) else none) else none) else (if x29 = 0 then (if x4 = (wrap64 ((x3.length : Int) - 1)) then (if 0 ≤ x4 then (if x4 < (x3.length : Int) then (if 0 ≤ x29 then (if x29 < (x3.length : Int) then (impl_HowMeet.ap k (⟨(⟨(rd_T133 x3 x4).f0.f0, (rd_T133 x3 x4).f0.f1⟩ : S75), (⟨(rd_T133 x3 x4).f1.f0, (rd_T133 x3 x4).f1.f1⟩ : S75)⟩ : S133) (⟨(⟨(rd_T133 x3 x29).f0.f0, (rd_T133 x3 x29).f0.f1⟩ : S75), (⟨(rd_T133 x3 x29).f1.f0, (rd_T133 x3 x29).f1.f1⟩ : S75)⟩ : S133) fun r2 => if ¬ r2 = 1 then (impl_IsRing.ret false) else (impl_IsRing.p10 k x4 x18 x19 x28 (wrap64 (x29 + 1)) x3)) else none) else none) else none) else none) else (if 0 ≤ x4 then (if x4 < (x3.length : Int) then (if 0 ≤ x29 then (if x29 < (x3.length : Int) then (impl_HowMeet.ap k (⟨(⟨(rd_T133 x3 x4).f0.f0, (rd_T133 x3 x4).f0.f1⟩ : S75), (⟨(rd_T133 x3 x4).f1.f0, (rd_T133 x3 x4).f1.f1⟩ : S75)⟩ : S133) (⟨(⟨(rd_T133 x3 x29).f0.f0, (rd_T133 x3 x29).f0.f1⟩ : S75), (⟨(rd_T133 x3 x29).f1.f0, (rd_T133 x3 x29).f1.f1⟩ : S75)⟩ : S133) fun r3 => if ¬ r3 = 0 then (impl_IsRing.ret false) else (impl_IsRing.p10 k x4 x18 x19 x28 (wrap64 (x29 + 1)) x3)) else none) else none) else none) else none)) else (if 0 ≤ x4 then (if x4 < (x3.length : Int) then (if 0 ≤ x29 then (if x29 < (x3.length : Int) then (impl_HowMeet.ap k (⟨(⟨(rd_T133 x3 x4).f0.f0, (rd_T133 x3 x4).f0.f1⟩ : S75), (⟨(rd_T133 x3 x4).f1.f0, (rd_T133 x3 x4).f1.f1⟩ : S75)⟩ : S133) (⟨(⟨(rd_T133 x3 x29).f0.f0, (rd_T133 x3 x29).f0.f1⟩ : S75), (⟨(rd_T133 x3 x29).f1.f0, (rd_T133 x3 x29).f1.f1⟩ : S75)⟩ : S133) fun r4 => if ¬ r4 = 0 then (impl_IsRing.ret false) else (impl_IsRing.p10 k x4 x18 x19 x28 (wrap64 (x29 + 1)) x3)) else none) else none) else none) else none))) else (impl_IsRing.p5 k x18 (wrap64 (x19 + 1)) x3) := by kernel_rfl
def impl_IsRing.run (k : Nat) (h : HL eΓ [.l 75 (.st .s75)]) : Option (HL eΓ [.b]) := evF env impl_IsRing.Fs Tryz.f140 impl_IsRing.cut [.l 75 (.st .s75)] [.b] k h
theorem impl_IsRing.ef (k : Nat) (h0 : List S75) : impl_IsRing.run k (h0, ()) = if (h0.length : Int) < 3 then (impl_IsRing.ret false) else (if (h0.length : Int) > 10 then (impl_IsRing.ret false) else (impl_around.ap k h0 fun r1 => impl_IsRing.p5 k (r1.length : Int) 0 r1)) := by kernel_rfl
def impl_IsRing.toH (t : Bool) : HL eΓ [.b] := (t, ())
def impl_IsRing.spec : Spc env := ⟨140, [.l 75 (.st .s75)], [.b], impl_IsRing.run⟩
def impl_IsRing.ap {R : Type} (k : Nat) (h0 : List S75) (K : Bool → Option R) : Option R := (impl_IsRing.run k (h0, ())).bind fun r => K (r.1 : Bool)
theorem impl_IsRing.ap_of {R : Type} {k : Nat} {h0 : List S75} {r0 : Bool} {K : Bool → Option R} (h : impl_IsRing.run k (h0, ()) = some (r0, ())) : impl_IsRing.ap k h0 K = K r0 := by unfold impl_IsRing.ap; rw [h]; rfl
theorem impl_IsRing.snd : Snd env impl_IsRing.spec := evF_snd env_ok (sndC impl_around.snd (sndC impl_IsSegment.snd (sndC impl_HowMeet.snd (sndN))))
attribute [local irreducible] impl_IsRing.run
theorem impl_IsRing.rt (a0 : Bool) : impl_IsRing.ret a0 = some (impl_IsRing.toH (a0)) := rfl
theorem impl_IsRing.br (n : Nat) : (∀ K, n ≤ K → ∀ (x18 : Int) (x19 : Int) (x3 : List S133) t, impl_IsRing.l0 n x3 x18 x19 = some t → impl_IsRing.p5 K x18 x19 x3 = some (impl_IsRing.toH t)) ∧ (∀ K, n ≤ K → ∀ (x4 : Int) (x18 : Int) (x19 : Int) (x28 : Int) (x29 : Int) (x3 : List S133) t, impl_IsRing.l1 n x3 x4 x18 x19 x28 x29 = some t → impl_IsRing.p10 K x4 x18 x19 x28 x29 x3 = some (impl_IsRing.toH t)) := by
  induction n using Nat.strongRecOn with
  | _ n ih =>
  refine ⟨fun K hK x18 x19 x3 t h => ?_, fun K hK x4 x18 x19 x28 x29 x3 t h => ?_⟩
  all_goals (rcases n with _ | k)
  all_goals (try (exact nos h))
  all_goals (obtain ⟨K, rfl⟩ : ∃ q, K = q + 1 := ⟨K - 1, by omega⟩)
  all_goals (first | rw [impl_IsRing.e5] | rw [impl_IsRing.e10])
  all_goals (simp only [impl_IsRing.l0, impl_IsRing.l1] at h)
  repeat' (with_reducible first
   | exact nos h
   | (cases some_inj h; exact impl_IsRing.rt _)
   | exact (ih _ (by omega)).1 _ (by omega) _ _ _ _ h
   | exact (ih _ (by omega)).2 _ (by omega) _ _ _ _ _ _ _ h
   | ((have q : impl_IsRing.j0 k _ _ = some _ := h; clear q); rcases k with _ | k <;> simp only [impl_IsRing.j0, reduceCtorEq] at h)
   | ((have q : impl_IsRing.j3 k _ _ _ _ _ _ _ _ _ = some _ := h; clear q); rcases k with _ | k <;> simp only [impl_IsRing.j3, reduceCtorEq] at h)
   | (simp only [Option.bind_some] at h)
   | (refine ite_by h ?_ ?_ <;> (intro hc h; (try simp only [nrm] at hc)))
   | refine itT ?_
   | refine itF ?_
   | (refine bind_by h (fun t ht h => ?_); (first | refine (impl_around.ap_of (impl_around.go ht _ (by omega))).trans ?_ | refine (impl_IsSegment.ap_of (impl_IsSegment.go ht _)).trans ?_ | refine (impl_HowMeet.ap_of (impl_HowMeet.go ht _ (by omega))).trans ?_); (try dsimp only at h ⊢))
   | (simp only [nr2] at h ⊢)
   | (exfalso; omega))
theorem impl_IsRing.go {k : Nat} {l0 : List S75} {t} (h : impl_IsRing.f k l0 = some t) (K : Nat) (hK : k ≤ K) : impl_IsRing.run K (l0, ()) = some (impl_IsRing.toH t) := by
  rw [impl_IsRing.ef]
  (try dsimp only)
  unfold impl_IsRing.f at h
  repeat' (with_reducible first
   | exact nos h
   | (cases some_inj h; exact impl_IsRing.rt _)
   | exact (impl_IsRing.br _).1 _ (by omega) _ _ _ _ h
   | exact (impl_IsRing.br _).2 _ (by omega) _ _ _ _ _ _ _ h
   | ((have q : impl_IsRing.j0 k _ _ = some _ := h; clear q); rcases k with _ | k <;> simp only [impl_IsRing.j0, reduceCtorEq] at h)
   | ((have q : impl_IsRing.j3 k _ _ _ _ _ _ _ _ _ = some _ := h; clear q); rcases k with _ | k <;> simp only [impl_IsRing.j3, reduceCtorEq] at h)
   | (simp only [Option.bind_some] at h)
   | (refine ite_by h ?_ ?_ <;> (intro hc h; (try simp only [nrm] at hc)))
   | refine itT ?_
   | refine itF ?_
   | (refine bind_by h (fun t ht h => ?_); (first | refine (impl_around.ap_of (impl_around.go ht _ (by omega))).trans ?_ | refine (impl_IsSegment.ap_of (impl_IsSegment.go ht _)).trans ?_ | refine (impl_HowMeet.ap_of (impl_HowMeet.go ht _ (by omega))).trans ?_); (try dsimp only at h ⊢))
   | (simp only [nr2] at h ⊢)
   | (exfalso; omega))
def impl_IsLine.Fs : List (Spc env) := [impl_IsPoint.spec]
def impl_IsLine.fin : St eΓ → Option (HL eΓ [.b]) := finR env Tryz.f189.results.toList [.b]
def impl_IsLine.cut : Nat → Option (List (Lv SC)) := lk [(4, [⟨0, none, false⟩, ⟨13, none, false⟩, ⟨14, none, false⟩, ⟨15, none, false⟩])]
def impl_IsLine.ret (r0 : Bool) : Option (HL eΓ [.b]) := some (r0, ())
def impl_IsLine.p4 (k : Nat) (x14 : Int) (x15 : Int) (x0 : List S75) : Option (HL eΓ [.b]) := evM env impl_IsLine.Fs Tryz.f189.ntmps impl_IsLine.fin impl_IsLine.cut k [.code (sub_ [1, 1, 0, 1, 0, 0, 0] (bodyOf Tryz.f189)), .code (sub_ [1, 1, 0, 1, 0, 0, 1] (bodyOf Tryz.f189)), .lp (sub_ [1, 1, 0, 1, 0, 0] (bodyOf Tryz.f189)), .blk 0, .code (sub_ [1, 1, 1] (bodyOf Tryz.f189))] (mkSt [(0, .c (.sl 0)), (13, .c (.sl 0)), (14, .c (.v (.int .i64 x14))), (15, .c (.v (.int .i64 x15)))] [.row .ro 75 (.st .s75) x0])
theorem impl_IsLine.e4 (k : Nat) (x14 : Int) (x15 : Int) (x0 : List S75) : impl_IsLine.p4 (k + 1) x14 x15 x0 = if x15 < x14 then (if 0 ≤ x15 then (if x15 < (x0.length : Int) then (impl_IsPoint.ap k (⟨(rd_T75 x0 x15).f0, (rd_T75 x0 x15).f1⟩ : S75) fun r1 => if (!r1) = true then (impl_IsLine.ret false) else (if x15 > 0 then (if 0 ≤ (wrap64 (x15 - 1)) then (if (wrap64 (x15 - 1)) < (x0.length : Int) then (if ((rd_T75 x0 x15).f0) = ((rd_T75 x0 (wrap64 (x15 - 1))).f0) ∧ (((rd_T75 x0 x15).f1) = ((rd_T75 x0 (wrap64 (x15 - 1))).f1) ∧ True) then (impl_IsLine.ret false) else (impl_IsLine.p4 k x14 (wrap64 (x15 + 1)) x0)) else none) else none) else (impl_IsLine.p4 k x14 (wrap64 (x15 + 1)) x0))) else none) else none) else (impl_IsLine.ret true) := by kernel_rfl
def impl_IsLine.run (k : Nat) (h : HL eΓ [.l 75 (.st .s75)]) : Option (HL eΓ [.b]) := evF env impl_IsLine.Fs Tryz.f189 impl_IsLine.cut [.l 75 (.st .s75)] [.b] k h
theorem impl_IsLine.ef (k : Nat) (h0 : List S75) : impl_IsLine.run k (h0, ()) = if (h0.length : Int) < 2 then (impl_IsLine.ret false) else (if (h0.length : Int) > 10 then (impl_IsLine.ret false) else (impl_IsLine.p4 k (h0.length : Int) 0 h0)) := by kernel_rfl
def impl_IsLine.toH (t : Bool) : HL eΓ [.b] := (t, ())
def impl_IsLine.spec : Spc env := ⟨189, [.l 75 (.st .s75)], [.b], impl_IsLine.run⟩
def impl_IsLine.ap {R : Type} (k : Nat) (h0 : List S75) (K : Bool → Option R) : Option R := (impl_IsLine.run k (h0, ())).bind fun r => K (r.1 : Bool)
theorem impl_IsLine.ap_of {R : Type} {k : Nat} {h0 : List S75} {r0 : Bool} {K : Bool → Option R} (h : impl_IsLine.run k (h0, ()) = some (r0, ())) : impl_IsLine.ap k h0 K = K r0 := by unfold impl_IsLine.ap; rw [h]; rfl
theorem impl_IsLine.snd : Snd env impl_IsLine.spec := evF_snd env_ok (sndC impl_IsPoint.snd (sndN))
attribute [local irreducible] impl_IsLine.run
theorem impl_IsLine.rt (a0 : Bool) : impl_IsLine.ret a0 = some (impl_IsLine.toH (a0)) := rfl
theorem impl_IsLine.br (n : Nat) : (∀ K, n ≤ K → ∀ (x14 : Int) (x15 : Int) (x0 : List S75) t, impl_IsLine.l0 n x0 x0 x14 x15 = some t → impl_IsLine.p4 K x14 x15 x0 = some (impl_IsLine.toH t)) := by
  induction n using Nat.strongRecOn with
  | _ n ih =>
  intro K hK x14 x15 x0 t h
  all_goals (rcases n with _ | k)
  all_goals (try (exact nos h))
  all_goals (obtain ⟨K, rfl⟩ : ∃ q, K = q + 1 := ⟨K - 1, by omega⟩)
  all_goals (first | rw [impl_IsLine.e4])
  all_goals (simp only [impl_IsLine.l0] at h)
  repeat' (with_reducible first
   | exact nos h
   | (cases some_inj h; exact impl_IsLine.rt _)
   | exact (ih _ (by omega)) _ (by omega) _ _ _ _ h
   | ((have q : impl_IsLine.j0 k _ _ = some _ := h; clear q); rcases k with _ | k <;> simp only [impl_IsLine.j0, reduceCtorEq] at h)
   | (simp only [Option.bind_some] at h)
   | (refine ite_by h ?_ ?_ <;> (intro hc h; (try simp only [nrm] at hc)))
   | refine itT ?_
   | refine itF ?_
   | (refine bind_by h (fun t ht h => ?_); refine (impl_IsPoint.ap_of (impl_IsPoint.go ht _)).trans ?_; (try dsimp only at h ⊢))
   | (simp only [nr2] at h ⊢)
   | (exfalso; omega))
theorem impl_IsLine.go {k : Nat} {l0 : List S75} {t} (h : impl_IsLine.f k l0 = some t) (K : Nat) (hK : k ≤ K) : impl_IsLine.run K (l0, ()) = some (impl_IsLine.toH t) := by
  rw [impl_IsLine.ef]
  (try dsimp only)
  unfold impl_IsLine.f at h
  repeat' (with_reducible first
   | exact nos h
   | (cases some_inj h; exact impl_IsLine.rt _)
   | exact (impl_IsLine.br _) _ (by omega) _ _ _ _ h
   | ((have q : impl_IsLine.j0 k _ _ = some _ := h; clear q); rcases k with _ | k <;> simp only [impl_IsLine.j0, reduceCtorEq] at h)
   | (simp only [Option.bind_some] at h)
   | (refine ite_by h ?_ ?_ <;> (intro hc h; (try simp only [nrm] at hc)))
   | refine itT ?_
   | refine itF ?_
   | (refine bind_by h (fun t ht h => ?_); refine (impl_IsPoint.ap_of (impl_IsPoint.go ht _)).trans ?_; (try dsimp only at h ⊢))
   | (simp only [nr2] at h ⊢)
   | (exfalso; omega))
def impl_SegmentsOf.Fs : List (Spc env) := [impl_IsLine.spec]
def impl_SegmentsOf.fin : St eΓ → Option (HL eΓ [.l 133 (.st .s133)]) := finR env Tryz.f169.results.toList [.l 133 (.st .s133)]
def impl_SegmentsOf.cut : Nat → Option (List (Lv SC)) := lk [(5, [⟨0, none, false⟩, ⟨3, none, false⟩, ⟨4, none, false⟩])]
def impl_SegmentsOf.ret (r0 : List S133) : Option (HL eΓ [.l 133 (.st .s133)]) := some (r0, ())
def impl_SegmentsOf.p5 (k : Nat) (x4 : Int) (x0 : List S75) (x3 : List S133) : Option (HL eΓ [.l 133 (.st .s133)]) := evM env impl_SegmentsOf.Fs Tryz.f169.ntmps impl_SegmentsOf.fin impl_SegmentsOf.cut k [.code (sub_ [1, 1, 1, 0, 1, 0, 0, 0, 0] (bodyOf Tryz.f169)), .code (sub_ [1, 1, 1, 0, 1, 0, 0, 0, 1] (bodyOf Tryz.f169)), .code (sub_ [1, 1, 1, 0, 1, 0, 0, 1] (bodyOf Tryz.f169)), .lp (sub_ [1, 1, 1, 0, 1, 0, 0] (bodyOf Tryz.f169)), .blk 0, .code (sub_ [1, 1, 1, 1] (bodyOf Tryz.f169))] (mkSt [(0, .c (.sl 0)), (3, .c (.sl 1)), (4, .c (.v (.int .i64 x4)))] [.row .ro 75 (.st .s75) x0, .row .own 133 (.st .s133) x3])
theorem impl_SegmentsOf.e5 (k : Nat) (x4 : Int) (x0 : List S75) (x3 : List S133) : impl_SegmentsOf.p5 (k + 1) x4 x0 x3 = if x4 < (x0.length : Int) then (if 0 ≤ (wrap64 (x4 - 1)) then (if (wrap64 (x4 - 1)) < (x0.length : Int) then (if 0 ≤ x4 then (if x4 < (x0.length : Int) then (if (x3.length + 1) * 32 ≤ 140737488355328 then (impl_SegmentsOf.p5 k (wrap64 (x4 + 1)) x0 (x3 ++ [(⟨(⟨(rd_T75 x0 (wrap64 (x4 - 1))).f0, (rd_T75 x0 (wrap64 (x4 - 1))).f1⟩ : S75), (⟨(rd_T75 x0 x4).f0, (rd_T75 x0 x4).f1⟩ : S75)⟩ : S133)])) else none) else none) else none) else none) else none) else (impl_SegmentsOf.ret x3) := by kernel_rfl
def impl_SegmentsOf.run (k : Nat) (h : HL eΓ [.l 75 (.st .s75)]) : Option (HL eΓ [.l 133 (.st .s133)]) := evF env impl_SegmentsOf.Fs Tryz.f169 impl_SegmentsOf.cut [.l 75 (.st .s75)] [.l 133 (.st .s133)] k h
theorem impl_SegmentsOf.ef (k : Nat) (h0 : List S75) : impl_SegmentsOf.run k (h0, ()) = impl_IsLine.ap k h0 fun r1 => if (!r1) = true then (impl_SegmentsOf.ret ([] : List S133)) else (impl_SegmentsOf.p5 k 1 h0 ([] : List S133)) := by kernel_rfl
def impl_SegmentsOf.toH (t : (List (S133))) : HL eΓ [.l 133 (.st .s133)] := (t, ())
def impl_SegmentsOf.spec : Spc env := ⟨169, [.l 75 (.st .s75)], [.l 133 (.st .s133)], impl_SegmentsOf.run⟩
def impl_SegmentsOf.ap {R : Type} (k : Nat) (h0 : List S75) (K : (List S133) → Option R) : Option R := (impl_SegmentsOf.run k (h0, ())).bind fun r => K (r.1 : List S133)
theorem impl_SegmentsOf.ap_of {R : Type} {k : Nat} {h0 : List S75} {r0 : List S133} {K : (List S133) → Option R} (h : impl_SegmentsOf.run k (h0, ()) = some (r0, ())) : impl_SegmentsOf.ap k h0 K = K r0 := by unfold impl_SegmentsOf.ap; rw [h]; rfl
theorem impl_SegmentsOf.snd : Snd env impl_SegmentsOf.spec := evF_snd env_ok (sndC impl_IsLine.snd (sndN))
attribute [local irreducible] impl_SegmentsOf.run
theorem impl_SegmentsOf.rt (a0 : List S133) : impl_SegmentsOf.ret a0 = some (impl_SegmentsOf.toH (a0)) := rfl
theorem impl_SegmentsOf.br (n : Nat) : (∀ K, n ≤ K → ∀ (x4 : Int) (x0 : List S75) (x3 : List S133) t, impl_SegmentsOf.l0 n x0 x3 x4 = some t → impl_SegmentsOf.p5 K x4 x0 x3 = some (impl_SegmentsOf.toH t)) := by
  induction n using Nat.strongRecOn with
  | _ n ih =>
  intro K hK x4 x0 x3 t h
  all_goals (rcases n with _ | k)
  all_goals (try (exact nos h))
  all_goals (obtain ⟨K, rfl⟩ : ∃ q, K = q + 1 := ⟨K - 1, by omega⟩)
  all_goals (first | rw [impl_SegmentsOf.e5])
  all_goals (simp only [impl_SegmentsOf.l0] at h)
  repeat' (with_reducible first
   | exact nos h
   | (cases some_inj h; exact impl_SegmentsOf.rt _)
   | exact (ih _ (by omega)) _ (by omega) _ _ _ _ h
   | (simp only [Option.bind_some] at h)
   | (refine ite_by h ?_ ?_ <;> (intro hc h; (try simp only [nrm] at hc)))
   | refine itT ?_
   | refine itF ?_
   | (refine bind_by h (fun t ht h => ?_); refine (impl_IsLine.ap_of (impl_IsLine.go ht _ (by omega))).trans ?_; (try dsimp only at h ⊢))
   | (simp only [nr2] at h ⊢)
   | (exfalso; omega))
theorem impl_SegmentsOf.go {k : Nat} {l0 : List S75} {t} (h : impl_SegmentsOf.f k l0 = some t) (K : Nat) (hK : k ≤ K) : impl_SegmentsOf.run K (l0, ()) = some (impl_SegmentsOf.toH t) := by
  rw [impl_SegmentsOf.ef]
  (try dsimp only)
  unfold impl_SegmentsOf.f at h
  repeat' (with_reducible first
   | exact nos h
   | (cases some_inj h; exact impl_SegmentsOf.rt _)
   | exact (impl_SegmentsOf.br _) _ (by omega) _ _ _ _ h
   | (simp only [Option.bind_some] at h)
   | (refine ite_by h ?_ ?_ <;> (intro hc h; (try simp only [nrm] at hc)))
   | refine itT ?_
   | refine itF ?_
   | (refine bind_by h (fun t ht h => ?_); refine (impl_IsLine.ap_of (impl_IsLine.go ht _ (by omega))).trans ?_; (try dsimp only at h ⊢))
   | (simp only [nr2] at h ⊢)
   | (exfalso; omega))
def impl_IsSimple.Fs : List (Spc env) := [impl_IsLine.spec, impl_SegmentsOf.spec, impl_HowMeet.spec]
def impl_IsSimple.fin : St eΓ → Option (HL eΓ [.b]) := finR env Tryz.f151.results.toList [.b]
def impl_IsSimple.cut : Nat → Option (List (Lv SC)) := lk [(5, [⟨3, none, false⟩, ⟨13, none, false⟩, ⟨14, none, false⟩]), (8, [⟨3, none, false⟩, ⟨4, none, false⟩, ⟨13, none, false⟩, ⟨14, none, false⟩, ⟨17, none, false⟩, ⟨18, none, false⟩])]
def impl_IsSimple.ret (r0 : Bool) : Option (HL eΓ [.b]) := some (r0, ())
def impl_IsSimple.p5 (k : Nat) (x13 : Int) (x14 : Int) (x3 : List S133) : Option (HL eΓ [.b]) := evM env impl_IsSimple.Fs Tryz.f151.ntmps impl_IsSimple.fin impl_IsSimple.cut k [.code (sub_ [1, 1, 1, 0, 1, 0, 0, 0] (bodyOf Tryz.f151)), .code (sub_ [1, 1, 1, 0, 1, 0, 0, 1] (bodyOf Tryz.f151)), .lp (sub_ [1, 1, 1, 0, 1, 0, 0] (bodyOf Tryz.f151)), .blk 0, .code (sub_ [1, 1, 1, 1] (bodyOf Tryz.f151))] (mkSt [(3, .c (.sl 0)), (13, .c (.v (.int .i64 x13))), (14, .c (.v (.int .i64 x14)))] [.row .own 133 (.st .s133) x3])
def impl_IsSimple.p8 (k : Nat) (x4 : Int) (x13 : Int) (x14 : Int) (x17 : Int) (x18 : Int) (x3 : List S133) : Option (HL eΓ [.b]) := evM env impl_IsSimple.Fs Tryz.f151.ntmps impl_IsSimple.fin impl_IsSimple.cut k [.code (sub_ [1, 1, 1, 0, 1, 0, 0, 1, 1, 0, 0, 1, 1, 0, 0, 0] (bodyOf Tryz.f151)), .code (sub_ [1, 1, 1, 0, 1, 0, 0, 1, 1, 0, 0, 1, 1, 0, 0, 1] (bodyOf Tryz.f151)), .lp (sub_ [1, 1, 1, 0, 1, 0, 0, 1, 1, 0, 0, 1, 1, 0, 0] (bodyOf Tryz.f151)), .blk 2, .blk 1, .code (sub_ [1, 1, 1, 0, 1, 0, 0, 1, 1, 1] (bodyOf Tryz.f151)), .lp (sub_ [1, 1, 1, 0, 1, 0, 0] (bodyOf Tryz.f151)), .blk 0, .code (sub_ [1, 1, 1, 1] (bodyOf Tryz.f151))] (mkSt [(3, .c (.sl 0)), (4, .c (.v (.int .i64 x4))), (13, .c (.v (.int .i64 x13))), (14, .c (.v (.int .i64 x14))), (17, .c (.v (.int .i64 x17))), (18, .c (.v (.int .i64 x18)))] [.row .own 133 (.st .s133) x3])
theorem impl_IsSimple.e5 (k : Nat) (x13 : Int) (x14 : Int) (x3 : List S133) : impl_IsSimple.p5 (k + 1) x13 x14 x3 = if x14 < x13 then (impl_IsSimple.p8 k x14 x13 x14 x14 0 x3) else (impl_IsSimple.ret true) := by kernel_rfl
theorem impl_IsSimple.e8 (k : Nat) (x4 : Int) (x13 : Int) (x14 : Int) (x17 : Int) (x18 : Int) (x3 : List S133) : impl_IsSimple.p8 (k + 1) x4 x13 x14 x17 x18 x3 = if x18 < x17 then (if x18 = (wrap64 (x4 - 1)) then (if 0 ≤ x4 then (if x4 < (x3.length : Int) then (if 0 ≤ x18 then (if x18 < (x3.length : Int) then (impl_HowMeet.ap k (⟨(⟨(rd_T133 x3 x4).f0.f0, (rd_T133 x3 x4).f0.f1⟩ : S75), (⟨(rd_T133 x3 x4).f1.f0, (rd_T133 x3 x4).f1.f1⟩ : S75)⟩ : S133) (⟨(⟨(rd_T133 x3 x18).f0.f0, (rd_T133 x3 x18).f0.f1⟩ : S75), (⟨(rd_T133 x3 x18).f1.f0, (rd_T133 x3 x18).f1.f1⟩ : S75)⟩ : S133) fun r1 => if ¬ r1 = 1 then (impl_IsSimple.ret false) else (impl_IsSimple.p8 k x4 x13 x14 x17 (wrap64 (x18 + 1)) x3)) else none) else none) else none) else none) else (if 0 ≤ x4 then (if x4 < (x3.length : Int) then (if 0 ≤ x18 then (if x18 < (x3.length : Int) then (impl_HowMeet.ap k (⟨(⟨(rd_T133 x3 x4).f0.f0, (rd_T133 x3 x4).f0.f1⟩ : S75), (⟨(rd_T133 x3 x4).f1.f0, (rd_T133 x3 x4).f1.f1⟩ : S75)⟩ : S133) (⟨(⟨(rd_T133 x3 x18).f0.f0, (rd_T133 x3 x18).f0.f1⟩ : S75), (⟨(rd_T133 x3 x18).f1.f0, (rd_T133 x3 x18).f1.f1⟩ : S75)⟩ : S133) fun r2 => if ¬ r2 = 0 then (impl_IsSimple.ret false) else (impl_IsSimple.p8 k x4 x13 x14 x17 (wrap64 (x18 + 1)) x3)) else none) else none) else none) else none)) else (impl_IsSimple.p5 k x13 (wrap64 (x14 + 1)) x3) := by kernel_rfl
def impl_IsSimple.run (k : Nat) (h : HL eΓ [.l 75 (.st .s75)]) : Option (HL eΓ [.b]) := evF env impl_IsSimple.Fs Tryz.f151 impl_IsSimple.cut [.l 75 (.st .s75)] [.b] k h
theorem impl_IsSimple.ef (k : Nat) (h0 : List S75) : impl_IsSimple.run k (h0, ()) = impl_IsLine.ap k h0 fun r1 => if (!r1) = true then (impl_IsSimple.ret false) else (impl_SegmentsOf.ap k h0 fun r2 => impl_IsSimple.p5 k (r2.length : Int) 0 r2) := by kernel_rfl
def impl_IsSimple.toH (t : Bool) : HL eΓ [.b] := (t, ())
def impl_IsSimple.spec : Spc env := ⟨151, [.l 75 (.st .s75)], [.b], impl_IsSimple.run⟩
def impl_IsSimple.ap {R : Type} (k : Nat) (h0 : List S75) (K : Bool → Option R) : Option R := (impl_IsSimple.run k (h0, ())).bind fun r => K (r.1 : Bool)
theorem impl_IsSimple.ap_of {R : Type} {k : Nat} {h0 : List S75} {r0 : Bool} {K : Bool → Option R} (h : impl_IsSimple.run k (h0, ()) = some (r0, ())) : impl_IsSimple.ap k h0 K = K r0 := by unfold impl_IsSimple.ap; rw [h]; rfl
theorem impl_IsSimple.snd : Snd env impl_IsSimple.spec := evF_snd env_ok (sndC impl_IsLine.snd (sndC impl_SegmentsOf.snd (sndC impl_HowMeet.snd (sndN))))
attribute [local irreducible] impl_IsSimple.run
theorem impl_IsSimple.rt (a0 : Bool) : impl_IsSimple.ret a0 = some (impl_IsSimple.toH (a0)) := rfl
theorem impl_IsSimple.br (n : Nat) : (∀ K, n ≤ K → ∀ (x13 : Int) (x14 : Int) (x3 : List S133) t, impl_IsSimple.l0 n x3 x13 x14 = some t → impl_IsSimple.p5 K x13 x14 x3 = some (impl_IsSimple.toH t)) ∧ (∀ K, n ≤ K → ∀ (x4 : Int) (x13 : Int) (x14 : Int) (x17 : Int) (x18 : Int) (x3 : List S133) t, impl_IsSimple.l1 n x3 x4 x13 x14 x17 x18 = some t → impl_IsSimple.p8 K x4 x13 x14 x17 x18 x3 = some (impl_IsSimple.toH t)) := by
  induction n using Nat.strongRecOn with
  | _ n ih =>
  refine ⟨fun K hK x13 x14 x3 t h => ?_, fun K hK x4 x13 x14 x17 x18 x3 t h => ?_⟩
  all_goals (rcases n with _ | k)
  all_goals (try (exact nos h))
  all_goals (obtain ⟨K, rfl⟩ : ∃ q, K = q + 1 := ⟨K - 1, by omega⟩)
  all_goals (first | rw [impl_IsSimple.e5] | rw [impl_IsSimple.e8])
  all_goals (simp only [impl_IsSimple.l0, impl_IsSimple.l1] at h)
  repeat' (with_reducible first
   | exact nos h
   | (cases some_inj h; exact impl_IsSimple.rt _)
   | exact (ih _ (by omega)).1 _ (by omega) _ _ _ _ h
   | exact (ih _ (by omega)).2 _ (by omega) _ _ _ _ _ _ _ h
   | (simp only [Option.bind_some] at h)
   | (refine ite_by h ?_ ?_ <;> (intro hc h; (try simp only [nrm] at hc)))
   | refine itT ?_
   | refine itF ?_
   | (refine bind_by h (fun t ht h => ?_); (first | refine (impl_IsLine.ap_of (impl_IsLine.go ht _ (by omega))).trans ?_ | refine (impl_SegmentsOf.ap_of (impl_SegmentsOf.go ht _ (by omega))).trans ?_ | refine (impl_HowMeet.ap_of (impl_HowMeet.go ht _ (by omega))).trans ?_); (try dsimp only at h ⊢))
   | (simp only [nr2] at h ⊢)
   | (exfalso; omega))
theorem impl_IsSimple.go {k : Nat} {l0 : List S75} {t} (h : impl_IsSimple.f k l0 = some t) (K : Nat) (hK : k ≤ K) : impl_IsSimple.run K (l0, ()) = some (impl_IsSimple.toH t) := by
  rw [impl_IsSimple.ef]
  (try dsimp only)
  unfold impl_IsSimple.f at h
  repeat' (with_reducible first
   | exact nos h
   | (cases some_inj h; exact impl_IsSimple.rt _)
   | exact (impl_IsSimple.br _).1 _ (by omega) _ _ _ _ h
   | exact (impl_IsSimple.br _).2 _ (by omega) _ _ _ _ _ _ _ h
   | (simp only [Option.bind_some] at h)
   | (refine ite_by h ?_ ?_ <;> (intro hc h; (try simp only [nrm] at hc)))
   | refine itT ?_
   | refine itF ?_
   | (refine bind_by h (fun t ht h => ?_); (first | refine (impl_IsLine.ap_of (impl_IsLine.go ht _ (by omega))).trans ?_ | refine (impl_SegmentsOf.ap_of (impl_SegmentsOf.go ht _ (by omega))).trans ?_ | refine (impl_HowMeet.ap_of (impl_HowMeet.go ht _ (by omega))).trans ?_); (try dsimp only at h ⊢))
   | (simp only [nr2] at h ⊢)
   | (exfalso; omega))
def impl_IsFeature.Fs : List (Spc env) := [impl_InRange.spec, impl_IsName.spec, impl_IsPoint.spec, impl_IsSimple.spec, impl_IsRing.spec]
def impl_IsFeature.cut : Nat → Option (List (Lv SC)) := lk []
def impl_IsFeature.ret (r0 : Bool) : Option (HL eΓ [.b]) := some (r0, ())
def impl_IsFeature.run (k : Nat) (h : HL eΓ [.st .s59]) : Option (HL eΓ [.b]) := evF env impl_IsFeature.Fs Tryz.f114 impl_IsFeature.cut [.st .s59] [.b] k h
theorem impl_IsFeature.ef (k : Nat) (h0 : S59) : impl_IsFeature.run k (h0, ()) = impl_InRange.ap k h0.f0 1 99 fun r1 => if (!r1) = true then (impl_IsFeature.ret false) else (impl_InRange.ap k h0.f2 0 9 fun r2 => if (!r2) = true then (impl_IsFeature.ret false) else (if ¬ h0.f3.toList = [] then (impl_IsName.ap k h0.f3 fun r3 => if (!r3) = true then (impl_IsFeature.ret false) else (if h0.f1 = 1 then (if (h0.f4.length : Int) = 1 then (if 0 < (h0.f4.length : Int) then (impl_IsPoint.ap k (⟨(rd_T75 h0.f4 0).f0, (rd_T75 h0.f4 0).f1⟩ : S75) fun r4 => impl_IsFeature.ret r4) else none) else (impl_IsFeature.ret false)) else (if h0.f1 = 2 then (impl_IsSimple.ap k h0.f4 fun r5 => impl_IsFeature.ret r5) else (if h0.f1 = 3 then (impl_IsRing.ap k h0.f4 fun r6 => impl_IsFeature.ret r6) else (impl_IsFeature.ret false))))) else (if h0.f1 = 1 then (if (h0.f4.length : Int) = 1 then (if 0 < (h0.f4.length : Int) then (impl_IsPoint.ap k (⟨(rd_T75 h0.f4 0).f0, (rd_T75 h0.f4 0).f1⟩ : S75) fun r7 => impl_IsFeature.ret r7) else none) else (impl_IsFeature.ret false)) else (if h0.f1 = 2 then (impl_IsSimple.ap k h0.f4 fun r8 => impl_IsFeature.ret r8) else (if h0.f1 = 3 then (impl_IsRing.ap k h0.f4 fun r9 => impl_IsFeature.ret r9) else (impl_IsFeature.ret false)))))) := by kernel_rfl
def impl_IsFeature.toH (t : Bool) : HL eΓ [.b] := (t, ())
def impl_IsFeature.spec : Spc env := ⟨114, [.st .s59], [.b], impl_IsFeature.run⟩
def impl_IsFeature.ap {R : Type} (k : Nat) (h0 : S59) (K : Bool → Option R) : Option R := (impl_IsFeature.run k (h0, ())).bind fun r => K (r.1 : Bool)
theorem impl_IsFeature.ap_of {R : Type} {k : Nat} {h0 : S59} {r0 : Bool} {K : Bool → Option R} (h : impl_IsFeature.run k (h0, ()) = some (r0, ())) : impl_IsFeature.ap k h0 K = K r0 := by unfold impl_IsFeature.ap; rw [h]; rfl
theorem impl_IsFeature.snd : Snd env impl_IsFeature.spec := evF_snd env_ok (sndC impl_InRange.snd (sndC impl_IsName.snd (sndC impl_IsPoint.snd (sndC impl_IsSimple.snd (sndC impl_IsRing.snd (sndN))))))
attribute [local irreducible] impl_IsFeature.run
theorem impl_IsFeature.rt (a0 : Bool) : impl_IsFeature.ret a0 = some (impl_IsFeature.toH (a0)) := rfl
theorem impl_IsFeature.go {k : Nat} {a0_0 : Int} {a0_1 : Int} {a0_2 : Int} {a0_3 : ByteArray} {l0_4 : List S75} {t} (h : impl_IsFeature.f k a0_0 a0_1 a0_2 a0_3 l0_4 = some t) (K : Nat) (hK : k ≤ K) : impl_IsFeature.run K ((⟨a0_0, a0_1, a0_2, a0_3, l0_4⟩ : S59), ()) = some (impl_IsFeature.toH t) := by
  rw [impl_IsFeature.ef]
  (try dsimp only)
  unfold impl_IsFeature.f at h
  repeat' (with_reducible first
   | exact nos h
   | (cases some_inj h; exact impl_IsFeature.rt _)
   | ((have q : impl_IsFeature.j0 k _ _ _ _ _ _ = some _ := h; clear q); rcases k with _ | k <;> simp only [impl_IsFeature.j0, reduceCtorEq] at h)
   | (simp only [Option.bind_some] at h)
   | (refine ite_by h ?_ ?_ <;> (intro hc h; (try simp only [nrm] at hc)))
   | refine itT ?_
   | refine itF ?_
   | (refine bind_by h (fun t ht h => ?_); (first | refine (impl_InRange.ap_of (impl_InRange.go ht _)).trans ?_ | refine (impl_IsName.ap_of (impl_IsName.go ht _ (by omega))).trans ?_ | refine (impl_IsPoint.ap_of (impl_IsPoint.go ht _)).trans ?_ | refine (impl_IsSimple.ap_of (impl_IsSimple.go ht _ (by omega))).trans ?_ | refine (impl_IsRing.ap_of (impl_IsRing.go ht _ (by omega))).trans ?_); (try dsimp only at h ⊢))
   | (simp only [nr2] at h ⊢)
   | (exfalso; omega))
def impl_IsSource.Fs : List (Spc env) := [impl_IsFeature.spec]
def impl_IsSource.fin : St eΓ → Option (HL eΓ [.b]) := finR env Tryz.f66.results.toList [.b]
def impl_IsSource.cut : Nat → Option (List (Lv SC)) := lk [(4, [⟨0, none, false⟩, ⟨8, none, false⟩, ⟨9, none, false⟩, ⟨10, none, false⟩])]
def impl_IsSource.ret (r0 : Bool) : Option (HL eΓ [.b]) := some (r0, ())
def impl_IsSource.p4 (k : Nat) (x9 : Int) (x10 : Int) (x0 : List S59) : Option (HL eΓ [.b]) := evM env impl_IsSource.Fs Tryz.f66.ntmps impl_IsSource.fin impl_IsSource.cut k [.code (sub_ [1, 1, 0, 1, 0, 0, 0] (bodyOf Tryz.f66)), .code (sub_ [1, 1, 0, 1, 0, 0, 1] (bodyOf Tryz.f66)), .lp (sub_ [1, 1, 0, 1, 0, 0] (bodyOf Tryz.f66)), .blk 0, .code (sub_ [1, 1, 1] (bodyOf Tryz.f66))] (mkSt [(0, .c (.sl 0)), (8, .c (.sl 0)), (9, .c (.v (.int .i64 x9))), (10, .c (.v (.int .i64 x10)))] [.row .ro 59 (.st .s59) x0])
theorem impl_IsSource.e4 (k : Nat) (x9 : Int) (x10 : Int) (x0 : List S59) : impl_IsSource.p4 (k + 1) x9 x10 x0 = if x10 < x9 then (if 0 ≤ x10 then (if x10 < (x0.length : Int) then (impl_IsFeature.ap k (⟨(rd_T59 x0 x10).f0, (rd_T59 x0 x10).f1, (rd_T59 x0 x10).f2, (rd_T59 x0 x10).f3, (rd_T59 x0 x10).f4⟩ : S59) fun r1 => if (!r1) = true then (impl_IsSource.ret false) else (if x10 > 0 then (if 0 ≤ (wrap64 (x10 - 1)) then (if (wrap64 (x10 - 1)) < (x0.length : Int) then (if ((rd_T59 x0 x10).f0) ≤ ((rd_T59 x0 (wrap64 (x10 - 1))).f0) then (impl_IsSource.ret false) else (impl_IsSource.p4 k x9 (wrap64 (x10 + 1)) x0)) else none) else none) else (impl_IsSource.p4 k x9 (wrap64 (x10 + 1)) x0))) else none) else none) else (impl_IsSource.ret true) := by kernel_rfl
def impl_IsSource.run (k : Nat) (h : HL eΓ [.l 59 (.st .s59)]) : Option (HL eΓ [.b]) := evF env impl_IsSource.Fs Tryz.f66 impl_IsSource.cut [.l 59 (.st .s59)] [.b] k h
theorem impl_IsSource.ef (k : Nat) (h0 : List S59) : impl_IsSource.run k (h0, ()) = if (h0.length : Int) > 16 then (impl_IsSource.ret false) else (impl_IsSource.p4 k (h0.length : Int) 0 h0) := by kernel_rfl
def impl_IsSource.toH (t : Bool) : HL eΓ [.b] := (t, ())
def impl_IsSource.spec : Spc env := ⟨66, [.l 59 (.st .s59)], [.b], impl_IsSource.run⟩
def impl_IsSource.ap {R : Type} (k : Nat) (h0 : List S59) (K : Bool → Option R) : Option R := (impl_IsSource.run k (h0, ())).bind fun r => K (r.1 : Bool)
theorem impl_IsSource.ap_of {R : Type} {k : Nat} {h0 : List S59} {r0 : Bool} {K : Bool → Option R} (h : impl_IsSource.run k (h0, ()) = some (r0, ())) : impl_IsSource.ap k h0 K = K r0 := by unfold impl_IsSource.ap; rw [h]; rfl
theorem impl_IsSource.snd : Snd env impl_IsSource.spec := evF_snd env_ok (sndC impl_IsFeature.snd (sndN))
attribute [local irreducible] impl_IsSource.run
theorem impl_IsSource.rt (a0 : Bool) : impl_IsSource.ret a0 = some (impl_IsSource.toH (a0)) := rfl
theorem impl_IsSource.br (n : Nat) : (∀ K, n ≤ K → ∀ (x9 : Int) (x10 : Int) (x0 : List S59) t, impl_IsSource.l0 n x0 x0 x9 x10 = some t → impl_IsSource.p4 K x9 x10 x0 = some (impl_IsSource.toH t)) := by
  induction n using Nat.strongRecOn with
  | _ n ih =>
  intro K hK x9 x10 x0 t h
  all_goals (rcases n with _ | k)
  all_goals (try (exact nos h))
  all_goals (obtain ⟨K, rfl⟩ : ∃ q, K = q + 1 := ⟨K - 1, by omega⟩)
  all_goals (first | rw [impl_IsSource.e4])
  all_goals (simp only [impl_IsSource.l0] at h)
  repeat' (with_reducible first
   | exact nos h
   | (cases some_inj h; exact impl_IsSource.rt _)
   | exact (ih _ (by omega)) _ (by omega) _ _ _ _ h
   | (simp only [Option.bind_some] at h)
   | (refine ite_by h ?_ ?_ <;> (intro hc h; (try simp only [nrm] at hc)))
   | refine itT ?_
   | refine itF ?_
   | (refine bind_by h (fun t ht h => ?_); refine (impl_IsFeature.ap_of (impl_IsFeature.go ht _ (by omega))).trans ?_; (try dsimp only at h ⊢))
   | (simp only [nr2] at h ⊢)
   | (exfalso; omega))
theorem impl_IsSource.go {k : Nat} {l0 : List S59} {t} (h : impl_IsSource.f k l0 = some t) (K : Nat) (hK : k ≤ K) : impl_IsSource.run K (l0, ()) = some (impl_IsSource.toH t) := by
  rw [impl_IsSource.ef]
  (try dsimp only)
  unfold impl_IsSource.f at h
  repeat' (with_reducible first
   | exact nos h
   | (cases some_inj h; exact impl_IsSource.rt _)
   | exact (impl_IsSource.br _) _ (by omega) _ _ _ _ h
   | (simp only [Option.bind_some] at h)
   | (refine ite_by h ?_ ?_ <;> (intro hc h; (try simp only [nrm] at hc)))
   | refine itT ?_
   | refine itF ?_
   | (refine bind_by h (fun t ht h => ?_); refine (impl_IsFeature.ap_of (impl_IsFeature.go ht _ (by omega))).trans ?_; (try dsimp only at h ⊢))
   | (simp only [nr2] at h ⊢)
   | (exfalso; omega))
def impl_RingMiddle.Fs : List (Spc env) := [impl_IsRing.spec]
def impl_RingMiddle.fin : St eΓ → Option (HL eΓ [.st .s75, .b]) := finR env Tryz.f97.results.toList [.st .s75, .b]
def impl_RingMiddle.cut : Nat → Option (List (Lv SC)) := lk [(5, [⟨0, none, false⟩, ⟨2, none, false⟩, ⟨4, none, false⟩, ⟨12, none, false⟩, ⟨13, none, false⟩, ⟨14, none, false⟩])]
def impl_RingMiddle.ret (r0 : S75) (r1 : Bool) : Option (HL eΓ [.st .s75, .b]) := some (r0, r1, ())
def impl_RingMiddle.p5 (k : Nat) (x13 : Int) (x14 : Int) (x0 : List S75) (b1_0 : Int) (b1_1 : Int) (b2_0 : Int) (b2_1 : Int) : Option (HL eΓ [.st .s75, .b]) := evM env impl_RingMiddle.Fs Tryz.f97.ntmps impl_RingMiddle.fin impl_RingMiddle.cut k [.code (sub_ [1, 1, 1, 0, 1, 0, 0, 0] (bodyOf Tryz.f97)), .code (sub_ [1, 1, 1, 0, 1, 0, 0, 1] (bodyOf Tryz.f97)), .lp (sub_ [1, 1, 1, 0, 1, 0, 0] (bodyOf Tryz.f97)), .blk 0, .code (sub_ [1, 1, 1, 1] (bodyOf Tryz.f97))] (mkSt [(0, .c (.sl 0)), (2, .c (.ptr 1 0)), (4, .c (.ptr 2 0)), (12, .c (.sl 0)), (13, .c (.v (.int .i64 x13))), (14, .c (.v (.int .i64 x14)))] [.row .ro 75 (.st .s75) x0, .box 75 [.v (.int .i64 b1_0), .v (.int .i64 b1_1)], .box 75 [.v (.int .i64 b2_0), .v (.int .i64 b2_1)]])
theorem impl_RingMiddle.e5 (k : Nat) (x13 : Int) (x14 : Int) (x0 : List S75) (b1_0 : Int) (b1_1 : Int) (b2_0 : Int) (b2_1 : Int) : impl_RingMiddle.p5 (k + 1) x13 x14 x0 b1_0 b1_1 b2_0 b2_1 = if x14 < x13 then (if 0 ≤ x14 then (if x14 < (x0.length : Int) then (impl_RingMiddle.p5 k x13 (wrap64 (x14 + 1)) x0 b1_0 b1_1 (wrap64 (b2_0 + ((rd_T75 x0 x14).f0))) (wrap64 (b2_1 + ((rd_T75 x0 x14).f1)))) else none) else none) else (if (x0.length : Int) = 0 then none else (if (x0.length : Int) = 0 then none else (impl_RingMiddle.ret (⟨wrap64 (tq b2_0 (x0.length : Int)), wrap64 (tq b2_1 (x0.length : Int))⟩ : S75) true))) := by kernel_rfl
def impl_RingMiddle.run (k : Nat) (h : HL eΓ [.l 75 (.st .s75)]) : Option (HL eΓ [.st .s75, .b]) := evF env impl_RingMiddle.Fs Tryz.f97 impl_RingMiddle.cut [.l 75 (.st .s75)] [.st .s75, .b] k h
theorem impl_RingMiddle.ef (k : Nat) (h0 : List S75) : impl_RingMiddle.run k (h0, ()) = impl_IsRing.ap k h0 fun r1 => if (!r1) = true then (impl_RingMiddle.ret (⟨0, 0⟩ : S75) false) else (impl_RingMiddle.p5 k (h0.length : Int) 0 h0 0 0 0 0) := by kernel_rfl
def impl_RingMiddle.toH (t : Int × Int × Bool) : HL eΓ [.st .s75, .b] := ((⟨t.1, t.2.1⟩ : S75), t.2.2, ())
def impl_RingMiddle.spec : Spc env := ⟨97, [.l 75 (.st .s75)], [.st .s75, .b], impl_RingMiddle.run⟩
def impl_RingMiddle.ap {R : Type} (k : Nat) (h0 : List S75) (K : S75 → Bool → Option R) : Option R := (impl_RingMiddle.run k (h0, ())).bind fun r => K (r.1 : S75) (r.2.1 : Bool)
theorem impl_RingMiddle.ap_of {R : Type} {k : Nat} {h0 : List S75} {r0 : S75} {r1 : Bool} {K : S75 → Bool → Option R} (h : impl_RingMiddle.run k (h0, ()) = some (r0, r1, ())) : impl_RingMiddle.ap k h0 K = K r0 r1 := by unfold impl_RingMiddle.ap; rw [h]; rfl
theorem impl_RingMiddle.snd : Snd env impl_RingMiddle.spec := evF_snd env_ok (sndC impl_IsRing.snd (sndN))
attribute [local irreducible] impl_RingMiddle.run
theorem impl_RingMiddle.rt (a0 : Int) (a1 : Int) (a2 : Bool) : impl_RingMiddle.ret (⟨a0, a1⟩ : S75) a2 = some (impl_RingMiddle.toH (a0, a1, a2)) := rfl
theorem impl_RingMiddle.br (n : Nat) : (∀ K, n ≤ K → ∀ (x13 : Int) (x14 : Int) (x0 : List S75) (b1_0 : Int) (b1_1 : Int) (b2_0 : Int) (b2_1 : Int) t, impl_RingMiddle.l0 n x0 x0 x13 x14 b2_0 b2_1 = some t → impl_RingMiddle.p5 K x13 x14 x0 b1_0 b1_1 b2_0 b2_1 = some (impl_RingMiddle.toH t)) := by
  induction n using Nat.strongRecOn with
  | _ n ih =>
  intro K hK x13 x14 x0 b1_0 b1_1 b2_0 b2_1 t h
  all_goals (rcases n with _ | k)
  all_goals (try (exact nos h))
  all_goals (obtain ⟨K, rfl⟩ : ∃ q, K = q + 1 := ⟨K - 1, by omega⟩)
  all_goals (first | rw [impl_RingMiddle.e5])
  all_goals (try simp only [tq_nat])
  all_goals (try simp only [tq_eq])
  all_goals (simp only [impl_RingMiddle.l0] at h)
  repeat' (with_reducible first
   | exact nos h
   | (cases some_inj h; exact impl_RingMiddle.rt _ _ _)
   | exact (ih _ (by omega)) _ (by omega) _ _ _ _ _ _ _ _ h
   | (simp only [Option.bind_some] at h)
   | (refine ite_by h ?_ ?_ <;> (intro hc h; (try simp only [nrm] at hc)))
   | refine itT ?_
   | refine itF ?_
   | (refine bind_by h (fun t ht h => ?_); refine (impl_IsRing.ap_of (impl_IsRing.go ht _ (by omega))).trans ?_; (try dsimp only at h ⊢))
   | (simp only [nr2] at h ⊢)
   | (exfalso; omega))
theorem impl_RingMiddle.go {k : Nat} {l0 : List S75} {t} (h : impl_RingMiddle.f k l0 = some t) (K : Nat) (hK : k ≤ K) : impl_RingMiddle.run K (l0, ()) = some (impl_RingMiddle.toH t) := by
  rw [impl_RingMiddle.ef]
  (try dsimp only)
  (try simp only [tq_nat])
  (try simp only [tq_eq])
  unfold impl_RingMiddle.f at h
  repeat' (with_reducible first
   | exact nos h
   | (cases some_inj h; exact impl_RingMiddle.rt _ _ _)
   | exact (impl_RingMiddle.br _) _ (by omega) _ _ _ _ _ _ _ _ h
   | (simp only [Option.bind_some] at h)
   | (refine ite_by h ?_ ?_ <;> (intro hc h; (try simp only [nrm] at hc)))
   | refine itT ?_
   | refine itF ?_
   | (refine bind_by h (fun t ht h => ?_); refine (impl_IsRing.ap_of (impl_IsRing.go ht _ (by omega))).trans ?_; (try dsimp only at h ⊢))
   | (simp only [nr2] at h ⊢)
   | (exfalso; omega))
def impl_AnchorsOf.Fs : List (Spc env) := [impl_IsSource.spec, impl_RingMiddle.spec]
def impl_AnchorsOf.fin : St eΓ → Option (HL eΓ [.l 77 (.st .s77)]) := finR env Tryz.f50.results.toList [.l 77 (.st .s77)]
def impl_AnchorsOf.cut : Nat → Option (List (Lv SC)) := lk [(5, [⟨3, none, false⟩, ⟨12, none, false⟩, ⟨13, none, false⟩, ⟨14, none, false⟩])]
def impl_AnchorsOf.ret (r0 : List S77) : Option (HL eΓ [.l 77 (.st .s77)]) := some (r0, ())
def impl_AnchorsOf.p5 (k : Nat) (x13 : Int) (x14 : Int) (x3 : List S77) (x12 : List S59) : Option (HL eΓ [.l 77 (.st .s77)]) := evM env impl_AnchorsOf.Fs Tryz.f50.ntmps impl_AnchorsOf.fin impl_AnchorsOf.cut k [.code (sub_ [1, 1, 1, 0, 1, 0, 0, 0] (bodyOf Tryz.f50)), .code (sub_ [1, 1, 1, 0, 1, 0, 0, 1] (bodyOf Tryz.f50)), .lp (sub_ [1, 1, 1, 0, 1, 0, 0] (bodyOf Tryz.f50)), .blk 0, .code (sub_ [1, 1, 1, 1] (bodyOf Tryz.f50))] (mkSt [(3, .c (.sl 0)), (12, .c (.sl 1)), (13, .c (.v (.int .i64 x13))), (14, .c (.v (.int .i64 x14)))] [.row .own 77 (.st .s77) x3, .row .ro 59 (.st .s59) x12])
theorem impl_AnchorsOf.e5 (k : Nat) (x13 : Int) (x14 : Int) (x3 : List S77) (x12 : List S59) : impl_AnchorsOf.p5 (k + 1) x13 x14 x3 x12 = if x14 < x13 then (if 0 ≤ x14 then (if x14 < (x12.length : Int) then (if ((rd_T59 x12 x14).f3).toList = [] then (impl_AnchorsOf.p5 k x13 (wrap64 (x14 + 1)) x3 x12) else (if ((rd_T59 x12 x14).f1) = 1 then (if 0 < (((rd_T59 x12 x14).f4).length : Int) then (if (x3.length + 1) * 32 ≤ 140737488355328 then (impl_AnchorsOf.p5 k x13 (wrap64 (x14 + 1)) (x3 ++ [(⟨(rd_T59 x12 x14).f0, (⟨(rd_T75 ((rd_T59 x12 x14).f4) 0).f0, (rd_T75 ((rd_T59 x12 x14).f4) 0).f1⟩ : S75), (rd_T59 x12 x14).f2⟩ : S77)]) x12) else none) else none) else (if ((rd_T59 x12 x14).f1) = 2 then (if 0 ≤ (wrap64 (tq (((rd_T59 x12 x14).f4).length : Int) 2)) then (if (wrap64 (tq (((rd_T59 x12 x14).f4).length : Int) 2)) < (((rd_T59 x12 x14).f4).length : Int) then (if (x3.length + 1) * 32 ≤ 140737488355328 then (impl_AnchorsOf.p5 k x13 (wrap64 (x14 + 1)) (x3 ++ [(⟨(rd_T59 x12 x14).f0, (⟨(rd_T75 ((rd_T59 x12 x14).f4) (wrap64 (tq (((rd_T59 x12 x14).f4).length : Int) 2))).f0, (rd_T75 ((rd_T59 x12 x14).f4) (wrap64 (tq (((rd_T59 x12 x14).f4).length : Int) 2))).f1⟩ : S75), (rd_T59 x12 x14).f2⟩ : S77)]) x12) else none) else none) else none) else (if ((rd_T59 x12 x14).f1) = 3 then (impl_RingMiddle.ap k ((rd_T59 x12 x14).f4) fun r1_0 r1_1 => if (x3.length + 1) * 32 ≤ 140737488355328 then (impl_AnchorsOf.p5 k x13 (wrap64 (x14 + 1)) (x3 ++ [(⟨(rd_T59 x12 x14).f0, (⟨r1_0.f0, r1_0.f1⟩ : S75), (rd_T59 x12 x14).f2⟩ : S77)]) x12) else none) else (if (x3.length + 1) * 32 ≤ 140737488355328 then (impl_AnchorsOf.p5 k x13 (wrap64 (x14 + 1)) (x3 ++ [(⟨(rd_T59 x12 x14).f0, (⟨0, 0⟩ : S75), (rd_T59 x12 x14).f2⟩ : S77)]) x12) else none))))) else none) else none) else (impl_AnchorsOf.ret x3) := by kernel_rfl
def impl_AnchorsOf.run (k : Nat) (h : HL eΓ [.l 59 (.st .s59)]) : Option (HL eΓ [.l 77 (.st .s77)]) := evF env impl_AnchorsOf.Fs Tryz.f50 impl_AnchorsOf.cut [.l 59 (.st .s59)] [.l 77 (.st .s77)] k h
theorem impl_AnchorsOf.ef (k : Nat) (h0 : List S59) : impl_AnchorsOf.run k (h0, ()) = impl_IsSource.ap k h0 fun r1 => if (!r1) = true then (impl_AnchorsOf.ret ([] : List S77)) else (impl_AnchorsOf.p5 k (h0.length : Int) 0 ([] : List S77) h0) := by kernel_rfl
def impl_AnchorsOf.toH (t : (List (S77))) : HL eΓ [.l 77 (.st .s77)] := (t, ())
def impl_AnchorsOf.spec : Spc env := ⟨50, [.l 59 (.st .s59)], [.l 77 (.st .s77)], impl_AnchorsOf.run⟩
theorem impl_AnchorsOf.snd : Snd env impl_AnchorsOf.spec := evF_snd env_ok (sndC impl_IsSource.snd (sndC impl_RingMiddle.snd (sndN)))
attribute [local irreducible] impl_AnchorsOf.run
theorem impl_AnchorsOf.rt (a0 : List S77) : impl_AnchorsOf.ret a0 = some (impl_AnchorsOf.toH (a0)) := rfl
theorem impl_AnchorsOf.br (n : Nat) : (∀ K, n ≤ K → ∀ (x13 : Int) (x14 : Int) (x3 : List S77) (x12 : List S59) t, impl_AnchorsOf.l0 n x3 x12 x13 x14 = some t → impl_AnchorsOf.p5 K x13 x14 x3 x12 = some (impl_AnchorsOf.toH t)) := by
  induction n using Nat.strongRecOn with
  | _ n ih =>
  intro K hK x13 x14 x3 x12 t h
  all_goals (rcases n with _ | k)
  all_goals (try (exact nos h))
  all_goals (obtain ⟨K, rfl⟩ : ∃ q, K = q + 1 := ⟨K - 1, by omega⟩)
  all_goals (first | rw [impl_AnchorsOf.e5])
  all_goals (try simp only [tq_nat])
  all_goals (try simp only [tq_eq])
  all_goals (simp only [impl_AnchorsOf.l0] at h)
  repeat' (with_reducible first
   | exact nos h
   | (cases some_inj h; exact impl_AnchorsOf.rt _)
   | exact (ih _ (by omega)) _ (by omega) _ _ _ _ _ h
   | (simp only [Option.bind_some] at h)
   | (refine ite_by h ?_ ?_ <;> (intro hc h; (try simp only [nrm] at hc)))
   | refine itT ?_
   | refine itF ?_
   | (refine bind_by h (fun t ht h => ?_); (first | refine (impl_IsSource.ap_of (impl_IsSource.go ht _ (by omega))).trans ?_ | refine (impl_RingMiddle.ap_of (impl_RingMiddle.go ht _ (by omega))).trans ?_); (try dsimp only at h ⊢))
   | (simp only [nr2] at h ⊢)
   | (exfalso; omega))
theorem impl_AnchorsOf.go {k : Nat} {l0 : List S59} {t} (h : impl_AnchorsOf.f k l0 = some t) (K : Nat) (hK : k ≤ K) : impl_AnchorsOf.run K (l0, ()) = some (impl_AnchorsOf.toH t) := by
  rw [impl_AnchorsOf.ef]
  (try dsimp only)
  (try simp only [tq_nat])
  (try simp only [tq_eq])
  unfold impl_AnchorsOf.f at h
  repeat' (with_reducible first
   | exact nos h
   | (cases some_inj h; exact impl_AnchorsOf.rt _)
   | exact (impl_AnchorsOf.br _) _ (by omega) _ _ _ _ _ h
   | (simp only [Option.bind_some] at h)
   | (refine ite_by h ?_ ?_ <;> (intro hc h; (try simp only [nrm] at hc)))
   | refine itT ?_
   | refine itF ?_
   | (refine bind_by h (fun t ht h => ?_); (first | refine (impl_IsSource.ap_of (impl_IsSource.go ht _ (by omega))).trans ?_ | refine (impl_RingMiddle.ap_of (impl_RingMiddle.go ht _ (by omega))).trans ?_); (try dsimp only at h ⊢))
   | (simp only [nr2] at h ⊢)
   | (exfalso; omega))
theorem impl_AnchorsOf.calls (k : Nat) (A0 : Option Addr) (c0 : Nat) (l0 : List (S59)) (r : List (S77)) (w : World) (hr0 : Kd.C k59 w A0 l0.length l0) (hc0 : l0.length ≤ c0) (h : impl_AnchorsOf.f k l0 = some r) :
  Calls Tryz.prog 50 #[.slice A0 l0.length c0] w fun e w' => ∃ v0_ : Value, e = .returned (v0_) ∧ Kd.R k77 77 w' w.heap.size (fun _ => True) v0_ r ∧ Below w.heap.size w w' := by
  refine (impl_AnchorsOf.snd.calls _ _ _ (impl_AnchorsOf.go h k (Nat.le_refl k)) w [.slice A0 l0.length c0] ⟨⟨_, _, rfl, hc0, hr0⟩, trivial⟩).mono ?_
  rintro e w' ⟨v, rfl, hB, vs, oks, rfl, hR, _⟩
  obtain ⟨x0_, vs, o0_, oks, rfl, rfl, m0_, hR⟩ := rmsC hR
  obtain rfl := rmsN hR
  obtain ⟨x0_v, x0_e, x0_R⟩ := m0_
  obtain rfl := List.singleton_inj.1 x0_e
  exact ⟨_, rfl, Kd.R_mono x0_R (fun _ _ => trivial), hB⟩
def impl_NameWidth.Fs : List (Spc env) := [impl_IsName.spec]
def impl_NameWidth.cut : Nat → Option (List (Lv SC)) := lk []
def impl_NameWidth.ret (r0 : Int) : Option (HL eΓ [.i .i64]) := some (r0, ())
def impl_NameWidth.run (k : Nat) (h : HL eΓ [.s]) : Option (HL eΓ [.i .i64]) := evF env impl_NameWidth.Fs Tryz.f105 impl_NameWidth.cut [.s] [.i .i64] k h
theorem impl_NameWidth.ef (k : Nat) (h0 : ByteArray) : impl_NameWidth.run k (h0, ()) = impl_IsName.ap k h0 fun r1 => if (!r1) = true then (impl_NameWidth.ret 0) else (impl_NameWidth.ret (wrap64 (2 * (h0.size : Int)))) := by kernel_rfl
def impl_NameWidth.toH (t : Int) : HL eΓ [.i .i64] := (t, ())
def impl_NameWidth.spec : Spc env := ⟨105, [.s], [.i .i64], impl_NameWidth.run⟩
def impl_NameWidth.ap {R : Type} (k : Nat) (h0 : ByteArray) (K : Int → Option R) : Option R := (impl_NameWidth.run k (h0, ())).bind fun r => K (r.1 : Int)
theorem impl_NameWidth.ap_of {R : Type} {k : Nat} {h0 : ByteArray} {r0 : Int} {K : Int → Option R} (h : impl_NameWidth.run k (h0, ()) = some (r0, ())) : impl_NameWidth.ap k h0 K = K r0 := by unfold impl_NameWidth.ap; rw [h]; rfl
theorem impl_NameWidth.snd : Snd env impl_NameWidth.spec := evF_snd env_ok (sndC impl_IsName.snd (sndN))
attribute [local irreducible] impl_NameWidth.run
theorem impl_NameWidth.rt (a0 : Int) : impl_NameWidth.ret a0 = some (impl_NameWidth.toH (a0)) := rfl
theorem impl_NameWidth.go {k : Nat} {a0 : ByteArray} {t} (h : impl_NameWidth.f k a0 = some t) (K : Nat) (hK : k ≤ K) : impl_NameWidth.run K (a0, ()) = some (impl_NameWidth.toH t) := by
  rw [impl_NameWidth.ef]
  (try dsimp only)
  unfold impl_NameWidth.f at h
  repeat' (with_reducible first
   | exact nos h
   | (cases some_inj h; exact impl_NameWidth.rt _)
   | (simp only [Option.bind_some] at h)
   | (refine ite_by h ?_ ?_ <;> (intro hc h; (try simp only [nrm] at hc)))
   | refine itT ?_
   | refine itF ?_
   | (refine bind_by h (fun t ht h => ?_); refine (impl_IsName.ap_of (impl_IsName.go ht _ (by omega))).trans ?_; (try dsimp only at h ⊢))
   | (simp only [nr2] at h ⊢)
   | (exfalso; omega))
def impl_IsBox.Fs : List (Spc env) := [impl_IsPoint.spec]
def impl_IsBox.cut : Nat → Option (List (Lv SC)) := lk []
def impl_IsBox.ret (r0 : Bool) : Option (HL eΓ [.b]) := some (r0, ())
def impl_IsBox.run (k : Nat) (h : HL eΓ [.st .s80]) : Option (HL eΓ [.b]) := evF env impl_IsBox.Fs Tryz.f106 impl_IsBox.cut [.st .s80] [.b] k h
theorem impl_IsBox.ef (k : Nat) (h0 : S80) : impl_IsBox.run k (h0, ()) = impl_IsPoint.ap k (⟨h0.f0.f0, h0.f0.f1⟩ : S75) fun r1 => if r1 = true then (impl_IsPoint.ap k (⟨h0.f1.f0, h0.f1.f1⟩ : S75) fun r2 => if r2 = true then (if h0.f0.f0 ≤ h0.f1.f0 then (impl_IsBox.ret (decide (h0.f0.f1 ≤ h0.f1.f1))) else (impl_IsBox.ret false)) else (impl_IsBox.ret false)) else (impl_IsBox.ret false) := by kernel_rfl
def impl_IsBox.toH (t : Bool) : HL eΓ [.b] := (t, ())
def impl_IsBox.spec : Spc env := ⟨106, [.st .s80], [.b], impl_IsBox.run⟩
def impl_IsBox.ap {R : Type} (k : Nat) (h0 : S80) (K : Bool → Option R) : Option R := (impl_IsBox.run k (h0, ())).bind fun r => K (r.1 : Bool)
theorem impl_IsBox.ap_of {R : Type} {k : Nat} {h0 : S80} {r0 : Bool} {K : Bool → Option R} (h : impl_IsBox.run k (h0, ()) = some (r0, ())) : impl_IsBox.ap k h0 K = K r0 := by unfold impl_IsBox.ap; rw [h]; rfl
theorem impl_IsBox.snd : Snd env impl_IsBox.spec := evF_snd env_ok (sndC impl_IsPoint.snd (sndN))
attribute [local irreducible] impl_IsBox.run
theorem impl_IsBox.rt (a0 : Bool) : impl_IsBox.ret a0 = some (impl_IsBox.toH (a0)) := rfl
theorem impl_IsBox.go {a0_0 : Int} {a0_1 : Int} {a0_2 : Int} {a0_3 : Int} {t} (h : impl_IsBox.f a0_0 a0_1 a0_2 a0_3 = some t) (K : Nat) : impl_IsBox.run K ((⟨(⟨a0_0, a0_1⟩ : S75), (⟨a0_2, a0_3⟩ : S75)⟩ : S80), ()) = some (impl_IsBox.toH t) := by
  rw [impl_IsBox.ef]
  (try dsimp only)
  unfold impl_IsBox.f at h
  repeat' (with_reducible first
   | exact nos h
   | (cases some_inj h; exact impl_IsBox.rt _)
   | (simp only [Option.bind_some] at h)
   | (refine ite_by h ?_ ?_ <;> (intro hc h; (try simp only [nrm] at hc)))
   | refine itT ?_
   | refine itF ?_
   | (refine bind_by h (fun t ht h => ?_); refine (impl_IsPoint.ap_of (impl_IsPoint.go ht _)).trans ?_; (try dsimp only at h ⊢))
   | (simp only [nr2] at h ⊢)
   | (exfalso; omega))
def impl_LabelBox.Fs : List (Spc env) := [impl_IsPoint.spec, impl_IsName.spec, impl_InRange.spec, impl_NameWidth.spec, impl_IsBox.spec]
def impl_LabelBox.cut : Nat → Option (List (Lv SC)) := lk []
def impl_LabelBox.ret (r0 : S80) (r1 : Bool) : Option (HL eΓ [.st .s80, .b]) := some (r0, r1, ())
def impl_LabelBox.run (k : Nat) (h : HL eΓ [.st .s75, .s, .i .i64]) : Option (HL eΓ [.st .s80, .b]) := evF env impl_LabelBox.Fs Tryz.f53 impl_LabelBox.cut [.st .s75, .s, .i .i64] [.st .s80, .b] k h
theorem impl_LabelBox.ef (k : Nat) (h0 : S75) (h1 : ByteArray) (h2 : Int) : impl_LabelBox.run k (h0, h1, h2, ()) = impl_IsPoint.ap k (⟨h0.f0, h0.f1⟩ : S75) fun r1 => if (!r1) = true then (impl_LabelBox.ret (⟨(⟨0, 0⟩ : S75), (⟨0, 0⟩ : S75)⟩ : S80) false) else (impl_IsName.ap k h1 fun r2 => if (!r2) = true then (impl_LabelBox.ret (⟨(⟨0, 0⟩ : S75), (⟨0, 0⟩ : S75)⟩ : S80) false) else (impl_InRange.ap k h2 0 3 fun r3 => if (!r3) = true then (impl_LabelBox.ret (⟨(⟨0, 0⟩ : S75), (⟨0, 0⟩ : S75)⟩ : S80) false) else (if (Int.tmod h2 2) = 0 then (impl_NameWidth.ap k h1 fun r4 => if h2 < 2 then (impl_IsBox.ap k (⟨(⟨h0.f0, h0.f1⟩ : S75), (⟨wrap64 (h0.f0 + r4), wrap64 (h0.f1 + 3)⟩ : S75)⟩ : S80) fun r5 => if (!r5) = true then (impl_LabelBox.ret (⟨(⟨0, 0⟩ : S75), (⟨0, 0⟩ : S75)⟩ : S80) false) else (impl_LabelBox.ret (⟨(⟨h0.f0, h0.f1⟩ : S75), (⟨wrap64 (h0.f0 + r4), wrap64 (h0.f1 + 3)⟩ : S75)⟩ : S80) true)) else (impl_IsBox.ap k (⟨(⟨h0.f0, wrap64 (h0.f1 - 3)⟩ : S75), (⟨wrap64 (h0.f0 + r4), h0.f1⟩ : S75)⟩ : S80) fun r6 => if (!r6) = true then (impl_LabelBox.ret (⟨(⟨0, 0⟩ : S75), (⟨0, 0⟩ : S75)⟩ : S80) false) else (impl_LabelBox.ret (⟨(⟨h0.f0, wrap64 (h0.f1 - 3)⟩ : S75), (⟨wrap64 (h0.f0 + r4), h0.f1⟩ : S75)⟩ : S80) true))) else (impl_NameWidth.ap k h1 fun r7 => if h2 < 2 then (impl_IsBox.ap k (⟨(⟨wrap64 (h0.f0 - r7), h0.f1⟩ : S75), (⟨h0.f0, wrap64 (h0.f1 + 3)⟩ : S75)⟩ : S80) fun r8 => if (!r8) = true then (impl_LabelBox.ret (⟨(⟨0, 0⟩ : S75), (⟨0, 0⟩ : S75)⟩ : S80) false) else (impl_LabelBox.ret (⟨(⟨wrap64 (h0.f0 - r7), h0.f1⟩ : S75), (⟨h0.f0, wrap64 (h0.f1 + 3)⟩ : S75)⟩ : S80) true)) else (impl_IsBox.ap k (⟨(⟨wrap64 (h0.f0 - r7), wrap64 (h0.f1 - 3)⟩ : S75), (⟨h0.f0, h0.f1⟩ : S75)⟩ : S80) fun r9 => if (!r9) = true then (impl_LabelBox.ret (⟨(⟨0, 0⟩ : S75), (⟨0, 0⟩ : S75)⟩ : S80) false) else (impl_LabelBox.ret (⟨(⟨wrap64 (h0.f0 - r7), wrap64 (h0.f1 - 3)⟩ : S75), (⟨h0.f0, h0.f1⟩ : S75)⟩ : S80) true)))))) := by kernel_rfl
def impl_LabelBox.toH (t : Int × Int × Int × Int × Bool) : HL eΓ [.st .s80, .b] := ((⟨(⟨t.1, t.2.1⟩ : S75), (⟨t.2.2.1, t.2.2.2.1⟩ : S75)⟩ : S80), t.2.2.2.2, ())
def impl_LabelBox.spec : Spc env := ⟨53, [.st .s75, .s, .i .i64], [.st .s80, .b], impl_LabelBox.run⟩
def impl_LabelBox.ap {R : Type} (k : Nat) (h0 : S75) (h1 : ByteArray) (h2 : Int) (K : S80 → Bool → Option R) : Option R := (impl_LabelBox.run k (h0, h1, h2, ())).bind fun r => K (r.1 : S80) (r.2.1 : Bool)
theorem impl_LabelBox.ap_of {R : Type} {k : Nat} {h0 : S75} {h1 : ByteArray} {h2 : Int} {r0 : S80} {r1 : Bool} {K : S80 → Bool → Option R} (h : impl_LabelBox.run k (h0, h1, h2, ()) = some (r0, r1, ())) : impl_LabelBox.ap k h0 h1 h2 K = K r0 r1 := by unfold impl_LabelBox.ap; rw [h]; rfl
theorem impl_LabelBox.snd : Snd env impl_LabelBox.spec := evF_snd env_ok (sndC impl_IsPoint.snd (sndC impl_IsName.snd (sndC impl_InRange.snd (sndC impl_NameWidth.snd (sndC impl_IsBox.snd (sndN))))))
attribute [local irreducible] impl_LabelBox.run
theorem impl_LabelBox.rt (a0 : Int) (a1 : Int) (a2 : Int) (a3 : Int) (a4 : Bool) : impl_LabelBox.ret (⟨(⟨a0, a1⟩ : S75), (⟨a2, a3⟩ : S75)⟩ : S80) a4 = some (impl_LabelBox.toH (a0, a1, a2, a3, a4)) := rfl
theorem impl_LabelBox.go {k : Nat} {a0_0 : Int} {a0_1 : Int} {a1 : ByteArray} {a2 : Int} {t} (h : impl_LabelBox.f k a0_0 a0_1 a1 a2 = some t) (K : Nat) (hK : k ≤ K) : impl_LabelBox.run K ((⟨a0_0, a0_1⟩ : S75), a1, a2, ()) = some (impl_LabelBox.toH t) := by
  rw [impl_LabelBox.ef]
  (try dsimp only)
  unfold impl_LabelBox.f at h
  repeat' (with_reducible first
   | exact nos h
   | (cases some_inj h; exact impl_LabelBox.rt _ _ _ _ _)
   | ((have q : impl_LabelBox.j0 k _ _ _ _ _ = some _ := h; clear q); rcases k with _ | k <;> simp only [impl_LabelBox.j0, reduceCtorEq] at h)
   | ((have q : impl_LabelBox.j1 k _ _ _ _ _ = some _ := h; clear q); rcases k with _ | k <;> simp only [impl_LabelBox.j1, reduceCtorEq] at h)
   | (simp only [Option.bind_some] at h)
   | (refine ite_by h ?_ ?_ <;> (intro hc h; (try simp only [nrm] at hc)))
   | refine itT ?_
   | refine itF ?_
   | (refine bind_by h (fun t ht h => ?_); (first | refine (impl_IsPoint.ap_of (impl_IsPoint.go ht _)).trans ?_ | refine (impl_IsName.ap_of (impl_IsName.go ht _ (by omega))).trans ?_ | refine (impl_InRange.ap_of (impl_InRange.go ht _)).trans ?_ | refine (impl_NameWidth.ap_of (impl_NameWidth.go ht _ (by omega))).trans ?_ | refine (impl_IsBox.ap_of (impl_IsBox.go ht _)).trans ?_); (try dsimp only at h ⊢))
   | (simp only [nr2] at h ⊢)
   | (exfalso; omega))
theorem impl_LabelBox.calls (k : Nat) (a0_0 : Int) (a0_1 : Int) (a1 : ByteArray) (a2 : Int) (r1 : Int) (r2 : Int) (r3 : Int) (r4 : Int) (r5 : Bool) (w : World) (h : impl_LabelBox.f k a0_0 a0_1 a1 a2 = some (r1, r2, r3, r4, r5)) :
  Calls Tryz.prog 53 #[.agg #[.int .i64 a0_0, .int .i64 a0_1], .string a1, .int .i64 a2] w fun e w' => e = .returned (.tuple #[.agg #[.int .i64 r1, .int .i64 r2, .int .i64 r3, .int .i64 r4], .bool r5]) ∧ Below w.heap.size w w' := by
  refine (impl_LabelBox.snd.calls _ _ _ (impl_LabelBox.go h k (Nat.le_refl k)) w [.agg #[.int .i64 a0_0, .int .i64 a0_1], .string a1, .int .i64 a2] ⟨⟨_, rfl, (H75.K _ _ _).2 ⟨rfl, rfl, trivial⟩⟩, rfl, rfl, trivial⟩).mono ?_
  rintro e w' ⟨v, rfl, hB, vs, oks, rfl, hR, _⟩
  obtain ⟨x0_, vs, o0_, oks, rfl, rfl, m0_, hR⟩ := rmsC hR
  obtain ⟨x1_, vs, o1_, oks, rfl, rfl, m1_, hR⟩ := rmsC hR
  obtain rfl := rmsN hR
  obtain ⟨y0, rfl, m0_⟩ := m0_
  have m0_ := (H80.M _ _ _ _ _).1 m0_
  match e0 : y0.toList, m0_ with
  | [d0_0, d0_1, d0_2, d0_3], ⟨n0_0, n0_1, n0_2, n0_3, _⟩ =>
  obtain rfl : y0 = #[d0_0, d0_1, d0_2, d0_3] := by rw [← Array.toArray_toList (xs := y0), e0]
  obtain rfl := List.singleton_inj.1 (show [d0_0] = [Value.int .i64 r1] from n0_0)
  obtain rfl := List.singleton_inj.1 (show [d0_1] = [Value.int .i64 r2] from n0_1)
  obtain rfl := List.singleton_inj.1 (show [d0_2] = [Value.int .i64 r3] from n0_2)
  obtain rfl := List.singleton_inj.1 (show [d0_3] = [Value.int .i64 r4] from n0_3)
  obtain rfl := List.singleton_inj.1 (show [x1_] = [Value.bool r5] from m1_)
  exact ⟨rfl, hB⟩
def impl_CornersFor.Fs : List (Spc env) := [impl_LabelBox.spec]
def impl_CornersFor.fin : St eΓ → Option (HL eΓ [.l 3 (.i .i64)]) := finR env Tryz.f100.results.toList [.l 3 (.i .i64)]
def impl_CornersFor.cut : Nat → Option (List (Lv SC)) := lk [(3, [⟨1, none, false⟩, ⟨2, none, false⟩, ⟨5, none, false⟩, ⟨10, none, false⟩])]
def impl_CornersFor.ret (r0 : List Int) : Option (HL eΓ [.l 3 (.i .i64)]) := some (r0, ())
def impl_CornersFor.p3 (k : Nat) (x1 : ByteArray) (x10 : Int) (b0_0 : Int) (b0_1 : Int) (x5 : List Int) : Option (HL eΓ [.l 3 (.i .i64)]) := evM env impl_CornersFor.Fs Tryz.f100.ntmps impl_CornersFor.fin impl_CornersFor.cut k [.code (sub_ [1, 1, 0, 1, 0, 0, 0] (bodyOf Tryz.f100)), .code (sub_ [1, 1, 0, 1, 0, 0, 1] (bodyOf Tryz.f100)), .lp (sub_ [1, 1, 0, 1, 0, 0] (bodyOf Tryz.f100)), .blk 0, .code (sub_ [1, 1, 1] (bodyOf Tryz.f100))] (mkSt [(1, .c (.v (.string x1))), (2, .c (.ptr 0 0)), (5, .c (.sl 1)), (10, .c (.v (.int .i64 x10)))] [.box 75 [.v (.int .i64 b0_0), .v (.int .i64 b0_1)], .row .own 3 (.i .i64) x5])
theorem impl_CornersFor.e3 (k : Nat) (x1 : ByteArray) (x10 : Int) (b0_0 : Int) (b0_1 : Int) (x5 : List Int) : impl_CornersFor.p3 (k + 1) x1 x10 b0_0 b0_1 x5 = if x10 < 4 then (impl_LabelBox.ap k (⟨b0_0, b0_1⟩ : S75) x1 x10 fun r1_0 r1_1 => if r1_1 = true then (if (x5.length + 1) * 8 ≤ 140737488355328 then (impl_CornersFor.p3 k x1 (wrap64 (x10 + 1)) b0_0 b0_1 (x5 ++ [x10])) else none) else (impl_CornersFor.p3 k x1 (wrap64 (x10 + 1)) b0_0 b0_1 x5)) else (impl_CornersFor.ret x5) := by kernel_rfl
def impl_CornersFor.run (k : Nat) (h : HL eΓ [.st .s75, .s]) : Option (HL eΓ [.l 3 (.i .i64)]) := evF env impl_CornersFor.Fs Tryz.f100 impl_CornersFor.cut [.st .s75, .s] [.l 3 (.i .i64)] k h
theorem impl_CornersFor.ef (k : Nat) (h0 : S75) (h1 : ByteArray) : impl_CornersFor.run k (h0, h1, ()) = impl_CornersFor.p3 k h1 0 h0.f0 h0.f1 ([] : List Int) := by kernel_rfl
def impl_CornersFor.toH (t : List Int) : HL eΓ [.l 3 (.i .i64)] := (t, ())
def impl_CornersFor.spec : Spc env := ⟨100, [.st .s75, .s], [.l 3 (.i .i64)], impl_CornersFor.run⟩
def impl_CornersFor.ap {R : Type} (k : Nat) (h0 : S75) (h1 : ByteArray) (K : (List Int) → Option R) : Option R := (impl_CornersFor.run k (h0, h1, ())).bind fun r => K (r.1 : List Int)
theorem impl_CornersFor.ap_of {R : Type} {k : Nat} {h0 : S75} {h1 : ByteArray} {r0 : List Int} {K : (List Int) → Option R} (h : impl_CornersFor.run k (h0, h1, ()) = some (r0, ())) : impl_CornersFor.ap k h0 h1 K = K r0 := by unfold impl_CornersFor.ap; rw [h]; rfl
theorem impl_CornersFor.snd : Snd env impl_CornersFor.spec := evF_snd env_ok (sndC impl_LabelBox.snd (sndN))
attribute [local irreducible] impl_CornersFor.run
theorem impl_CornersFor.rt (a0 : List Int) : impl_CornersFor.ret a0 = some (impl_CornersFor.toH (a0)) := rfl
theorem impl_CornersFor.br (n : Nat) : (∀ K, n ≤ K → ∀ (x1 : ByteArray) (x10 : Int) (b0_0 : Int) (b0_1 : Int) (x5 : List Int) t, impl_CornersFor.l0 n x1 x5 x10 b0_0 b0_1 = some t → impl_CornersFor.p3 K x1 x10 b0_0 b0_1 x5 = some (impl_CornersFor.toH t)) := by
  induction n using Nat.strongRecOn with
  | _ n ih =>
  intro K hK x1 x10 b0_0 b0_1 x5 t h
  all_goals (rcases n with _ | k)
  all_goals (try (exact nos h))
  all_goals (obtain ⟨K, rfl⟩ : ∃ q, K = q + 1 := ⟨K - 1, by omega⟩)
  all_goals (first | rw [impl_CornersFor.e3])
  all_goals (simp only [impl_CornersFor.l0] at h)
  repeat' (with_reducible first
   | exact nos h
   | (cases some_inj h; exact impl_CornersFor.rt _)
   | exact (ih _ (by omega)) _ (by omega) _ _ _ _ _ _ h
   | (simp only [Option.bind_some] at h)
   | (refine ite_by h ?_ ?_ <;> (intro hc h; (try simp only [nrm] at hc)))
   | refine itT ?_
   | refine itF ?_
   | (refine bind_by h (fun t ht h => ?_); refine (impl_LabelBox.ap_of (impl_LabelBox.go ht _ (by omega))).trans ?_; (try dsimp only at h ⊢))
   | (simp only [nr2, Int.zero_sub] at h ⊢)
   | (exfalso; omega))
theorem impl_CornersFor.go {k : Nat} {a0_0 : Int} {a0_1 : Int} {a1 : ByteArray} {t} (h : impl_CornersFor.f k a0_0 a0_1 a1 = some t) (K : Nat) (hK : k ≤ K) : impl_CornersFor.run K ((⟨a0_0, a0_1⟩ : S75), a1, ()) = some (impl_CornersFor.toH t) := by
  rw [impl_CornersFor.ef]
  (try dsimp only)
  unfold impl_CornersFor.f at h
  repeat' (with_reducible first
   | exact nos h
   | (cases some_inj h; exact impl_CornersFor.rt _)
   | exact (impl_CornersFor.br _) _ (by omega) _ _ _ _ _ _ h
   | (simp only [Option.bind_some] at h)
   | (refine ite_by h ?_ ?_ <;> (intro hc h; (try simp only [nrm] at hc)))
   | refine itT ?_
   | refine itF ?_
   | (refine bind_by h (fun t ht h => ?_); refine (impl_LabelBox.ap_of (impl_LabelBox.go ht _ (by omega))).trans ?_; (try dsimp only at h ⊢))
   | (simp only [nr2, Int.zero_sub] at h ⊢)
   | (exfalso; omega))
def impl_common.Fs : List (Spc env) := []
def impl_common.cut : Nat → Option (List (Lv SC)) := lk []
def impl_common.ret (r0 : Int) (r1 : Int) : Option (HL eΓ [.i .i64, .i .i64]) := some (r0, r1, ())
def impl_common.run (k : Nat) (h : HL eΓ [.st .s80, .st .s80]) : Option (HL eΓ [.i .i64, .i .i64]) := evF env impl_common.Fs Tryz.f185 impl_common.cut [.st .s80, .st .s80] [.i .i64, .i .i64] k h
theorem impl_common.ef (k : Nat) (h0 : S80) (h1 : S80) : impl_common.run k (h0, h1, ()) = impl_common.ret (wrap64 ((mn h0.f1.f0 h1.f1.f0) - (mx h0.f0.f0 h1.f0.f0))) (wrap64 ((mn h0.f1.f1 h1.f1.f1) - (mx h0.f0.f1 h1.f0.f1))) := by kernel_rfl
def impl_common.toH (t : Int × Int) : HL eΓ [.i .i64, .i .i64] := (t.1, t.2, ())
def impl_common.spec : Spc env := ⟨185, [.st .s80, .st .s80], [.i .i64, .i .i64], impl_common.run⟩
def impl_common.ap {R : Type} (k : Nat) (h0 : S80) (h1 : S80) (K : Int → Int → Option R) : Option R := (impl_common.run k (h0, h1, ())).bind fun r => K (r.1 : Int) (r.2.1 : Int)
theorem impl_common.ap_of {R : Type} {k : Nat} {h0 : S80} {h1 : S80} {r0 : Int} {r1 : Int} {K : Int → Int → Option R} (h : impl_common.run k (h0, h1, ()) = some (r0, r1, ())) : impl_common.ap k h0 h1 K = K r0 r1 := by unfold impl_common.ap; rw [h]; rfl
theorem impl_common.snd : Snd env impl_common.spec := evF_snd env_ok (sndN)
attribute [local irreducible] impl_common.run
theorem impl_common.rt (a0 : Int) (a1 : Int) : impl_common.ret a0 a1 = some (impl_common.toH (a0, a1)) := rfl
theorem impl_common.go {a0_0 : Int} {a0_1 : Int} {a0_2 : Int} {a0_3 : Int} {a1_0 : Int} {a1_1 : Int} {a1_2 : Int} {a1_3 : Int} {t} (h : impl_common.f a0_0 a0_1 a0_2 a0_3 a1_0 a1_1 a1_2 a1_3 = some t) (K : Nat) : impl_common.run K ((⟨(⟨a0_0, a0_1⟩ : S75), (⟨a0_2, a0_3⟩ : S75)⟩ : S80), (⟨(⟨a1_0, a1_1⟩ : S75), (⟨a1_2, a1_3⟩ : S75)⟩ : S80), ()) = some (impl_common.toH t) := by
  rw [impl_common.ef]
  (try dsimp only)
  unfold impl_common.f at h
  repeat' (with_reducible first
   | exact nos h
   | (cases some_inj h; exact impl_common.rt _ _)
   | (simp only [Option.bind_some] at h)
   | (refine ite_by h ?_ ?_ <;> (intro hc h; (try simp only [nrm] at hc)))
   | refine itT ?_
   | refine itF ?_
   | (simp only [nr2] at h ⊢)
   | (exfalso; omega))
def impl_BoxesOverlap.Fs : List (Spc env) := [impl_common.spec, impl_IsBox.spec]
def impl_BoxesOverlap.cut : Nat → Option (List (Lv SC)) := lk []
def impl_BoxesOverlap.ret (r0 : Bool) : Option (HL eΓ [.b]) := some (r0, ())
def impl_BoxesOverlap.run (k : Nat) (h : HL eΓ [.st .s80, .st .s80]) : Option (HL eΓ [.b]) := evF env impl_BoxesOverlap.Fs Tryz.f141 impl_BoxesOverlap.cut [.st .s80, .st .s80] [.b] k h
theorem impl_BoxesOverlap.ef (k : Nat) (h0 : S80) (h1 : S80) : impl_BoxesOverlap.run k (h0, h1, ()) = impl_common.ap k (⟨(⟨h0.f0.f0, h0.f0.f1⟩ : S75), (⟨h0.f1.f0, h0.f1.f1⟩ : S75)⟩ : S80) (⟨(⟨h1.f0.f0, h1.f0.f1⟩ : S75), (⟨h1.f1.f0, h1.f1.f1⟩ : S75)⟩ : S80) fun r1_0 r1_1 => impl_IsBox.ap k (⟨(⟨h0.f0.f0, h0.f0.f1⟩ : S75), (⟨h0.f1.f0, h0.f1.f1⟩ : S75)⟩ : S80) fun r2 => if r2 = true then (impl_IsBox.ap k (⟨(⟨h1.f0.f0, h1.f0.f1⟩ : S75), (⟨h1.f1.f0, h1.f1.f1⟩ : S75)⟩ : S80) fun r3 => if r3 = true then (if r1_0 > 0 then (impl_BoxesOverlap.ret (decide (r1_1 > 0))) else (impl_BoxesOverlap.ret false)) else (impl_BoxesOverlap.ret false)) else (impl_BoxesOverlap.ret false) := by kernel_rfl
def impl_BoxesOverlap.toH (t : Bool) : HL eΓ [.b] := (t, ())
def impl_BoxesOverlap.spec : Spc env := ⟨141, [.st .s80, .st .s80], [.b], impl_BoxesOverlap.run⟩
def impl_BoxesOverlap.ap {R : Type} (k : Nat) (h0 : S80) (h1 : S80) (K : Bool → Option R) : Option R := (impl_BoxesOverlap.run k (h0, h1, ())).bind fun r => K (r.1 : Bool)
theorem impl_BoxesOverlap.ap_of {R : Type} {k : Nat} {h0 : S80} {h1 : S80} {r0 : Bool} {K : Bool → Option R} (h : impl_BoxesOverlap.run k (h0, h1, ()) = some (r0, ())) : impl_BoxesOverlap.ap k h0 h1 K = K r0 := by unfold impl_BoxesOverlap.ap; rw [h]; rfl
theorem impl_BoxesOverlap.snd : Snd env impl_BoxesOverlap.spec := evF_snd env_ok (sndC impl_common.snd (sndC impl_IsBox.snd (sndN)))
attribute [local irreducible] impl_BoxesOverlap.run
theorem impl_BoxesOverlap.rt (a0 : Bool) : impl_BoxesOverlap.ret a0 = some (impl_BoxesOverlap.toH (a0)) := rfl
theorem impl_BoxesOverlap.go {a0_0 : Int} {a0_1 : Int} {a0_2 : Int} {a0_3 : Int} {a1_0 : Int} {a1_1 : Int} {a1_2 : Int} {a1_3 : Int} {t} (h : impl_BoxesOverlap.f a0_0 a0_1 a0_2 a0_3 a1_0 a1_1 a1_2 a1_3 = some t) (K : Nat) : impl_BoxesOverlap.run K ((⟨(⟨a0_0, a0_1⟩ : S75), (⟨a0_2, a0_3⟩ : S75)⟩ : S80), (⟨(⟨a1_0, a1_1⟩ : S75), (⟨a1_2, a1_3⟩ : S75)⟩ : S80), ()) = some (impl_BoxesOverlap.toH t) := by
  rw [impl_BoxesOverlap.ef]
  (try dsimp only)
  unfold impl_BoxesOverlap.f at h
  repeat' (with_reducible first
   | exact nos h
   | (cases some_inj h; exact impl_BoxesOverlap.rt _)
   | (simp only [Option.bind_some] at h)
   | (refine ite_by h ?_ ?_ <;> (intro hc h; (try simp only [nrm] at hc)))
   | refine itT ?_
   | refine itF ?_
   | (refine bind_by h (fun t ht h => ?_); (first | refine (impl_common.ap_of (impl_common.go ht _)).trans ?_ | refine (impl_IsBox.ap_of (impl_IsBox.go ht _)).trans ?_); (try dsimp only at h ⊢))
   | (simp only [nr2] at h ⊢)
   | (exfalso; omega))
def impl_isFree.Fs : List (Spc env) := [impl_BoxesOverlap.spec]
def impl_isFree.fin : St eΓ → Option (HL eΓ [.b]) := finR env Tryz.f101.results.toList [.b]
def impl_isFree.cut : Nat → Option (List (Lv SC)) := lk [(2, [⟨2, none, false⟩, ⟨7, none, false⟩, ⟨8, none, false⟩, ⟨9, none, false⟩])]
def impl_isFree.ret (r0 : Bool) : Option (HL eΓ [.b]) := some (r0, ())
def impl_isFree.p2 (k : Nat) (x8 : Int) (x9 : Int) (b0_0 : Int) (b0_1 : Int) (b0_2 : Int) (b0_3 : Int) (x7 : List S80) : Option (HL eΓ [.b]) := evM env impl_isFree.Fs Tryz.f101.ntmps impl_isFree.fin impl_isFree.cut k [.code (sub_ [1, 0, 1, 0, 0, 0] (bodyOf Tryz.f101)), .code (sub_ [1, 0, 1, 0, 0, 1] (bodyOf Tryz.f101)), .lp (sub_ [1, 0, 1, 0, 0] (bodyOf Tryz.f101)), .blk 0, .code (sub_ [1, 1] (bodyOf Tryz.f101))] (mkSt [(2, .c (.ptr 0 0)), (7, .c (.sl 1)), (8, .c (.v (.int .i64 x8))), (9, .c (.v (.int .i64 x9)))] [.box 80 [.v (.int .i64 b0_0), .v (.int .i64 b0_1), .v (.int .i64 b0_2), .v (.int .i64 b0_3)], .row .ro 80 (.st .s80) x7])
theorem impl_isFree.e2 (k : Nat) (x8 : Int) (x9 : Int) (b0_0 : Int) (b0_1 : Int) (b0_2 : Int) (b0_3 : Int) (x7 : List S80) : impl_isFree.p2 (k + 1) x8 x9 b0_0 b0_1 b0_2 b0_3 x7 = if x9 < x8 then (if 0 ≤ x9 then (if x9 < (x7.length : Int) then (impl_BoxesOverlap.ap k (⟨(⟨b0_0, b0_1⟩ : S75), (⟨b0_2, b0_3⟩ : S75)⟩ : S80) (⟨(⟨(rd_T80 x7 x9).f0.f0, (rd_T80 x7 x9).f0.f1⟩ : S75), (⟨(rd_T80 x7 x9).f1.f0, (rd_T80 x7 x9).f1.f1⟩ : S75)⟩ : S80) fun r1 => if r1 = true then (impl_isFree.ret false) else (impl_isFree.p2 k x8 (wrap64 (x9 + 1)) b0_0 b0_1 b0_2 b0_3 x7)) else none) else none) else (impl_isFree.ret true) := by kernel_rfl
def impl_isFree.run (k : Nat) (h : HL eΓ [.st .s80, .l 80 (.st .s80)]) : Option (HL eΓ [.b]) := evF env impl_isFree.Fs Tryz.f101 impl_isFree.cut [.st .s80, .l 80 (.st .s80)] [.b] k h
theorem impl_isFree.ef (k : Nat) (h0 : S80) (h1 : List S80) : impl_isFree.run k (h0, h1, ()) = impl_isFree.p2 k (h1.length : Int) 0 h0.f0.f0 h0.f0.f1 h0.f1.f0 h0.f1.f1 h1 := by kernel_rfl
def impl_isFree.toH (t : Bool) : HL eΓ [.b] := (t, ())
def impl_isFree.spec : Spc env := ⟨101, [.st .s80, .l 80 (.st .s80)], [.b], impl_isFree.run⟩
def impl_isFree.ap {R : Type} (k : Nat) (h0 : S80) (h1 : List S80) (K : Bool → Option R) : Option R := (impl_isFree.run k (h0, h1, ())).bind fun r => K (r.1 : Bool)
theorem impl_isFree.ap_of {R : Type} {k : Nat} {h0 : S80} {h1 : List S80} {r0 : Bool} {K : Bool → Option R} (h : impl_isFree.run k (h0, h1, ()) = some (r0, ())) : impl_isFree.ap k h0 h1 K = K r0 := by unfold impl_isFree.ap; rw [h]; rfl
theorem impl_isFree.snd : Snd env impl_isFree.spec := evF_snd env_ok (sndC impl_BoxesOverlap.snd (sndN))
attribute [local irreducible] impl_isFree.run
theorem impl_isFree.rt (a0 : Bool) : impl_isFree.ret a0 = some (impl_isFree.toH (a0)) := rfl
theorem impl_isFree.br (n : Nat) : (∀ K, n ≤ K → ∀ (x8 : Int) (x9 : Int) (b0_0 : Int) (b0_1 : Int) (b0_2 : Int) (b0_3 : Int) (x7 : List S80) t, impl_isFree.l0 n x7 x8 x9 b0_0 b0_1 b0_2 b0_3 = some t → impl_isFree.p2 K x8 x9 b0_0 b0_1 b0_2 b0_3 x7 = some (impl_isFree.toH t)) := by
  induction n using Nat.strongRecOn with
  | _ n ih =>
  intro K hK x8 x9 b0_0 b0_1 b0_2 b0_3 x7 t h
  all_goals (rcases n with _ | k)
  all_goals (try (exact nos h))
  all_goals (obtain ⟨K, rfl⟩ : ∃ q, K = q + 1 := ⟨K - 1, by omega⟩)
  all_goals (first | rw [impl_isFree.e2])
  all_goals (simp only [impl_isFree.l0] at h)
  repeat' (with_reducible first
   | exact nos h
   | (cases some_inj h; exact impl_isFree.rt _)
   | exact (ih _ (by omega)) _ (by omega) _ _ _ _ _ _ _ _ h
   | (simp only [Option.bind_some] at h)
   | (refine ite_by h ?_ ?_ <;> (intro hc h; (try simp only [nrm] at hc)))
   | refine itT ?_
   | refine itF ?_
   | (refine bind_by h (fun t ht h => ?_); refine (impl_BoxesOverlap.ap_of (impl_BoxesOverlap.go ht _)).trans ?_; (try dsimp only at h ⊢))
   | (simp only [nr2] at h ⊢)
   | (exfalso; omega))
theorem impl_isFree.go {k : Nat} {a0_0 : Int} {a0_1 : Int} {a0_2 : Int} {a0_3 : Int} {l1 : List S80} {t} (h : impl_isFree.f k a0_0 a0_1 a0_2 a0_3 l1 = some t) (K : Nat) (hK : k ≤ K) : impl_isFree.run K ((⟨(⟨a0_0, a0_1⟩ : S75), (⟨a0_2, a0_3⟩ : S75)⟩ : S80), l1, ()) = some (impl_isFree.toH t) := by
  rw [impl_isFree.ef]
  (try dsimp only)
  unfold impl_isFree.f at h
  repeat' (with_reducible first
   | exact nos h
   | (cases some_inj h; exact impl_isFree.rt _)
   | exact (impl_isFree.br _) _ (by omega) _ _ _ _ _ _ _ _ h
   | (simp only [Option.bind_some] at h)
   | (refine ite_by h ?_ ?_ <;> (intro hc h; (try simp only [nrm] at hc)))
   | refine itT ?_
   | refine itF ?_
   | (refine bind_by h (fun t ht h => ?_); refine (impl_BoxesOverlap.ap_of (impl_BoxesOverlap.go ht _)).trans ?_; (try dsimp only at h ⊢))
   | (simp only [nr2] at h ⊢)
   | (exfalso; omega))
def impl_FreeCorner.Fs : List (Spc env) := [impl_CornersFor.spec, impl_LabelBox.spec, impl_isFree.spec]
def impl_FreeCorner.fin : St eΓ → Option (HL eΓ [.i .i64]) := finR env Tryz.f52.results.toList [.i .i64]
def impl_FreeCorner.cut : Nat → Option (List (Lv SC)) := lk [(2, [⟨1, none, false⟩, ⟨2, none, false⟩, ⟨3, none, false⟩, ⟨13, none, false⟩, ⟨14, none, false⟩, ⟨15, none, false⟩])]
def impl_FreeCorner.ret (r0 : Int) : Option (HL eΓ [.i .i64]) := some (r0, ())
def impl_FreeCorner.p2 (k : Nat) (x1 : ByteArray) (x14 : Int) (x15 : Int) (x2 : List S80) (b1_0 : Int) (b1_1 : Int) (x13 : List Int) : Option (HL eΓ [.i .i64]) := evM env impl_FreeCorner.Fs Tryz.f52.ntmps impl_FreeCorner.fin impl_FreeCorner.cut k [.code (sub_ [1, 0, 1, 0, 0, 0] (bodyOf Tryz.f52)), .code (sub_ [1, 0, 1, 0, 0, 1] (bodyOf Tryz.f52)), .lp (sub_ [1, 0, 1, 0, 0] (bodyOf Tryz.f52)), .blk 0, .code (sub_ [1, 1] (bodyOf Tryz.f52))] (mkSt [(1, .c (.v (.string x1))), (2, .c (.sl 0)), (3, .c (.ptr 1 0)), (13, .c (.sl 2)), (14, .c (.v (.int .i64 x14))), (15, .c (.v (.int .i64 x15)))] [.row .ro 80 (.st .s80) x2, .box 75 [.v (.int .i64 b1_0), .v (.int .i64 b1_1)], .row .own 3 (.i .i64) x13])
theorem impl_FreeCorner.e2 (k : Nat) (x1 : ByteArray) (x14 : Int) (x15 : Int) (x2 : List S80) (b1_0 : Int) (b1_1 : Int) (x13 : List Int) : impl_FreeCorner.p2 (k + 1) x1 x14 x15 x2 b1_0 b1_1 x13 = if x15 < x14 then (if 0 ≤ x15 then (if x15 < (x13.length : Int) then (impl_LabelBox.ap k (⟨b1_0, b1_1⟩ : S75) x1 (x13.getD x15.toNat 0) fun r1_0 r1_1 => impl_isFree.ap k (⟨(⟨r1_0.f0.f0, r1_0.f0.f1⟩ : S75), (⟨r1_0.f1.f0, r1_0.f1.f1⟩ : S75)⟩ : S80) x2 fun r2 => if r2 = true then (impl_FreeCorner.ret (x13.getD x15.toNat 0)) else (impl_FreeCorner.p2 k x1 x14 (wrap64 (x15 + 1)) x2 b1_0 b1_1 x13)) else none) else none) else (impl_FreeCorner.ret (-1)) := by kernel_rfl
def impl_FreeCorner.run (k : Nat) (h : HL eΓ [.st .s75, .s, .l 80 (.st .s80)]) : Option (HL eΓ [.i .i64]) := evF env impl_FreeCorner.Fs Tryz.f52 impl_FreeCorner.cut [.st .s75, .s, .l 80 (.st .s80)] [.i .i64] k h
theorem impl_FreeCorner.ef (k : Nat) (h0 : S75) (h1 : ByteArray) (h2 : List S80) : impl_FreeCorner.run k (h0, h1, h2, ()) = impl_CornersFor.ap k (⟨h0.f0, h0.f1⟩ : S75) h1 fun r1 => impl_FreeCorner.p2 k h1 (r1.length : Int) 0 h2 h0.f0 h0.f1 r1 := by kernel_rfl
def impl_FreeCorner.toH (t : Int) : HL eΓ [.i .i64] := (t, ())
def impl_FreeCorner.spec : Spc env := ⟨52, [.st .s75, .s, .l 80 (.st .s80)], [.i .i64], impl_FreeCorner.run⟩
theorem impl_FreeCorner.snd : Snd env impl_FreeCorner.spec := evF_snd env_ok (sndC impl_CornersFor.snd (sndC impl_LabelBox.snd (sndC impl_isFree.snd (sndN))))
attribute [local irreducible] impl_FreeCorner.run
theorem impl_FreeCorner.rt (a0 : Int) : impl_FreeCorner.ret a0 = some (impl_FreeCorner.toH (a0)) := rfl
theorem impl_FreeCorner.br (n : Nat) : (∀ K, n ≤ K → ∀ (x1 : ByteArray) (x14 : Int) (x15 : Int) (x2 : List S80) (b1_0 : Int) (b1_1 : Int) (x13 : List Int) t, impl_FreeCorner.l0 n x1 x2 x13 x14 x15 b1_0 b1_1 = some t → impl_FreeCorner.p2 K x1 x14 x15 x2 b1_0 b1_1 x13 = some (impl_FreeCorner.toH t)) := by
  induction n using Nat.strongRecOn with
  | _ n ih =>
  intro K hK x1 x14 x15 x2 b1_0 b1_1 x13 t h
  all_goals (rcases n with _ | k)
  all_goals (try (exact nos h))
  all_goals (obtain ⟨K, rfl⟩ : ∃ q, K = q + 1 := ⟨K - 1, by omega⟩)
  all_goals (first | rw [impl_FreeCorner.e2])
  all_goals (simp only [impl_FreeCorner.l0, rd] at h)
  repeat' (with_reducible first
   | exact nos h
   | (cases some_inj h; exact impl_FreeCorner.rt _)
   | exact (ih _ (by omega)) _ (by omega) _ _ _ _ _ _ _ _ h
   | (simp only [Option.bind_some] at h)
   | (refine ite_by h ?_ ?_ <;> (intro hc h; (try simp only [nrm] at hc)))
   | refine itT ?_
   | refine itF ?_
   | (refine bind_by h (fun t ht h => ?_); (first | refine (impl_CornersFor.ap_of (impl_CornersFor.go ht _ (by omega))).trans ?_ | refine (impl_LabelBox.ap_of (impl_LabelBox.go ht _ (by omega))).trans ?_ | refine (impl_isFree.ap_of (impl_isFree.go ht _ (by omega))).trans ?_); (try dsimp only at h ⊢))
   | (simp only [nr2, Int.zero_sub] at h ⊢)
   | (exfalso; omega))
theorem impl_FreeCorner.go {k : Nat} {a0_0 : Int} {a0_1 : Int} {a1 : ByteArray} {l2 : List S80} {t} (h : impl_FreeCorner.f k a0_0 a0_1 a1 l2 = some t) (K : Nat) (hK : k ≤ K) : impl_FreeCorner.run K ((⟨a0_0, a0_1⟩ : S75), a1, l2, ()) = some (impl_FreeCorner.toH t) := by
  rw [impl_FreeCorner.ef]
  (try dsimp only)
  unfold impl_FreeCorner.f at h
  repeat' (with_reducible first
   | exact nos h
   | (cases some_inj h; exact impl_FreeCorner.rt _)
   | exact (impl_FreeCorner.br _) _ (by omega) _ _ _ _ _ _ _ _ h
   | (simp only [Option.bind_some] at h)
   | (refine ite_by h ?_ ?_ <;> (intro hc h; (try simp only [nrm] at hc)))
   | refine itT ?_
   | refine itF ?_
   | (refine bind_by h (fun t ht h => ?_); (first | refine (impl_CornersFor.ap_of (impl_CornersFor.go ht _ (by omega))).trans ?_ | refine (impl_LabelBox.ap_of (impl_LabelBox.go ht _ (by omega))).trans ?_ | refine (impl_isFree.ap_of (impl_isFree.go ht _ (by omega))).trans ?_); (try dsimp only at h ⊢))
   | (simp only [nr2, Int.zero_sub] at h ⊢)
   | (exfalso; omega))
theorem impl_FreeCorner.calls (k : Nat) (a0_0 : Int) (a0_1 : Int) (a1 : ByteArray) (A2 : Option Addr) (c2 : Nat) (l2 : List (S80)) (r : Int) (w : World) (hr2 : Kd.C k80 w A2 l2.length l2) (hc2 : l2.length ≤ c2) (h : impl_FreeCorner.f k a0_0 a0_1 a1 l2 = some r) :
  Calls Tryz.prog 52 #[.agg #[.int .i64 a0_0, .int .i64 a0_1], .string a1, .slice A2 l2.length c2] w fun e w' => e = .returned (.int .i64 r) ∧ Below w.heap.size w w' := by
  refine (impl_FreeCorner.snd.calls _ _ _ (impl_FreeCorner.go h k (Nat.le_refl k)) w [.agg #[.int .i64 a0_0, .int .i64 a0_1], .string a1, .slice A2 l2.length c2] ⟨⟨_, rfl, (H75.K _ _ _).2 ⟨rfl, rfl, trivial⟩⟩, rfl, ⟨_, _, rfl, hc2, hr2⟩, trivial⟩).mono ?_
  rintro e w' ⟨v, rfl, hB, vs, oks, rfl, hR, _⟩
  obtain ⟨x0_, vs, o0_, oks, rfl, rfl, m0_, hR⟩ := rmsC hR
  obtain rfl := rmsN hR
  obtain rfl := List.singleton_inj.1 (show [x0_] = [Value.int .i64 r] from m0_)
  exact ⟨rfl, hB⟩
set_option maxHeartbeats 8000000 in
set_option maxRecDepth 100000 in
theorem impl_PlaceNames.calls (k : Nat) (A0 : Option Addr) (c0 : Nat) (l0 : List S59) (r : List S84) (w : World) (hr0 : Kd.C k59 w A0 l0.length l0) (hc0 : l0.length ≤ c0) (h : impl_PlaceNames.f k l0 = some r) :
    Calls Tryz.prog 20 #[.slice A0 l0.length c0] w fun e w' => ∃ v0_ : Value, e = .returned (v0_) ∧ Kd.R k84 84 w' w.heap.size (fun _ => True) v0_ r ∧ Below w.heap.size w w' := by
  unfold impl_PlaceNames.f at h
  obtain ⟨an, h1, h⟩ := Option.bind_eq_some_iff.mp h
  obtain ⟨od, h2, h⟩ := Option.bind_eq_some_iff.mp h
  by_cases hlt : od.length < 1000000
  rotate_left
  · rw [if_neg hlt] at h; cases h
  rw [if_pos hlt] at h
  obtain ⟨ot, h3, h⟩ := Option.bind_eq_some_iff.mp h
  by_cases hap : ot.length < 2000000 ∧ apartB ot
  rotate_left
  · rw [if_neg hap] at h; cases h
  rw [if_pos hap] at h
  obtain rfl := Option.some.inj h
  have HR0 := Aside0.mk hr0
  have HC0 := Aside0.mk hc0
  have A1 := Aside0.mk h1
  have A2 := Aside0.mk h2
  have HAP := Aside0.mk hap
  have LMo := Aside0.mk hlt
  have HX := Aside0.mk (show pnI k l0 (od.drop 0) [] [] = some ot from h3)
  have HB := Aside0.mk (Below.refl w.heap.size w)
  clear hr0 hc0 h h1 h2 h3 hlt hap
  go_enter Tryz.func20, Tryz.ntmps20
  go_upto_block 0 with (first | ((with_reducible refine gate_dst (N := 11) rfl ?_); (try (refine gate_guard (by rfl) ?_; dsimp only)); refine Kd.R_lit k84 _ 84 ?hg (N := 11) ?hd (xs := ([] : List S84)) (inner := []) (ok := fun _ => True) (okp := fun _ => True) ?hr ?hp (fun _ hk => hk) trivial (Below.refl _ _) (Nat.le_refl _) (by simp) ?_; (case hd => rfl); (case hg => rfl); (case hr => first | (go_simp; done) | (go_simp; rfl)); (case hp => exact (Reps.none _ _)); intro vN wN ho hb hg_ hnew_; clear hg_ hnew_; have q_ := Aside0.mk (Kd.R_lower ho (below_size HB.out)); have q_HB := Aside0.mk (below_step HB.out hb); clear HB; have HB := q_HB; clear q_HB; have HO := q_; clear q_ ho hb) | ((with_reducible refine gate_dst (N := 12) rfl ?_); (try (refine gate_guard (by rfl) ?_; dsimp only)); refine Kd.R_lit k80 _ 80 ?hg (N := 12) ?hd (xs := ([] : List S80)) (inner := []) (ok := fun _ => True) (okp := fun _ => True) ?hr ?hp (fun _ hk => hk) trivial (Below.refl _ _) (Nat.le_refl _) (by simp) ?_; (case hd => rfl); (case hg => rfl); (case hr => first | (go_simp; done) | (go_simp; rfl)); (case hp => exact (Reps.none _ _)); intro vN wN ho hb hg_ hnew_; clear hg_ hnew_; have q_ := Aside0.mk (Kd.R_lower ho (below_size HB.out)); have q_HB := Aside0.mk (below_step HB.out hb); have q_HO := Aside0.mk (Kd.R_below HO.out hb); clear HB HO; have HB := q_HB; have HO := q_HO; clear q_HB q_HO; have HT := q_; clear q_ ho hb) | (go_at_call 50; refine (impl_AnchorsOf.calls k A0 c0 l0 an _ (Kd.C_below HR0.out HB.out) HC0.out A1.out).mono ?_; rintro _ wN ⟨vN, rfl, ho, hb⟩; have q_ := Aside0.mk (Kd.R_lower ho (below_size HB.out)); have q_HB := Aside0.mk (below_step HB.out hb); have q_HO := Aside0.mk (Kd.R_below HO.out hb); have q_HT := Aside0.mk (Kd.R_below HT.out hb); clear HB HO HT; have HB := q_HB; have HO := q_HO; have HT := q_HT; clear q_HB q_HO q_HT; have HA := q_; clear q_ ho hb; obtain ⟨Aa, ca, ea⟩ := Kd.R_slice HA.out; subst ea) | (go_at_call 49; refine (impl_fromAbove.calls Aa ca an od _ (Kd.R_reads' HA.out).2.2 (Kd.R_reads' HA.out).2.1 A2.out).mono ?_; rintro _ wN ⟨vN, rfl, ho, hb⟩; have q_ := Aside0.mk (Kd.R_lower ho (below_size HB.out)); have q_HB := Aside0.mk (below_step HB.out hb); have q_HO := Aside0.mk (Kd.R_below HO.out hb); have q_HT := Aside0.mk (Kd.R_below HT.out hb); clear HB HO HT; have HB := q_HB; have HO := q_HO; have HT := q_HT; clear q_HB q_HO q_HT; have HD := q_; clear q_ ho hb HA; obtain ⟨Ad, cd, ed⟩ := Kd.R_slice HD.out; subst ed))
  go_wp2_with fail
  go_loopg [3, 4, 17] od.length (fun gg s3 s4 s17 wr => ∃ (i : Nat) (out : List S84) (tk : List S80), s17 = .int .i64 (i : Int) ∧ i ≤ od.length ∧ od.length - i ≤ gg ∧ Aside0 (pnI k l0 (od.drop i) out tk = some ot) ∧ Aside0 (Kd.R k84 84 wr w.heap.size (fun _ => True) s3 out) ∧ Aside0 (Kd.R k80 80 wr w.heap.size (fun _ => True) s4 tk) ∧ Aside0 (Kd.R k77 77 wr w.heap.size (fun _ => True) (.slice Ad od.length cd) od) ∧ Aside0 (Below w.heap.size w wr))
  case atStart => exact ⟨0, [], [], rfl, Nat.zero_le _, by omega, HX, HO, HT, HD, HB⟩
  case round =>
      clear HX HO HT HD HB
      obtain ⟨i, out, tk, rfl, hi, hg, HX, HO, HT, HD, HB⟩ := hrel
      by_cases hlt : i < od.length
      · have q1 : (i : Int) < (od.length : Int) := by omega
        have q0 : 0 ≤ (i : Int) := by omega
        have m1 : od.length - (i + 1) < od.length - i := by omega
        have e0 : wrap64 ((i : Int) + 1) = ((i + 1 : Nat) : Int) := pn_add i (by have := LMo.out; omega)
        have hX := HX.out
        rw [pnI_drop hlt] at hX
        obtain ⟨ad, rfl, hx0, hx1, hx2, hx3⟩ := at_T77 (Kd.R_reads' HD.out).2.2 (i : Int) q0 q1
        clear hx0 hx1 hx2 hx3
        have hxf : ∀ W, Kd.C k77 W (some ad) od.length od → W.cell? (ad.add (i * 4)) = some (.int .i64 (od.getD i z77).f0) ∧ W.cell? ⟨(ad.add (i * 4)).block, (ad.add (i * 4)).off + 1, none⟩ = some (.int .i64 (od.getD i z77).f1.f0) ∧ W.cell? ⟨(ad.add (i * 4)).block, (ad.add (i * 4)).off + 2, none⟩ = some (.int .i64 (od.getD i z77).f1.f1) ∧ W.cell? ⟨(ad.add (i * 4)).block, (ad.add (i * 4)).off + 3, none⟩ = some (.int .i64 (od.getD i z77).f2) := fun W h => by
          obtain ⟨ad', e', h0, h1, h2, h3⟩ := at_T77 h (i : Int) q0 q1
          obtain rfl := Option.some.inj e'
          unfold rd_T77 at h0 h1 h2 h3
          rw [Int.toNat_natCast] at h0 h1 h2 h3
          exact ⟨h0, h1, h2, h3⟩
        generalize od.getD i z77 = x at hX hxf
        obtain ⟨x0, ⟨x1, x2⟩, x3⟩ := x
        dsimp only at hX hxf
        have HXF := Aside0.mk hxf
        clear hxf
        obtain ⟨fi, hf1, hX⟩ := Option.bind_eq_some_iff.mp hX
        by_cases hfi : 0 ≤ fi ∧ fi < (l0.length : Int)
        rotate_left
        · rw [if_neg hfi] at hX; cases hX
        rw [if_pos hfi] at hX
        obtain ⟨af, A4_, c4_, rfl, _, _, _, hnm, _⟩ := at_T59 HR0.out fi hfi.1 hfi.2
        unfold rd_T59 at hnm
        generalize (l0.getD fi.toNat z59).f3 = nm at hX hnm
        obtain ⟨c, hf2, hX⟩ := Option.bind_eq_some_iff.mp hX
        have HF1 := Aside0.mk hf1
        have HF2 := Aside0.mk hf2
        have HNF : Aside0 (∀ W, Below w.heap.size w W → W.cell? ⟨(af.add (fi.toNat * 5)).block, (af.add (fi.toNat * 5)).off + 3, none⟩ = some (.string nm)) := ⟨fun W h => (h.cell (World.block_lt_of_cell? w _ hnm)).trans hnm⟩
        have M1 := Aside0.mk m1
        have E0 := Aside0.mk e0
        have HFI := Aside0.mk hfi
        clear hf1 hf2 hnm HX m1 e0 hfi
        have q2 := eq_true hlt
        replace q1 := eq_true q1
        replace q0 := eq_true q0
        obtain ⟨Ao, co, rfl⟩ := Kd.R_slice HO.out
        obtain ⟨At, ct, rfl⟩ := Kd.R_slice HT.out
        obtain ⟨p0, p1, p2, p3⟩ := HXF.out _ (Kd.R_reads' HD.out).2.2
        go_upto_region 5 with ((with_reducible refine gate_dst (N := 6) rfl ?_); refine box_event ?hg (N := 6) ?hd (cs := #[.int .i64 0, .int .i64 0, .int .i64 0, .int .i64 0]) (t := 77) ?hr ?_; (case hd => rfl); (case hg => rfl); (case hr => first | (go_simp; done) | (go_simp; rfl)); intro gx hgb w3 hbox hb3; have HBX := Aside0.mk hbox; have HB3 := Aside0.mk hb3; have HG3 := Aside0.mk (Nat.le_of_eq hgb.symm); have NX := Aside0.mk (Kd.fresh' (Kd.R_lt HT.out) gx HG3.out); have z0 : w3.cell? ⟨gx, 0, none⟩ = some (.int .i64 0) := (blk_cell hbox 0).trans rfl; have z1 : w3.cell? ⟨gx, 1, none⟩ = some (.int .i64 0) := (blk_cell hbox 1).trans rfl; have z2 : w3.cell? ⟨gx, 2, none⟩ = some (.int .i64 0) := (blk_cell hbox 2).trans rfl; have z3 : w3.cell? ⟨gx, 3, none⟩ = some (.int .i64 0) := (blk_cell hbox 3).trans rfl; have fr0 : w3.frozen? ⟨gx, 0, none⟩ = false := blk_frozen hbox 0; have fr1 : w3.frozen? ⟨gx, 1, none⟩ = false := blk_frozen hbox 1; have fr2 : w3.frozen? ⟨gx, 2, none⟩ = false := blk_frozen hbox 2; have fr3 : w3.frozen? ⟨gx, 3, none⟩ = false := blk_frozen hbox 3; clear hbox hb3 hgb p0 p1 p2 p3)
        have B4 := box4 HBX.out HB3.out HG3.out (.int .i64 x0) (.int .i64 x1) (.int .i64 x2) (.int .i64 x3)
        dsimp only at B4
        clear z0 z1 z2 z3 fr0 fr1 fr2 fr3 HBX HB3 HG3
        generalize (((w3.setCell ⟨gx, 0, none⟩ (.int .i64 x0)).setCell ⟨gx, 1, none⟩ (.int .i64 x1)).setCell ⟨gx, 2, none⟩ (.int .i64 x2)).setCell ⟨gx, 3, none⟩ (.int .i64 x3) = W4 at B4 ⊢
        obtain ⟨hb, p0, p1, p2, p3⟩ := B4
        have q_HB := Aside0.mk (below_step HB.out hb); have q_HO := Aside0.mk (Kd.R_below HO.out hb); have q_HT := Aside0.mk (Kd.R_below HT.out hb); have q_HD := Aside0.mk (Kd.R_below HD.out hb); clear HB HO HT HD; have HB := q_HB; have HO := q_HO; have HT := q_HT; have HD := q_HD; clear q_HB q_HO q_HT q_HD
        have HPC := Aside0.mk (And.intro p0 (And.intro p1 (And.intro p2 p3)))
        clear hb
        have pn := HNF.out _ HB.out
        have g0 := eq_true HFI.out.1
        have g1 := eq_true HFI.out.2
        by_cases hc : c < 0
        · rw [if_pos hc] at hX
          have HX2 := Aside0.mk hX
          have d1 : (0 ≤ c) = False := eq_false (by omega)
          clear hX hc
          go_wp2_with (first | (go_at_call 51; refine (impl_FindFeature.calls _ _ l0 x0 fi _ (Kd.C_below HR0.out HB.out) HC0.out HF1.out).mono ?_; rintro _ wN ⟨rfl, hb⟩; have q_HPC : Aside0 (wN.cell? ⟨gx, 0, none⟩ = some (.int .i64 x0) ∧ wN.cell? ⟨gx, 1, none⟩ = some (.int .i64 x1) ∧ wN.cell? ⟨gx, 2, none⟩ = some (.int .i64 x2) ∧ wN.cell? ⟨gx, 3, none⟩ = some (.int .i64 x3)) := ⟨⟨(hb.cell (World.block_lt_of_cell? _ _ HPC.out.1)).trans HPC.out.1, (hb.cell (World.block_lt_of_cell? _ _ HPC.out.2.1)).trans HPC.out.2.1, (hb.cell (World.block_lt_of_cell? _ _ HPC.out.2.2.1)).trans HPC.out.2.2.1, (hb.cell (World.block_lt_of_cell? _ _ HPC.out.2.2.2)).trans HPC.out.2.2.2⟩⟩; clear HPC; have HPC := q_HPC; clear q_HPC; have q_HB := Aside0.mk (below_step HB.out hb); have q_HO := Aside0.mk (Kd.R_below HO.out hb); have q_HT := Aside0.mk (Kd.R_below HT.out hb); have q_HD := Aside0.mk (Kd.R_below HD.out hb); clear HB HO HT HD; have HB := q_HB; have HO := q_HO; have HT := q_HT; have HD := q_HD; clear q_HB q_HO q_HT q_HD; clear hb p0 p1 p2 p3 pn; obtain ⟨p0, p1, p2, p3⟩ := HPC.out; have pn := HNF.out _ HB.out) | (go_at_call 52; refine (impl_FreeCorner.calls k x1 x2 nm At ct tk c _ (Kd.R_reads' HT.out).2.2 (Kd.R_reads' HT.out).2.1 HF2.out).mono ?_; rintro _ wN ⟨rfl, hb⟩; have q_HPC : Aside0 (wN.cell? ⟨gx, 0, none⟩ = some (.int .i64 x0) ∧ wN.cell? ⟨gx, 1, none⟩ = some (.int .i64 x1) ∧ wN.cell? ⟨gx, 2, none⟩ = some (.int .i64 x2) ∧ wN.cell? ⟨gx, 3, none⟩ = some (.int .i64 x3)) := ⟨⟨(hb.cell (World.block_lt_of_cell? _ _ HPC.out.1)).trans HPC.out.1, (hb.cell (World.block_lt_of_cell? _ _ HPC.out.2.1)).trans HPC.out.2.1, (hb.cell (World.block_lt_of_cell? _ _ HPC.out.2.2.1)).trans HPC.out.2.2.1, (hb.cell (World.block_lt_of_cell? _ _ HPC.out.2.2.2)).trans HPC.out.2.2.2⟩⟩; clear HPC; have HPC := q_HPC; clear q_HPC; have q_HB := Aside0.mk (below_step HB.out hb); have q_HO := Aside0.mk (Kd.R_below HO.out hb); have q_HT := Aside0.mk (Kd.R_below HT.out hb); have q_HD := Aside0.mk (Kd.R_below HD.out hb); clear HB HO HT HD; have HB := q_HB; have HO := q_HO; have HT := q_HT; have HD := q_HD; clear q_HB q_HO q_HT q_HD; clear hb p0 p1 p2 p3 pn; obtain ⟨p0, p1, p2, p3⟩ := HPC.out; have pn := HNF.out _ HB.out))
          have e0 := E0.out
          go_roundg (od.length - (i + 1))
          case measure => exact Nat.lt_of_lt_of_le M1.out hg
          case rel => exact ⟨i + 1, out, tk, by first | rfl | rw [e0], hlt, Nat.le_refl _, HX2, HO, HT, HD, HB⟩
        · rw [if_neg hc] at hX
          obtain ⟨⟨b1, b2, b3, b4, b5⟩, hf3, hX⟩ := Option.bind_eq_some_iff.mp hX
          dsimp only at hX
          by_cases hL : out.length < 1000000 ∧ tk.length < 1000000
          rotate_left
          · rw [if_neg hL] at hX; cases hX
          rw [if_pos hL] at hX
          have HX2 := Aside0.mk hX
          have HF3 := Aside0.mk hf3
          have HLN := Aside0.mk hL
          have d1 : (0 ≤ c) = True := eq_true (by omega)
          clear hX hc hL hf3
          go_upto_region 9 with (first | (go_at_call 51; refine (impl_FindFeature.calls _ _ l0 x0 fi _ (Kd.C_below HR0.out HB.out) HC0.out HF1.out).mono ?_; rintro _ wN ⟨rfl, hb⟩; have q_HPC : Aside0 (wN.cell? ⟨gx, 0, none⟩ = some (.int .i64 x0) ∧ wN.cell? ⟨gx, 1, none⟩ = some (.int .i64 x1) ∧ wN.cell? ⟨gx, 2, none⟩ = some (.int .i64 x2) ∧ wN.cell? ⟨gx, 3, none⟩ = some (.int .i64 x3)) := ⟨⟨(hb.cell (World.block_lt_of_cell? _ _ HPC.out.1)).trans HPC.out.1, (hb.cell (World.block_lt_of_cell? _ _ HPC.out.2.1)).trans HPC.out.2.1, (hb.cell (World.block_lt_of_cell? _ _ HPC.out.2.2.1)).trans HPC.out.2.2.1, (hb.cell (World.block_lt_of_cell? _ _ HPC.out.2.2.2)).trans HPC.out.2.2.2⟩⟩; clear HPC; have HPC := q_HPC; clear q_HPC; have q_HB := Aside0.mk (below_step HB.out hb); have q_HO := Aside0.mk (Kd.R_below HO.out hb); have q_HT := Aside0.mk (Kd.R_below HT.out hb); have q_HD := Aside0.mk (Kd.R_below HD.out hb); clear HB HO HT HD; have HB := q_HB; have HO := q_HO; have HT := q_HT; have HD := q_HD; clear q_HB q_HO q_HT q_HD; clear hb p0 p1 p2 p3 pn; obtain ⟨p0, p1, p2, p3⟩ := HPC.out; have pn := HNF.out _ HB.out) | (go_at_call 52; refine (impl_FreeCorner.calls k x1 x2 nm At ct tk c _ (Kd.R_reads' HT.out).2.2 (Kd.R_reads' HT.out).2.1 HF2.out).mono ?_; rintro _ wN ⟨rfl, hb⟩; have q_HPC : Aside0 (wN.cell? ⟨gx, 0, none⟩ = some (.int .i64 x0) ∧ wN.cell? ⟨gx, 1, none⟩ = some (.int .i64 x1) ∧ wN.cell? ⟨gx, 2, none⟩ = some (.int .i64 x2) ∧ wN.cell? ⟨gx, 3, none⟩ = some (.int .i64 x3)) := ⟨⟨(hb.cell (World.block_lt_of_cell? _ _ HPC.out.1)).trans HPC.out.1, (hb.cell (World.block_lt_of_cell? _ _ HPC.out.2.1)).trans HPC.out.2.1, (hb.cell (World.block_lt_of_cell? _ _ HPC.out.2.2.1)).trans HPC.out.2.2.1, (hb.cell (World.block_lt_of_cell? _ _ HPC.out.2.2.2)).trans HPC.out.2.2.2⟩⟩; clear HPC; have HPC := q_HPC; clear q_HPC; have q_HB := Aside0.mk (below_step HB.out hb); have q_HO := Aside0.mk (Kd.R_below HO.out hb); have q_HT := Aside0.mk (Kd.R_below HT.out hb); have q_HD := Aside0.mk (Kd.R_below HD.out hb); clear HB HO HT HD; have HB := q_HB; have HO := q_HO; have HT := q_HT; have HD := q_HD; clear q_HB q_HO q_HT q_HD; clear hb p0 p1 p2 p3 pn; obtain ⟨p0, p1, p2, p3⟩ := HPC.out; have pn := HNF.out _ HB.out) | (go_at_call 53; refine (impl_LabelBox.calls k x1 x2 nm c b1 b2 b3 b4 b5 _ HF3.out).mono ?_; rintro _ wN ⟨rfl, hb⟩; have q_HPC : Aside0 (wN.cell? ⟨gx, 0, none⟩ = some (.int .i64 x0) ∧ wN.cell? ⟨gx, 1, none⟩ = some (.int .i64 x1) ∧ wN.cell? ⟨gx, 2, none⟩ = some (.int .i64 x2) ∧ wN.cell? ⟨gx, 3, none⟩ = some (.int .i64 x3)) := ⟨⟨(hb.cell (World.block_lt_of_cell? _ _ HPC.out.1)).trans HPC.out.1, (hb.cell (World.block_lt_of_cell? _ _ HPC.out.2.1)).trans HPC.out.2.1, (hb.cell (World.block_lt_of_cell? _ _ HPC.out.2.2.1)).trans HPC.out.2.2.1, (hb.cell (World.block_lt_of_cell? _ _ HPC.out.2.2.2)).trans HPC.out.2.2.2⟩⟩; clear HPC; have HPC := q_HPC; clear q_HPC; have q_HB := Aside0.mk (below_step HB.out hb); have q_HO := Aside0.mk (Kd.R_below HO.out hb); have q_HT := Aside0.mk (Kd.R_below HT.out hb); have q_HD := Aside0.mk (Kd.R_below HD.out hb); clear HB HO HT HD; have HB := q_HB; have HO := q_HO; have HT := q_HT; have HD := q_HD; clear q_HB q_HO q_HT q_HD; clear hb p0 p1 p2 p3 pn; obtain ⟨p0, p1, p2, p3⟩ := HPC.out; have pn := HNF.out _ HB.out) | ((with_reducible refine gate_dst (N := 9) rfl ?_); refine box_event ?hg (N := 9) ?hd (cs := #[.int .i64 0, .int .i64 0, .int .i64 0, .int .i64 0]) (t := 80) ?hr ?_; (case hd => rfl); (case hg => rfl); (case hr => first | (go_simp; done) | (go_simp; rfl)); intro gb hgb w3 hbox hb3; have HBX := Aside0.mk hbox; have HB3 := Aside0.mk hb3; have HG3 := Aside0.mk (Nat.le_of_eq hgb.symm); have NE := Aside0.mk (Kd.fresh' (Kd.R_lt HT.out) gb HG3.out); have z0 : w3.cell? ⟨gb, 0, none⟩ = some (.int .i64 0) := (blk_cell hbox 0).trans rfl; have z1 : w3.cell? ⟨gb, 1, none⟩ = some (.int .i64 0) := (blk_cell hbox 1).trans rfl; have z2 : w3.cell? ⟨gb, 2, none⟩ = some (.int .i64 0) := (blk_cell hbox 2).trans rfl; have z3 : w3.cell? ⟨gb, 3, none⟩ = some (.int .i64 0) := (blk_cell hbox 3).trans rfl; have fr0 : w3.frozen? ⟨gb, 0, none⟩ = false := blk_frozen hbox 0; have fr1 : w3.frozen? ⟨gb, 1, none⟩ = false := blk_frozen hbox 1; have fr2 : w3.frozen? ⟨gb, 2, none⟩ = false := blk_frozen hbox 2; have fr3 : w3.frozen? ⟨gb, 3, none⟩ = false := blk_frozen hbox 3; clear hbox hb3 hgb p0 p1 p2 p3 pn))
          have B4 := box4 HBX.out HB3.out HG3.out (.int .i64 b1) (.int .i64 b2) (.int .i64 b3) (.int .i64 b4)
          dsimp only at B4
          clear z0 z1 z2 z3 fr0 fr1 fr2 fr3 HBX HB3 HG3 g0 g1
          generalize (((w3.setCell ⟨gb, 0, none⟩ (.int .i64 b1)).setCell ⟨gb, 1, none⟩ (.int .i64 b2)).setCell ⟨gb, 2, none⟩ (.int .i64 b3)).setCell ⟨gb, 3, none⟩ (.int .i64 b4) = W4 at B4 ⊢
          obtain ⟨hb, k0, k1, k2, k3⟩ := B4
          have q_HPC : Aside0 (W4.cell? ⟨gx, 0, none⟩ = some (.int .i64 x0) ∧ W4.cell? ⟨gx, 1, none⟩ = some (.int .i64 x1) ∧ W4.cell? ⟨gx, 2, none⟩ = some (.int .i64 x2) ∧ W4.cell? ⟨gx, 3, none⟩ = some (.int .i64 x3)) := ⟨⟨(hb.cell (World.block_lt_of_cell? _ _ HPC.out.1)).trans HPC.out.1, (hb.cell (World.block_lt_of_cell? _ _ HPC.out.2.1)).trans HPC.out.2.1, (hb.cell (World.block_lt_of_cell? _ _ HPC.out.2.2.1)).trans HPC.out.2.2.1, (hb.cell (World.block_lt_of_cell? _ _ HPC.out.2.2.2)).trans HPC.out.2.2.2⟩⟩; clear HPC; have HPC := q_HPC; clear q_HPC; obtain ⟨p0, p1, p2, p3⟩ := HPC.out; have q_HB := Aside0.mk (below_step HB.out hb); have q_HO := Aside0.mk (Kd.R_below HO.out hb); have q_HT := Aside0.mk (Kd.R_below HT.out hb); have q_HD := Aside0.mk (Kd.R_below HD.out hb); clear HB HO HT HD; have HB := q_HB; have HO := q_HO; have HT := q_HT; have HD := q_HD; clear q_HB q_HO q_HT q_HD
          have HBC := Aside0.mk (And.intro k0 (And.intro k1 (And.intro k2 k3)))
          clear hb
          go_wp2_with (first | ((with_reducible refine gate_dst (N := 46) rfl ?_); (try (refine gate_guard (by rfl) ?_; dsimp only)); refine Kd.R_lit k80 _ 80 ?hg (N := 46) ?hd (xs := ([(⟨⟨b1, b2⟩, ⟨b3, b4⟩⟩ : S80)] : List S80)) (inner := [.int .i64 b1, .int .i64 b2, .int .i64 b3, .int .i64 b4]) (ok := fun _ => True) (okp := fun _ => True) ?hr ?hp (fun _ hk => hk) trivial (Below.refl _ _) (Nat.le_refl _) (by simp) ?_; (case hd => rfl); (case hg => rfl); (case hr => first | (go_simp; done) | (go_simp; rfl)); (case hp => exact (Reps.c4 (show Kd.M k80 _ _ _ (⟨⟨b1, b2⟩, ⟨b3, b4⟩⟩ : S80) [.int .i64 b1, .int .i64 b2, .int .i64 b3, .int .i64 b4] from k80_mkM _ _ _ _) (Reps.none _ _))); intro vN wN ho hb hg_ hnew_; clear hg_ hnew_; clear k0 k1 k2 k3 p0 p1 p2 p3; have q_HBC : Aside0 (wN.cell? ⟨gb, 0, none⟩ = some (.int .i64 b1) ∧ wN.cell? ⟨gb, 1, none⟩ = some (.int .i64 b2) ∧ wN.cell? ⟨gb, 2, none⟩ = some (.int .i64 b3) ∧ wN.cell? ⟨gb, 3, none⟩ = some (.int .i64 b4)) := ⟨⟨(hb.cell (World.block_lt_of_cell? _ _ HBC.out.1)).trans HBC.out.1, (hb.cell (World.block_lt_of_cell? _ _ HBC.out.2.1)).trans HBC.out.2.1, (hb.cell (World.block_lt_of_cell? _ _ HBC.out.2.2.1)).trans HBC.out.2.2.1, (hb.cell (World.block_lt_of_cell? _ _ HBC.out.2.2.2)).trans HBC.out.2.2.2⟩⟩; clear HBC; have HBC := q_HBC; clear q_HBC; have q_HPC : Aside0 (wN.cell? ⟨gx, 0, none⟩ = some (.int .i64 x0) ∧ wN.cell? ⟨gx, 1, none⟩ = some (.int .i64 x1) ∧ wN.cell? ⟨gx, 2, none⟩ = some (.int .i64 x2) ∧ wN.cell? ⟨gx, 3, none⟩ = some (.int .i64 x3)) := ⟨⟨(hb.cell (World.block_lt_of_cell? _ _ HPC.out.1)).trans HPC.out.1, (hb.cell (World.block_lt_of_cell? _ _ HPC.out.2.1)).trans HPC.out.2.1, (hb.cell (World.block_lt_of_cell? _ _ HPC.out.2.2.1)).trans HPC.out.2.2.1, (hb.cell (World.block_lt_of_cell? _ _ HPC.out.2.2.2)).trans HPC.out.2.2.2⟩⟩; clear HPC; have HPC := q_HPC; clear q_HPC; have q_HB := Aside0.mk (below_step HB.out hb); have q_HO := Aside0.mk (Kd.R_below HO.out hb); have q_HT := Aside0.mk (Kd.R_below HT.out hb); have q_HD := Aside0.mk (Kd.R_below HD.out hb); clear HB HO HT HD; have HB := q_HB; have HO := q_HO; have HT := q_HT; have HD := q_HD; clear q_HB q_HO q_HT q_HD; have HN := Aside0.mk ho; clear ho hb; obtain ⟨An, cn, en⟩ := Kd.R_slice HN.out; subst en) | ((with_reducible refine gate_builtin (b := .append) (xs := #[.tmp 44, .tmp 46]) rfl ?_); (try (refine gate_guard (by rfl) ?_; dsimp only)); at_builtin; refine Kd.R_append_rows k80 (w0 := w) w.heap.size rfl (.tmp 44) (.tmp 46) 73 80 (.agg #[(.int .i64 0), (.int .i64 0), (.int .i64 0), (.int .i64 0)]) 32 rfl Tryz.underlying73 infoX_Box rfl (by decide) (by omega) (.slice At tk.length ct) tk [(⟨⟨b1, b2⟩, ⟨b3, b4⟩⟩ : S80)] _ _ _ (fun _ => True) (fun _ => False) rfl rfl HT.out (Kd.R_reads' HN.out).2.2 (fun _ _ h => h) (fun _ h => h.elim) (fun _ _ => trivial) HB.out (below_size HB.out) (by have := HLN.out.2; simp; omega) ?_; intro vA wA ho hb hg hat; have q_HO := Aside0.mk (Kd.R_mono (Kd.R_after (ok := fun _ => True) (Kd.R_apartR HO.out HT.out (by decide)) hg hat) (fun _ _ => trivial)); have q_HD := Aside0.mk (Kd.R_mono (Kd.R_after (ok := fun _ => True) (Kd.R_apartR HD.out HT.out (by decide)) hg hat) (fun _ _ => trivial)); have q_HBC : Aside0 (wA.cell? ⟨gb, 0, none⟩ = some (.int .i64 b1) ∧ wA.cell? ⟨gb, 1, none⟩ = some (.int .i64 b2) ∧ wA.cell? ⟨gb, 2, none⟩ = some (.int .i64 b3) ∧ wA.cell? ⟨gb, 3, none⟩ = some (.int .i64 b4)) := ⟨⟨cell_grown hg HBC.out.1 NE.out, cell_grown hg HBC.out.2.1 NE.out, cell_grown hg HBC.out.2.2.1 NE.out, cell_grown hg HBC.out.2.2.2 NE.out⟩⟩; have q_HPC : Aside0 (wA.cell? ⟨gx, 0, none⟩ = some (.int .i64 x0) ∧ wA.cell? ⟨gx, 1, none⟩ = some (.int .i64 x1) ∧ wA.cell? ⟨gx, 2, none⟩ = some (.int .i64 x2) ∧ wA.cell? ⟨gx, 3, none⟩ = some (.int .i64 x3)) := ⟨⟨cell_grown hg HPC.out.1 NX.out, cell_grown hg HPC.out.2.1 NX.out, cell_grown hg HPC.out.2.2.1 NX.out, cell_grown hg HPC.out.2.2.2 NX.out⟩⟩; have q_HB := Aside0.mk hb; have q_HT := Aside0.mk ho; clear HT HB HN HO HD HBC HPC ho hb hg hat; have HO := q_HO; have HD := q_HD; have HBC := q_HBC; have HPC := q_HPC; have HB := q_HB; have HT := q_HT; clear q_HO q_HD q_HBC q_HPC q_HB q_HT; obtain ⟨k0, k1, k2, k3⟩ := HBC.out; obtain ⟨p0, p1, p2, p3⟩ := HPC.out) | ((with_reducible refine gate_dst (N := 54) rfl ?_); (try (refine gate_guard (by rfl) ?_; dsimp only)); refine Kd.R_lit k84 _ 84 ?hg (N := 54) ?hd (xs := ([(⟨x0, nm, ⟨⟨b1, b2⟩, ⟨b3, b4⟩⟩⟩ : S84)] : List S84)) (inner := [.int .i64 x0, .string nm, .int .i64 b1, .int .i64 b2, .int .i64 b3, .int .i64 b4]) (ok := fun _ => True) (okp := fun _ => True) ?hr ?hp (fun _ hk => hk) trivial (Below.refl _ _) (Nat.le_refl _) (by simp) ?_; (case hd => rfl); (case hg => rfl); (case hr => first | (go_simp; done) | (go_simp; rfl)); (case hp => exact (Reps.c6 (show Kd.M k84 _ _ _ (⟨x0, nm, ⟨⟨b1, b2⟩, ⟨b3, b4⟩⟩⟩ : S84) [.int .i64 x0, .string nm, .int .i64 b1, .int .i64 b2, .int .i64 b3, .int .i64 b4] from k84_mkM _ _ _ _) (Reps.none _ _))); intro vN wN ho hb hg_ hnew_; clear hg_ hnew_; clear k0 k1 k2 k3 p0 p1 p2 p3; have q_HB := Aside0.mk (below_step HB.out hb); have q_HO := Aside0.mk (Kd.R_below HO.out hb); have q_HT := Aside0.mk (Kd.R_below HT.out hb); have q_HD := Aside0.mk (Kd.R_below HD.out hb); clear HB HO HT HD; have HB := q_HB; have HO := q_HO; have HT := q_HT; have HD := q_HD; clear q_HB q_HO q_HT q_HD; have HN := Aside0.mk ho; clear ho hb; obtain ⟨An, cn, en⟩ := Kd.R_slice HN.out; subst en) | ((with_reducible refine gate_builtin (b := .append) (xs := #[.tmp 48, .tmp 54]) rfl ?_); (try (refine gate_guard (by rfl) ?_; dsimp only)); at_builtin; refine Kd.R_append_rows k84 (w0 := w) w.heap.size rfl (.tmp 48) (.tmp 54) 37 84 (.agg #[(.int .i64 0), (.string (⟨#[]⟩ : ByteArray)), (.int .i64 0), (.int .i64 0), (.int .i64 0), (.int .i64 0)]) 56 rfl Tryz.underlying37 infoX_Label rfl (by decide) (by omega) (.slice Ao out.length co) out [(⟨x0, nm, ⟨⟨b1, b2⟩, ⟨b3, b4⟩⟩⟩ : S84)] _ _ _ (fun _ => True) (fun _ => False) rfl rfl HO.out (Kd.R_reads' HN.out).2.2 (fun _ _ h => h) (fun _ h => h.elim) (fun _ _ => trivial) HB.out (below_size HB.out) (by have := HLN.out.1; simp; omega) ?_; intro vA wA ho hb hg hat; have q_HT := Aside0.mk (Kd.R_mono (Kd.R_after (ok := fun _ => True) (Kd.R_apartR HT.out HO.out (by decide)) hg hat) (fun _ _ => trivial)); have q_HD := Aside0.mk (Kd.R_mono (Kd.R_after (ok := fun _ => True) (Kd.R_apartR HD.out HO.out (by decide)) hg hat) (fun _ _ => trivial)); have q_HB := Aside0.mk hb; have q_HO := Aside0.mk ho; clear HO HB HN HT HD ho hb hg hat; have HT := q_HT; have HD := q_HD; have HB := q_HB; have HO := q_HO; clear q_HT q_HD q_HB q_HO))
          have e0 := E0.out
          go_roundg (od.length - (i + 1))
          case measure => exact Nat.lt_of_lt_of_le M1.out hg
          case rel => exact ⟨i + 1, out ++ [⟨x0, nm, ⟨⟨b1, b2⟩, ⟨b3, b4⟩⟩⟩], tk ++ [⟨⟨b1, b2⟩, ⟨b3, b4⟩⟩], by first | rfl | rw [e0], hlt, Nat.le_refl _, HX2, HO, HT, HD, HB⟩
      · have ei : i = od.length := by omega
        subst ei
        have q1 : ((od.length : Int) < (od.length : Int)) = False := eq_false (by omega)
        have hX := HX.out
        rw [List.drop_length, pnI] at hX
        obtain rfl := Option.some.inj hX
        clear hX HX HT HD
        go_wp2_with (go_at_call 54; refine (sortBC (fun _ => True) _ out w _ HB.out HO.out (by have := HAP.out.1; omega) HAP.out.2).mono ?_; rintro _ wN ⟨rfl, ho, hb⟩; clear HO HB; have HO := Aside0.mk ho; have HB := Aside0.mk hb; clear ho hb)
        go_ret
        exact ⟨_, rfl, HO.out, HB.out⟩
def impl_NamedIds.Fs : List (Spc env) := []
def impl_NamedIds.fin : St eΓ → Option (HL eΓ [.l 3 (.i .i64)]) := finR env Tryz.f59.results.toList [.l 3 (.i .i64)]
def impl_NamedIds.cut : Nat → Option (List (Lv SC)) := lk [(3, [⟨3, none, false⟩, ⟨7, none, false⟩, ⟨8, none, false⟩, ⟨9, none, false⟩])]
def impl_NamedIds.ret (r0 : List Int) : Option (HL eΓ [.l 3 (.i .i64)]) := some (r0, ())
def impl_NamedIds.p3 (k : Nat) (x8 : Int) (x9 : Int) (x3 : List Int) (x7 : List S84) : Option (HL eΓ [.l 3 (.i .i64)]) := evM env impl_NamedIds.Fs Tryz.f59.ntmps impl_NamedIds.fin impl_NamedIds.cut k [.code (sub_ [1, 1, 0, 1, 0, 0, 0] (bodyOf Tryz.f59)), .code (sub_ [1, 1, 0, 1, 0, 0, 1] (bodyOf Tryz.f59)), .lp (sub_ [1, 1, 0, 1, 0, 0] (bodyOf Tryz.f59)), .blk 0, .code (sub_ [1, 1, 1] (bodyOf Tryz.f59))] (mkSt [(3, .c (.sl 0)), (7, .c (.sl 1)), (8, .c (.v (.int .i64 x8))), (9, .c (.v (.int .i64 x9)))] [.row .own 3 (.i .i64) x3, .row .ro 84 (.st .s84) x7])
theorem impl_NamedIds.e3 (k : Nat) (x8 : Int) (x9 : Int) (x3 : List Int) (x7 : List S84) : impl_NamedIds.p3 (k + 1) x8 x9 x3 x7 = if x9 < x8 then (if 0 ≤ x9 then (if x9 < (x7.length : Int) then (if (x3.length + 1) * 8 ≤ 140737488355328 then (impl_NamedIds.p3 k x8 (wrap64 (x9 + 1)) (x3 ++ [(rd_T84 x7 x9).f0]) x7) else none) else none) else none) else (impl_NamedIds.ret x3) := by kernel_rfl
def impl_NamedIds.run (k : Nat) (h : HL eΓ [.l 84 (.st .s84)]) : Option (HL eΓ [.l 3 (.i .i64)]) := evF env impl_NamedIds.Fs Tryz.f59 impl_NamedIds.cut [.l 84 (.st .s84)] [.l 3 (.i .i64)] k h
theorem impl_NamedIds.ef (k : Nat) (h0 : List S84) : impl_NamedIds.run k (h0, ()) = impl_NamedIds.p3 k (h0.length : Int) 0 ([] : List Int) h0 := by kernel_rfl
def impl_NamedIds.toH (t : List Int) : HL eΓ [.l 3 (.i .i64)] := (t, ())
def impl_NamedIds.spec : Spc env := ⟨59, [.l 84 (.st .s84)], [.l 3 (.i .i64)], impl_NamedIds.run⟩
theorem impl_NamedIds.snd : Snd env impl_NamedIds.spec := evF_snd env_ok (sndN)
attribute [local irreducible] impl_NamedIds.run
theorem impl_NamedIds.rt (a0 : List Int) : impl_NamedIds.ret a0 = some (impl_NamedIds.toH (a0)) := rfl
theorem impl_NamedIds.br (n : Nat) : (∀ K, n ≤ K → ∀ (x8 : Int) (x9 : Int) (x3 : List Int) (x7 : List S84) t, impl_NamedIds.l0 n x3 x7 x8 x9 = some t → impl_NamedIds.p3 K x8 x9 x3 x7 = some (impl_NamedIds.toH t)) := by
  induction n using Nat.strongRecOn with
  | _ n ih =>
  intro K hK x8 x9 x3 x7 t h
  all_goals (rcases n with _ | k)
  all_goals (try (exact nos h))
  all_goals (obtain ⟨K, rfl⟩ : ∃ q, K = q + 1 := ⟨K - 1, by omega⟩)
  all_goals (first | rw [impl_NamedIds.e3])
  all_goals (simp only [impl_NamedIds.l0] at h)
  repeat' (with_reducible first
   | exact nos h
   | (cases some_inj h; exact impl_NamedIds.rt _)
   | exact (ih _ (by omega)) _ (by omega) _ _ _ _ _ h
   | (simp only [Option.bind_some] at h)
   | (refine ite_by h ?_ ?_ <;> (intro hc h; (try simp only [nrm] at hc)))
   | refine itT ?_
   | refine itF ?_
   | (simp only [nr2] at h ⊢)
   | (exfalso; omega))
theorem impl_NamedIds.go {k : Nat} {l0 : List S84} {t} (h : impl_NamedIds.f k l0 = some t) (K : Nat) (hK : k ≤ K) : impl_NamedIds.run K (l0, ()) = some (impl_NamedIds.toH t) := by
  rw [impl_NamedIds.ef]
  (try dsimp only)
  unfold impl_NamedIds.f at h
  repeat' (with_reducible first
   | exact nos h
   | (cases some_inj h; exact impl_NamedIds.rt _)
   | exact (impl_NamedIds.br _) _ (by omega) _ _ _ _ _ h
   | (simp only [Option.bind_some] at h)
   | (refine ite_by h ?_ ?_ <;> (intro hc h; (try simp only [nrm] at hc)))
   | refine itT ?_
   | refine itF ?_
   | (simp only [nr2] at h ⊢)
   | (exfalso; omega))
theorem impl_NamedIds.calls (k : Nat) (A0 : Option Addr) (c0 : Nat) (l0 : List (S84)) (r : List Int) (w : World) (hr0 : Kd.C k84 w A0 l0.length l0) (hc0 : l0.length ≤ c0) (h : impl_NamedIds.f k l0 = some r) :
  Calls Tryz.prog 59 #[.slice A0 l0.length c0] w fun e w' => ∃ v0_ : Value, e = .returned (v0_) ∧ Kd.R (Kd.int .i64) 3 w' w.heap.size (fun _ => True) v0_ r ∧ Below w.heap.size w w' := by
  refine (impl_NamedIds.snd.calls _ _ _ (impl_NamedIds.go h k (Nat.le_refl k)) w [.slice A0 l0.length c0] ⟨⟨_, _, rfl, hc0, hr0⟩, trivial⟩).mono ?_
  rintro e w' ⟨v, rfl, hB, vs, oks, rfl, hR, _⟩
  obtain ⟨x0_, vs, o0_, oks, rfl, rfl, m0_, hR⟩ := rmsC hR
  obtain rfl := rmsN hR
  obtain ⟨x0_v, x0_e, x0_R⟩ := m0_
  obtain rfl := List.singleton_inj.1 x0_e
  exact ⟨_, rfl, Kd.R_mono x0_R (fun _ _ => trivial), hB⟩
set_option maxHeartbeats 8000000 in
set_option maxRecDepth 100000 in
theorem impl_Unplaced.calls (k : Nat) (A0 : Option Addr) (c0 : Nat) (l0 : List (S59)) (r : List Int) (w : World) (hr0 : Kd.C k59 w A0 l0.length l0) (hc0 : l0.length ≤ c0) (h : impl_Unplaced.f k l0 = some r) :
  Calls Tryz.prog 25 #[.slice A0 l0.length c0] w fun e w' => ∃ v0_ : Value, e = .returned (v0_) ∧ Kd.R (Kd.int .i64) 3 w' w.heap.size (fun _ => True) v0_ r ∧ Below w.heap.size w w' := by
 have hu77 := Tryz.underlying77; have HR0 := Aside0.mk hr0; have HC0 := Aside0.mk hc0; clear hr0 hc0; have HB := Aside0.mk (Below.refl w.heap.size w); have H : ((impl_PlaceNames.f k l0).bind fun t511 => ((impl_NamedIds.f k t511).bind fun t514 => ((impl_AnchorsOf.f k l0).bind fun t520 => (impl_Unplaced.l0 k t514 (([] : List Int)) t520 (t520.length : Int) 0)))) = some r := h; clear h; replace H := Option.bind_eq_some_iff.mp H; obtain ⟨t511, A20, H⟩ := H; have A2 := Aside0.mk A20; clear A20; replace H := Option.bind_eq_some_iff.mp H; obtain ⟨t514, A30, H⟩ := H; have A3 := Aside0.mk A30; clear A30; obtain ⟨y517, hy517⟩ : ∃ y_ : List Int, y_ = (([] : List Int)) := ⟨_, rfl⟩
 replace H : ((impl_AnchorsOf.f k l0).bind fun t520 => (impl_Unplaced.l0 k t514 y517 t520 (t520.length : Int) 0)) = some r := by first | (rw [hy517]; with_reducible exact H) | (have H2_ := (Option.bind_some _ _).symm.trans H; rw [hy517]; with_reducible exact H2_) | (have H2_ := (Option.bind_some _ _).symm.trans H; with_reducible exact H2_) | with_reducible exact H | (rw [hy517]; exact H) | exact H
 have Ny517 := Aside0.mk hy517; clear hy517; replace H := Option.bind_eq_some_iff.mp H; obtain ⟨t520, A40, H⟩ := H; have A4 := Aside0.mk A40; clear A40; have H' := Aside0.mk H; clear H
 go_enter Tryz.func25, Tryz.ntmps25; go_wp2_with (first | ((with_reducible refine gt (some 8) rfl ?_); refine gc Tryz.func20 (impl_PlaceNames.calls k _ _ l0 t511 _ (cz HR0.out) HC0.out A2.out) ?_; rintro e w5 ⟨v512, rfl, ho0, hb⟩; refine ⟨_, rfl, ?_⟩; have HO513 := Aside0.mk (Kd.R_lower ho0 (below_size bz)); replace HB := Aside0.mk (below_step bz hb); (try clear hb); (try clear ho0); obtain ⟨Ao6, co6, eo6⟩ := Kd.R_slice HO513.out; subst eo6) | ((with_reducible refine gt (some 9) rfl ?_); refine gc Tryz.func59 (impl_NamedIds.calls k _ _ t511 t514 _ (cz (Kd.R_reads' HO513.out).2.2) ((Kd.R_reads' HO513.out).2.1) A3.out) ?_; rintro e w7 ⟨v515, rfl, ho0, hb⟩; refine ⟨_, rfl, ?_⟩; replace HO513 := Aside0.mk (rbz HO513 hb); have HO516 := Aside0.mk (Kd.R_lower ho0 (below_size bz)); replace HB := Aside0.mk (below_step bz hb); (try clear hb); (try clear ho0)) | ((with_reducible refine gate_dst (N := 10) rfl ?_); refine Kd.R_lit (Kd.int .i64) _ 3 ?hg (N := 10) ?hd (xs := ([] : List Int)) (inner := []) (ok := fun _ => True) (okp := fun _ => True) ?hr ?hp (fun _ hk => hk) trivial (Below.refl _ _) (Nat.le_refl _) (by simp) ?_; (case hd => rfl); (case hg => rfl); (case hr => first | (go_simp; done) | (go_simp; rfl)); (case hp => exact (Reps.none _ _)); intro v518 w8 ho9 hb hg_ hnew_; clear hg_ hnew_; (first | rw [← Ny517.out] at ho9 | (simp only [Int.reduceToNat] at ho9; rw [← Ny517.out] at ho9)); replace HO513 := Aside0.mk (rbz HO513 hb); have HO519 := Aside0.mk (Kd.R_lower (Kd.R_new' ho9 (Kd.R_lt (hr HO516.out))) (below_size bz)); replace HO516 := Aside0.mk (Kd.R_elder' (hr HO516.out) (Kd.R_base ho9) hb); replace HB := Aside0.mk (below_step bz hb); clear hb ho9) | ((with_reducible refine gt (some 12) rfl ?_); refine gc Tryz.func50 (impl_AnchorsOf.calls k _ _ l0 t520 _ cz0 HC0.out A4.out) ?_; rintro e w10 ⟨v521, rfl, ho0, hb⟩; refine ⟨_, rfl, ?_⟩; replace HO513 := Aside0.mk (rbz HO513 hb); replace HO516 := Aside0.mk (rbz HO516 hb); replace HO519 := Aside0.mk (rbz HO519 hb); have HO522 := Aside0.mk (Kd.R_lower ho0 (below_size bz)); replace HB := Aside0.mk (below_step bz hb); (try clear hb); (try clear ho0); obtain ⟨Ao11, co11, eo11⟩ := Kd.R_slice HO522.out; subst eo11))
 go_loopg [4, 14] k (fun kq v4 v14 w' => ∃ (x4_1 : List Int) (x14_1 : Int), v14 = .int .i64 x14_1 ∧ Aside0 (impl_Unplaced.l0 kq t514 x4_1 t520 (t520.length : Int) x14_1 = some r) ∧ Aside0 (kq ≤ k) ∧ Aside0 (Kd.R (Kd.int .i64) 3 w' w.heap.size (fun k_ => some k_ ≠ (v4 : Value).ownBlock) v515 t514) ∧ Aside0 (Kd.R (Kd.int .i64) 3 w' w.heap.size (fun k_ => some k_ ≠ (v515 : Value).ownBlock) v4 x4_1) ∧ Aside0 (Kd.R k77 77 w' w.heap.size (fun _ => True) (.slice Ao11 t520.length co11) t520) ∧ Aside0 (Below w.heap.size w w'))
 case atStart => exact ⟨(y517), (0), rz, H', ⟨Nat.le_refl _⟩, ⟨hr (Kd.R_mono HO516.out (fun _ hk => hk.2))⟩, ⟨hr (Kd.R_mono HO519.out (fun _ hk => hk.2))⟩, ⟨hr HO522.out⟩, ⟨bz⟩⟩
 case round =>
  clear H'; (try clear c2); (try clear p2); (try clear c5); obtain ⟨x4_1, x14_1, rfl, HA, HK1, HO_3, HO_4, HO_12, HB⟩ := hrel
  cases gk with
  | zero => exact absurd HA.out (by simp [impl_Unplaced.l0])
  | succ k1 =>
   have H := HA.out; clear HA; simp only [impl_Unplaced.l0] at H
   by_cases c12 : x14_1 < (t520.length : Int)
   ·rw [if_pos c12] at H; have c12b0 := decide_eq_true c12; clear c12
    by_cases c13 : 0 ≤ x14_1
    ·rw [if_pos c13] at H; have c13b0 := decide_eq_true c13; clear c13
     by_cases c14 : x14_1 < (t520.length : Int)
     ·rw [if_pos c14] at H; have c14b0 := decide_eq_true c14; clear c14; replace H := Option.bind_eq_some_iff.mp H; obtain ⟨t525, A150, H⟩ := H; have A15 := Aside0.mk A150; clear A150
      by_cases c16 : t525 = true
      ·subst c16; replace H := ift H; have H' := Aside0.mk H; clear H; have p523 : 0 ≤ (x14_1 : Int) := of_decide_eq_true az; have q523 : x14_1 < (t520.length : Int) := of_decide_eq_true az; obtain ⟨ad523, e523, hx523_0, hx523_1, hx523_2, hx523_3⟩ := at_T77 (Kd.R_reads' HO_12.out).2.2 x14_1 p523 q523
       cases e523
       replace p523 := eq_true p523; replace q523 := eq_true q523; go_wp2_with (first | ((with_reducible refine gt (some 6) rfl ?_); refine bx #[.int .i64 0, .int .i64 0, .int .i64 0, .int .i64 0] 77 ?_; intro gb524 hg w17 hbox hb; replace HO_3 := Aside0.mk (rbz HO_3 hb); replace HO_4 := Aside0.mk (rbz HO_4 hb); replace HO_12 := Aside0.mk (Kd.R_below (Kd.R_elderB (hr HO_12.out) gb524 (Nat.le_of_eq hg.symm)) hb); have BK524 := Aside0.mk (hbox); have GW524 := Aside0.mk (gez HB hg); have GE524 := Aside0.mk (gez HB hg); replace HB := Aside0.mk (below_step bz hb); clear hb hbox hg; obtain ⟨hcz18_0, hcz18_1, hcz18_2, hcz18_3, hfz18_0, hfz18_1, hfz18_2, hfz18_3⟩ := cells4 BK524; obtain ⟨Ao19, co19, eo19⟩ := Kd.R_slice HO_3.out; subst eo19) | ((with_reducible refine gt (some 21) rfl ?_); refine gc Tryz.func60 (slices_Contains_int_int.calls k1 Ao19 co19 t514 ((rd_T77 t520 x14_1).f0) true _ (by refine (Kd.R_reads' (e := 3) (base := w.heap.size) (ok := fun k_ => some k_ ≠ (u4 : Value).ownBlock) (n := t514.length) (c := co19) ?_).2.2; exact (hr (Kd.R_mono (Kd.R_far (p := ⟨gb524, 3, none⟩) (Kd.R_far (p := ⟨gb524, 2, none⟩) (Kd.R_far (p := ⟨gb524, 1, none⟩) (Kd.R_far (p := ⟨gb524, 0, none⟩) (Kd.R_types HO_3.out BK524.out (by decide)) (fun _ hk => hk.2) (.int .i64 ((rd_T77 t520 x14_1).f0))) (fun _ hk => hk.2) (.int .i64 ((rd_T77 t520 x14_1).f1.f0))) (fun _ hk => hk.2) (.int .i64 ((rd_T77 t520 x14_1).f1.f1))) (fun _ hk => hk.2) (.int .i64 ((rd_T77 t520 x14_1).f2))) (fun _ h_ => h_.1)))) ((Kd.R_reads' HO_3.out).2.1) A15.out) ?_; rintro e w' ⟨rfl, ⟨nd, rfl⟩⟩; refine ⟨_, rfl, ?_⟩))
       go_roundg k1
       case measure => have := HK1.out; omega
       case rel => exact ⟨(x4_1), (wrap64 (x14_1 + 1)), rz, H', ⟨by have := HK1.out; omega⟩, ⟨hr (Kd.R_mono (Kd.R_far (p := ⟨gb524, 3, none⟩) (Kd.R_far (p := ⟨gb524, 2, none⟩) (Kd.R_far (p := ⟨gb524, 1, none⟩) (Kd.R_far (p := ⟨gb524, 0, none⟩) (Kd.R_types HO_3.out BK524.out (by decide)) (fun _ hk => hk.2) (.int .i64 ((rd_T77 t520 x14_1).f0))) (fun _ hk => hk.2) (.int .i64 ((rd_T77 t520 x14_1).f1.f0))) (fun _ hk => hk.2) (.int .i64 ((rd_T77 t520 x14_1).f1.f1))) (fun _ hk => hk.2) (.int .i64 ((rd_T77 t520 x14_1).f2))) (fun _ hk => hk.1))⟩, ⟨hr (Kd.R_mono (Kd.R_far (p := ⟨gb524, 3, none⟩) (Kd.R_far (p := ⟨gb524, 2, none⟩) (Kd.R_far (p := ⟨gb524, 1, none⟩) (Kd.R_far (p := ⟨gb524, 0, none⟩) (Kd.R_types HO_4.out BK524.out (by decide)) (fun _ hk => hk.2) (.int .i64 ((rd_T77 t520 x14_1).f0))) (fun _ hk => hk.2) (.int .i64 ((rd_T77 t520 x14_1).f1.f0))) (fun _ hk => hk.2) (.int .i64 ((rd_T77 t520 x14_1).f1.f1))) (fun _ hk => hk.2) (.int .i64 ((rd_T77 t520 x14_1).f2))) (fun _ hk => hk.1))⟩, ⟨hr (Kd.R_mono (Kd.R_far (p := ⟨gb524, 3, none⟩) (Kd.R_far (p := ⟨gb524, 2, none⟩) (Kd.R_far (p := ⟨gb524, 1, none⟩) (Kd.R_far (p := ⟨gb524, 0, none⟩) (Kd.R_mono HO_12.out (fun k_ hk => (⟨hk, hk.2⟩ : _ ∧ k_ ≠ gb524))) (fun _ hk => hk.2) (.int .i64 ((rd_T77 t520 x14_1).f0))) (fun _ hk => hk.2) (.int .i64 ((rd_T77 t520 x14_1).f1.f0))) (fun _ hk => hk.2) (.int .i64 ((rd_T77 t520 x14_1).f1.f1))) (fun _ hk => hk.2) (.int .i64 ((rd_T77 t520 x14_1).f2))) (fun _ hk => trivial))⟩, ⟨bzs⟩⟩
      ·replace c16 := Bool.eq_false_iff.mpr c16; subst c16; replace H := iff_ H
       by_cases c20 : x4_1.length < 17592186044416
       ·rw [if_pos c20] at H; have LMc20 := Aside0.mk c20; clear c20; obtain ⟨y526, hy526⟩ : ∃ y_ : List Int, y_ = (x4_1 ++ [(rd_T77 t520 x14_1).f0]) := ⟨_, rfl⟩
        replace H : (impl_Unplaced.l0 k1 t514 y526 t520 (t520.length : Int) (wrap64 (x14_1 + 1))) = some r := by first | (rw [hy526]; with_reducible exact H) | (have H2_ := (Option.bind_some _ _).symm.trans H; rw [hy526]; with_reducible exact H2_) | (have H2_ := (Option.bind_some _ _).symm.trans H; with_reducible exact H2_) | with_reducible exact H | (rw [hy526]; exact H) | exact H
        have Ny526 := Aside0.mk hy526; clear hy526; have H' := Aside0.mk H; clear H; have p523 : 0 ≤ (x14_1 : Int) := of_decide_eq_true az; have q523 : x14_1 < (t520.length : Int) := of_decide_eq_true az; obtain ⟨ad523, e523, hx523_0, hx523_1, hx523_2, hx523_3⟩ := at_T77 (Kd.R_reads' HO_12.out).2.2 x14_1 p523 q523
        cases e523
        replace p523 := eq_true p523; replace q523 := eq_true q523; go_wp2_with (first | ((with_reducible refine gt (some 6) rfl ?_); refine bx #[.int .i64 0, .int .i64 0, .int .i64 0, .int .i64 0] 77 ?_; intro gb524 hg w21 hbox hb; replace HO_3 := Aside0.mk (rbz HO_3 hb); replace HO_4 := Aside0.mk (rbz HO_4 hb); replace HO_12 := Aside0.mk (Kd.R_below (Kd.R_elderB (hr HO_12.out) gb524 (Nat.le_of_eq hg.symm)) hb); have BK524 := Aside0.mk (hbox); have GW524 := Aside0.mk (gez HB hg); have GE524 := Aside0.mk (gez HB hg); replace HB := Aside0.mk (below_step bz hb); clear hb hbox hg; obtain ⟨hcz22_0, hcz22_1, hcz22_2, hcz22_3, hfz22_0, hfz22_1, hfz22_2, hfz22_3⟩ := cells4 BK524; obtain ⟨Ao23, co23, eo23⟩ := Kd.R_slice HO_3.out; subst eo23) | ((with_reducible refine gt (some 21) rfl ?_); refine gc Tryz.func60 (slices_Contains_int_int.calls k1 Ao23 co23 t514 ((rd_T77 t520 x14_1).f0) false _ (by refine (Kd.R_reads' (e := 3) (base := w.heap.size) (ok := fun k_ => some k_ ≠ (u4 : Value).ownBlock) (n := t514.length) (c := co23) ?_).2.2; exact (hr (Kd.R_mono (Kd.R_far (p := ⟨gb524, 3, none⟩) (Kd.R_far (p := ⟨gb524, 2, none⟩) (Kd.R_far (p := ⟨gb524, 1, none⟩) (Kd.R_far (p := ⟨gb524, 0, none⟩) (Kd.R_types HO_3.out BK524.out (by decide)) (fun _ hk => hk.2) (.int .i64 ((rd_T77 t520 x14_1).f0))) (fun _ hk => hk.2) (.int .i64 ((rd_T77 t520 x14_1).f1.f0))) (fun _ hk => hk.2) (.int .i64 ((rd_T77 t520 x14_1).f1.f1))) (fun _ hk => hk.2) (.int .i64 ((rd_T77 t520 x14_1).f2))) (fun _ h_ => h_.1)))) ((Kd.R_reads' HO_3.out).2.1) A15.out) ?_; rintro e w' ⟨rfl, ⟨nd, rfl⟩⟩; refine ⟨_, rfl, ?_⟩) | ((with_reducible refine gate_builtin (b := .append) (xs := #[.tmp 23, .tmp 26]) rfl ?_); at_builtin; refine Kd.R_append (Kd.int .i64) (w0 := w) w.heap.size rfl (.tmp 23) (.tmp 26) 23 3 (.int .i64 0) 8 rfl Tryz.underlying23 info3 rfl (by decide) (by omega) u4 x4_1 ((rd_T77 t520 x14_1).f0) [.int .i64 ((rd_T77 t520 x14_1).f0)] (fun k_ => some k_ ≠ (.slice Ao23 t514.length co23 : Value).ownBlock) (fun _ => False) rfl (by first | (go_simp; done) | (go_simp; rfl)) ?aP (fun _ hk => hk.elim) ?aF ?aO ?aB ?aS ?aL ?_; (case aP => exact rfl); (case aB => exact bzs); (case aF => exact (fun k_ hk => Kd.fresh' (Kd.R_lt (hr (Kd.R_mono (Kd.R_far (p := ⟨gb524, 3, none⟩) (Kd.R_far (p := ⟨gb524, 2, none⟩) (Kd.R_far (p := ⟨gb524, 1, none⟩) (Kd.R_far (p := ⟨gb524, 0, none⟩) (Kd.R_types HO_3.out BK524.out (by decide)) (fun _ hk => hk.2) (.int .i64 ((rd_T77 t520 x14_1).f0))) (fun _ hk => hk.2) (.int .i64 ((rd_T77 t520 x14_1).f1.f0))) (fun _ hk => hk.2) (.int .i64 ((rd_T77 t520 x14_1).f1.f1))) (fun _ hk => hk.2) (.int .i64 ((rd_T77 t520 x14_1).f2))) (fun _ h_ => h_.1)))) k_ hk)); (case aO => exact (hr (Kd.R_mono (Kd.R_far (p := ⟨gb524, 3, none⟩) (Kd.R_far (p := ⟨gb524, 2, none⟩) (Kd.R_far (p := ⟨gb524, 1, none⟩) (Kd.R_far (p := ⟨gb524, 0, none⟩) (Kd.R_types HO_4.out BK524.out (by decide)) (fun _ hk => hk.2) (.int .i64 ((rd_T77 t520 x14_1).f0))) (fun _ hk => hk.2) (.int .i64 ((rd_T77 t520 x14_1).f1.f0))) (fun _ hk => hk.2) (.int .i64 ((rd_T77 t520 x14_1).f1.f1))) (fun _ hk => hk.2) (.int .i64 ((rd_T77 t520 x14_1).f2))) (fun _ hk => hk.1)))); (case aS => exact (below_size bzs)); (case aL => have := LMc20.out; omega); intro v527 w24 ho hb hg hat; rw [← Ny526.out] at ho; have n0_ := Aside0.mk (Kd.R_after (ok := (fun _ => True)) (hr (Kd.R_mono (Kd.R_far (p := ⟨gb524, 3, none⟩) (Kd.R_far (p := ⟨gb524, 2, none⟩) (Kd.R_far (p := ⟨gb524, 1, none⟩) (Kd.R_far (p := ⟨gb524, 0, none⟩) (Kd.R_types HO_3.out BK524.out (by decide)) (fun _ hk => hk.2) (.int .i64 ((rd_T77 t520 x14_1).f0))) (fun _ hk => hk.2) (.int .i64 ((rd_T77 t520 x14_1).f1.f0))) (fun _ hk => hk.2) (.int .i64 ((rd_T77 t520 x14_1).f1.f1))) (fun _ hk => hk.2) (.int .i64 ((rd_T77 t520 x14_1).f2))) (fun _ hk => And.intro trivial hk.1))) hg hat); have n1_ := Aside0.mk (Kd.R_over' (hr (Kd.R_mono (Kd.R_far (p := ⟨gb524, 3, none⟩) (Kd.R_far (p := ⟨gb524, 2, none⟩) (Kd.R_far (p := ⟨gb524, 1, none⟩) (Kd.R_far (p := ⟨gb524, 0, none⟩) (Kd.R_mono HO_12.out (fun k_ hk => (⟨hk, hk.2⟩ : _ ∧ k_ ≠ gb524))) (fun _ hk => hk.2) (.int .i64 ((rd_T77 t520 x14_1).f0))) (fun _ hk => hk.2) (.int .i64 ((rd_T77 t520 x14_1).f1.f0))) (fun _ hk => hk.2) (.int .i64 ((rd_T77 t520 x14_1).f1.f1))) (fun _ hk => hk.2) (.int .i64 ((rd_T77 t520 x14_1).f2))) (fun _ h_ => h_.1))) (Kd.R_typed (hr (Kd.R_mono (Kd.R_far (p := ⟨gb524, 3, none⟩) (Kd.R_far (p := ⟨gb524, 2, none⟩) (Kd.R_far (p := ⟨gb524, 1, none⟩) (Kd.R_far (p := ⟨gb524, 0, none⟩) (Kd.R_types HO_4.out BK524.out (by decide)) (fun _ hk => hk.2) (.int .i64 ((rd_T77 t520 x14_1).f0))) (fun _ hk => hk.2) (.int .i64 ((rd_T77 t520 x14_1).f1.f0))) (fun _ hk => hk.2) (.int .i64 ((rd_T77 t520 x14_1).f1.f1))) (fun _ hk => hk.2) (.int .i64 ((rd_T77 t520 x14_1).f2))) (fun _ h_ => h_.1)))) (by decide) hg); have n2_ := Aside0.mk (blk_grown (g := gb524) (o := .cells #[.int .i64 ((rd_T77 t520 x14_1).f0), .int .i64 ((rd_T77 t520 x14_1).f1.f0), .int .i64 ((rd_T77 t520 x14_1).f1.f1), .int .i64 ((rd_T77 t520 x14_1).f2)] 77 (0, 0)) (by (with_reducible repeat (first | refine blk_drewN ?_ _ | refine blk_drew ?_ | refine blk_alloc ?_ _)); refine blk_put (cs := #[.int .i64 ((rd_T77 t520 x14_1).f0), .int .i64 ((rd_T77 t520 x14_1).f1.f0), .int .i64 ((rd_T77 t520 x14_1).f1.f1), .int .i64 0]) ?_ 3 _ rfl; (with_reducible repeat (first | refine blk_drewN ?_ _ | refine blk_drew ?_ | refine blk_alloc ?_ _)); refine blk_put (cs := #[.int .i64 ((rd_T77 t520 x14_1).f0), .int .i64 ((rd_T77 t520 x14_1).f1.f0), .int .i64 0, .int .i64 0]) ?_ 2 _ rfl; (with_reducible repeat (first | refine blk_drewN ?_ _ | refine blk_drew ?_ | refine blk_alloc ?_ _)); refine blk_put (cs := #[.int .i64 ((rd_T77 t520 x14_1).f0), .int .i64 0, .int .i64 0, .int .i64 0]) ?_ 1 _ rfl; (with_reducible repeat (first | refine blk_drewN ?_ _ | refine blk_drew ?_ | refine blk_alloc ?_ _)); refine blk_put (cs := #[.int .i64 0, .int .i64 0, .int .i64 0, .int .i64 0]) ?_ 0 _ rfl; (with_reducible repeat (first | refine blk_drewN ?_ _ | refine blk_drew ?_ | refine blk_alloc ?_ _)); exact BK524.out) hg (Kd.R_ne HO_4.out BK524.out (by decide))); have n3_ := Aside0.mk (hb); have n4_ := Aside0.mk (ho); clear HO_3; clear HO_12; clear BK524; clear HB; clear HO_4; have HO_3 := n0_; have HO_12 := n1_; have BK524 := n2_; have HB := n3_; have HO528 := n4_; clear n0_ n1_ n2_ n3_ n4_; clear ho hb hg hat))
        go_roundg k1
        case measure => have := HK1.out; omega
        case rel => exact ⟨(y526), (wrap64 (x14_1 + 1)), rz, H', ⟨by have := HK1.out; omega⟩, ⟨hr (Kd.R_mono HO_3.out (fun _ hk => hk.2))⟩, ⟨hr HO528.out⟩, ⟨hr (Kd.R_mono HO_12.out (fun _ hk => trivial))⟩, ⟨bzs⟩⟩
       ·rw [if_neg c20] at H
        exact absurd H (by simp)
     ·rw [if_neg c14] at H
      exact absurd H (by simp)
    ·rw [if_neg c13] at H
     exact absurd H (by simp)
   ·rw [if_neg c12] at H; have c12b0 := decide_eq_false c12; clear c12; obtain rfl := Option.some.inj H; go_wp2; go_ret
    exact ⟨_, ez, hr (Kd.R_mono HO_4.out (fun _ hk => trivial)), bz⟩
end
end Go.Proofs.YtkomgmgpgnjooaaGreat.PFnExactUnplaced
