-- Written by a program of this session's (evlaw.py).
import Derived.Test.YtkomgmgpgnjooaaGreatPFnExactJoinTilesx2
namespace Go.Proofs.YtkomgmgpgnjooaaGreat.PFnExactJoinTiles
open Go.RowKit Go.Proofs.YtkomgmgpgnjooaaGreatW.PrintWords Go.Proofs.YtkomgmgpgnjooaaGreatW.PrintLast Go.Proofs.YtkomgmgpgnjooaaGreatW.PrintMore Go.Proofs.YtkomgmgpgnjooaaGreatGeo Go.Proofs.YtkomgmgpgnjooaaGreatHand Go.Proofs.YtkomgmgpgnjooaaGreatMeet Go.Proofs.YtkomgmgpgnjooaaGreatQuiet Go.Proofs.YtkomgmgpgnjooaaGreatZ Go.Proofs.YtkomgmgpgnjooaaGreatTwo
open Go Go.Proofs.YtkomgmgpgnjooaaGreatEv
attribute [local go_sem] max2_int min2_int max_two min_two max_three min_three max_four min_four   -- for this text's walks alone
set_option linter.unusedVariables false
set_option linter.unusedSimpArgs false



set_option linter.unusedSimpArgs false

attribute [local go_sem high] eqA75
attribute [local go_sem high] eqAP
set_option linter.unusedVariables false
set_option linter.unusedSimpArgs false
set_option maxRecDepth 100000
noncomputable section
def spec_IsSegment.run (k : Nat) (h : HL eΓ [.st .s133]) : Option (HL eΓ [.b]) := (spec_IsSegment.f ((h.1 : S133).f0.f0) ((h.1 : S133).f0.f1) ((h.1 : S133).f1.f0) ((h.1 : S133).f1.f1)).map spec_IsSegment.toH
def spec_IsSegment.spec : Spc env := ⟨164, [.st .s133], [.b], spec_IsSegment.run⟩
def spec_IsSegment.ap {R : Type} (k : Nat) (h0 : S133) (K : Bool → Option R) : Option R := (spec_IsSegment.run k (h0, ())).bind fun r => K (r.1 : Bool)
theorem spec_IsSegment.ap_of {R : Type} {k : Nat} {h0 : S133} {r0 : Bool} {K : Bool → Option R} (h : spec_IsSegment.run k (h0, ()) = some (r0, ())) : spec_IsSegment.ap k h0 K = K r0 := by unfold spec_IsSegment.ap; rw [h]; rfl
theorem spec_IsSegment.go {a0_0 : Int} {a0_1 : Int} {a0_2 : Int} {a0_3 : Int} {t} (h : spec_IsSegment.f a0_0 a0_1 a0_2 a0_3 = some t) (K : Nat) : spec_IsSegment.run K ((⟨(⟨a0_0, a0_1⟩ : S75), (⟨a0_2, a0_3⟩ : S75)⟩ : S133), ()) = some (spec_IsSegment.toH t) := by
  show Option.map _ (spec_IsSegment.f a0_0 a0_1 a0_2 a0_3) = _
  rw [h]; rfl
theorem spec_IsSegment.snd : Snd env spec_IsSegment.spec := ⟨⟨Tryz.f164, by kernel_rfl, by kernel_rfl, by kernel_rfl⟩, fun k h r he w us hA => by
  obtain ⟨t, ht, rfl⟩ := Option.map_eq_some_iff.1 (show (spec_IsSegment.f ((h.1 : S133).f0.f0) ((h.1 : S133).f0.f1) ((h.1 : S133).f1.f0) ((h.1 : S133).f1.f1)).map spec_IsSegment.toH = some r from he)
  match us, hA with
  | [u0], ⟨q0, _⟩ =>
  obtain ⟨v0, rfl, q0⟩ := q0
  have q0 := (H133.K _ _ _).1 q0
  match e0 : v0.toList, q0 with
  | [c0_0, c0_1, c0_2, c0_3], ⟨p0_0, p0_1, p0_2, p0_3, _⟩ =>
  obtain rfl : v0 = #[c0_0, c0_1, c0_2, c0_3] := by rw [← Array.toArray_toList (xs := v0), e0]
  obtain rfl := List.singleton_inj.1 (show [c0_0] = [Value.int .i64 ((h.1 : S133).f0.f0)] from p0_0)
  obtain rfl := List.singleton_inj.1 (show [c0_1] = [Value.int .i64 ((h.1 : S133).f0.f1)] from p0_1)
  obtain rfl := List.singleton_inj.1 (show [c0_2] = [Value.int .i64 ((h.1 : S133).f1.f0)] from p0_2)
  obtain rfl := List.singleton_inj.1 (show [c0_3] = [Value.int .i64 ((h.1 : S133).f1.f1)] from p0_3)
  refine (spec_IsSegment.calls (w := w) (h := ht) ).mono ?_
  rintro e w' ⟨he, hw⟩
  exact ⟨_, he, hw, [.bool t], [fun _ => False], rfl, ⟨rfl, trivial⟩, by simp [DJ]⟩⟩
def spec_l7Segments.Fs : List (Spc env) := []
def spec_l7Segments.fin : St eΓ → Option (HL eΓ [.l 133 (.st .s133)]) := finR env Tryz.f168.results.toList [.l 133 (.st .s133)]
def spec_l7Segments.cut : Nat → Option (List (Lv SC)) := lk [(3, [⟨0, none, false⟩, ⟨3, none, false⟩, ⟨4, none, false⟩])]
def spec_l7Segments.ret (r0 : List S133) : Option (HL eΓ [.l 133 (.st .s133)]) := some (r0, ())
def spec_l7Segments.p3 (k : Nat) (x4 : Int) (x0 : List S75) (x3 : List S133) : Option (HL eΓ [.l 133 (.st .s133)]) := evM env spec_l7Segments.Fs Tryz.f168.ntmps spec_l7Segments.fin spec_l7Segments.cut k [.code (sub_ [1, 1, 0, 1, 0, 0, 0, 0] (bodyOf Tryz.f168)), .code (sub_ [1, 1, 0, 1, 0, 0, 0, 1] (bodyOf Tryz.f168)), .code (sub_ [1, 1, 0, 1, 0, 0, 1] (bodyOf Tryz.f168)), .lp (sub_ [1, 1, 0, 1, 0, 0] (bodyOf Tryz.f168)), .blk 0, .code (sub_ [1, 1, 1] (bodyOf Tryz.f168))] (mkSt [(0, .c (.sl 0)), (3, .c (.sl 1)), (4, .c (.v (.int .i64 x4)))] [.row .ro 75 (.st .s75) x0, .row .own 133 (.st .s133) x3])
theorem spec_l7Segments.e3 (k : Nat) (x4 : Int) (x0 : List S75) (x3 : List S133) : spec_l7Segments.p3 (k + 1) x4 x0 x3 = if x4 < (x0.length : Int) then (if 0 ≤ x4 then (if x4 < (x0.length : Int) then (if (x0.length : Int) = 0 then none else (if 0 ≤ (Int.tmod (wrap64 (x4 + 1)) (x0.length : Int)) then (if (Int.tmod (wrap64 (x4 + 1)) (x0.length : Int)) < (x0.length : Int) then (if (x3.length + 1) * 32 ≤ 140737488355328 then (spec_l7Segments.p3 k (wrap64 (x4 + 1)) x0 (x3 ++ [(⟨(⟨(rd_T75 x0 x4).f0, (rd_T75 x0 x4).f1⟩ : S75), (⟨(rd_T75 x0 (Int.tmod (wrap64 (x4 + 1)) (x0.length : Int))).f0, (rd_T75 x0 (Int.tmod (wrap64 (x4 + 1)) (x0.length : Int))).f1⟩ : S75)⟩ : S133)])) else none) else none) else none)) else none) else none) else (spec_l7Segments.ret x3) := by kernel_rfl
def spec_l7Segments.run (k : Nat) (h : HL eΓ [.l 75 (.st .s75)]) : Option (HL eΓ [.l 133 (.st .s133)]) := evF env spec_l7Segments.Fs Tryz.f168 spec_l7Segments.cut [.l 75 (.st .s75)] [.l 133 (.st .s133)] k h
theorem spec_l7Segments.ef (k : Nat) (h0 : List S75) : spec_l7Segments.run k (h0, ()) = spec_l7Segments.p3 k 0 h0 ([] : List S133) := by kernel_rfl
def spec_l7Segments.toH (t : (List (S133))) : HL eΓ [.l 133 (.st .s133)] := (t, ())
def spec_l7Segments.spec : Spc env := ⟨168, [.l 75 (.st .s75)], [.l 133 (.st .s133)], spec_l7Segments.run⟩
def spec_l7Segments.ap {R : Type} (k : Nat) (h0 : List S75) (K : (List S133) → Option R) : Option R := (spec_l7Segments.run k (h0, ())).bind fun r => K (r.1 : List S133)
theorem spec_l7Segments.ap_of {R : Type} {k : Nat} {h0 : List S75} {r0 : List S133} {K : (List S133) → Option R} (h : spec_l7Segments.run k (h0, ()) = some (r0, ())) : spec_l7Segments.ap k h0 K = K r0 := by unfold spec_l7Segments.ap; rw [h]; rfl
theorem spec_l7Segments.snd : Snd env spec_l7Segments.spec := evF_snd env_ok (sndN)
attribute [local irreducible] spec_l7Segments.run
theorem spec_l7Segments.rt (a0 : List S133) : spec_l7Segments.ret a0 = some (spec_l7Segments.toH (a0)) := rfl
theorem spec_l7Segments.br (n : Nat) : (∀ K, n ≤ K → ∀ (x4 : Int) (x0 : List S75) (x3 : List S133) t, spec_l7Segments.l0 n x0 x3 x4 = some t → spec_l7Segments.p3 K x4 x0 x3 = some (spec_l7Segments.toH t)) := by
  induction n using Nat.strongRecOn with
  | _ n ih =>
  intro K hK x4 x0 x3 t h
  all_goals (rcases n with _ | k)
  all_goals (try (exact nos h))
  all_goals (obtain ⟨K, rfl⟩ : ∃ q, K = q + 1 := ⟨K - 1, by omega⟩)
  all_goals (first | rw [spec_l7Segments.e3])
  all_goals (simp only [spec_l7Segments.l0] at h)
  repeat' (with_reducible first
   | exact nos h
   | (cases some_inj h; exact spec_l7Segments.rt _)
   | exact (ih _ (by omega)) _ (by omega) _ _ _ _ h
   | (simp only [Option.bind_some] at h)
   | (refine ite_by h ?_ ?_ <;> (intro hc h; (try simp only [nrm] at hc)))
   | refine itT ?_
   | refine itF ?_
   | (simp only [nr2] at h ⊢)
   | (exfalso; omega))
theorem spec_l7Segments.go {k : Nat} {l0 : List S75} {t} (h : spec_l7Segments.f k l0 = some t) (K : Nat) (hK : k ≤ K) : spec_l7Segments.run K (l0, ()) = some (spec_l7Segments.toH t) := by
  rw [spec_l7Segments.ef]
  (try dsimp only)
  unfold spec_l7Segments.f at h
  repeat' (with_reducible first
   | exact nos h
   | (cases some_inj h; exact spec_l7Segments.rt _)
   | exact (spec_l7Segments.br _) _ (by omega) _ _ _ _ h
   | (simp only [Option.bind_some] at h)
   | (refine ite_by h ?_ ?_ <;> (intro hc h; (try simp only [nrm] at hc)))
   | refine itT ?_
   | refine itF ?_
   | (simp only [nr2] at h ⊢)
   | (exfalso; omega))
def spec_Min.toH (t : Int) : HL eΓ [.i .i64] := (t, ())
def spec_Min.run (k : Nat) (h : HL eΓ [.i .i64, .i .i64]) : Option (HL eΓ [.i .i64]) := (spec_Min.f (h.1 : Int) (h.2.1 : Int)).map spec_Min.toH
def spec_Min.spec : Spc env := ⟨117, [.i .i64, .i .i64], [.i .i64], spec_Min.run⟩
def spec_Min.ap {R : Type} (k : Nat) (h0 : Int) (h1 : Int) (K : Int → Option R) : Option R := (spec_Min.run k (h0, h1, ())).bind fun r => K (r.1 : Int)
theorem spec_Min.ap_of {R : Type} {k : Nat} {h0 : Int} {h1 : Int} {r0 : Int} {K : Int → Option R} (h : spec_Min.run k (h0, h1, ()) = some (r0, ())) : spec_Min.ap k h0 h1 K = K r0 := by unfold spec_Min.ap; rw [h]; rfl
theorem spec_Min.go {a0 : Int} {a1 : Int} {t} (h : spec_Min.f a0 a1 = some t) (K : Nat) : spec_Min.run K (a0, a1, ()) = some (spec_Min.toH t) := by
  show Option.map _ (spec_Min.f a0 a1) = _
  rw [h]; rfl
theorem spec_Min.snd : Snd env spec_Min.spec := ⟨⟨Tryz.f117, by kernel_rfl, by kernel_rfl, by kernel_rfl⟩, fun k h r he w us hA => by
  obtain ⟨t, ht, rfl⟩ := Option.map_eq_some_iff.1 (show (spec_Min.f (h.1 : Int) (h.2.1 : Int)).map spec_Min.toH = some r from he)
  match us, hA with
  | [u0, u1], ⟨q0, q1, _⟩ =>
  obtain rfl := List.singleton_inj.1 (show [u0] = [Value.int .i64 (h.1 : Int)] from q0)
  obtain rfl := List.singleton_inj.1 (show [u1] = [Value.int .i64 (h.2.1 : Int)] from q1)
  refine (spec_Min.calls (w := w) (h := ht) ).mono ?_
  rintro e w' ⟨he, hw⟩
  exact ⟨_, he, (by obtain ⟨_, rfl⟩ := hw; exact Below.refl _ _), [.int .i64 t], [fun _ => False], rfl, ⟨rfl, trivial⟩, by simp [DJ]⟩⟩
def spec_Max.toH (t : Int) : HL eΓ [.i .i64] := (t, ())
def spec_Max.run (k : Nat) (h : HL eΓ [.i .i64, .i .i64]) : Option (HL eΓ [.i .i64]) := (spec_Max.f (h.1 : Int) (h.2.1 : Int)).map spec_Max.toH
def spec_Max.spec : Spc env := ⟨138, [.i .i64, .i .i64], [.i .i64], spec_Max.run⟩
def spec_Max.ap {R : Type} (k : Nat) (h0 : Int) (h1 : Int) (K : Int → Option R) : Option R := (spec_Max.run k (h0, h1, ())).bind fun r => K (r.1 : Int)
theorem spec_Max.ap_of {R : Type} {k : Nat} {h0 : Int} {h1 : Int} {r0 : Int} {K : Int → Option R} (h : spec_Max.run k (h0, h1, ()) = some (r0, ())) : spec_Max.ap k h0 h1 K = K r0 := by unfold spec_Max.ap; rw [h]; rfl
theorem spec_Max.go {a0 : Int} {a1 : Int} {t} (h : spec_Max.f a0 a1 = some t) (K : Nat) : spec_Max.run K (a0, a1, ()) = some (spec_Max.toH t) := by
  show Option.map _ (spec_Max.f a0 a1) = _
  rw [h]; rfl
theorem spec_Max.snd : Snd env spec_Max.spec := ⟨⟨Tryz.f138, by kernel_rfl, by kernel_rfl, by kernel_rfl⟩, fun k h r he w us hA => by
  obtain ⟨t, ht, rfl⟩ := Option.map_eq_some_iff.1 (show (spec_Max.f (h.1 : Int) (h.2.1 : Int)).map spec_Max.toH = some r from he)
  match us, hA with
  | [u0, u1], ⟨q0, q1, _⟩ =>
  obtain rfl := List.singleton_inj.1 (show [u0] = [Value.int .i64 (h.1 : Int)] from q0)
  obtain rfl := List.singleton_inj.1 (show [u1] = [Value.int .i64 (h.2.1 : Int)] from q1)
  refine (spec_Max.calls (w := w) (h := ht) ).mono ?_
  rintro e w' ⟨he, hw⟩
  exact ⟨_, he, (by obtain ⟨_, rfl⟩ := hw; exact Below.refl _ _), [.int .i64 t], [fun _ => False], rfl, ⟨rfl, trivial⟩, by simp [DJ]⟩⟩
def spec_SideOf.toH (t : Int) : HL eΓ [.i .i64] := (t, ())
def spec_SideOf.run (k : Nat) (h : HL eΓ [.st .s75, .st .s75, .st .s75]) : Option (HL eΓ [.i .i64]) := (spec_SideOf.f ((h.1 : S75).f0) ((h.1 : S75).f1) ((h.2.1 : S75).f0) ((h.2.1 : S75).f1) ((h.2.2.1 : S75).f0) ((h.2.2.1 : S75).f1)).map spec_SideOf.toH
def spec_SideOf.spec : Spc env := ⟨166, [.st .s75, .st .s75, .st .s75], [.i .i64], spec_SideOf.run⟩
def spec_SideOf.ap {R : Type} (k : Nat) (h0 : S75) (h1 : S75) (h2 : S75) (K : Int → Option R) : Option R := (spec_SideOf.run k (h0, h1, h2, ())).bind fun r => K (r.1 : Int)
theorem spec_SideOf.ap_of {R : Type} {k : Nat} {h0 : S75} {h1 : S75} {h2 : S75} {r0 : Int} {K : Int → Option R} (h : spec_SideOf.run k (h0, h1, h2, ()) = some (r0, ())) : spec_SideOf.ap k h0 h1 h2 K = K r0 := by unfold spec_SideOf.ap; rw [h]; rfl
theorem spec_SideOf.go {a0_0 : Int} {a0_1 : Int} {a1_0 : Int} {a1_1 : Int} {a2_0 : Int} {a2_1 : Int} {t} (h : spec_SideOf.f a0_0 a0_1 a1_0 a1_1 a2_0 a2_1 = some t) (K : Nat) : spec_SideOf.run K ((⟨a0_0, a0_1⟩ : S75), (⟨a1_0, a1_1⟩ : S75), (⟨a2_0, a2_1⟩ : S75), ()) = some (spec_SideOf.toH t) := by
  show Option.map _ (spec_SideOf.f a0_0 a0_1 a1_0 a1_1 a2_0 a2_1) = _
  rw [h]; rfl
theorem spec_SideOf.snd : Snd env spec_SideOf.spec := ⟨⟨Tryz.f166, by kernel_rfl, by kernel_rfl, by kernel_rfl⟩, fun k h r he w us hA => by
  obtain ⟨t, ht, rfl⟩ := Option.map_eq_some_iff.1 (show (spec_SideOf.f ((h.1 : S75).f0) ((h.1 : S75).f1) ((h.2.1 : S75).f0) ((h.2.1 : S75).f1) ((h.2.2.1 : S75).f0) ((h.2.2.1 : S75).f1)).map spec_SideOf.toH = some r from he)
  match us, hA with
  | [u0, u1, u2], ⟨q0, q1, q2, _⟩ =>
  obtain ⟨v0, rfl, q0⟩ := q0
  have q0 := (H75.K _ _ _).1 q0
  match e0 : v0.toList, q0 with
  | [c0_0, c0_1], ⟨p0_0, p0_1, _⟩ =>
  obtain rfl : v0 = #[c0_0, c0_1] := by rw [← Array.toArray_toList (xs := v0), e0]
  obtain rfl := List.singleton_inj.1 (show [c0_0] = [Value.int .i64 ((h.1 : S75).f0)] from p0_0)
  obtain rfl := List.singleton_inj.1 (show [c0_1] = [Value.int .i64 ((h.1 : S75).f1)] from p0_1)
  obtain ⟨v1, rfl, q1⟩ := q1
  have q1 := (H75.K _ _ _).1 q1
  match e1 : v1.toList, q1 with
  | [c1_0, c1_1], ⟨p1_0, p1_1, _⟩ =>
  obtain rfl : v1 = #[c1_0, c1_1] := by rw [← Array.toArray_toList (xs := v1), e1]
  obtain rfl := List.singleton_inj.1 (show [c1_0] = [Value.int .i64 ((h.2.1 : S75).f0)] from p1_0)
  obtain rfl := List.singleton_inj.1 (show [c1_1] = [Value.int .i64 ((h.2.1 : S75).f1)] from p1_1)
  obtain ⟨v2, rfl, q2⟩ := q2
  have q2 := (H75.K _ _ _).1 q2
  match e2 : v2.toList, q2 with
  | [c2_0, c2_1], ⟨p2_0, p2_1, _⟩ =>
  obtain rfl : v2 = #[c2_0, c2_1] := by rw [← Array.toArray_toList (xs := v2), e2]
  obtain rfl := List.singleton_inj.1 (show [c2_0] = [Value.int .i64 ((h.2.2.1 : S75).f0)] from p2_0)
  obtain rfl := List.singleton_inj.1 (show [c2_1] = [Value.int .i64 ((h.2.2.1 : S75).f1)] from p2_1)
  refine (spec_SideOf.calls (w := w) (h := ht) ).mono ?_
  rintro e w' ⟨he, hw⟩
  exact ⟨_, he, hw, [.int .i64 t], [fun _ => False], rfl, ⟨rfl, trivial⟩, by simp [DJ]⟩⟩
def spec_IsOn.toH (t : Bool) : HL eΓ [.b] := (t, ())
def spec_IsOn.run (k : Nat) (h : HL eΓ [.st .s133, .st .s75]) : Option (HL eΓ [.b]) := (spec_IsOn.f ((h.1 : S133).f0.f0) ((h.1 : S133).f0.f1) ((h.1 : S133).f1.f0) ((h.1 : S133).f1.f1) ((h.2.1 : S75).f0) ((h.2.1 : S75).f1)).map spec_IsOn.toH
def spec_IsOn.spec : Spc env := ⟨203, [.st .s133, .st .s75], [.b], spec_IsOn.run⟩
def spec_IsOn.ap {R : Type} (k : Nat) (h0 : S133) (h1 : S75) (K : Bool → Option R) : Option R := (spec_IsOn.run k (h0, h1, ())).bind fun r => K (r.1 : Bool)
theorem spec_IsOn.ap_of {R : Type} {k : Nat} {h0 : S133} {h1 : S75} {r0 : Bool} {K : Bool → Option R} (h : spec_IsOn.run k (h0, h1, ()) = some (r0, ())) : spec_IsOn.ap k h0 h1 K = K r0 := by unfold spec_IsOn.ap; rw [h]; rfl
theorem spec_IsOn.go {a0_0 : Int} {a0_1 : Int} {a0_2 : Int} {a0_3 : Int} {a1_0 : Int} {a1_1 : Int} {t} (h : spec_IsOn.f a0_0 a0_1 a0_2 a0_3 a1_0 a1_1 = some t) (K : Nat) : spec_IsOn.run K ((⟨(⟨a0_0, a0_1⟩ : S75), (⟨a0_2, a0_3⟩ : S75)⟩ : S133), (⟨a1_0, a1_1⟩ : S75), ()) = some (spec_IsOn.toH t) := by
  show Option.map _ (spec_IsOn.f a0_0 a0_1 a0_2 a0_3 a1_0 a1_1) = _
  rw [h]; rfl
theorem spec_IsOn.snd : Snd env spec_IsOn.spec := ⟨⟨Tryz.f203, by kernel_rfl, by kernel_rfl, by kernel_rfl⟩, fun k h r he w us hA => by
  obtain ⟨t, ht, rfl⟩ := Option.map_eq_some_iff.1 (show (spec_IsOn.f ((h.1 : S133).f0.f0) ((h.1 : S133).f0.f1) ((h.1 : S133).f1.f0) ((h.1 : S133).f1.f1) ((h.2.1 : S75).f0) ((h.2.1 : S75).f1)).map spec_IsOn.toH = some r from he)
  match us, hA with
  | [u0, u1], ⟨q0, q1, _⟩ =>
  obtain ⟨v0, rfl, q0⟩ := q0
  have q0 := (H133.K _ _ _).1 q0
  match e0 : v0.toList, q0 with
  | [c0_0, c0_1, c0_2, c0_3], ⟨p0_0, p0_1, p0_2, p0_3, _⟩ =>
  obtain rfl : v0 = #[c0_0, c0_1, c0_2, c0_3] := by rw [← Array.toArray_toList (xs := v0), e0]
  obtain rfl := List.singleton_inj.1 (show [c0_0] = [Value.int .i64 ((h.1 : S133).f0.f0)] from p0_0)
  obtain rfl := List.singleton_inj.1 (show [c0_1] = [Value.int .i64 ((h.1 : S133).f0.f1)] from p0_1)
  obtain rfl := List.singleton_inj.1 (show [c0_2] = [Value.int .i64 ((h.1 : S133).f1.f0)] from p0_2)
  obtain rfl := List.singleton_inj.1 (show [c0_3] = [Value.int .i64 ((h.1 : S133).f1.f1)] from p0_3)
  obtain ⟨v1, rfl, q1⟩ := q1
  have q1 := (H75.K _ _ _).1 q1
  match e1 : v1.toList, q1 with
  | [c1_0, c1_1], ⟨p1_0, p1_1, _⟩ =>
  obtain rfl : v1 = #[c1_0, c1_1] := by rw [← Array.toArray_toList (xs := v1), e1]
  obtain rfl := List.singleton_inj.1 (show [c1_0] = [Value.int .i64 ((h.2.1 : S75).f0)] from p1_0)
  obtain rfl := List.singleton_inj.1 (show [c1_1] = [Value.int .i64 ((h.2.1 : S75).f1)] from p1_1)
  refine (spec_IsOn.calls (w := w) (h := ht) ).mono ?_
  rintro e w' ⟨he, hw⟩
  exact ⟨_, he, hw, [.bool t], [fun _ => False], rfl, ⟨rfl, trivial⟩, by simp [DJ]⟩⟩
def spec_l5Shared.Fs : List (Spc env) := [spec_IsOn.spec]
def spec_l5Shared.fin : St eΓ → Option (HL eΓ [.i .i64]) := finR env Tryz.f196.results.toList [.i .i64]
def spec_l5Shared.cut : Nat → Option (List (Lv SC)) := lk [(4, [⟨2, none, false⟩, ⟨3, none, false⟩, ⟨5, none, false⟩, ⟨6, none, false⟩, ⟨7, none, false⟩]), (8, [⟨2, none, false⟩, ⟨3, none, false⟩, ⟨5, none, false⟩, ⟨6, none, false⟩, ⟨7, none, false⟩, ⟨8, none, false⟩, ⟨9, none, false⟩])]
def spec_l5Shared.ret (r0 : Int) : Option (HL eΓ [.i .i64]) := some (r0, ())
def spec_l5Shared.p4 (k : Nat) (x7 : Int) (b0_0 : Int) (b0_1 : Int) (b0_2 : Int) (b0_3 : Int) (b1_0 : Int) (b1_1 : Int) (b1_2 : Int) (b1_3 : Int) (x5 : List S75) (x6 : List S75) : Option (HL eΓ [.i .i64]) := evM env spec_l5Shared.Fs Tryz.f196.ntmps spec_l5Shared.fin spec_l5Shared.cut k [.code (sub_ [1, 1, 1, 0, 1, 0, 0, 0, 0] (bodyOf Tryz.f196)), .code (sub_ [1, 1, 1, 0, 1, 0, 0, 0, 1] (bodyOf Tryz.f196)), .code (sub_ [1, 1, 1, 0, 1, 0, 0, 1] (bodyOf Tryz.f196)), .lp (sub_ [1, 1, 1, 0, 1, 0, 0] (bodyOf Tryz.f196)), .blk 0, .code (sub_ [1, 1, 1, 1] (bodyOf Tryz.f196))] (mkSt [(2, .c (.ptr 0 0)), (3, .c (.ptr 1 0)), (5, .c (.sl 2)), (6, .c (.sl 3)), (7, .c (.v (.int .i64 x7)))] [.box 133 [.v (.int .i64 b0_0), .v (.int .i64 b0_1), .v (.int .i64 b0_2), .v (.int .i64 b0_3)], .box 133 [.v (.int .i64 b1_0), .v (.int .i64 b1_1), .v (.int .i64 b1_2), .v (.int .i64 b1_3)], .row .own 75 (.st .s75) x5, .row .own 75 (.st .s75) x6])
def spec_l5Shared.p8 (k : Nat) (x7 : Int) (x8 : Bool) (x9 : Int) (b0_0 : Int) (b0_1 : Int) (b0_2 : Int) (b0_3 : Int) (b1_0 : Int) (b1_1 : Int) (b1_2 : Int) (b1_3 : Int) (x5 : List S75) (x6 : List S75) : Option (HL eΓ [.i .i64]) := evM env spec_l5Shared.Fs Tryz.f196.ntmps spec_l5Shared.fin spec_l5Shared.cut k [.code (sub_ [1, 1, 1, 0, 1, 0, 0, 1, 0, 0, 1, 0, 1, 0, 0, 0, 0] (bodyOf Tryz.f196)), .code (sub_ [1, 1, 1, 0, 1, 0, 0, 1, 0, 0, 1, 0, 1, 0, 0, 0, 1] (bodyOf Tryz.f196)), .code (sub_ [1, 1, 1, 0, 1, 0, 0, 1, 0, 0, 1, 0, 1, 0, 0, 1] (bodyOf Tryz.f196)), .lp (sub_ [1, 1, 1, 0, 1, 0, 0, 1, 0, 0, 1, 0, 1, 0, 0] (bodyOf Tryz.f196)), .blk 2, .code (sub_ [1, 1, 1, 0, 1, 0, 0, 1, 0, 0, 1, 1] (bodyOf Tryz.f196)), .blk 1, .code (sub_ [1, 1, 1, 0, 1, 0, 0, 1, 1] (bodyOf Tryz.f196)), .lp (sub_ [1, 1, 1, 0, 1, 0, 0] (bodyOf Tryz.f196)), .blk 0, .code (sub_ [1, 1, 1, 1] (bodyOf Tryz.f196))] (mkSt [(2, .c (.ptr 0 0)), (3, .c (.ptr 1 0)), (5, .c (.sl 2)), (6, .c (.sl 3)), (7, .c (.v (.int .i64 x7))), (8, .c (.v (.bool x8))), (9, .c (.v (.int .i64 x9)))] [.box 133 [.v (.int .i64 b0_0), .v (.int .i64 b0_1), .v (.int .i64 b0_2), .v (.int .i64 b0_3)], .box 133 [.v (.int .i64 b1_0), .v (.int .i64 b1_1), .v (.int .i64 b1_2), .v (.int .i64 b1_3)], .row .own 75 (.st .s75) x5, .row .own 75 (.st .s75) x6])
theorem spec_l5Shared.e4 (k : Nat) (x7 : Int) (b0_0 : Int) (b0_1 : Int) (b0_2 : Int) (b0_3 : Int) (b1_0 : Int) (b1_1 : Int) (b1_2 : Int) (b1_3 : Int) (x5 : List S75) (x6 : List S75) : spec_l5Shared.p4 (k + 1) x7 b0_0 b0_1 b0_2 b0_3 b1_0 b1_1 b1_2 b1_3 x5 x6 = if x7 < 4 then (if x7 < 2 then (if 0 ≤ x7 then (if x7 < (x6.length : Int) then (spec_IsOn.ap k (⟨(⟨b1_0, b1_1⟩ : S75), (⟨b1_2, b1_3⟩ : S75)⟩ : S133) (⟨(rd_T75 x6 x7).f0, (rd_T75 x6 x7).f1⟩ : S75) fun r1 => if r1 = true then (spec_l5Shared.p8 k x7 true 0 b0_0 b0_1 b0_2 b0_3 b1_0 b1_1 b1_2 b1_3 x5 x6) else (if x7 ≥ 2 then (if 0 ≤ x7 then (if x7 < (x6.length : Int) then (spec_IsOn.ap k (⟨(⟨b0_0, b0_1⟩ : S75), (⟨b0_2, b0_3⟩ : S75)⟩ : S133) (⟨(rd_T75 x6 x7).f0, (rd_T75 x6 x7).f1⟩ : S75) fun r2 => spec_l5Shared.p8 k x7 r2 0 b0_0 b0_1 b0_2 b0_3 b1_0 b1_1 b1_2 b1_3 x5 x6) else none) else none) else (spec_l5Shared.p8 k x7 false 0 b0_0 b0_1 b0_2 b0_3 b1_0 b1_1 b1_2 b1_3 x5 x6))) else none) else none) else (if x7 ≥ 2 then (if 0 ≤ x7 then (if x7 < (x6.length : Int) then (spec_IsOn.ap k (⟨(⟨b0_0, b0_1⟩ : S75), (⟨b0_2, b0_3⟩ : S75)⟩ : S133) (⟨(rd_T75 x6 x7).f0, (rd_T75 x6 x7).f1⟩ : S75) fun r3 => spec_l5Shared.p8 k x7 r3 0 b0_0 b0_1 b0_2 b0_3 b1_0 b1_1 b1_2 b1_3 x5 x6) else none) else none) else (spec_l5Shared.p8 k x7 false 0 b0_0 b0_1 b0_2 b0_3 b1_0 b1_1 b1_2 b1_3 x5 x6))) else (spec_l5Shared.ret (x5.length : Int)) := by kernel_rfl
theorem spec_l5Shared.e8 (k : Nat) (x7 : Int) (x8 : Bool) (x9 : Int) (b0_0 : Int) (b0_1 : Int) (b0_2 : Int) (b0_3 : Int) (b1_0 : Int) (b1_1 : Int) (b1_2 : Int) (b1_3 : Int) (x5 : List S75) (x6 : List S75) : spec_l5Shared.p8 (k + 1) x7 x8 x9 b0_0 b0_1 b0_2 b0_3 b1_0 b1_1 b1_2 b1_3 x5 x6 = if x9 < (x5.length : Int) then (if x8 = true then (if 0 ≤ x9 then (if x9 < (x5.length : Int) then (if 0 ≤ x7 then (if x7 < (x6.length : Int) then (spec_l5Shared.p8 k x7 (decide (¬ (((rd_T75 x5 x9).f0) = ((rd_T75 x6 x7).f0) ∧ (((rd_T75 x5 x9).f1) = ((rd_T75 x6 x7).f1) ∧ True)))) (wrap64 (x9 + 1)) b0_0 b0_1 b0_2 b0_3 b1_0 b1_1 b1_2 b1_3 x5 x6) else none) else none) else none) else none) else (spec_l5Shared.p8 k x7 false (wrap64 (x9 + 1)) b0_0 b0_1 b0_2 b0_3 b1_0 b1_1 b1_2 b1_3 x5 x6)) else (if x8 = true then (if 0 ≤ x7 then (if x7 < (x6.length : Int) then (if (x5.length + 1) * 16 ≤ 140737488355328 then (spec_l5Shared.p4 k (wrap64 (x7 + 1)) b0_0 b0_1 b0_2 b0_3 b1_0 b1_1 b1_2 b1_3 (x5 ++ [(⟨(rd_T75 x6 x7).f0, (rd_T75 x6 x7).f1⟩ : S75)]) x6) else none) else none) else none) else (spec_l5Shared.p4 k (wrap64 (x7 + 1)) b0_0 b0_1 b0_2 b0_3 b1_0 b1_1 b1_2 b1_3 x5 x6)) := by kernel_rfl
def spec_l5Shared.run (k : Nat) (h : HL eΓ [.st .s133, .st .s133]) : Option (HL eΓ [.i .i64]) := evF env spec_l5Shared.Fs Tryz.f196 spec_l5Shared.cut [.st .s133, .st .s133] [.i .i64] k h
theorem spec_l5Shared.ef (k : Nat) (h0 : S133) (h1 : S133) : spec_l5Shared.run k (h0, h1, ()) = spec_l5Shared.p4 k 0 h0.f0.f0 h0.f0.f1 h0.f1.f0 h0.f1.f1 h1.f0.f0 h1.f0.f1 h1.f1.f0 h1.f1.f1 ([] : List S75) ([(⟨h0.f0.f0, h0.f0.f1⟩ : S75), (⟨h0.f1.f0, h0.f1.f1⟩ : S75), (⟨h1.f0.f0, h1.f0.f1⟩ : S75), (⟨h1.f1.f0, h1.f1.f1⟩ : S75)] : List S75) := by kernel_rfl
def spec_l5Shared.toH (t : Int) : HL eΓ [.i .i64] := (t, ())
def spec_l5Shared.spec : Spc env := ⟨196, [.st .s133, .st .s133], [.i .i64], spec_l5Shared.run⟩
theorem spec_l5Shared.snd : Snd env spec_l5Shared.spec := evF_snd env_ok (sndC spec_IsOn.snd (sndN))
attribute [local irreducible] spec_l5Shared.run
theorem spec_l5Shared.rt (a0 : Int) : spec_l5Shared.ret a0 = some (spec_l5Shared.toH (a0)) := rfl
theorem spec_l5Shared.br (n : Nat) : (∀ K, n ≤ K → ∀ (x7 : Int) (b0_0 : Int) (b0_1 : Int) (b0_2 : Int) (b0_3 : Int) (b1_0 : Int) (b1_1 : Int) (b1_2 : Int) (b1_3 : Int) (x5 : List S75) (x6 : List S75) t, spec_l5Shared.l0 n x5 x6 x7 b0_0 b0_1 b0_2 b0_3 b1_0 b1_1 b1_2 b1_3 = some t → spec_l5Shared.p4 K x7 b0_0 b0_1 b0_2 b0_3 b1_0 b1_1 b1_2 b1_3 x5 x6 = some (spec_l5Shared.toH t)) ∧ (∀ K, n ≤ K → ∀ (x7 : Int) (x8 : Bool) (x9 : Int) (b0_0 : Int) (b0_1 : Int) (b0_2 : Int) (b0_3 : Int) (b1_0 : Int) (b1_1 : Int) (b1_2 : Int) (b1_3 : Int) (x5 : List S75) (x6 : List S75) t, spec_l5Shared.l1 n x5 x6 x7 x8 x9 b0_0 b0_1 b0_2 b0_3 b1_0 b1_1 b1_2 b1_3 = some t → spec_l5Shared.p8 K x7 x8 x9 b0_0 b0_1 b0_2 b0_3 b1_0 b1_1 b1_2 b1_3 x5 x6 = some (spec_l5Shared.toH t)) := by
  induction n using Nat.strongRecOn with
  | _ n ih =>
  refine ⟨fun K hK x7 b0_0 b0_1 b0_2 b0_3 b1_0 b1_1 b1_2 b1_3 x5 x6 t h => ?_, fun K hK x7 x8 x9 b0_0 b0_1 b0_2 b0_3 b1_0 b1_1 b1_2 b1_3 x5 x6 t h => ?_⟩
  all_goals (rcases n with _ | k)
  all_goals (try (exact nos h))
  all_goals (obtain ⟨K, rfl⟩ : ∃ q, K = q + 1 := ⟨K - 1, by omega⟩)
  all_goals (first | rw [spec_l5Shared.e4] | rw [spec_l5Shared.e8])
  all_goals (simp only [spec_l5Shared.l0, spec_l5Shared.l1] at h)
  repeat' (with_reducible first
   | exact nos h
   | (cases some_inj h; exact spec_l5Shared.rt _)
   | exact (ih _ (by omega)).1 _ (by omega) _ _ _ _ _ _ _ _ _ _ _ _ h
   | exact (ih _ (by omega)).2 _ (by omega) _ _ _ _ _ _ _ _ _ _ _ _ _ _ h
   | ((have q : spec_l5Shared.j1 k _ _ _ _ _ _ _ _ _ _ _ _ = some _ := h; clear q); rcases k with _ | k <;> simp only [spec_l5Shared.j1, reduceCtorEq] at h)
   | (simp only [Option.bind_some] at h)
   | (refine ite_by h ?_ ?_ <;> (intro hc h; (try simp only [nrm] at hc)))
   | refine itT ?_
   | refine itF ?_
   | (refine bind_by h (fun t ht h => ?_); refine (spec_IsOn.ap_of (spec_IsOn.go ht _)).trans ?_; (try dsimp only at h ⊢))
   | (simp only [nr2] at h ⊢)
   | (exfalso; omega))
theorem spec_l5Shared.go {k : Nat} {a0_0 : Int} {a0_1 : Int} {a0_2 : Int} {a0_3 : Int} {a1_0 : Int} {a1_1 : Int} {a1_2 : Int} {a1_3 : Int} {t} (h : spec_l5Shared.f k a0_0 a0_1 a0_2 a0_3 a1_0 a1_1 a1_2 a1_3 = some t) (K : Nat) (hK : k ≤ K) : spec_l5Shared.run K ((⟨(⟨a0_0, a0_1⟩ : S75), (⟨a0_2, a0_3⟩ : S75)⟩ : S133), (⟨(⟨a1_0, a1_1⟩ : S75), (⟨a1_2, a1_3⟩ : S75)⟩ : S133), ()) = some (spec_l5Shared.toH t) := by
  rw [spec_l5Shared.ef]
  (try dsimp only)
  unfold spec_l5Shared.f at h
  repeat' (with_reducible first
   | exact nos h
   | (cases some_inj h; exact spec_l5Shared.rt _)
   | exact (spec_l5Shared.br _).1 _ (by omega) _ _ _ _ _ _ _ _ _ _ _ _ h
   | exact (spec_l5Shared.br _).2 _ (by omega) _ _ _ _ _ _ _ _ _ _ _ _ _ _ h
   | ((have q : spec_l5Shared.j1 k _ _ _ _ _ _ _ _ _ _ _ _ = some _ := h; clear q); rcases k with _ | k <;> simp only [spec_l5Shared.j1, reduceCtorEq] at h)
   | (simp only [Option.bind_some] at h)
   | (refine ite_by h ?_ ?_ <;> (intro hc h; (try simp only [nrm] at hc)))
   | refine itT ?_
   | refine itF ?_
   | (refine bind_by h (fun t ht h => ?_); refine (spec_IsOn.ap_of (spec_IsOn.go ht _)).trans ?_; (try dsimp only at h ⊢))
   | (simp only [nr2] at h ⊢)
   | (exfalso; omega))
theorem spec_l5Shared.calls (k : Nat) (a0_0 : Int) (a0_1 : Int) (a0_2 : Int) (a0_3 : Int) (a1_0 : Int) (a1_1 : Int) (a1_2 : Int) (a1_3 : Int) (r : Int) (w : World) (h : spec_l5Shared.f k a0_0 a0_1 a0_2 a0_3 a1_0 a1_1 a1_2 a1_3 = some r) :
  Calls Tryz.prog 196 #[.agg #[.int .i64 a0_0, .int .i64 a0_1, .int .i64 a0_2, .int .i64 a0_3], .agg #[.int .i64 a1_0, .int .i64 a1_1, .int .i64 a1_2, .int .i64 a1_3]] w fun e w' => e = .returned (.int .i64 r) ∧ Below w.heap.size w w' := by
  refine (spec_l5Shared.snd.calls _ _ _ (spec_l5Shared.go h k (Nat.le_refl k)) w [.agg #[.int .i64 a0_0, .int .i64 a0_1, .int .i64 a0_2, .int .i64 a0_3], .agg #[.int .i64 a1_0, .int .i64 a1_1, .int .i64 a1_2, .int .i64 a1_3]] ⟨⟨_, rfl, (H133.K _ _ _).2 ⟨rfl, rfl, rfl, rfl, trivial⟩⟩, ⟨_, rfl, (H133.K _ _ _).2 ⟨rfl, rfl, rfl, rfl, trivial⟩⟩, trivial⟩).mono ?_
  rintro e w' ⟨v, rfl, hB, vs, oks, rfl, hR, _⟩
  obtain ⟨x0_, vs, o0_, oks, rfl, rfl, m0_, hR⟩ := rmsC hR
  obtain rfl := rmsN hR
  obtain rfl := List.singleton_inj.1 (show [x0_] = [Value.int .i64 r] from m0_)
  exact ⟨rfl, hB⟩
theorem spec_HowMeet.any (a b c d e f g h : Int) (w : World) : Calls Tryz.prog 180 #[.agg #[.int .i64 a, .int .i64 b, .int .i64 c, .int .i64 d], .agg #[.int .i64 e, .int .i64 f, .int .i64 g, .int .i64 h]] w fun e_ w' => e_ = .returned (.int .i64 (howS a b c d e f g h)) ∧ Below w.heap.size w w' := by
  unfold howS
  cases hs : isSeg a b c d
  · rw [if_pos (.inl rfl)]; exact spec_HowMeet.no1 a b c d e f g h hs w
  · cases ht : isSeg e f g h
    · rw [if_pos (.inr rfl)]; exact spec_HowMeet.no2 a b c d e f g h hs ht w
    · obtain ⟨y1, y2⟩ := wrap_three _ _ (sd_bd a b c d e f) (sd_bd a b c d g h); obtain ⟨y3, y4⟩ := wrap_three _ _ (sd_bd e f g h a b) (sd_bd e f g h c d); obtain ⟨K, hK⟩ := share_s a b c d e f g h; refine (spec_HowMeet.wlk a b c d e f g h _ _ _ _ _ _ (shareI a b c d e f g h) _ _ _ _ hs ht rfl rfl rfl rfl rfl rfl rfl rfl rfl rfl y2 y4 (fun W => spec_l5Shared.calls K _ _ _ _ _ _ _ _ _ W (hK K (Nat.le_refl _))) w).mono ?_; rintro e_ w' ⟨rfl, hb⟩; refine ⟨?_, hb⟩; rw [y1, y3, if_neg (show ¬ (true = false ∨ true = false) by simp)]; simp only [Bool.or_eq_true, decide_eq_true_eq, or_assoc]
theorem spec_HowMeet.calls (a0_0 : Int) (a0_1 : Int) (a0_2 : Int) (a0_3 : Int) (a1_0 : Int) (a1_1 : Int) (a1_2 : Int) (a1_3 : Int) (r : Int) (w : World) (h : spec_HowMeet.f a0_0 a0_1 a0_2 a0_3 a1_0 a1_1 a1_2 a1_3 = some r) :
    Calls Tryz.prog 180 #[.agg #[.int .i64 a0_0, .int .i64 a0_1, .int .i64 a0_2, .int .i64 a0_3], .agg #[.int .i64 a1_0, .int .i64 a1_1, .int .i64 a1_2, .int .i64 a1_3]] w fun e w' => e = .returned (.int .i64 r) ∧ Below w.heap.size w w' := by
  obtain rfl := Option.some.inj h
  exact spec_HowMeet.any a0_0 a0_1 a0_2 a0_3 a1_0 a1_1 a1_2 a1_3 w
def spec_HowMeet.toH (t : Int) : HL eΓ [.i .i64] := (t, ())
def spec_HowMeet.run (k : Nat) (h : HL eΓ [.st .s133, .st .s133]) : Option (HL eΓ [.i .i64]) := (spec_HowMeet.f ((h.1 : S133).f0.f0) ((h.1 : S133).f0.f1) ((h.1 : S133).f1.f0) ((h.1 : S133).f1.f1) ((h.2.1 : S133).f0.f0) ((h.2.1 : S133).f0.f1) ((h.2.1 : S133).f1.f0) ((h.2.1 : S133).f1.f1)).map spec_HowMeet.toH
def spec_HowMeet.spec : Spc env := ⟨180, [.st .s133, .st .s133], [.i .i64], spec_HowMeet.run⟩
def spec_HowMeet.ap {R : Type} (k : Nat) (h0 : S133) (h1 : S133) (K : Int → Option R) : Option R := (spec_HowMeet.run k (h0, h1, ())).bind fun r => K (r.1 : Int)
theorem spec_HowMeet.ap_of {R : Type} {k : Nat} {h0 : S133} {h1 : S133} {r0 : Int} {K : Int → Option R} (h : spec_HowMeet.run k (h0, h1, ()) = some (r0, ())) : spec_HowMeet.ap k h0 h1 K = K r0 := by unfold spec_HowMeet.ap; rw [h]; rfl
theorem spec_HowMeet.go {a0_0 : Int} {a0_1 : Int} {a0_2 : Int} {a0_3 : Int} {a1_0 : Int} {a1_1 : Int} {a1_2 : Int} {a1_3 : Int} {t} (h : spec_HowMeet.f a0_0 a0_1 a0_2 a0_3 a1_0 a1_1 a1_2 a1_3 = some t) (K : Nat) : spec_HowMeet.run K ((⟨(⟨a0_0, a0_1⟩ : S75), (⟨a0_2, a0_3⟩ : S75)⟩ : S133), (⟨(⟨a1_0, a1_1⟩ : S75), (⟨a1_2, a1_3⟩ : S75)⟩ : S133), ()) = some (spec_HowMeet.toH t) := by
  show Option.map _ (spec_HowMeet.f a0_0 a0_1 a0_2 a0_3 a1_0 a1_1 a1_2 a1_3) = _
  rw [h]; rfl
theorem spec_HowMeet.snd : Snd env spec_HowMeet.spec := ⟨⟨Tryz.f180, by kernel_rfl, by kernel_rfl, by kernel_rfl⟩, fun k h r he w us hA => by
  obtain ⟨t, ht, rfl⟩ := Option.map_eq_some_iff.1 (show (spec_HowMeet.f ((h.1 : S133).f0.f0) ((h.1 : S133).f0.f1) ((h.1 : S133).f1.f0) ((h.1 : S133).f1.f1) ((h.2.1 : S133).f0.f0) ((h.2.1 : S133).f0.f1) ((h.2.1 : S133).f1.f0) ((h.2.1 : S133).f1.f1)).map spec_HowMeet.toH = some r from he)
  match us, hA with
  | [u0, u1], ⟨q0, q1, _⟩ =>
  obtain ⟨v0, rfl, q0⟩ := q0
  have q0 := (H133.K _ _ _).1 q0
  match e0 : v0.toList, q0 with
  | [c0_0, c0_1, c0_2, c0_3], ⟨p0_0, p0_1, p0_2, p0_3, _⟩ =>
  obtain rfl : v0 = #[c0_0, c0_1, c0_2, c0_3] := by rw [← Array.toArray_toList (xs := v0), e0]
  obtain rfl := List.singleton_inj.1 (show [c0_0] = [Value.int .i64 ((h.1 : S133).f0.f0)] from p0_0)
  obtain rfl := List.singleton_inj.1 (show [c0_1] = [Value.int .i64 ((h.1 : S133).f0.f1)] from p0_1)
  obtain rfl := List.singleton_inj.1 (show [c0_2] = [Value.int .i64 ((h.1 : S133).f1.f0)] from p0_2)
  obtain rfl := List.singleton_inj.1 (show [c0_3] = [Value.int .i64 ((h.1 : S133).f1.f1)] from p0_3)
  obtain ⟨v1, rfl, q1⟩ := q1
  have q1 := (H133.K _ _ _).1 q1
  match e1 : v1.toList, q1 with
  | [c1_0, c1_1, c1_2, c1_3], ⟨p1_0, p1_1, p1_2, p1_3, _⟩ =>
  obtain rfl : v1 = #[c1_0, c1_1, c1_2, c1_3] := by rw [← Array.toArray_toList (xs := v1), e1]
  obtain rfl := List.singleton_inj.1 (show [c1_0] = [Value.int .i64 ((h.2.1 : S133).f0.f0)] from p1_0)
  obtain rfl := List.singleton_inj.1 (show [c1_1] = [Value.int .i64 ((h.2.1 : S133).f0.f1)] from p1_1)
  obtain rfl := List.singleton_inj.1 (show [c1_2] = [Value.int .i64 ((h.2.1 : S133).f1.f0)] from p1_2)
  obtain rfl := List.singleton_inj.1 (show [c1_3] = [Value.int .i64 ((h.2.1 : S133).f1.f1)] from p1_3)
  refine (spec_HowMeet.calls (w := w) (h := ht) ).mono ?_
  rintro e w' ⟨he, hw⟩
  exact ⟨_, he, hw, [.int .i64 t], [fun _ => False], rfl, ⟨rfl, trivial⟩, by simp [DJ]⟩⟩
def spec_IsRing.Fs : List (Spc env) := [spec_l1In.spec, spec_l7Segments.spec, spec_IsSegment.spec, spec_HowMeet.spec]
def spec_IsRing.fin : St eΓ → Option (HL eΓ [.b]) := finR env Tryz.f137.results.toList [.b]
def spec_IsRing.cut : Nat → Option (List (Lv SC)) := lk [(5, [⟨3, none, false⟩, ⟨4, none, false⟩]), (10, [⟨3, none, false⟩, ⟨4, none, false⟩, ⟨5, none, false⟩])]
def spec_IsRing.ret (r0 : Bool) : Option (HL eΓ [.b]) := some (r0, ())
def spec_IsRing.p5 (k : Nat) (x4 : Int) (x3 : List S133) : Option (HL eΓ [.b]) := evM env spec_IsRing.Fs Tryz.f137.ntmps spec_IsRing.fin spec_IsRing.cut k [.code (sub_ [1, 1, 1, 0, 1, 0, 0, 0, 0] (bodyOf Tryz.f137)), .code (sub_ [1, 1, 1, 0, 1, 0, 0, 0, 1] (bodyOf Tryz.f137)), .code (sub_ [1, 1, 1, 0, 1, 0, 0, 1] (bodyOf Tryz.f137)), .lp (sub_ [1, 1, 1, 0, 1, 0, 0] (bodyOf Tryz.f137)), .blk 0, .code (sub_ [1, 1, 1, 1] (bodyOf Tryz.f137))] (mkSt [(3, .c (.sl 0)), (4, .c (.v (.int .i64 x4)))] [.row .own 133 (.st .s133) x3])
def spec_IsRing.p10 (k : Nat) (x4 : Int) (x5 : Int) (x3 : List S133) : Option (HL eΓ [.b]) := evM env spec_IsRing.Fs Tryz.f137.ntmps spec_IsRing.fin spec_IsRing.cut k [.code (sub_ [1, 1, 1, 0, 1, 0, 0, 1, 0, 0, 1, 1, 0, 0, 0, 0] (bodyOf Tryz.f137)), .code (sub_ [1, 1, 1, 0, 1, 0, 0, 1, 0, 0, 1, 1, 0, 0, 0, 1] (bodyOf Tryz.f137)), .code (sub_ [1, 1, 1, 0, 1, 0, 0, 1, 0, 0, 1, 1, 0, 0, 1] (bodyOf Tryz.f137)), .lp (sub_ [1, 1, 1, 0, 1, 0, 0, 1, 0, 0, 1, 1, 0, 0] (bodyOf Tryz.f137)), .blk 2, .blk 1, .code (sub_ [1, 1, 1, 0, 1, 0, 0, 1, 1] (bodyOf Tryz.f137)), .lp (sub_ [1, 1, 1, 0, 1, 0, 0] (bodyOf Tryz.f137)), .blk 0, .code (sub_ [1, 1, 1, 1] (bodyOf Tryz.f137))] (mkSt [(3, .c (.sl 0)), (4, .c (.v (.int .i64 x4))), (5, .c (.v (.int .i64 x5)))] [.row .own 133 (.st .s133) x3])
theorem spec_IsRing.e5 (k : Nat) (x4 : Int) (x3 : List S133) : spec_IsRing.p5 (k + 1) x4 x3 = if x4 < (x3.length : Int) then (if 0 ≤ x4 then (if x4 < (x3.length : Int) then (spec_IsSegment.ap k (⟨(⟨(rd_T133 x3 x4).f0.f0, (rd_T133 x3 x4).f0.f1⟩ : S75), (⟨(rd_T133 x3 x4).f1.f0, (rd_T133 x3 x4).f1.f1⟩ : S75)⟩ : S133) fun r1 => if (!r1) = true then (spec_IsRing.ret false) else (spec_IsRing.p10 k x4 0 x3)) else none) else none) else (spec_IsRing.ret true) := by kernel_rfl
theorem spec_IsRing.e10 (k : Nat) (x4 : Int) (x5 : Int) (x3 : List S133) : spec_IsRing.p10 (k + 1) x4 x5 x3 = if x5 < x4 then (if (wrap64 (x5 + 1)) = x4 then (if 0 ≤ x4 then (if x4 < (x3.length : Int) then (if 0 ≤ x5 then (if x5 < (x3.length : Int) then (spec_HowMeet.ap k (⟨(⟨(rd_T133 x3 x4).f0.f0, (rd_T133 x3 x4).f0.f1⟩ : S75), (⟨(rd_T133 x3 x4).f1.f0, (rd_T133 x3 x4).f1.f1⟩ : S75)⟩ : S133) (⟨(⟨(rd_T133 x3 x5).f0.f0, (rd_T133 x3 x5).f0.f1⟩ : S75), (⟨(rd_T133 x3 x5).f1.f0, (rd_T133 x3 x5).f1.f1⟩ : S75)⟩ : S133) fun r1 => if ¬ r1 = 1 then (spec_IsRing.ret false) else (spec_IsRing.p10 k x4 (wrap64 (x5 + 1)) x3)) else none) else none) else none) else none) else (if x5 = 0 then (if (wrap64 (x4 + 1)) = (x3.length : Int) then (if 0 ≤ x4 then (if x4 < (x3.length : Int) then (if 0 ≤ x5 then (if x5 < (x3.length : Int) then (spec_HowMeet.ap k (⟨(⟨(rd_T133 x3 x4).f0.f0, (rd_T133 x3 x4).f0.f1⟩ : S75), (⟨(rd_T133 x3 x4).f1.f0, (rd_T133 x3 x4).f1.f1⟩ : S75)⟩ : S133) (⟨(⟨(rd_T133 x3 x5).f0.f0, (rd_T133 x3 x5).f0.f1⟩ : S75), (⟨(rd_T133 x3 x5).f1.f0, (rd_T133 x3 x5).f1.f1⟩ : S75)⟩ : S133) fun r2 => if ¬ r2 = 1 then (spec_IsRing.ret false) else (spec_IsRing.p10 k x4 (wrap64 (x5 + 1)) x3)) else none) else none) else none) else none) else (if 0 ≤ x4 then (if x4 < (x3.length : Int) then (if 0 ≤ x5 then (if x5 < (x3.length : Int) then (spec_HowMeet.ap k (⟨(⟨(rd_T133 x3 x4).f0.f0, (rd_T133 x3 x4).f0.f1⟩ : S75), (⟨(rd_T133 x3 x4).f1.f0, (rd_T133 x3 x4).f1.f1⟩ : S75)⟩ : S133) (⟨(⟨(rd_T133 x3 x5).f0.f0, (rd_T133 x3 x5).f0.f1⟩ : S75), (⟨(rd_T133 x3 x5).f1.f0, (rd_T133 x3 x5).f1.f1⟩ : S75)⟩ : S133) fun r3 => if ¬ r3 = 0 then (spec_IsRing.ret false) else (spec_IsRing.p10 k x4 (wrap64 (x5 + 1)) x3)) else none) else none) else none) else none)) else (if 0 ≤ x4 then (if x4 < (x3.length : Int) then (if 0 ≤ x5 then (if x5 < (x3.length : Int) then (spec_HowMeet.ap k (⟨(⟨(rd_T133 x3 x4).f0.f0, (rd_T133 x3 x4).f0.f1⟩ : S75), (⟨(rd_T133 x3 x4).f1.f0, (rd_T133 x3 x4).f1.f1⟩ : S75)⟩ : S133) (⟨(⟨(rd_T133 x3 x5).f0.f0, (rd_T133 x3 x5).f0.f1⟩ : S75), (⟨(rd_T133 x3 x5).f1.f0, (rd_T133 x3 x5).f1.f1⟩ : S75)⟩ : S133) fun r4 => if ¬ r4 = 0 then (spec_IsRing.ret false) else (spec_IsRing.p10 k x4 (wrap64 (x5 + 1)) x3)) else none) else none) else none) else none))) else (spec_IsRing.p5 k (wrap64 (x4 + 1)) x3) := by kernel_rfl
def spec_IsRing.run (k : Nat) (h : HL eΓ [.l 75 (.st .s75)]) : Option (HL eΓ [.b]) := evF env spec_IsRing.Fs Tryz.f137 spec_IsRing.cut [.l 75 (.st .s75)] [.b] k h
theorem spec_IsRing.ef (k : Nat) (h0 : List S75) : spec_IsRing.run k (h0, ()) = spec_l1In.ap k (h0.length : Int) 3 10 fun r1 => if (!r1) = true then (spec_IsRing.ret false) else (spec_l7Segments.ap k h0 fun r2 => spec_IsRing.p5 k 0 r2) := by kernel_rfl
def spec_IsRing.toH (t : Bool) : HL eΓ [.b] := (t, ())
def spec_IsRing.spec : Spc env := ⟨137, [.l 75 (.st .s75)], [.b], spec_IsRing.run⟩
def spec_IsRing.ap {R : Type} (k : Nat) (h0 : List S75) (K : Bool → Option R) : Option R := (spec_IsRing.run k (h0, ())).bind fun r => K (r.1 : Bool)
theorem spec_IsRing.ap_of {R : Type} {k : Nat} {h0 : List S75} {r0 : Bool} {K : Bool → Option R} (h : spec_IsRing.run k (h0, ()) = some (r0, ())) : spec_IsRing.ap k h0 K = K r0 := by unfold spec_IsRing.ap; rw [h]; rfl
theorem spec_IsRing.snd : Snd env spec_IsRing.spec := evF_snd env_ok (sndC spec_l1In.snd (sndC spec_l7Segments.snd (sndC spec_IsSegment.snd (sndC spec_HowMeet.snd (sndN)))))
attribute [local irreducible] spec_IsRing.run
theorem spec_IsRing.rt (a0 : Bool) : spec_IsRing.ret a0 = some (spec_IsRing.toH (a0)) := rfl
theorem spec_IsRing.br (n : Nat) : (∀ K, n ≤ K → ∀ (x4 : Int) (x3 : List S133) t, spec_IsRing.l0 n x3 x4 = some t → spec_IsRing.p5 K x4 x3 = some (spec_IsRing.toH t)) ∧ (∀ K, n ≤ K → ∀ (x4 : Int) (x5 : Int) (x3 : List S133) t, spec_IsRing.l1 n x3 x4 x5 = some t → spec_IsRing.p10 K x4 x5 x3 = some (spec_IsRing.toH t)) := by
  induction n using Nat.strongRecOn with
  | _ n ih =>
  refine ⟨fun K hK x4 x3 t h => ?_, fun K hK x4 x5 x3 t h => ?_⟩
  all_goals (rcases n with _ | k)
  all_goals (try (exact nos h))
  all_goals (obtain ⟨K, rfl⟩ : ∃ q, K = q + 1 := ⟨K - 1, by omega⟩)
  all_goals (first | rw [spec_IsRing.e5] | rw [spec_IsRing.e10])
  all_goals (simp only [spec_IsRing.l0, spec_IsRing.l1] at h)
  repeat' (with_reducible first
   | exact nos h
   | (cases some_inj h; exact spec_IsRing.rt _)
   | exact (ih _ (by omega)).1 _ (by omega) _ _ _ h
   | exact (ih _ (by omega)).2 _ (by omega) _ _ _ _ h
   | ((have q : spec_IsRing.j2 k _ _ _ _ _ = some _ := h; clear q); rcases k with _ | k <;> simp only [spec_IsRing.j2, reduceCtorEq] at h)
   | (simp only [Option.bind_some] at h)
   | (refine ite_by h ?_ ?_ <;> (intro hc h; (try simp only [nrm] at hc)))
   | refine itT ?_
   | refine itF ?_
   | (refine bind_by h (fun t ht h => ?_); (first | refine (spec_l1In.ap_of (spec_l1In.go ht _)).trans ?_ | refine (spec_l7Segments.ap_of (spec_l7Segments.go ht _ (by omega))).trans ?_ | refine (spec_IsSegment.ap_of (spec_IsSegment.go ht _)).trans ?_ | refine (spec_HowMeet.ap_of (spec_HowMeet.go ht _)).trans ?_); (try dsimp only at h ⊢))
   | (simp only [nr2] at h ⊢)
   | (exfalso; omega))
theorem spec_IsRing.go {k : Nat} {l0 : List S75} {t} (h : spec_IsRing.f k l0 = some t) (K : Nat) (hK : k ≤ K) : spec_IsRing.run K (l0, ()) = some (spec_IsRing.toH t) := by
  rw [spec_IsRing.ef]
  (try dsimp only)
  unfold spec_IsRing.f at h
  repeat' (with_reducible first
   | exact nos h
   | (cases some_inj h; exact spec_IsRing.rt _)
   | exact (spec_IsRing.br _).1 _ (by omega) _ _ _ h
   | exact (spec_IsRing.br _).2 _ (by omega) _ _ _ _ h
   | ((have q : spec_IsRing.j2 k _ _ _ _ _ = some _ := h; clear q); rcases k with _ | k <;> simp only [spec_IsRing.j2, reduceCtorEq] at h)
   | (simp only [Option.bind_some] at h)
   | (refine ite_by h ?_ ?_ <;> (intro hc h; (try simp only [nrm] at hc)))
   | refine itT ?_
   | refine itF ?_
   | (refine bind_by h (fun t ht h => ?_); (first | refine (spec_l1In.ap_of (spec_l1In.go ht _)).trans ?_ | refine (spec_l7Segments.ap_of (spec_l7Segments.go ht _ (by omega))).trans ?_ | refine (spec_IsSegment.ap_of (spec_IsSegment.go ht _)).trans ?_ | refine (spec_HowMeet.ap_of (spec_HowMeet.go ht _)).trans ?_); (try dsimp only at h ⊢))
   | (simp only [nr2] at h ⊢)
   | (exfalso; omega))
def spec_IsLine.Fs : List (Spc env) := [spec_IsPoint.spec, spec_l1In.spec]
def spec_IsLine.fin : St eΓ → Option (HL eΓ [.b]) := finR env Tryz.f167.results.toList [.b]
def spec_IsLine.cut : Nat → Option (List (Lv SC)) := lk [(2, [⟨0, none, false⟩, ⟨3, none, false⟩])]
def spec_IsLine.ret (r0 : Bool) : Option (HL eΓ [.b]) := some (r0, ())
def spec_IsLine.p2 (k : Nat) (x3 : Int) (x0 : List S75) : Option (HL eΓ [.b]) := evM env spec_IsLine.Fs Tryz.f167.ntmps spec_IsLine.fin spec_IsLine.cut k [.code (sub_ [1, 0, 1, 0, 0, 0, 0] (bodyOf Tryz.f167)), .code (sub_ [1, 0, 1, 0, 0, 0, 1] (bodyOf Tryz.f167)), .code (sub_ [1, 0, 1, 0, 0, 1] (bodyOf Tryz.f167)), .lp (sub_ [1, 0, 1, 0, 0] (bodyOf Tryz.f167)), .blk 0, .code (sub_ [1, 1] (bodyOf Tryz.f167))] (mkSt [(0, .c (.sl 0)), (3, .c (.v (.int .i64 x3)))] [.row .ro 75 (.st .s75) x0])
theorem spec_IsLine.e2 (k : Nat) (x3 : Int) (x0 : List S75) : spec_IsLine.p2 (k + 1) x3 x0 = if x3 < (x0.length : Int) then (if 0 ≤ x3 then (if x3 < (x0.length : Int) then (spec_IsPoint.ap k (⟨(rd_T75 x0 x3).f0, (rd_T75 x0 x3).f1⟩ : S75) fun r1 => if (!r1) = true then (spec_IsLine.ret false) else (if x3 > 0 then (if 0 ≤ (wrap64 (x3 - 1)) then (if (wrap64 (x3 - 1)) < (x0.length : Int) then (if 0 ≤ x3 then (if x3 < (x0.length : Int) then (if ((rd_T75 x0 (wrap64 (x3 - 1))).f0) = ((rd_T75 x0 x3).f0) ∧ (((rd_T75 x0 (wrap64 (x3 - 1))).f1) = ((rd_T75 x0 x3).f1) ∧ True) then (spec_IsLine.ret false) else (spec_IsLine.p2 k (wrap64 (x3 + 1)) x0)) else none) else none) else none) else none) else (spec_IsLine.p2 k (wrap64 (x3 + 1)) x0))) else none) else none) else (spec_l1In.ap k (x0.length : Int) 2 10 fun r2 => spec_IsLine.ret r2) := by kernel_rfl
def spec_IsLine.run (k : Nat) (h : HL eΓ [.l 75 (.st .s75)]) : Option (HL eΓ [.b]) := evF env spec_IsLine.Fs Tryz.f167 spec_IsLine.cut [.l 75 (.st .s75)] [.b] k h
theorem spec_IsLine.ef (k : Nat) (h0 : List S75) : spec_IsLine.run k (h0, ()) = spec_IsLine.p2 k 0 h0 := by kernel_rfl
def spec_IsLine.toH (t : Bool) : HL eΓ [.b] := (t, ())
def spec_IsLine.spec : Spc env := ⟨167, [.l 75 (.st .s75)], [.b], spec_IsLine.run⟩
def spec_IsLine.ap {R : Type} (k : Nat) (h0 : List S75) (K : Bool → Option R) : Option R := (spec_IsLine.run k (h0, ())).bind fun r => K (r.1 : Bool)
theorem spec_IsLine.ap_of {R : Type} {k : Nat} {h0 : List S75} {r0 : Bool} {K : Bool → Option R} (h : spec_IsLine.run k (h0, ()) = some (r0, ())) : spec_IsLine.ap k h0 K = K r0 := by unfold spec_IsLine.ap; rw [h]; rfl
theorem spec_IsLine.snd : Snd env spec_IsLine.spec := evF_snd env_ok (sndC spec_IsPoint.snd (sndC spec_l1In.snd (sndN)))
attribute [local irreducible] spec_IsLine.run
theorem spec_IsLine.rt (a0 : Bool) : spec_IsLine.ret a0 = some (spec_IsLine.toH (a0)) := rfl
theorem spec_IsLine.br (n : Nat) : (∀ K, n ≤ K → ∀ (x3 : Int) (x0 : List S75) t, spec_IsLine.l0 n x0 x3 = some t → spec_IsLine.p2 K x3 x0 = some (spec_IsLine.toH t)) := by
  induction n using Nat.strongRecOn with
  | _ n ih =>
  intro K hK x3 x0 t h
  all_goals (rcases n with _ | k)
  all_goals (try (exact nos h))
  all_goals (obtain ⟨K, rfl⟩ : ∃ q, K = q + 1 := ⟨K - 1, by omega⟩)
  all_goals (first | rw [spec_IsLine.e2])
  all_goals (simp only [spec_IsLine.l0] at h)
  repeat' (with_reducible first
   | exact nos h
   | (cases some_inj h; exact spec_IsLine.rt _)
   | exact (ih _ (by omega)) _ (by omega) _ _ _ h
   | (simp only [Option.bind_some] at h)
   | (refine ite_by h ?_ ?_ <;> (intro hc h; (try simp only [nrm] at hc)))
   | refine itT ?_
   | refine itF ?_
   | (refine bind_by h (fun t ht h => ?_); (first | refine (spec_IsPoint.ap_of (spec_IsPoint.go ht _)).trans ?_ | refine (spec_l1In.ap_of (spec_l1In.go ht _)).trans ?_); (try dsimp only at h ⊢))
   | (simp only [nr2] at h ⊢)
   | (exfalso; omega))
theorem spec_IsLine.go {k : Nat} {l0 : List S75} {t} (h : spec_IsLine.f k l0 = some t) (K : Nat) (hK : k ≤ K) : spec_IsLine.run K (l0, ()) = some (spec_IsLine.toH t) := by
  rw [spec_IsLine.ef]
  (try dsimp only)
  unfold spec_IsLine.f at h
  repeat' (with_reducible first
   | exact nos h
   | (cases some_inj h; exact spec_IsLine.rt _)
   | exact (spec_IsLine.br _) _ (by omega) _ _ _ h
   | (simp only [Option.bind_some] at h)
   | (refine ite_by h ?_ ?_ <;> (intro hc h; (try simp only [nrm] at hc)))
   | refine itT ?_
   | refine itF ?_
   | (refine bind_by h (fun t ht h => ?_); (first | refine (spec_IsPoint.ap_of (spec_IsPoint.go ht _)).trans ?_ | refine (spec_l1In.ap_of (spec_l1In.go ht _)).trans ?_); (try dsimp only at h ⊢))
   | (simp only [nr2] at h ⊢)
   | (exfalso; omega))
def spec_SegmentsOf.Fs : List (Spc env) := [spec_IsLine.spec]
def spec_SegmentsOf.fin : St eΓ → Option (HL eΓ [.l 133 (.st .s133)]) := finR env Tryz.f120.results.toList [.l 133 (.st .s133)]
def spec_SegmentsOf.cut : Nat → Option (List (Lv SC)) := lk [(3, [⟨0, none, false⟩, ⟨3, none, false⟩, ⟨4, none, false⟩])]
def spec_SegmentsOf.ret (r0 : List S133) : Option (HL eΓ [.l 133 (.st .s133)]) := some (r0, ())
def spec_SegmentsOf.p3 (k : Nat) (x4 : Int) (x0 : List S75) (x3 : List S133) : Option (HL eΓ [.l 133 (.st .s133)]) := evM env spec_SegmentsOf.Fs Tryz.f120.ntmps spec_SegmentsOf.fin spec_SegmentsOf.cut k [.code (sub_ [1, 1, 0, 1, 0, 0, 0, 0] (bodyOf Tryz.f120)), .code (sub_ [1, 1, 0, 1, 0, 0, 0, 1] (bodyOf Tryz.f120)), .code (sub_ [1, 1, 0, 1, 0, 0, 1] (bodyOf Tryz.f120)), .lp (sub_ [1, 1, 0, 1, 0, 0] (bodyOf Tryz.f120)), .blk 0, .code (sub_ [1, 1, 1] (bodyOf Tryz.f120))] (mkSt [(0, .c (.sl 0)), (3, .c (.sl 1)), (4, .c (.v (.int .i64 x4)))] [.row .ro 75 (.st .s75) x0, .row .own 133 (.st .s133) x3])
theorem spec_SegmentsOf.e3 (k : Nat) (x4 : Int) (x0 : List S75) (x3 : List S133) : spec_SegmentsOf.p3 (k + 1) x4 x0 x3 = if x4 < (x0.length : Int) then (spec_IsLine.ap k x0 fun r1 => if r1 = true then (if 0 ≤ (wrap64 (x4 - 1)) then (if (wrap64 (x4 - 1)) < (x0.length : Int) then (if 0 ≤ x4 then (if x4 < (x0.length : Int) then (if (x3.length + 1) * 32 ≤ 140737488355328 then (spec_SegmentsOf.p3 k (wrap64 (x4 + 1)) x0 (x3 ++ [(⟨(⟨(rd_T75 x0 (wrap64 (x4 - 1))).f0, (rd_T75 x0 (wrap64 (x4 - 1))).f1⟩ : S75), (⟨(rd_T75 x0 x4).f0, (rd_T75 x0 x4).f1⟩ : S75)⟩ : S133)])) else none) else none) else none) else none) else none) else (spec_SegmentsOf.ret x3)) else (spec_SegmentsOf.ret x3) := by kernel_rfl
def spec_SegmentsOf.run (k : Nat) (h : HL eΓ [.l 75 (.st .s75)]) : Option (HL eΓ [.l 133 (.st .s133)]) := evF env spec_SegmentsOf.Fs Tryz.f120 spec_SegmentsOf.cut [.l 75 (.st .s75)] [.l 133 (.st .s133)] k h
theorem spec_SegmentsOf.ef (k : Nat) (h0 : List S75) : spec_SegmentsOf.run k (h0, ()) = spec_SegmentsOf.p3 k 1 h0 ([] : List S133) := by kernel_rfl
def spec_SegmentsOf.toH (t : (List (S133))) : HL eΓ [.l 133 (.st .s133)] := (t, ())
def spec_SegmentsOf.spec : Spc env := ⟨120, [.l 75 (.st .s75)], [.l 133 (.st .s133)], spec_SegmentsOf.run⟩
def spec_SegmentsOf.ap {R : Type} (k : Nat) (h0 : List S75) (K : (List S133) → Option R) : Option R := (spec_SegmentsOf.run k (h0, ())).bind fun r => K (r.1 : List S133)
theorem spec_SegmentsOf.ap_of {R : Type} {k : Nat} {h0 : List S75} {r0 : List S133} {K : (List S133) → Option R} (h : spec_SegmentsOf.run k (h0, ()) = some (r0, ())) : spec_SegmentsOf.ap k h0 K = K r0 := by unfold spec_SegmentsOf.ap; rw [h]; rfl
theorem spec_SegmentsOf.snd : Snd env spec_SegmentsOf.spec := evF_snd env_ok (sndC spec_IsLine.snd (sndN))
attribute [local irreducible] spec_SegmentsOf.run
theorem spec_SegmentsOf.rt (a0 : List S133) : spec_SegmentsOf.ret a0 = some (spec_SegmentsOf.toH (a0)) := rfl
theorem spec_SegmentsOf.br (n : Nat) : (∀ K, n ≤ K → ∀ (x4 : Int) (x0 : List S75) (x3 : List S133) t, spec_SegmentsOf.l0 n x0 x3 x4 = some t → spec_SegmentsOf.p3 K x4 x0 x3 = some (spec_SegmentsOf.toH t)) := by
  induction n using Nat.strongRecOn with
  | _ n ih =>
  intro K hK x4 x0 x3 t h
  all_goals (rcases n with _ | k)
  all_goals (try (exact nos h))
  all_goals (obtain ⟨K, rfl⟩ : ∃ q, K = q + 1 := ⟨K - 1, by omega⟩)
  all_goals (first | rw [spec_SegmentsOf.e3])
  all_goals (simp only [spec_SegmentsOf.l0] at h)
  repeat' (with_reducible first
   | exact nos h
   | (cases some_inj h; exact spec_SegmentsOf.rt _)
   | exact (ih _ (by omega)) _ (by omega) _ _ _ _ h
   | (simp only [Option.bind_some] at h)
   | (refine ite_by h ?_ ?_ <;> (intro hc h; (try simp only [nrm] at hc)))
   | refine itT ?_
   | refine itF ?_
   | (refine bind_by h (fun t ht h => ?_); refine (spec_IsLine.ap_of (spec_IsLine.go ht _ (by omega))).trans ?_; (try dsimp only at h ⊢))
   | (simp only [nr2] at h ⊢)
   | (exfalso; omega))
theorem spec_SegmentsOf.go {k : Nat} {l0 : List S75} {t} (h : spec_SegmentsOf.f k l0 = some t) (K : Nat) (hK : k ≤ K) : spec_SegmentsOf.run K (l0, ()) = some (spec_SegmentsOf.toH t) := by
  rw [spec_SegmentsOf.ef]
  (try dsimp only)
  unfold spec_SegmentsOf.f at h
  repeat' (with_reducible first
   | exact nos h
   | (cases some_inj h; exact spec_SegmentsOf.rt _)
   | exact (spec_SegmentsOf.br _) _ (by omega) _ _ _ _ h
   | (simp only [Option.bind_some] at h)
   | (refine ite_by h ?_ ?_ <;> (intro hc h; (try simp only [nrm] at hc)))
   | refine itT ?_
   | refine itF ?_
   | (refine bind_by h (fun t ht h => ?_); refine (spec_IsLine.ap_of (spec_IsLine.go ht _ (by omega))).trans ?_; (try dsimp only at h ⊢))
   | (simp only [nr2] at h ⊢)
   | (exfalso; omega))
def spec_IsSimple.Fs : List (Spc env) := [spec_SegmentsOf.spec, spec_IsLine.spec, spec_HowMeet.spec]
def spec_IsSimple.fin : St eΓ → Option (HL eΓ [.b]) := finR env Tryz.f150.results.toList [.b]
def spec_IsSimple.cut : Nat → Option (List (Lv SC)) := lk [(3, [⟨0, none, false⟩, ⟨3, none, false⟩, ⟨4, none, false⟩]), (6, [⟨0, none, false⟩, ⟨3, none, false⟩, ⟨4, none, false⟩, ⟨5, none, false⟩])]
def spec_IsSimple.ret (r0 : Bool) : Option (HL eΓ [.b]) := some (r0, ())
def spec_IsSimple.p3 (k : Nat) (x4 : Int) (x0 : List S75) (x3 : List S133) : Option (HL eΓ [.b]) := evM env spec_IsSimple.Fs Tryz.f150.ntmps spec_IsSimple.fin spec_IsSimple.cut k [.code (sub_ [1, 1, 0, 1, 0, 0, 0, 0] (bodyOf Tryz.f150)), .code (sub_ [1, 1, 0, 1, 0, 0, 0, 1] (bodyOf Tryz.f150)), .code (sub_ [1, 1, 0, 1, 0, 0, 1] (bodyOf Tryz.f150)), .lp (sub_ [1, 1, 0, 1, 0, 0] (bodyOf Tryz.f150)), .blk 0, .code (sub_ [1, 1, 1] (bodyOf Tryz.f150))] (mkSt [(0, .c (.sl 0)), (3, .c (.sl 1)), (4, .c (.v (.int .i64 x4)))] [.row .ro 75 (.st .s75) x0, .row .own 133 (.st .s133) x3])
def spec_IsSimple.p6 (k : Nat) (x4 : Int) (x5 : Int) (x0 : List S75) (x3 : List S133) : Option (HL eΓ [.b]) := evM env spec_IsSimple.Fs Tryz.f150.ntmps spec_IsSimple.fin spec_IsSimple.cut k [.code (sub_ [1, 1, 0, 1, 0, 0, 1, 0, 0, 1, 0, 0, 0, 0] (bodyOf Tryz.f150)), .code (sub_ [1, 1, 0, 1, 0, 0, 1, 0, 0, 1, 0, 0, 0, 1] (bodyOf Tryz.f150)), .code (sub_ [1, 1, 0, 1, 0, 0, 1, 0, 0, 1, 0, 0, 1] (bodyOf Tryz.f150)), .lp (sub_ [1, 1, 0, 1, 0, 0, 1, 0, 0, 1, 0, 0] (bodyOf Tryz.f150)), .blk 2, .blk 1, .code (sub_ [1, 1, 0, 1, 0, 0, 1, 1] (bodyOf Tryz.f150)), .lp (sub_ [1, 1, 0, 1, 0, 0] (bodyOf Tryz.f150)), .blk 0, .code (sub_ [1, 1, 1] (bodyOf Tryz.f150))] (mkSt [(0, .c (.sl 0)), (3, .c (.sl 1)), (4, .c (.v (.int .i64 x4))), (5, .c (.v (.int .i64 x5)))] [.row .ro 75 (.st .s75) x0, .row .own 133 (.st .s133) x3])
theorem spec_IsSimple.e3 (k : Nat) (x4 : Int) (x0 : List S75) (x3 : List S133) : spec_IsSimple.p3 (k + 1) x4 x0 x3 = if x4 < (x3.length : Int) then (spec_IsSimple.p6 k x4 0 x0 x3) else (spec_IsLine.ap k x0 fun r1 => spec_IsSimple.ret r1) := by kernel_rfl
theorem spec_IsSimple.e6 (k : Nat) (x4 : Int) (x5 : Int) (x0 : List S75) (x3 : List S133) : spec_IsSimple.p6 (k + 1) x4 x5 x0 x3 = if x5 < x4 then (if (wrap64 (x5 + 1)) = x4 then (if 0 ≤ x4 then (if x4 < (x3.length : Int) then (if 0 ≤ x5 then (if x5 < (x3.length : Int) then (spec_HowMeet.ap k (⟨(⟨(rd_T133 x3 x4).f0.f0, (rd_T133 x3 x4).f0.f1⟩ : S75), (⟨(rd_T133 x3 x4).f1.f0, (rd_T133 x3 x4).f1.f1⟩ : S75)⟩ : S133) (⟨(⟨(rd_T133 x3 x5).f0.f0, (rd_T133 x3 x5).f0.f1⟩ : S75), (⟨(rd_T133 x3 x5).f1.f0, (rd_T133 x3 x5).f1.f1⟩ : S75)⟩ : S133) fun r1 => if ¬ r1 = 1 then (spec_IsSimple.ret false) else (spec_IsSimple.p6 k x4 (wrap64 (x5 + 1)) x0 x3)) else none) else none) else none) else none) else (if 0 ≤ x4 then (if x4 < (x3.length : Int) then (if 0 ≤ x5 then (if x5 < (x3.length : Int) then (spec_HowMeet.ap k (⟨(⟨(rd_T133 x3 x4).f0.f0, (rd_T133 x3 x4).f0.f1⟩ : S75), (⟨(rd_T133 x3 x4).f1.f0, (rd_T133 x3 x4).f1.f1⟩ : S75)⟩ : S133) (⟨(⟨(rd_T133 x3 x5).f0.f0, (rd_T133 x3 x5).f0.f1⟩ : S75), (⟨(rd_T133 x3 x5).f1.f0, (rd_T133 x3 x5).f1.f1⟩ : S75)⟩ : S133) fun r2 => if ¬ r2 = 0 then (spec_IsSimple.ret false) else (spec_IsSimple.p6 k x4 (wrap64 (x5 + 1)) x0 x3)) else none) else none) else none) else none)) else (spec_IsSimple.p3 k (wrap64 (x4 + 1)) x0 x3) := by kernel_rfl
def spec_IsSimple.run (k : Nat) (h : HL eΓ [.l 75 (.st .s75)]) : Option (HL eΓ [.b]) := evF env spec_IsSimple.Fs Tryz.f150 spec_IsSimple.cut [.l 75 (.st .s75)] [.b] k h
theorem spec_IsSimple.ef (k : Nat) (h0 : List S75) : spec_IsSimple.run k (h0, ()) = spec_SegmentsOf.ap k h0 fun r1 => spec_IsSimple.p3 k 0 h0 r1 := by kernel_rfl
def spec_IsSimple.toH (t : Bool) : HL eΓ [.b] := (t, ())
def spec_IsSimple.spec : Spc env := ⟨150, [.l 75 (.st .s75)], [.b], spec_IsSimple.run⟩
def spec_IsSimple.ap {R : Type} (k : Nat) (h0 : List S75) (K : Bool → Option R) : Option R := (spec_IsSimple.run k (h0, ())).bind fun r => K (r.1 : Bool)
theorem spec_IsSimple.ap_of {R : Type} {k : Nat} {h0 : List S75} {r0 : Bool} {K : Bool → Option R} (h : spec_IsSimple.run k (h0, ()) = some (r0, ())) : spec_IsSimple.ap k h0 K = K r0 := by unfold spec_IsSimple.ap; rw [h]; rfl
theorem spec_IsSimple.snd : Snd env spec_IsSimple.spec := evF_snd env_ok (sndC spec_SegmentsOf.snd (sndC spec_IsLine.snd (sndC spec_HowMeet.snd (sndN))))
attribute [local irreducible] spec_IsSimple.run
theorem spec_IsSimple.rt (a0 : Bool) : spec_IsSimple.ret a0 = some (spec_IsSimple.toH (a0)) := rfl
theorem spec_IsSimple.br (n : Nat) : (∀ K, n ≤ K → ∀ (x4 : Int) (x0 : List S75) (x3 : List S133) t, spec_IsSimple.l0 n x0 x3 x4 = some t → spec_IsSimple.p3 K x4 x0 x3 = some (spec_IsSimple.toH t)) ∧ (∀ K, n ≤ K → ∀ (x4 : Int) (x5 : Int) (x0 : List S75) (x3 : List S133) t, spec_IsSimple.l1 n x0 x3 x4 x5 = some t → spec_IsSimple.p6 K x4 x5 x0 x3 = some (spec_IsSimple.toH t)) := by
  induction n using Nat.strongRecOn with
  | _ n ih =>
  refine ⟨fun K hK x4 x0 x3 t h => ?_, fun K hK x4 x5 x0 x3 t h => ?_⟩
  all_goals (rcases n with _ | k)
  all_goals (try (exact nos h))
  all_goals (obtain ⟨K, rfl⟩ : ∃ q, K = q + 1 := ⟨K - 1, by omega⟩)
  all_goals (first | rw [spec_IsSimple.e3] | rw [spec_IsSimple.e6])
  all_goals (simp only [spec_IsSimple.l0, spec_IsSimple.l1] at h)
  repeat' (with_reducible first
   | exact nos h
   | (cases some_inj h; exact spec_IsSimple.rt _)
   | exact (ih _ (by omega)).1 _ (by omega) _ _ _ _ h
   | exact (ih _ (by omega)).2 _ (by omega) _ _ _ _ _ h
   | (simp only [Option.bind_some] at h)
   | (refine ite_by h ?_ ?_ <;> (intro hc h; (try simp only [nrm] at hc)))
   | refine itT ?_
   | refine itF ?_
   | (refine bind_by h (fun t ht h => ?_); (first | refine (spec_SegmentsOf.ap_of (spec_SegmentsOf.go ht _ (by omega))).trans ?_ | refine (spec_IsLine.ap_of (spec_IsLine.go ht _ (by omega))).trans ?_ | refine (spec_HowMeet.ap_of (spec_HowMeet.go ht _)).trans ?_); (try dsimp only at h ⊢))
   | (simp only [nr2] at h ⊢)
   | (exfalso; omega))
theorem spec_IsSimple.go {k : Nat} {l0 : List S75} {t} (h : spec_IsSimple.f k l0 = some t) (K : Nat) (hK : k ≤ K) : spec_IsSimple.run K (l0, ()) = some (spec_IsSimple.toH t) := by
  rw [spec_IsSimple.ef]
  (try dsimp only)
  unfold spec_IsSimple.f at h
  repeat' (with_reducible first
   | exact nos h
   | (cases some_inj h; exact spec_IsSimple.rt _)
   | exact (spec_IsSimple.br _).1 _ (by omega) _ _ _ _ h
   | exact (spec_IsSimple.br _).2 _ (by omega) _ _ _ _ _ h
   | (simp only [Option.bind_some] at h)
   | (refine ite_by h ?_ ?_ <;> (intro hc h; (try simp only [nrm] at hc)))
   | refine itT ?_
   | refine itF ?_
   | (refine bind_by h (fun t ht h => ?_); (first | refine (spec_SegmentsOf.ap_of (spec_SegmentsOf.go ht _ (by omega))).trans ?_ | refine (spec_IsLine.ap_of (spec_IsLine.go ht _ (by omega))).trans ?_ | refine (spec_HowMeet.ap_of (spec_HowMeet.go ht _)).trans ?_); (try dsimp only at h ⊢))
   | (simp only [nr2] at h ⊢)
   | (exfalso; omega))
def spec_IsFeature.Fs : List (Spc env) := [spec_l1In.spec, spec_IsName.spec, spec_IsPoint.spec, spec_IsSimple.spec, spec_IsRing.spec]
def spec_IsFeature.cut : Nat → Option (List (Lv SC)) := lk []
def spec_IsFeature.ret (r0 : Bool) : Option (HL eΓ [.b]) := some (r0, ())
def spec_IsFeature.run (k : Nat) (h : HL eΓ [.st .s59]) : Option (HL eΓ [.b]) := evF env spec_IsFeature.Fs Tryz.f110 spec_IsFeature.cut [.st .s59] [.b] k h
theorem spec_IsFeature.ef (k : Nat) (h0 : S59) : spec_IsFeature.run k (h0, ()) = spec_l1In.ap k h0.f0 1 99 fun r1 => if (!r1) = true then (spec_IsFeature.ret false) else (spec_l1In.ap k h0.f2 0 9 fun r2 => if (!r2) = true then (spec_IsFeature.ret false) else (if ¬ h0.f3.toList = [] then (spec_IsName.ap k h0.f3 fun r3 => if (!r3) = true then (spec_IsFeature.ret false) else (if h0.f1 = 1 then (if (h0.f4.length : Int) = 1 then (if 0 < (h0.f4.length : Int) then (spec_IsPoint.ap k (⟨(rd_T75 h0.f4 0).f0, (rd_T75 h0.f4 0).f1⟩ : S75) fun r4 => spec_IsFeature.ret r4) else none) else (spec_IsFeature.ret false)) else (if h0.f1 = 2 then (spec_IsSimple.ap k h0.f4 fun r5 => spec_IsFeature.ret r5) else (if h0.f1 = 3 then (spec_IsRing.ap k h0.f4 fun r6 => spec_IsFeature.ret r6) else (spec_IsFeature.ret false))))) else (if h0.f1 = 1 then (if (h0.f4.length : Int) = 1 then (if 0 < (h0.f4.length : Int) then (spec_IsPoint.ap k (⟨(rd_T75 h0.f4 0).f0, (rd_T75 h0.f4 0).f1⟩ : S75) fun r7 => spec_IsFeature.ret r7) else none) else (spec_IsFeature.ret false)) else (if h0.f1 = 2 then (spec_IsSimple.ap k h0.f4 fun r8 => spec_IsFeature.ret r8) else (if h0.f1 = 3 then (spec_IsRing.ap k h0.f4 fun r9 => spec_IsFeature.ret r9) else (spec_IsFeature.ret false)))))) := by kernel_rfl
def spec_IsFeature.toH (t : Bool) : HL eΓ [.b] := (t, ())
def spec_IsFeature.spec : Spc env := ⟨110, [.st .s59], [.b], spec_IsFeature.run⟩
def spec_IsFeature.ap {R : Type} (k : Nat) (h0 : S59) (K : Bool → Option R) : Option R := (spec_IsFeature.run k (h0, ())).bind fun r => K (r.1 : Bool)
theorem spec_IsFeature.ap_of {R : Type} {k : Nat} {h0 : S59} {r0 : Bool} {K : Bool → Option R} (h : spec_IsFeature.run k (h0, ()) = some (r0, ())) : spec_IsFeature.ap k h0 K = K r0 := by unfold spec_IsFeature.ap; rw [h]; rfl
theorem spec_IsFeature.snd : Snd env spec_IsFeature.spec := evF_snd env_ok (sndC spec_l1In.snd (sndC spec_IsName.snd (sndC spec_IsPoint.snd (sndC spec_IsSimple.snd (sndC spec_IsRing.snd (sndN))))))
attribute [local irreducible] spec_IsFeature.run
theorem spec_IsFeature.rt (a0 : Bool) : spec_IsFeature.ret a0 = some (spec_IsFeature.toH (a0)) := rfl
theorem spec_IsFeature.go {k : Nat} {a0_0 : Int} {a0_1 : Int} {a0_2 : Int} {a0_3 : ByteArray} {l0_4 : List S75} {t} (h : spec_IsFeature.f k a0_0 a0_1 a0_2 a0_3 l0_4 = some t) (K : Nat) (hK : k ≤ K) : spec_IsFeature.run K ((⟨a0_0, a0_1, a0_2, a0_3, l0_4⟩ : S59), ()) = some (spec_IsFeature.toH t) := by
  rw [spec_IsFeature.ef]
  (try dsimp only)
  unfold spec_IsFeature.f at h
  repeat' (with_reducible first
   | exact nos h
   | (cases some_inj h; exact spec_IsFeature.rt _)
   | ((have q : spec_IsFeature.j0 k _ _ _ _ _ _ = some _ := h; clear q); rcases k with _ | k <;> simp only [spec_IsFeature.j0, reduceCtorEq] at h)
   | (simp only [Option.bind_some] at h)
   | (refine ite_by h ?_ ?_ <;> (intro hc h; (try simp only [nrm] at hc)))
   | refine itT ?_
   | refine itF ?_
   | (refine bind_by h (fun t ht h => ?_); (first | refine (spec_l1In.ap_of (spec_l1In.go ht _)).trans ?_ | refine (spec_IsName.ap_of (spec_IsName.go ht _ (by omega))).trans ?_ | refine (spec_IsPoint.ap_of (spec_IsPoint.go ht _)).trans ?_ | refine (spec_IsSimple.ap_of (spec_IsSimple.go ht _ (by omega))).trans ?_ | refine (spec_IsRing.ap_of (spec_IsRing.go ht _ (by omega))).trans ?_); (try dsimp only at h ⊢))
   | (simp only [nr2] at h ⊢)
   | (exfalso; omega))
def spec_IsSource.Fs : List (Spc env) := [spec_IsFeature.spec]
def spec_IsSource.fin : St eΓ → Option (HL eΓ [.b]) := finR env Tryz.f61.results.toList [.b]
def spec_IsSource.cut : Nat → Option (List (Lv SC)) := lk [(2, [⟨0, none, false⟩, ⟨3, none, false⟩])]
def spec_IsSource.ret (r0 : Bool) : Option (HL eΓ [.b]) := some (r0, ())
def spec_IsSource.p2 (k : Nat) (x3 : Int) (x0 : List S59) : Option (HL eΓ [.b]) := evM env spec_IsSource.Fs Tryz.f61.ntmps spec_IsSource.fin spec_IsSource.cut k [.code (sub_ [1, 0, 1, 0, 0, 0, 0] (bodyOf Tryz.f61)), .code (sub_ [1, 0, 1, 0, 0, 0, 1] (bodyOf Tryz.f61)), .code (sub_ [1, 0, 1, 0, 0, 1] (bodyOf Tryz.f61)), .lp (sub_ [1, 0, 1, 0, 0] (bodyOf Tryz.f61)), .blk 0, .code (sub_ [1, 1] (bodyOf Tryz.f61))] (mkSt [(0, .c (.sl 0)), (3, .c (.v (.int .i64 x3)))] [.row .ro 59 (.st .s59) x0])
theorem spec_IsSource.e2 (k : Nat) (x3 : Int) (x0 : List S59) : spec_IsSource.p2 (k + 1) x3 x0 = if x3 < (x0.length : Int) then (if 0 ≤ x3 then (if x3 < (x0.length : Int) then (spec_IsFeature.ap k (⟨(rd_T59 x0 x3).f0, (rd_T59 x0 x3).f1, (rd_T59 x0 x3).f2, (rd_T59 x0 x3).f3, (rd_T59 x0 x3).f4⟩ : S59) fun r1 => if (!r1) = true then (spec_IsSource.ret false) else (if x3 > 0 then (if 0 ≤ (wrap64 (x3 - 1)) then (if (wrap64 (x3 - 1)) < (x0.length : Int) then (if 0 ≤ x3 then (if x3 < (x0.length : Int) then (if ((rd_T59 x0 (wrap64 (x3 - 1))).f0) ≥ ((rd_T59 x0 x3).f0) then (spec_IsSource.ret false) else (spec_IsSource.p2 k (wrap64 (x3 + 1)) x0)) else none) else none) else none) else none) else (spec_IsSource.p2 k (wrap64 (x3 + 1)) x0))) else none) else none) else (spec_IsSource.ret (decide ((x0.length : Int) ≤ 16))) := by kernel_rfl
def spec_IsSource.run (k : Nat) (h : HL eΓ [.l 59 (.st .s59)]) : Option (HL eΓ [.b]) := evF env spec_IsSource.Fs Tryz.f61 spec_IsSource.cut [.l 59 (.st .s59)] [.b] k h
theorem spec_IsSource.ef (k : Nat) (h0 : List S59) : spec_IsSource.run k (h0, ()) = spec_IsSource.p2 k 0 h0 := by kernel_rfl
def spec_IsSource.toH (t : Bool) : HL eΓ [.b] := (t, ())
def spec_IsSource.spec : Spc env := ⟨61, [.l 59 (.st .s59)], [.b], spec_IsSource.run⟩
def spec_IsSource.ap {R : Type} (k : Nat) (h0 : List S59) (K : Bool → Option R) : Option R := (spec_IsSource.run k (h0, ())).bind fun r => K (r.1 : Bool)
theorem spec_IsSource.ap_of {R : Type} {k : Nat} {h0 : List S59} {r0 : Bool} {K : Bool → Option R} (h : spec_IsSource.run k (h0, ()) = some (r0, ())) : spec_IsSource.ap k h0 K = K r0 := by unfold spec_IsSource.ap; rw [h]; rfl
theorem spec_IsSource.snd : Snd env spec_IsSource.spec := evF_snd env_ok (sndC spec_IsFeature.snd (sndN))
attribute [local irreducible] spec_IsSource.run
theorem spec_IsSource.rt (a0 : Bool) : spec_IsSource.ret a0 = some (spec_IsSource.toH (a0)) := rfl
theorem spec_IsSource.br (n : Nat) : (∀ K, n ≤ K → ∀ (x3 : Int) (x0 : List S59) t, spec_IsSource.l0 n x0 x3 = some t → spec_IsSource.p2 K x3 x0 = some (spec_IsSource.toH t)) := by
  induction n using Nat.strongRecOn with
  | _ n ih =>
  intro K hK x3 x0 t h
  all_goals (rcases n with _ | k)
  all_goals (try (exact nos h))
  all_goals (obtain ⟨K, rfl⟩ : ∃ q, K = q + 1 := ⟨K - 1, by omega⟩)
  all_goals (first | rw [spec_IsSource.e2])
  all_goals (simp only [spec_IsSource.l0] at h)
  repeat' (with_reducible first
   | exact nos h
   | (cases some_inj h; exact spec_IsSource.rt _)
   | exact (ih _ (by omega)) _ (by omega) _ _ _ h
   | (simp only [Option.bind_some] at h)
   | (refine ite_by h ?_ ?_ <;> (intro hc h; (try simp only [nrm] at hc)))
   | refine itT ?_
   | refine itF ?_
   | (refine bind_by h (fun t ht h => ?_); refine (spec_IsFeature.ap_of (spec_IsFeature.go ht _ (by omega))).trans ?_; (try dsimp only at h ⊢))
   | (simp only [nr2] at h ⊢)
   | (exfalso; omega))
theorem spec_IsSource.go {k : Nat} {l0 : List S59} {t} (h : spec_IsSource.f k l0 = some t) (K : Nat) (hK : k ≤ K) : spec_IsSource.run K (l0, ()) = some (spec_IsSource.toH t) := by
  rw [spec_IsSource.ef]
  (try dsimp only)
  unfold spec_IsSource.f at h
  repeat' (with_reducible first
   | exact nos h
   | (cases some_inj h; exact spec_IsSource.rt _)
   | exact (spec_IsSource.br _) _ (by omega) _ _ _ h
   | (simp only [Option.bind_some] at h)
   | (refine ite_by h ?_ ?_ <;> (intro hc h; (try simp only [nrm] at hc)))
   | refine itT ?_
   | refine itF ?_
   | (refine bind_by h (fun t ht h => ?_); refine (spec_IsFeature.ap_of (spec_IsFeature.go ht _ (by omega))).trans ?_; (try dsimp only at h ⊢))
   | (simp only [nr2] at h ⊢)
   | (exfalso; omega))
def spec_TileBox.Fs : List (Spc env) := [spec_l1In.spec, spec_Min.spec]
def spec_TileBox.cut : Nat → Option (List (Lv SC)) := lk []
def spec_TileBox.ret (r0 : S80) (r1 : Bool) : Option (HL eΓ [.st .s80, .b]) := some (r0, r1, ())
def spec_TileBox.run (k : Nat) (h : HL eΓ [.i .i64]) : Option (HL eΓ [.st .s80, .b]) := evF env spec_TileBox.Fs Tryz.f73 spec_TileBox.cut [.i .i64] [.st .s80, .b] k h
theorem spec_TileBox.ef (k : Nat) (h0 : Int) : spec_TileBox.run k (h0, ()) = spec_l1In.ap k h0 0 440 fun r1 => if (!r1) = true then (spec_TileBox.ret (⟨(⟨0, 0⟩ : S75), (⟨0, 0⟩ : S75)⟩ : S80) false) else (spec_Min.ap k 200 (wrap64 ((wrap64 ((Int.tmod h0 21) * 10)) + 10)) fun r2 => spec_Min.ap k 200 (wrap64 ((wrap64 ((wrap64 (tq h0 21)) * 10)) + 10)) fun r3 => spec_TileBox.ret (⟨(⟨wrap64 ((Int.tmod h0 21) * 10), wrap64 ((wrap64 (tq h0 21)) * 10)⟩ : S75), (⟨r2, r3⟩ : S75)⟩ : S80) true) := by kernel_rfl
def spec_TileBox.toH (t : Int × Int × Int × Int × Bool) : HL eΓ [.st .s80, .b] := ((⟨(⟨t.1, t.2.1⟩ : S75), (⟨t.2.2.1, t.2.2.2.1⟩ : S75)⟩ : S80), t.2.2.2.2, ())
def spec_TileBox.spec : Spc env := ⟨73, [.i .i64], [.st .s80, .b], spec_TileBox.run⟩
def spec_TileBox.ap {R : Type} (k : Nat) (h0 : Int) (K : S80 → Bool → Option R) : Option R := (spec_TileBox.run k (h0, ())).bind fun r => K (r.1 : S80) (r.2.1 : Bool)
theorem spec_TileBox.ap_of {R : Type} {k : Nat} {h0 : Int} {r0 : S80} {r1 : Bool} {K : S80 → Bool → Option R} (h : spec_TileBox.run k (h0, ()) = some (r0, r1, ())) : spec_TileBox.ap k h0 K = K r0 r1 := by unfold spec_TileBox.ap; rw [h]; rfl
theorem spec_TileBox.snd : Snd env spec_TileBox.spec := evF_snd env_ok (sndC spec_l1In.snd (sndC spec_Min.snd (sndN)))
attribute [local irreducible] spec_TileBox.run
theorem spec_TileBox.rt (a0 : Int) (a1 : Int) (a2 : Int) (a3 : Int) (a4 : Bool) : spec_TileBox.ret (⟨(⟨a0, a1⟩ : S75), (⟨a2, a3⟩ : S75)⟩ : S80) a4 = some (spec_TileBox.toH (a0, a1, a2, a3, a4)) := rfl
theorem spec_TileBox.go {a0 : Int} {t} (h : spec_TileBox.f a0 = some t) (K : Nat) : spec_TileBox.run K (a0, ()) = some (spec_TileBox.toH t) := by
  rw [spec_TileBox.ef]
  (try dsimp only)
  (try simp only [tq_nat])
  (try simp only [tq_eq])
  unfold spec_TileBox.f at h
  repeat' (with_reducible first
   | exact nos h
   | (cases some_inj h; exact spec_TileBox.rt _ _ _ _ _)
   | (simp only [Option.bind_some] at h)
   | (refine ite_by h ?_ ?_ <;> (intro hc h; (try simp only [nrm] at hc)))
   | refine itT ?_
   | refine itF ?_
   | (refine bind_by h (fun t ht h => ?_); (first | refine (spec_l1In.ap_of (spec_l1In.go ht _)).trans ?_ | refine (spec_Min.ap_of (spec_Min.go ht _)).trans ?_); (try dsimp only at h ⊢))
   | (simp only [nr2] at h ⊢)
   | (exfalso; omega))
def spec_IsBox.Fs : List (Spc env) := [spec_IsPoint.spec]
def spec_IsBox.cut : Nat → Option (List (Lv SC)) := lk []
def spec_IsBox.ret (r0 : Bool) : Option (HL eΓ [.b]) := some (r0, ())
def spec_IsBox.run (k : Nat) (h : HL eΓ [.st .s80]) : Option (HL eΓ [.b]) := evF env spec_IsBox.Fs Tryz.f92 spec_IsBox.cut [.st .s80] [.b] k h
theorem spec_IsBox.ef (k : Nat) (h0 : S80) : spec_IsBox.run k (h0, ()) = spec_IsPoint.ap k (⟨h0.f0.f0, h0.f0.f1⟩ : S75) fun r1 => if r1 = true then (spec_IsPoint.ap k (⟨h0.f1.f0, h0.f1.f1⟩ : S75) fun r2 => if r2 = true then (if h0.f0.f0 ≤ h0.f1.f0 then (spec_IsBox.ret (decide (h0.f0.f1 ≤ h0.f1.f1))) else (spec_IsBox.ret false)) else (spec_IsBox.ret false)) else (spec_IsBox.ret false) := by kernel_rfl
def spec_IsBox.toH (t : Bool) : HL eΓ [.b] := (t, ())
def spec_IsBox.spec : Spc env := ⟨92, [.st .s80], [.b], spec_IsBox.run⟩
def spec_IsBox.ap {R : Type} (k : Nat) (h0 : S80) (K : Bool → Option R) : Option R := (spec_IsBox.run k (h0, ())).bind fun r => K (r.1 : Bool)
theorem spec_IsBox.ap_of {R : Type} {k : Nat} {h0 : S80} {r0 : Bool} {K : Bool → Option R} (h : spec_IsBox.run k (h0, ()) = some (r0, ())) : spec_IsBox.ap k h0 K = K r0 := by unfold spec_IsBox.ap; rw [h]; rfl
theorem spec_IsBox.snd : Snd env spec_IsBox.spec := evF_snd env_ok (sndC spec_IsPoint.snd (sndN))
attribute [local irreducible] spec_IsBox.run
theorem spec_IsBox.rt (a0 : Bool) : spec_IsBox.ret a0 = some (spec_IsBox.toH (a0)) := rfl
theorem spec_IsBox.go {a0_0 : Int} {a0_1 : Int} {a0_2 : Int} {a0_3 : Int} {t} (h : spec_IsBox.f a0_0 a0_1 a0_2 a0_3 = some t) (K : Nat) : spec_IsBox.run K ((⟨(⟨a0_0, a0_1⟩ : S75), (⟨a0_2, a0_3⟩ : S75)⟩ : S80), ()) = some (spec_IsBox.toH t) := by
  rw [spec_IsBox.ef]
  (try dsimp only)
  unfold spec_IsBox.f at h
  repeat' (with_reducible first
   | exact nos h
   | (cases some_inj h; exact spec_IsBox.rt _)
   | (simp only [Option.bind_some] at h)
   | (refine ite_by h ?_ ?_ <;> (intro hc h; (try simp only [nrm] at hc)))
   | refine itT ?_
   | refine itF ?_
   | (refine bind_by h (fun t ht h => ?_); refine (spec_IsPoint.ap_of (spec_IsPoint.go ht _)).trans ?_; (try dsimp only at h ⊢))
   | (simp only [nr2] at h ⊢)
   | (exfalso; omega))
def spec_InBox.Fs : List (Spc env) := [spec_IsBox.spec, spec_l1In.spec]
def spec_InBox.cut : Nat → Option (List (Lv SC)) := lk []
def spec_InBox.ret (r0 : Bool) : Option (HL eΓ [.b]) := some (r0, ())
def spec_InBox.run (k : Nat) (h : HL eΓ [.st .s80, .st .s75]) : Option (HL eΓ [.b]) := evF env spec_InBox.Fs Tryz.f118 spec_InBox.cut [.st .s80, .st .s75] [.b] k h
theorem spec_InBox.ef (k : Nat) (h0 : S80) (h1 : S75) : spec_InBox.run k (h0, h1, ()) = spec_IsBox.ap k (⟨(⟨h0.f0.f0, h0.f0.f1⟩ : S75), (⟨h0.f1.f0, h0.f1.f1⟩ : S75)⟩ : S80) fun r1 => if r1 = true then (spec_l1In.ap k h1.f0 h0.f0.f0 h0.f1.f0 fun r2 => if r2 = true then (spec_l1In.ap k h1.f1 h0.f0.f1 h0.f1.f1 fun r3 => spec_InBox.ret r3) else (spec_InBox.ret false)) else (spec_InBox.ret false) := by kernel_rfl
def spec_InBox.toH (t : Bool) : HL eΓ [.b] := (t, ())
def spec_InBox.spec : Spc env := ⟨118, [.st .s80, .st .s75], [.b], spec_InBox.run⟩
def spec_InBox.ap {R : Type} (k : Nat) (h0 : S80) (h1 : S75) (K : Bool → Option R) : Option R := (spec_InBox.run k (h0, h1, ())).bind fun r => K (r.1 : Bool)
theorem spec_InBox.ap_of {R : Type} {k : Nat} {h0 : S80} {h1 : S75} {r0 : Bool} {K : Bool → Option R} (h : spec_InBox.run k (h0, h1, ()) = some (r0, ())) : spec_InBox.ap k h0 h1 K = K r0 := by unfold spec_InBox.ap; rw [h]; rfl
theorem spec_InBox.snd : Snd env spec_InBox.spec := evF_snd env_ok (sndC spec_IsBox.snd (sndC spec_l1In.snd (sndN)))
attribute [local irreducible] spec_InBox.run
theorem spec_InBox.rt (a0 : Bool) : spec_InBox.ret a0 = some (spec_InBox.toH (a0)) := rfl
theorem spec_InBox.go {a0_0 : Int} {a0_1 : Int} {a0_2 : Int} {a0_3 : Int} {a1_0 : Int} {a1_1 : Int} {t} (h : spec_InBox.f a0_0 a0_1 a0_2 a0_3 a1_0 a1_1 = some t) (K : Nat) : spec_InBox.run K ((⟨(⟨a0_0, a0_1⟩ : S75), (⟨a0_2, a0_3⟩ : S75)⟩ : S80), (⟨a1_0, a1_1⟩ : S75), ()) = some (spec_InBox.toH t) := by
  rw [spec_InBox.ef]
  (try dsimp only)
  unfold spec_InBox.f at h
  repeat' (with_reducible first
   | exact nos h
   | (cases some_inj h; exact spec_InBox.rt _)
   | (simp only [Option.bind_some] at h)
   | (refine ite_by h ?_ ?_ <;> (intro hc h; (try simp only [nrm] at hc)))
   | refine itT ?_
   | refine itF ?_
   | (refine bind_by h (fun t ht h => ?_); (first | refine (spec_IsBox.ap_of (spec_IsBox.go ht _)).trans ?_ | refine (spec_l1In.ap_of (spec_l1In.go ht _)).trans ?_); (try dsimp only at h ⊢))
   | (simp only [nr2] at h ⊢)
   | (exfalso; omega))
def spec_BoxOf.Fs : List (Spc env) := [spec_IsPoint.spec, spec_Min.spec, spec_Max.spec]
def spec_BoxOf.fin : St eΓ → Option (HL eΓ [.st .s80, .b]) := finR env Tryz.f163.results.toList [.st .s80, .b]
def spec_BoxOf.cut : Nat → Option (List (Lv SC)) := lk [(5, [⟨0, none, false⟩, ⟨2, none, false⟩, ⟨4, none, false⟩, ⟨5, none, false⟩])]
def spec_BoxOf.ret (r0 : S80) (r1 : Bool) : Option (HL eΓ [.st .s80, .b]) := some (r0, r1, ())
def spec_BoxOf.p5 (k : Nat) (x5 : Int) (x0 : List S75) (b1_0 : Int) (b1_1 : Int) (b1_2 : Int) (b1_3 : Int) (b2_0 : Int) (b2_1 : Int) (b2_2 : Int) (b2_3 : Int) : Option (HL eΓ [.st .s80, .b]) := evM env spec_BoxOf.Fs Tryz.f163.ntmps spec_BoxOf.fin spec_BoxOf.cut k [.code (sub_ [1, 1, 1, 0, 1, 0, 0, 0, 0] (bodyOf Tryz.f163)), .code (sub_ [1, 1, 1, 0, 1, 0, 0, 0, 1] (bodyOf Tryz.f163)), .code (sub_ [1, 1, 1, 0, 1, 0, 0, 1] (bodyOf Tryz.f163)), .lp (sub_ [1, 1, 1, 0, 1, 0, 0] (bodyOf Tryz.f163)), .blk 0, .code (sub_ [1, 1, 1, 1] (bodyOf Tryz.f163))] (mkSt [(0, .c (.sl 0)), (2, .c (.ptr 1 0)), (4, .c (.ptr 2 0)), (5, .c (.v (.int .i64 x5)))] [.row .ro 75 (.st .s75) x0, .box 80 [.v (.int .i64 b1_0), .v (.int .i64 b1_1), .v (.int .i64 b1_2), .v (.int .i64 b1_3)], .box 80 [.v (.int .i64 b2_0), .v (.int .i64 b2_1), .v (.int .i64 b2_2), .v (.int .i64 b2_3)]])
theorem spec_BoxOf.e5 (k : Nat) (x5 : Int) (x0 : List S75) (b1_0 : Int) (b1_1 : Int) (b1_2 : Int) (b1_3 : Int) (b2_0 : Int) (b2_1 : Int) (b2_2 : Int) (b2_3 : Int) : spec_BoxOf.p5 (k + 1) x5 x0 b1_0 b1_1 b1_2 b1_3 b2_0 b2_1 b2_2 b2_3 = if x5 < (x0.length : Int) then (if 0 ≤ x5 then (if x5 < (x0.length : Int) then (spec_IsPoint.ap k (⟨(rd_T75 x0 x5).f0, (rd_T75 x0 x5).f1⟩ : S75) fun r1 => if (!r1) = true then (spec_BoxOf.ret (⟨(⟨0, 0⟩ : S75), (⟨0, 0⟩ : S75)⟩ : S80) false) else (if 0 ≤ x5 then (if x5 < (x0.length : Int) then (spec_Min.ap k b2_0 ((rd_T75 x0 x5).f0) fun r2 => if 0 ≤ x5 then (if x5 < (x0.length : Int) then (spec_Min.ap k b2_1 ((rd_T75 x0 x5).f1) fun r3 => if 0 ≤ x5 then (if x5 < (x0.length : Int) then (spec_Max.ap k b2_2 ((rd_T75 x0 x5).f0) fun r4 => if 0 ≤ x5 then (if x5 < (x0.length : Int) then (spec_Max.ap k b2_3 ((rd_T75 x0 x5).f1) fun r5 => spec_BoxOf.p5 k (wrap64 (x5 + 1)) x0 b1_0 b1_1 b1_2 b1_3 r2 r3 r4 r5) else none) else none) else none) else none) else none) else none) else none) else none)) else none) else none) else (spec_BoxOf.ret (⟨(⟨b2_0, b2_1⟩ : S75), (⟨b2_2, b2_3⟩ : S75)⟩ : S80) true) := by kernel_rfl
def spec_BoxOf.run (k : Nat) (h : HL eΓ [.l 75 (.st .s75)]) : Option (HL eΓ [.st .s80, .b]) := evF env spec_BoxOf.Fs Tryz.f163 spec_BoxOf.cut [.l 75 (.st .s75)] [.st .s80, .b] k h
theorem spec_BoxOf.ef (k : Nat) (h0 : List S75) : spec_BoxOf.run k (h0, ()) = if (h0.length : Int) = 0 then (spec_BoxOf.ret (⟨(⟨0, 0⟩ : S75), (⟨0, 0⟩ : S75)⟩ : S80) false) else (if 0 < (h0.length : Int) then (if 0 < (h0.length : Int) then (spec_BoxOf.p5 k 0 h0 0 0 0 0 ((rd_T75 h0 0).f0) ((rd_T75 h0 0).f1) ((rd_T75 h0 0).f0) ((rd_T75 h0 0).f1)) else none) else none) := by kernel_rfl
def spec_BoxOf.toH (t : Int × Int × Int × Int × Bool) : HL eΓ [.st .s80, .b] := ((⟨(⟨t.1, t.2.1⟩ : S75), (⟨t.2.2.1, t.2.2.2.1⟩ : S75)⟩ : S80), t.2.2.2.2, ())
def spec_BoxOf.spec : Spc env := ⟨163, [.l 75 (.st .s75)], [.st .s80, .b], spec_BoxOf.run⟩
def spec_BoxOf.ap {R : Type} (k : Nat) (h0 : List S75) (K : S80 → Bool → Option R) : Option R := (spec_BoxOf.run k (h0, ())).bind fun r => K (r.1 : S80) (r.2.1 : Bool)
theorem spec_BoxOf.ap_of {R : Type} {k : Nat} {h0 : List S75} {r0 : S80} {r1 : Bool} {K : S80 → Bool → Option R} (h : spec_BoxOf.run k (h0, ()) = some (r0, r1, ())) : spec_BoxOf.ap k h0 K = K r0 r1 := by unfold spec_BoxOf.ap; rw [h]; rfl
theorem spec_BoxOf.snd : Snd env spec_BoxOf.spec := evF_snd env_ok (sndC spec_IsPoint.snd (sndC spec_Min.snd (sndC spec_Max.snd (sndN))))
attribute [local irreducible] spec_BoxOf.run
theorem spec_BoxOf.rt (a0 : Int) (a1 : Int) (a2 : Int) (a3 : Int) (a4 : Bool) : spec_BoxOf.ret (⟨(⟨a0, a1⟩ : S75), (⟨a2, a3⟩ : S75)⟩ : S80) a4 = some (spec_BoxOf.toH (a0, a1, a2, a3, a4)) := rfl
theorem spec_BoxOf.br (n : Nat) : (∀ K, n ≤ K → ∀ (x5 : Int) (x0 : List S75) (b1_0 : Int) (b1_1 : Int) (b1_2 : Int) (b1_3 : Int) (b2_0 : Int) (b2_1 : Int) (b2_2 : Int) (b2_3 : Int) t, spec_BoxOf.l0 n x0 x5 b2_0 b2_1 b2_2 b2_3 = some t → spec_BoxOf.p5 K x5 x0 b1_0 b1_1 b1_2 b1_3 b2_0 b2_1 b2_2 b2_3 = some (spec_BoxOf.toH t)) := by
  induction n using Nat.strongRecOn with
  | _ n ih =>
  intro K hK x5 x0 b1_0 b1_1 b1_2 b1_3 b2_0 b2_1 b2_2 b2_3 t h
  all_goals (rcases n with _ | k)
  all_goals (try (exact nos h))
  all_goals (obtain ⟨K, rfl⟩ : ∃ q, K = q + 1 := ⟨K - 1, by omega⟩)
  all_goals (first | rw [spec_BoxOf.e5])
  all_goals (simp only [spec_BoxOf.l0] at h)
  repeat' (with_reducible first
   | exact nos h
   | (cases some_inj h; exact spec_BoxOf.rt _ _ _ _ _)
   | exact (ih _ (by omega)) _ (by omega) _ _ _ _ _ _ _ _ _ _ _ h
   | (simp only [Option.bind_some] at h)
   | (refine ite_by h ?_ ?_ <;> (intro hc h; (try simp only [nrm] at hc)))
   | refine itT ?_
   | refine itF ?_
   | (refine bind_by h (fun t ht h => ?_); (first | refine (spec_IsPoint.ap_of (spec_IsPoint.go ht _)).trans ?_ | refine (spec_Min.ap_of (spec_Min.go ht _)).trans ?_ | refine (spec_Max.ap_of (spec_Max.go ht _)).trans ?_); (try dsimp only at h ⊢))
   | (simp only [nr2] at h ⊢)
   | (exfalso; omega))
theorem spec_BoxOf.go {k : Nat} {l0 : List S75} {t} (h : spec_BoxOf.f k l0 = some t) (K : Nat) (hK : k ≤ K) : spec_BoxOf.run K (l0, ()) = some (spec_BoxOf.toH t) := by
  rw [spec_BoxOf.ef]
  (try dsimp only)
  unfold spec_BoxOf.f at h
  repeat' (with_reducible first
   | exact nos h
   | (cases some_inj h; exact spec_BoxOf.rt _ _ _ _ _)
   | exact (spec_BoxOf.br _) _ (by omega) _ _ _ _ _ _ _ _ _ _ _ h
   | (simp only [Option.bind_some] at h)
   | (refine ite_by h ?_ ?_ <;> (intro hc h; (try simp only [nrm] at hc)))
   | refine itT ?_
   | refine itF ?_
   | (refine bind_by h (fun t ht h => ?_); (first | refine (spec_IsPoint.ap_of (spec_IsPoint.go ht _)).trans ?_ | refine (spec_Min.ap_of (spec_Min.go ht _)).trans ?_ | refine (spec_Max.ap_of (spec_Max.go ht _)).trans ?_); (try dsimp only at h ⊢))
   | (simp only [nr2] at h ⊢)
   | (exfalso; omega))
def spec_BoxesMeet.Fs : List (Spc env) := [spec_IsBox.spec]
def spec_BoxesMeet.cut : Nat → Option (List (Lv SC)) := lk []
def spec_BoxesMeet.ret (r0 : Bool) : Option (HL eΓ [.b]) := some (r0, ())
def spec_BoxesMeet.run (k : Nat) (h : HL eΓ [.st .s80, .st .s80]) : Option (HL eΓ [.b]) := evF env spec_BoxesMeet.Fs Tryz.f165 spec_BoxesMeet.cut [.st .s80, .st .s80] [.b] k h
theorem spec_BoxesMeet.ef (k : Nat) (h0 : S80) (h1 : S80) : spec_BoxesMeet.run k (h0, h1, ()) = spec_IsBox.ap k (⟨(⟨h0.f0.f0, h0.f0.f1⟩ : S75), (⟨h0.f1.f0, h0.f1.f1⟩ : S75)⟩ : S80) fun r1 => if r1 = true then (spec_IsBox.ap k (⟨(⟨h1.f0.f0, h1.f0.f1⟩ : S75), (⟨h1.f1.f0, h1.f1.f1⟩ : S75)⟩ : S80) fun r2 => if r2 = true then (if h0.f0.f0 ≤ h1.f1.f0 then (if h1.f0.f0 ≤ h0.f1.f0 then (if h0.f0.f1 ≤ h1.f1.f1 then (spec_BoxesMeet.ret (decide (h1.f0.f1 ≤ h0.f1.f1))) else (spec_BoxesMeet.ret false)) else (spec_BoxesMeet.ret false)) else (spec_BoxesMeet.ret false)) else (spec_BoxesMeet.ret false)) else (spec_BoxesMeet.ret false) := by kernel_rfl
def spec_BoxesMeet.toH (t : Bool) : HL eΓ [.b] := (t, ())
def spec_BoxesMeet.spec : Spc env := ⟨165, [.st .s80, .st .s80], [.b], spec_BoxesMeet.run⟩
def spec_BoxesMeet.ap {R : Type} (k : Nat) (h0 : S80) (h1 : S80) (K : Bool → Option R) : Option R := (spec_BoxesMeet.run k (h0, h1, ())).bind fun r => K (r.1 : Bool)
theorem spec_BoxesMeet.ap_of {R : Type} {k : Nat} {h0 : S80} {h1 : S80} {r0 : Bool} {K : Bool → Option R} (h : spec_BoxesMeet.run k (h0, h1, ()) = some (r0, ())) : spec_BoxesMeet.ap k h0 h1 K = K r0 := by unfold spec_BoxesMeet.ap; rw [h]; rfl
theorem spec_BoxesMeet.snd : Snd env spec_BoxesMeet.spec := evF_snd env_ok (sndC spec_IsBox.snd (sndN))
attribute [local irreducible] spec_BoxesMeet.run
theorem spec_BoxesMeet.rt (a0 : Bool) : spec_BoxesMeet.ret a0 = some (spec_BoxesMeet.toH (a0)) := rfl
theorem spec_BoxesMeet.go {a0_0 : Int} {a0_1 : Int} {a0_2 : Int} {a0_3 : Int} {a1_0 : Int} {a1_1 : Int} {a1_2 : Int} {a1_3 : Int} {t} (h : spec_BoxesMeet.f a0_0 a0_1 a0_2 a0_3 a1_0 a1_1 a1_2 a1_3 = some t) (K : Nat) : spec_BoxesMeet.run K ((⟨(⟨a0_0, a0_1⟩ : S75), (⟨a0_2, a0_3⟩ : S75)⟩ : S80), (⟨(⟨a1_0, a1_1⟩ : S75), (⟨a1_2, a1_3⟩ : S75)⟩ : S80), ()) = some (spec_BoxesMeet.toH t) := by
  rw [spec_BoxesMeet.ef]
  (try dsimp only)
  unfold spec_BoxesMeet.f at h
  repeat' (with_reducible first
   | exact nos h
   | (cases some_inj h; exact spec_BoxesMeet.rt _)
   | (simp only [Option.bind_some] at h)
   | (refine ite_by h ?_ ?_ <;> (intro hc h; (try simp only [nrm] at hc)))
   | refine itT ?_
   | refine itF ?_
   | (refine bind_by h (fun t ht h => ?_); refine (spec_IsBox.ap_of (spec_IsBox.go ht _)).trans ?_; (try dsimp only at h ⊢))
   | (simp only [nr2] at h ⊢)
   | (exfalso; omega))
def spec_MeetsBox.Fs : List (Spc env) := [spec_BoxOf.spec, spec_IsSegment.spec, spec_BoxesMeet.spec, spec_SideOf.spec]
def spec_MeetsBox.fin : St eΓ → Option (HL eΓ [.b]) := finR env Tryz.f119.results.toList [.b]
def spec_MeetsBox.cut : Nat → Option (List (Lv SC)) := lk [(8, [⟨2, none, false⟩, ⟨7, none, false⟩, ⟨8, none, false⟩, ⟨9, none, false⟩, ⟨10, none, false⟩])]
def spec_MeetsBox.ret (r0 : Bool) : Option (HL eΓ [.b]) := some (r0, ())
def spec_MeetsBox.p8 (k : Nat) (x8 : Int) (x9 : Int) (x10 : Int) (b0_0 : Int) (b0_1 : Int) (b0_2 : Int) (b0_3 : Int) (x7 : List S75) : Option (HL eΓ [.b]) := evM env spec_MeetsBox.Fs Tryz.f119.ntmps spec_MeetsBox.fin spec_MeetsBox.cut k [.code (sub_ [1, 1, 1, 1, 1, 1, 0, 1, 0, 0, 0, 0] (bodyOf Tryz.f119)), .code (sub_ [1, 1, 1, 1, 1, 1, 0, 1, 0, 0, 0, 1] (bodyOf Tryz.f119)), .code (sub_ [1, 1, 1, 1, 1, 1, 0, 1, 0, 0, 1] (bodyOf Tryz.f119)), .lp (sub_ [1, 1, 1, 1, 1, 1, 0, 1, 0, 0] (bodyOf Tryz.f119)), .blk 0, .code (sub_ [1, 1, 1, 1, 1, 1, 1] (bodyOf Tryz.f119))] (mkSt [(2, .c (.ptr 0 0)), (7, .c (.sl 1)), (8, .c (.v (.int .i64 x8))), (9, .c (.v (.int .i64 x9))), (10, .c (.v (.int .i64 x10)))] [.box 133 [.v (.int .i64 b0_0), .v (.int .i64 b0_1), .v (.int .i64 b0_2), .v (.int .i64 b0_3)], .row .own 75 (.st .s75) x7])
theorem spec_MeetsBox.e8 (k : Nat) (x8 : Int) (x9 : Int) (x10 : Int) (b0_0 : Int) (b0_1 : Int) (b0_2 : Int) (b0_3 : Int) (x7 : List S75) : spec_MeetsBox.p8 (k + 1) x8 x9 x10 b0_0 b0_1 b0_2 b0_3 x7 = if x10 < 4 then (if 0 ≤ x10 then (if x10 < (x7.length : Int) then (spec_SideOf.ap k (⟨b0_0, b0_1⟩ : S75) (⟨b0_2, b0_3⟩ : S75) (⟨(rd_T75 x7 x10).f0, (rd_T75 x7 x10).f1⟩ : S75) fun r1 => if r1 = 1 then (spec_MeetsBox.p8 k (wrap64 (x8 + 1)) x9 (wrap64 (x10 + 1)) b0_0 b0_1 b0_2 b0_3 x7) else (if r1 = (-1) then (spec_MeetsBox.p8 k x8 (wrap64 (x9 + 1)) (wrap64 (x10 + 1)) b0_0 b0_1 b0_2 b0_3 x7) else (spec_MeetsBox.p8 k x8 x9 (wrap64 (x10 + 1)) b0_0 b0_1 b0_2 b0_3 x7))) else none) else none) else (if x8 < 4 then (spec_MeetsBox.ret (decide (x9 < 4))) else (spec_MeetsBox.ret false)) := by kernel_rfl
def spec_MeetsBox.run (k : Nat) (h : HL eΓ [.st .s133, .st .s80]) : Option (HL eΓ [.b]) := evF env spec_MeetsBox.Fs Tryz.f119 spec_MeetsBox.cut [.st .s133, .st .s80] [.b] k h
theorem spec_MeetsBox.ef (k : Nat) (h0 : S133) (h1 : S80) : spec_MeetsBox.run k (h0, h1, ()) = spec_BoxOf.ap k ([(⟨h0.f0.f0, h0.f0.f1⟩ : S75), (⟨h0.f1.f0, h0.f1.f1⟩ : S75)] : List S75) fun r1_0 r1_1 => spec_IsSegment.ap k (⟨(⟨h0.f0.f0, h0.f0.f1⟩ : S75), (⟨h0.f1.f0, h0.f1.f1⟩ : S75)⟩ : S133) fun r2 => if (!r2) = true then (spec_MeetsBox.ret false) else (spec_BoxesMeet.ap k (⟨(⟨r1_0.f0.f0, r1_0.f0.f1⟩ : S75), (⟨r1_0.f1.f0, r1_0.f1.f1⟩ : S75)⟩ : S80) (⟨(⟨h1.f0.f0, h1.f0.f1⟩ : S75), (⟨h1.f1.f0, h1.f1.f1⟩ : S75)⟩ : S80) fun r3 => if (!r3) = true then (spec_MeetsBox.ret false) else (spec_MeetsBox.p8 k 0 0 0 h0.f0.f0 h0.f0.f1 h0.f1.f0 h0.f1.f1 ([(⟨h1.f0.f0, h1.f0.f1⟩ : S75), (⟨h1.f0.f0, h1.f1.f1⟩ : S75), (⟨h1.f1.f0, h1.f1.f1⟩ : S75), (⟨h1.f1.f0, h1.f0.f1⟩ : S75)] : List S75))) := by kernel_rfl
def spec_MeetsBox.toH (t : Bool) : HL eΓ [.b] := (t, ())
def spec_MeetsBox.spec : Spc env := ⟨119, [.st .s133, .st .s80], [.b], spec_MeetsBox.run⟩
def spec_MeetsBox.ap {R : Type} (k : Nat) (h0 : S133) (h1 : S80) (K : Bool → Option R) : Option R := (spec_MeetsBox.run k (h0, h1, ())).bind fun r => K (r.1 : Bool)
theorem spec_MeetsBox.ap_of {R : Type} {k : Nat} {h0 : S133} {h1 : S80} {r0 : Bool} {K : Bool → Option R} (h : spec_MeetsBox.run k (h0, h1, ()) = some (r0, ())) : spec_MeetsBox.ap k h0 h1 K = K r0 := by unfold spec_MeetsBox.ap; rw [h]; rfl
theorem spec_MeetsBox.snd : Snd env spec_MeetsBox.spec := evF_snd env_ok (sndC spec_BoxOf.snd (sndC spec_IsSegment.snd (sndC spec_BoxesMeet.snd (sndC spec_SideOf.snd (sndN)))))
attribute [local irreducible] spec_MeetsBox.run
theorem spec_MeetsBox.rt (a0 : Bool) : spec_MeetsBox.ret a0 = some (spec_MeetsBox.toH (a0)) := rfl
theorem spec_MeetsBox.br (n : Nat) : (∀ K, n ≤ K → ∀ (x8 : Int) (x9 : Int) (x10 : Int) (b0_0 : Int) (b0_1 : Int) (b0_2 : Int) (b0_3 : Int) (x7 : List S75) t, spec_MeetsBox.l0 n x7 x8 x9 x10 b0_0 b0_1 b0_2 b0_3 = some t → spec_MeetsBox.p8 K x8 x9 x10 b0_0 b0_1 b0_2 b0_3 x7 = some (spec_MeetsBox.toH t)) := by
  induction n using Nat.strongRecOn with
  | _ n ih =>
  intro K hK x8 x9 x10 b0_0 b0_1 b0_2 b0_3 x7 t h
  all_goals (rcases n with _ | k)
  all_goals (try (exact nos h))
  all_goals (obtain ⟨K, rfl⟩ : ∃ q, K = q + 1 := ⟨K - 1, by omega⟩)
  all_goals (first | rw [spec_MeetsBox.e8])
  all_goals (simp only [spec_MeetsBox.l0] at h)
  repeat' (with_reducible first
   | exact nos h
   | (cases some_inj h; exact spec_MeetsBox.rt _)
   | exact (ih _ (by omega)) _ (by omega) _ _ _ _ _ _ _ _ _ h
   | ((have q : spec_MeetsBox.j0 k _ _ _ _ _ _ _ _ _ = some _ := h; clear q); rcases k with _ | k <;> simp only [spec_MeetsBox.j0, reduceCtorEq] at h)
   | (simp only [Option.bind_some] at h)
   | (refine ite_by h ?_ ?_ <;> (intro hc h; (try simp only [nrm] at hc)))
   | refine itT ?_
   | refine itF ?_
   | (refine bind_by h (fun t ht h => ?_); (first | refine (spec_BoxOf.ap_of (spec_BoxOf.go ht _ (by omega))).trans ?_ | refine (spec_IsSegment.ap_of (spec_IsSegment.go ht _)).trans ?_ | refine (spec_BoxesMeet.ap_of (spec_BoxesMeet.go ht _)).trans ?_ | refine (spec_SideOf.ap_of (spec_SideOf.go ht _)).trans ?_); (try dsimp only at h ⊢))
   | (simp only [nr2] at h ⊢)
   | (exfalso; omega))
theorem spec_MeetsBox.go {k : Nat} {a0_0 : Int} {a0_1 : Int} {a0_2 : Int} {a0_3 : Int} {a1_0 : Int} {a1_1 : Int} {a1_2 : Int} {a1_3 : Int} {t} (h : spec_MeetsBox.f k a0_0 a0_1 a0_2 a0_3 a1_0 a1_1 a1_2 a1_3 = some t) (K : Nat) (hK : k ≤ K) : spec_MeetsBox.run K ((⟨(⟨a0_0, a0_1⟩ : S75), (⟨a0_2, a0_3⟩ : S75)⟩ : S133), (⟨(⟨a1_0, a1_1⟩ : S75), (⟨a1_2, a1_3⟩ : S75)⟩ : S80), ()) = some (spec_MeetsBox.toH t) := by
  rw [spec_MeetsBox.ef]
  (try dsimp only)
  unfold spec_MeetsBox.f at h
  repeat' (with_reducible first
   | exact nos h
   | (cases some_inj h; exact spec_MeetsBox.rt _)
   | exact (spec_MeetsBox.br _) _ (by omega) _ _ _ _ _ _ _ _ _ h
   | ((have q : spec_MeetsBox.j0 k _ _ _ _ _ _ _ _ _ = some _ := h; clear q); rcases k with _ | k <;> simp only [spec_MeetsBox.j0, reduceCtorEq] at h)
   | (simp only [Option.bind_some] at h)
   | (refine ite_by h ?_ ?_ <;> (intro hc h; (try simp only [nrm] at hc)))
   | refine itT ?_
   | refine itF ?_
   | (refine bind_by h (fun t ht h => ?_); (first | refine (spec_BoxOf.ap_of (spec_BoxOf.go ht _ (by omega))).trans ?_ | refine (spec_IsSegment.ap_of (spec_IsSegment.go ht _)).trans ?_ | refine (spec_BoxesMeet.ap_of (spec_BoxesMeet.go ht _)).trans ?_ | refine (spec_SideOf.ap_of (spec_SideOf.go ht _)).trans ?_); (try dsimp only at h ⊢))
   | (simp only [nr2] at h ⊢)
   | (exfalso; omega))
def spec_l20Pieces.Fs : List (Spc env) := [spec_InBox.spec, spec_MeetsBox.spec]
def spec_l20Pieces.fin : St eΓ → Option (HL eΓ [.l 56 (.st .s56)]) := finR env Tryz.f74.results.toList [.l 56 (.st .s56)]
def spec_l20Pieces.cut : Nat → Option (List (Lv SC)) := lk [(5, [⟨1, none, false⟩, ⟨3, none, false⟩, ⟨5, none, false⟩, ⟨7, none, false⟩, ⟨8, none, false⟩])]
def spec_l20Pieces.ret (r0 : List S56) : Option (HL eΓ [.l 56 (.st .s56)]) := some (r0, ())
def spec_l20Pieces.p5 (k : Nat) (x8 : Int) (x1 : List S133) (b1_0 : Int) (b1_1 : Int) (b1_2 : Int) (b1_3 : ByteArray) (b2_0 : Int) (b2_1 : Int) (b2_2 : Int) (b2_3 : Int) (x7 : List S56) (b4 : List S75) : Option (HL eΓ [.l 56 (.st .s56)]) := evM env spec_l20Pieces.Fs Tryz.f74.ntmps spec_l20Pieces.fin spec_l20Pieces.cut k [.code (sub_ [1, 1, 1, 0, 1, 0, 0, 0, 0] (bodyOf Tryz.f74)), .code (sub_ [1, 1, 1, 0, 1, 0, 0, 0, 1] (bodyOf Tryz.f74)), .code (sub_ [1, 1, 1, 0, 1, 0, 0, 1] (bodyOf Tryz.f74)), .lp (sub_ [1, 1, 1, 0, 1, 0, 0] (bodyOf Tryz.f74)), .blk 0, .code (sub_ [1, 1, 1, 1] (bodyOf Tryz.f74))] (mkSt [(1, .c (.sl 0)), (3, .c (.ptr 1 0)), (5, .c (.ptr 2 0)), (7, .c (.sl 3)), (8, .c (.v (.int .i64 x8)))] [.row .ro 133 (.st .s133) x1, .box 59 [.v (.int .i64 b1_0), .v (.int .i64 b1_1), .v (.int .i64 b1_2), .v (.string b1_3), .sl 4], .box 80 [.v (.int .i64 b2_0), .v (.int .i64 b2_1), .v (.int .i64 b2_2), .v (.int .i64 b2_3)], .row .own 56 (.st .s56) x7, .row .ro 75 (.st .s75) b4])
theorem spec_l20Pieces.e5 (k : Nat) (x8 : Int) (x1 : List S133) (b1_0 : Int) (b1_1 : Int) (b1_2 : Int) (b1_3 : ByteArray) (b2_0 : Int) (b2_1 : Int) (b2_2 : Int) (b2_3 : Int) (x7 : List S56) (b4 : List S75) : spec_l20Pieces.p5 (k + 1) x8 x1 b1_0 b1_1 b1_2 b1_3 b2_0 b2_1 b2_2 b2_3 x7 b4 = if x8 < (x1.length : Int) then (if 0 ≤ x8 then (if x8 < (x1.length : Int) then (spec_MeetsBox.ap k (⟨(⟨(rd_T133 x1 x8).f0.f0, (rd_T133 x1 x8).f0.f1⟩ : S75), (⟨(rd_T133 x1 x8).f1.f0, (rd_T133 x1 x8).f1.f1⟩ : S75)⟩ : S133) (⟨(⟨b2_0, b2_1⟩ : S75), (⟨b2_2, b2_3⟩ : S75)⟩ : S80) fun r1 => if r1 = true then (if (x7.length + 1) * 16 ≤ 140737488355328 then (spec_l20Pieces.p5 k (wrap64 (x8 + 1)) x1 b1_0 b1_1 b1_2 b1_3 b2_0 b2_1 b2_2 b2_3 (x7 ++ [(⟨b1_0, x8⟩ : S56)]) b4) else none) else (spec_l20Pieces.p5 k (wrap64 (x8 + 1)) x1 b1_0 b1_1 b1_2 b1_3 b2_0 b2_1 b2_2 b2_3 x7 b4)) else none) else none) else (spec_l20Pieces.ret x7) := by kernel_rfl
def spec_l20Pieces.run (k : Nat) (h : HL eΓ [.st .s59, .l 133 (.st .s133), .st .s80]) : Option (HL eΓ [.l 56 (.st .s56)]) := evF env spec_l20Pieces.Fs Tryz.f74 spec_l20Pieces.cut [.st .s59, .l 133 (.st .s133), .st .s80] [.l 56 (.st .s56)] k h
theorem spec_l20Pieces.ef (k : Nat) (h0 : S59) (h1 : List S133) (h2 : S80) : spec_l20Pieces.run k (h0, h1, h2, ()) = if h0.f1 = 1 then (if 0 < (h0.f4.length : Int) then (spec_InBox.ap k (⟨(⟨h2.f0.f0, h2.f0.f1⟩ : S75), (⟨h2.f1.f0, h2.f1.f1⟩ : S75)⟩ : S80) (⟨(rd_T75 h0.f4 0).f0, (rd_T75 h0.f4 0).f1⟩ : S75) fun r1 => if r1 = true then (spec_l20Pieces.ret ([(⟨h0.f0, 0⟩ : S56)] : List S56)) else (spec_l20Pieces.p5 k 0 h1 h0.f0 h0.f1 h0.f2 h0.f3 h2.f0.f0 h2.f0.f1 h2.f1.f0 h2.f1.f1 ([] : List S56) h0.f4)) else none) else (spec_l20Pieces.p5 k 0 h1 h0.f0 h0.f1 h0.f2 h0.f3 h2.f0.f0 h2.f0.f1 h2.f1.f0 h2.f1.f1 ([] : List S56) h0.f4) := by kernel_rfl
def spec_l20Pieces.toH (t : (List (S56))) : HL eΓ [.l 56 (.st .s56)] := (t, ())
def spec_l20Pieces.spec : Spc env := ⟨74, [.st .s59, .l 133 (.st .s133), .st .s80], [.l 56 (.st .s56)], spec_l20Pieces.run⟩
def spec_l20Pieces.ap {R : Type} (k : Nat) (h0 : S59) (h1 : List S133) (h2 : S80) (K : (List S56) → Option R) : Option R := (spec_l20Pieces.run k (h0, h1, h2, ())).bind fun r => K (r.1 : List S56)
theorem spec_l20Pieces.ap_of {R : Type} {k : Nat} {h0 : S59} {h1 : List S133} {h2 : S80} {r0 : List S56} {K : (List S56) → Option R} (h : spec_l20Pieces.run k (h0, h1, h2, ()) = some (r0, ())) : spec_l20Pieces.ap k h0 h1 h2 K = K r0 := by unfold spec_l20Pieces.ap; rw [h]; rfl
theorem spec_l20Pieces.snd : Snd env spec_l20Pieces.spec := evF_snd env_ok (sndC spec_InBox.snd (sndC spec_MeetsBox.snd (sndN)))
attribute [local irreducible] spec_l20Pieces.run
theorem spec_l20Pieces.rt (a0 : List S56) : spec_l20Pieces.ret a0 = some (spec_l20Pieces.toH (a0)) := rfl
theorem spec_l20Pieces.br (n : Nat) : (∀ K, n ≤ K → ∀ (x8 : Int) (x1 : List S133) (b1_0 : Int) (b1_1 : Int) (b1_2 : Int) (b1_3 : ByteArray) (b2_0 : Int) (b2_1 : Int) (b2_2 : Int) (b2_3 : Int) (x7 : List S56) (b4 : List S75) t, spec_l20Pieces.l0 n x1 x7 x8 b1_0 b1_1 b1_2 b1_3 b4 b2_0 b2_1 b2_2 b2_3 = some t → spec_l20Pieces.p5 K x8 x1 b1_0 b1_1 b1_2 b1_3 b2_0 b2_1 b2_2 b2_3 x7 b4 = some (spec_l20Pieces.toH t)) := by
  induction n using Nat.strongRecOn with
  | _ n ih =>
  intro K hK x8 x1 b1_0 b1_1 b1_2 b1_3 b2_0 b2_1 b2_2 b2_3 x7 b4 t h
  all_goals (rcases n with _ | k)
  all_goals (try (exact nos h))
  all_goals (obtain ⟨K, rfl⟩ : ∃ q, K = q + 1 := ⟨K - 1, by omega⟩)
  all_goals (first | rw [spec_l20Pieces.e5])
  all_goals (simp only [spec_l20Pieces.l0] at h)
  repeat' (with_reducible first
   | exact nos h
   | (cases some_inj h; exact spec_l20Pieces.rt _)
   | exact (ih _ (by omega)) _ (by omega) _ _ _ _ _ _ _ _ _ _ _ _ _ h
   | ((have q : spec_l20Pieces.j0 k _ _ _ _ _ _ _ _ _ _ _ _ = some _ := h; clear q); rcases k with _ | k <;> simp only [spec_l20Pieces.j0, reduceCtorEq] at h)
   | (simp only [Option.bind_some] at h)
   | (refine ite_by h ?_ ?_ <;> (intro hc h; (try simp only [nrm] at hc)))
   | refine itT ?_
   | refine itF ?_
   | (refine bind_by h (fun t ht h => ?_); (first | refine (spec_InBox.ap_of (spec_InBox.go ht _)).trans ?_ | refine (spec_MeetsBox.ap_of (spec_MeetsBox.go ht _ (by omega))).trans ?_); (try dsimp only at h ⊢))
   | (simp only [nr2] at h ⊢)
   | (exfalso; omega))
theorem spec_l20Pieces.go {k : Nat} {a0_0 : Int} {a0_1 : Int} {a0_2 : Int} {a0_3 : ByteArray} {l0_4 : List S75} {l1 : List S133} {a2_0 : Int} {a2_1 : Int} {a2_2 : Int} {a2_3 : Int} {t} (h : spec_l20Pieces.f k a0_0 a0_1 a0_2 a0_3 l0_4 l1 a2_0 a2_1 a2_2 a2_3 = some t) (K : Nat) (hK : k ≤ K) : spec_l20Pieces.run K ((⟨a0_0, a0_1, a0_2, a0_3, l0_4⟩ : S59), l1, (⟨(⟨a2_0, a2_1⟩ : S75), (⟨a2_2, a2_3⟩ : S75)⟩ : S80), ()) = some (spec_l20Pieces.toH t) := by
  rw [spec_l20Pieces.ef]
  (try dsimp only)
  unfold spec_l20Pieces.f at h
  repeat' (with_reducible first
   | exact nos h
   | (cases some_inj h; exact spec_l20Pieces.rt _)
   | exact (spec_l20Pieces.br _) _ (by omega) _ _ _ _ _ _ _ _ _ _ _ _ _ h
   | ((have q : spec_l20Pieces.j0 k _ _ _ _ _ _ _ _ _ _ _ _ = some _ := h; clear q); rcases k with _ | k <;> simp only [spec_l20Pieces.j0, reduceCtorEq] at h)
   | (simp only [Option.bind_some] at h)
   | (refine ite_by h ?_ ?_ <;> (intro hc h; (try simp only [nrm] at hc)))
   | refine itT ?_
   | refine itF ?_
   | (refine bind_by h (fun t ht h => ?_); (first | refine (spec_InBox.ap_of (spec_InBox.go ht _)).trans ?_ | refine (spec_MeetsBox.ap_of (spec_MeetsBox.go ht _ (by omega))).trans ?_); (try dsimp only at h ⊢))
   | (simp only [nr2] at h ⊢)
   | (exfalso; omega))
def spec_RingSegments.Fs : List (Spc env) := [spec_IsRing.spec, spec_l7Segments.spec]
def spec_RingSegments.cut : Nat → Option (List (Lv SC)) := lk []
def spec_RingSegments.ret (r0 : List S133) : Option (HL eΓ [.l 133 (.st .s133)]) := some (r0, ())
def spec_RingSegments.run (k : Nat) (h : HL eΓ [.l 75 (.st .s75)]) : Option (HL eΓ [.l 133 (.st .s133)]) := evF env spec_RingSegments.Fs Tryz.f121 spec_RingSegments.cut [.l 75 (.st .s75)] [.l 133 (.st .s133)] k h
theorem spec_RingSegments.ef (k : Nat) (h0 : List S75) : spec_RingSegments.run k (h0, ()) = spec_IsRing.ap k h0 fun r1 => if (!r1) = true then (spec_RingSegments.ret ([] : List S133)) else (spec_l7Segments.ap k h0 fun r2 => spec_RingSegments.ret r2) := by kernel_rfl
def spec_RingSegments.toH (t : (List (S133))) : HL eΓ [.l 133 (.st .s133)] := (t, ())
def spec_RingSegments.spec : Spc env := ⟨121, [.l 75 (.st .s75)], [.l 133 (.st .s133)], spec_RingSegments.run⟩
def spec_RingSegments.ap {R : Type} (k : Nat) (h0 : List S75) (K : (List S133) → Option R) : Option R := (spec_RingSegments.run k (h0, ())).bind fun r => K (r.1 : List S133)
theorem spec_RingSegments.ap_of {R : Type} {k : Nat} {h0 : List S75} {r0 : List S133} {K : (List S133) → Option R} (h : spec_RingSegments.run k (h0, ()) = some (r0, ())) : spec_RingSegments.ap k h0 K = K r0 := by unfold spec_RingSegments.ap; rw [h]; rfl
theorem spec_RingSegments.snd : Snd env spec_RingSegments.spec := evF_snd env_ok (sndC spec_IsRing.snd (sndC spec_l7Segments.snd (sndN)))
attribute [local irreducible] spec_RingSegments.run
theorem spec_RingSegments.rt (a0 : List S133) : spec_RingSegments.ret a0 = some (spec_RingSegments.toH (a0)) := rfl
theorem spec_RingSegments.go {k : Nat} {l0 : List S75} {t} (h : spec_RingSegments.f k l0 = some t) (K : Nat) (hK : k ≤ K) : spec_RingSegments.run K (l0, ()) = some (spec_RingSegments.toH t) := by
  rw [spec_RingSegments.ef]
  (try dsimp only)
  unfold spec_RingSegments.f at h
  repeat' (with_reducible first
   | exact nos h
   | (cases some_inj h; exact spec_RingSegments.rt _)
   | (simp only [Option.bind_some] at h)
   | (refine ite_by h ?_ ?_ <;> (intro hc h; (try simp only [nrm] at hc)))
   | refine itT ?_
   | refine itF ?_
   | (refine bind_by h (fun t ht h => ?_); (first | refine (spec_IsRing.ap_of (spec_IsRing.go ht _ (by omega))).trans ?_ | refine (spec_l7Segments.ap_of (spec_l7Segments.go ht _ (by omega))).trans ?_); (try dsimp only at h ⊢))
   | (simp only [nr2] at h ⊢)
   | (exfalso; omega))
def spec_PartsOf.Fs : List (Spc env) := [spec_IsFeature.spec, spec_SegmentsOf.spec, spec_RingSegments.spec]
def spec_PartsOf.cut : Nat → Option (List (Lv SC)) := lk []
def spec_PartsOf.ret (r0 : List S133) : Option (HL eΓ [.l 133 (.st .s133)]) := some (r0, ())
def spec_PartsOf.run (k : Nat) (h : HL eΓ [.st .s59]) : Option (HL eΓ [.l 133 (.st .s133)]) := evF env spec_PartsOf.Fs Tryz.f75 spec_PartsOf.cut [.st .s59] [.l 133 (.st .s133)] k h
theorem spec_PartsOf.ef (k : Nat) (h0 : S59) : spec_PartsOf.run k (h0, ()) = spec_IsFeature.ap k (⟨h0.f0, h0.f1, h0.f2, h0.f3, h0.f4⟩ : S59) fun r1 => if (!r1) = true then (spec_PartsOf.ret ([] : List S133)) else (if h0.f1 = 2 then (spec_SegmentsOf.ap k h0.f4 fun r2 => spec_PartsOf.ret r2) else (if h0.f1 = 3 then (spec_RingSegments.ap k h0.f4 fun r3 => spec_PartsOf.ret r3) else (spec_PartsOf.ret ([] : List S133)))) := by kernel_rfl
def spec_PartsOf.toH (t : (List (S133))) : HL eΓ [.l 133 (.st .s133)] := (t, ())
def spec_PartsOf.spec : Spc env := ⟨75, [.st .s59], [.l 133 (.st .s133)], spec_PartsOf.run⟩
def spec_PartsOf.ap {R : Type} (k : Nat) (h0 : S59) (K : (List S133) → Option R) : Option R := (spec_PartsOf.run k (h0, ())).bind fun r => K (r.1 : List S133)
theorem spec_PartsOf.ap_of {R : Type} {k : Nat} {h0 : S59} {r0 : List S133} {K : (List S133) → Option R} (h : spec_PartsOf.run k (h0, ()) = some (r0, ())) : spec_PartsOf.ap k h0 K = K r0 := by unfold spec_PartsOf.ap; rw [h]; rfl
theorem spec_PartsOf.snd : Snd env spec_PartsOf.spec := evF_snd env_ok (sndC spec_IsFeature.snd (sndC spec_SegmentsOf.snd (sndC spec_RingSegments.snd (sndN))))
attribute [local irreducible] spec_PartsOf.run
theorem spec_PartsOf.rt (a0 : List S133) : spec_PartsOf.ret a0 = some (spec_PartsOf.toH (a0)) := rfl
theorem spec_PartsOf.go {k : Nat} {a0_0 : Int} {a0_1 : Int} {a0_2 : Int} {a0_3 : ByteArray} {l0_4 : List S75} {t} (h : spec_PartsOf.f k a0_0 a0_1 a0_2 a0_3 l0_4 = some t) (K : Nat) (hK : k ≤ K) : spec_PartsOf.run K ((⟨a0_0, a0_1, a0_2, a0_3, l0_4⟩ : S59), ()) = some (spec_PartsOf.toH t) := by
  rw [spec_PartsOf.ef]
  (try dsimp only)
  unfold spec_PartsOf.f at h
  repeat' (with_reducible first
   | exact nos h
   | (cases some_inj h; exact spec_PartsOf.rt _)
   | (simp only [Option.bind_some] at h)
   | (refine ite_by h ?_ ?_ <;> (intro hc h; (try simp only [nrm] at hc)))
   | refine itT ?_
   | refine itF ?_
   | (refine bind_by h (fun t ht h => ?_); (first | refine (spec_IsFeature.ap_of (spec_IsFeature.go ht _ (by omega))).trans ?_ | refine (spec_SegmentsOf.ap_of (spec_SegmentsOf.go ht _ (by omega))).trans ?_ | refine (spec_RingSegments.ap_of (spec_RingSegments.go ht _ (by omega))).trans ?_); (try dsimp only at h ⊢))
   | (simp only [nr2] at h ⊢)
   | (exfalso; omega))
def spec_PiecesIn.Fs : List (Spc env) := [spec_TileBox.spec, spec_IsSource.spec, spec_PartsOf.spec, spec_l20Pieces.spec]
def spec_PiecesIn.fin : St eΓ → Option (HL eΓ [.l 56 (.st .s56)]) := finR env Tryz.f31.results.toList [.l 56 (.st .s56)]
def spec_PiecesIn.cut : Nat → Option (List (Lv SC)) := lk [(4, [⟨0, none, false⟩, ⟨5, none, false⟩, ⟨6, none, false⟩, ⟨7, none, false⟩, ⟨8, none, false⟩])]
def spec_PiecesIn.ret (r0 : List S56) : Option (HL eΓ [.l 56 (.st .s56)]) := some (r0, ())
def spec_PiecesIn.p4 (k : Nat) (x7 : Bool) (x8 : Int) (x0 : List S59) (x5 : List S56) (b2_0 : Int) (b2_1 : Int) (b2_2 : Int) (b2_3 : Int) : Option (HL eΓ [.l 56 (.st .s56)]) := evM env spec_PiecesIn.Fs Tryz.f31.ntmps spec_PiecesIn.fin spec_PiecesIn.cut k [.code (sub_ [1, 1, 1, 0, 1, 0, 0, 0, 0] (bodyOf Tryz.f31)), .code (sub_ [1, 1, 1, 0, 1, 0, 0, 0, 1] (bodyOf Tryz.f31)), .code (sub_ [1, 1, 1, 0, 1, 0, 0, 1] (bodyOf Tryz.f31)), .lp (sub_ [1, 1, 1, 0, 1, 0, 0] (bodyOf Tryz.f31)), .blk 0, .code (sub_ [1, 1, 1, 1] (bodyOf Tryz.f31))] (mkSt [(0, .c (.sl 0)), (5, .c (.sl 1)), (6, .c (.ptr 2 0)), (7, .c (.v (.bool x7))), (8, .c (.v (.int .i64 x8)))] [.row .ro 59 (.st .s59) x0, .row .own 56 (.st .s56) x5, .box 80 [.v (.int .i64 b2_0), .v (.int .i64 b2_1), .v (.int .i64 b2_2), .v (.int .i64 b2_3)]])
theorem spec_PiecesIn.e4 (k : Nat) (x7 : Bool) (x8 : Int) (x0 : List S59) (x5 : List S56) (b2_0 : Int) (b2_1 : Int) (b2_2 : Int) (b2_3 : Int) : spec_PiecesIn.p4 (k + 1) x7 x8 x0 x5 b2_0 b2_1 b2_2 b2_3 = if x8 < (x0.length : Int) then (if x7 = true then (spec_IsSource.ap k x0 fun r1 => if r1 = true then (if 0 ≤ x8 then (if x8 < (x0.length : Int) then (if 0 ≤ x8 then (if x8 < (x0.length : Int) then (spec_PartsOf.ap k (⟨(rd_T59 x0 x8).f0, (rd_T59 x0 x8).f1, (rd_T59 x0 x8).f2, (rd_T59 x0 x8).f3, (rd_T59 x0 x8).f4⟩ : S59) fun r2 => spec_l20Pieces.ap k (⟨(rd_T59 x0 x8).f0, (rd_T59 x0 x8).f1, (rd_T59 x0 x8).f2, (rd_T59 x0 x8).f3, (rd_T59 x0 x8).f4⟩ : S59) r2 (⟨(⟨b2_0, b2_1⟩ : S75), (⟨b2_2, b2_3⟩ : S75)⟩ : S80) fun r3 => if (x5.length + r3.length) * 16 ≤ 140737488355328 then (spec_PiecesIn.p4 k x7 (wrap64 (x8 + 1)) x0 (x5 ++ r3) b2_0 b2_1 b2_2 b2_3) else none) else none) else none) else none) else none) else (spec_PiecesIn.ret x5)) else (spec_PiecesIn.ret x5)) else (spec_PiecesIn.ret x5) := by kernel_rfl
def spec_PiecesIn.run (k : Nat) (h : HL eΓ [.l 59 (.st .s59), .i .i64]) : Option (HL eΓ [.l 56 (.st .s56)]) := evF env spec_PiecesIn.Fs Tryz.f31 spec_PiecesIn.cut [.l 59 (.st .s59), .i .i64] [.l 56 (.st .s56)] k h
theorem spec_PiecesIn.ef (k : Nat) (h0 : List S59) (h1 : Int) : spec_PiecesIn.run k (h0, h1, ()) = spec_TileBox.ap k h1 fun r1_0 r1_1 => spec_PiecesIn.p4 k r1_1 0 h0 ([] : List S56) r1_0.f0.f0 r1_0.f0.f1 r1_0.f1.f0 r1_0.f1.f1 := by kernel_rfl
def spec_PiecesIn.toH (t : (List (S56))) : HL eΓ [.l 56 (.st .s56)] := (t, ())
def spec_PiecesIn.spec : Spc env := ⟨31, [.l 59 (.st .s59), .i .i64], [.l 56 (.st .s56)], spec_PiecesIn.run⟩
theorem spec_PiecesIn.snd : Snd env spec_PiecesIn.spec := evF_snd env_ok (sndC spec_TileBox.snd (sndC spec_IsSource.snd (sndC spec_PartsOf.snd (sndC spec_l20Pieces.snd (sndN)))))
attribute [local irreducible] spec_PiecesIn.run
theorem spec_PiecesIn.rt (a0 : List S56) : spec_PiecesIn.ret a0 = some (spec_PiecesIn.toH (a0)) := rfl
theorem spec_PiecesIn.br (n : Nat) : (∀ K, n ≤ K → ∀ (x7 : Bool) (x8 : Int) (x0 : List S59) (x5 : List S56) (b2_0 : Int) (b2_1 : Int) (b2_2 : Int) (b2_3 : Int) t, spec_PiecesIn.l0 n x0 x5 x7 x8 b2_0 b2_1 b2_2 b2_3 = some t → spec_PiecesIn.p4 K x7 x8 x0 x5 b2_0 b2_1 b2_2 b2_3 = some (spec_PiecesIn.toH t)) := by
  induction n using Nat.strongRecOn with
  | _ n ih =>
  intro K hK x7 x8 x0 x5 b2_0 b2_1 b2_2 b2_3 t h
  all_goals (rcases n with _ | k)
  all_goals (try (exact nos h))
  all_goals (obtain ⟨K, rfl⟩ : ∃ q, K = q + 1 := ⟨K - 1, by omega⟩)
  all_goals (first | rw [spec_PiecesIn.e4])
  all_goals (simp only [spec_PiecesIn.l0] at h)
  repeat' (with_reducible first
   | exact nos h
   | (cases some_inj h; exact spec_PiecesIn.rt _)
   | exact (ih _ (by omega)) _ (by omega) _ _ _ _ _ _ _ _ _ h
   | ((have q : spec_PiecesIn.j1 k _ _ _ _ _ _ _ _ _ = some _ := h; clear q); rcases k with _ | k <;> simp only [spec_PiecesIn.j1, reduceCtorEq] at h)
   | (simp only [Option.bind_some] at h)
   | (refine ite_by h ?_ ?_ <;> (intro hc h; (try simp only [nrm] at hc)))
   | refine itT ?_
   | refine itF ?_
   | (refine bind_by h (fun t ht h => ?_); (first | refine (spec_TileBox.ap_of (spec_TileBox.go ht _)).trans ?_ | refine (spec_IsSource.ap_of (spec_IsSource.go ht _ (by omega))).trans ?_ | refine (spec_PartsOf.ap_of (spec_PartsOf.go ht _ (by omega))).trans ?_ | refine (spec_l20Pieces.ap_of (spec_l20Pieces.go ht _ (by omega))).trans ?_); (try dsimp only at h ⊢))
   | (simp only [nr2] at h ⊢)
   | (exfalso; omega))
theorem spec_PiecesIn.go {k : Nat} {l0 : List S59} {a1 : Int} {t} (h : spec_PiecesIn.f k l0 a1 = some t) (K : Nat) (hK : k ≤ K) : spec_PiecesIn.run K (l0, a1, ()) = some (spec_PiecesIn.toH t) := by
  rw [spec_PiecesIn.ef]
  (try dsimp only)
  unfold spec_PiecesIn.f at h
  repeat' (with_reducible first
   | exact nos h
   | (cases some_inj h; exact spec_PiecesIn.rt _)
   | exact (spec_PiecesIn.br _) _ (by omega) _ _ _ _ _ _ _ _ _ h
   | ((have q : spec_PiecesIn.j1 k _ _ _ _ _ _ _ _ _ = some _ := h; clear q); rcases k with _ | k <;> simp only [spec_PiecesIn.j1, reduceCtorEq] at h)
   | (simp only [Option.bind_some] at h)
   | (refine ite_by h ?_ ?_ <;> (intro hc h; (try simp only [nrm] at hc)))
   | refine itT ?_
   | refine itF ?_
   | (refine bind_by h (fun t ht h => ?_); (first | refine (spec_TileBox.ap_of (spec_TileBox.go ht _)).trans ?_ | refine (spec_IsSource.ap_of (spec_IsSource.go ht _ (by omega))).trans ?_ | refine (spec_PartsOf.ap_of (spec_PartsOf.go ht _ (by omega))).trans ?_ | refine (spec_l20Pieces.ap_of (spec_l20Pieces.go ht _ (by omega))).trans ?_); (try dsimp only at h ⊢))
   | (simp only [nr2] at h ⊢)
   | (exfalso; omega))
theorem spec_PiecesIn.calls (k : Nat) (A0 : Option Addr) (c0 : Nat) (l0 : List (S59)) (a1 : Int) (r : List (S56)) (w : World) (hr0 : Kd.C k59 w A0 l0.length l0) (hc0 : l0.length ≤ c0) (h : spec_PiecesIn.f k l0 a1 = some r) :
  Calls Tryz.prog 31 #[.slice A0 l0.length c0, .int .i64 a1] w fun e w' => ∃ v0_ : Value, e = .returned (v0_) ∧ Kd.R k56 56 w' w.heap.size (fun _ => True) v0_ r ∧ Below w.heap.size w w' := by
  refine (spec_PiecesIn.snd.calls _ _ _ (spec_PiecesIn.go h k (Nat.le_refl k)) w [.slice A0 l0.length c0, .int .i64 a1] ⟨⟨_, _, rfl, hc0, hr0⟩, rfl, trivial⟩).mono ?_
  rintro e w' ⟨v, rfl, hB, vs, oks, rfl, hR, _⟩
  obtain ⟨x0_, vs, o0_, oks, rfl, rfl, m0_, hR⟩ := rmsC hR
  obtain rfl := rmsN hR
  obtain ⟨x0_v, x0_e, x0_R⟩ := m0_
  obtain rfl := List.singleton_inj.1 x0_e
  exact ⟨_, rfl, Kd.R_mono x0_R (fun _ _ => trivial), hB⟩
set_option maxHeartbeats 8000000 in
set_option maxRecDepth 100000 in
theorem l20A (u : Value) (l0 : List S56) (x : S56) (base : Nat) (w : World) (hb0 : base ≤ w.heap.size) (ho0 : Kd.R k56 56 w base (fun _ => True) u l0) (hlt : l0.length < 4398046511104) :
    Calls Tryz.prog 32 #[u, .agg #[.int .i64 x.f0, .int .i64 x.f1]] w fun e w' => ∃ v0_ : Value, e = .returned v0_ ∧ Kd.R k56 56 w' base (fun _ => True) v0_ (putQ l0 x) ∧ Below w.heap.size w w' := by
  obtain ⟨A, c, rfl⟩ := Kd.R_slice ho0
  obtain ⟨a, b⟩ := x
  have HXi : Aside0 ((w.alloc (.cells #[.int .i64 a, .int .i64 b] 56 (0, 0))).cell? ⟨w.heap.size, 0, none⟩ = some (.int .i64 a) ∧ (w.alloc (.cells #[.int .i64 a, .int .i64 b] 56 (0, 0))).cell? ⟨w.heap.size, 1, none⟩ = some (.int .i64 b)) := ⟨by constructor <;> go_simp⟩
  have HOi : Aside0 (Kd.R k56 56 (w.alloc (.cells #[.int .i64 a, .int .i64 b] 56 (0, 0))) base (fun _ => True) (.slice A l0.length c) l0) := ⟨Kd.R_below ho0 (below_alloc (Below.refl _ _) _)⟩
  have HBi : Aside0 (Below w.heap.size w (w.alloc (.cells #[.int .i64 a, .int .i64 b] 56 (0, 0)))) := ⟨below_alloc (Below.refl _ _) _⟩
  have LM := Aside0.mk hlt
  have HB0 := Aside0.mk hb0
  clear ho0 hb0 hlt
  have mixed : Tryz.prog.follows Departure.mixedOrders = true := by kernel_rfl
  go_enter Tryz.func32, Tryz.ntmps32
  go_upto_block 0 with (fail)
  generalize w.alloc (.cells #[.int .i64 a, .int .i64 b] 56 (0, 0)) = W at *
  go_cut [5] (fun s5 wc => ∃ p : Nat, s5 = .int .i64 (p : Int) ∧ Aside0 (p = posQ l0 a b l0.length) ∧ Aside0 (wc.cell? ⟨w.heap.size, 0, none⟩ = some (.int .i64 a) ∧ wc.cell? ⟨w.heap.size, 1, none⟩ = some (.int .i64 b)) ∧ Aside0 (Kd.R k56 56 wc base (fun _ => True) (.slice A l0.length c) l0) ∧ Aside0 (Below w.heap.size w wc))
  case first =>
    go_wp2_with fail
    go_loopg [5] l0.length (fun gg s5 wr => ∃ k : Nat, s5 = .int .i64 (k : Int) ∧ k ≤ l0.length ∧ k ≤ gg ∧ Aside0 (posQ l0 a b k = posQ l0 a b l0.length) ∧ Aside0 (wr.cell? ⟨w.heap.size, 0, none⟩ = some (.int .i64 a) ∧ wr.cell? ⟨w.heap.size, 1, none⟩ = some (.int .i64 b)) ∧ Aside0 (Kd.R k56 56 wr base (fun _ => True) (.slice A l0.length c) l0) ∧ Aside0 (Below w.heap.size w wr))
    case atStart => exact ⟨l0.length, rfl, Nat.le_refl _, Nat.le_refl _, ⟨rfl⟩, HXi, HOi, HBi⟩
    case round =>
      clear HXi HOi HBi
      obtain ⟨k, rfl, hk, hg, HP, HX, HO, HB⟩ := hrel
      obtain ⟨hx0, hx1⟩ := HX.out
      have hX0 : ∀ (d : Nat) (os : Array Obj), (Go.Sort.grow (redrawn wr d) os).cell? ⟨w.heap.size, 0, none⟩ = some (.int .i64 a) := qcell hx0
      have hX1 : ∀ (d : Nat) (os : Array Obj), (Go.Sort.grow (redrawn wr d) os).cell? ⟨w.heap.size, 1, none⟩ = some (.int .i64 b) := qcell hx1
      clear hx0 hx1
      rcases Nat.eq_zero_or_pos k with rfl | hpos
      · have q1 : ((0 : Int) < ((0 : Nat) : Int)) = False := eq_false (by omega)
        go_wp2_with fail
        refine wq_region (by kernel_rfl) (by kernel_rfl) ?_
        iterate 35 (refine wq_step (fun K hK => ?_); go_simp; (first | (refine hK _ ?_; clear hK K) | (apply Exists.intro; refine ⟨fun _ => ?_, hK _ ?_⟩; (first | rfl | (go_simp; done) | (go_simp; rfl)); clear hK K)))
        refine wq_nil ?_
        intro w1 hb
        have HX1 : Aside0 (w1.cell? ⟨w.heap.size, 0, none⟩ = some (.int .i64 a) ∧ w1.cell? ⟨w.heap.size, 1, none⟩ = some (.int .i64 b)) := ⟨(hb.cell (World.block_lt_of_cell? _ _ HX.out.1)).trans HX.out.1, (hb.cell (World.block_lt_of_cell? _ _ HX.out.2)).trans HX.out.2⟩
        have HO1 := Aside0.mk (Kd.R_below HO.out hb)
        have HB1 := Aside0.mk (below_step HB.out hb)
        clear hb HX HO HB
        go_wp2_with fail
        go_meet
        case rel => exact ⟨0, by first | rfl | (simp; done), HP, HX1, HO1, HB1⟩
      · have q1 : ((0 : Int) < (k : Int)) = True := eq_true (by omega)
        have hk9 : k ≤ 9223372036854775807 := Nat.le_trans hk (Nat.le_of_lt (Nat.lt_trans LM.out (by decide)))
        have e0 : wrap64 ((k : Int) - 1) = ((k - 1 : Nat) : Int) := wr_sub1 k hpos hk9
        have e2 : IntKind.i64.wrap ((k : Int) - 1) = ((k - 1 : Nat) : Int) := (i64_w _).trans e0
        have q2 : (0 ≤ ((k - 1 : Nat) : Int)) = True := eq_true (by omega)
        have q3 : (((k - 1 : Nat) : Int) < (l0.length : Int)) = True := eq_true (by omega)
        have q4 : (0 < k) = True := eq_true hpos
        have q5 : (k - 1 < l0.length) = True := eq_true (by omega)
        obtain ⟨ad, rfl, hy0, hy1⟩ := at_T56 (Kd.R_reads' HO.out).2.2 ((k - 1 : Nat) : Int) (by omega) (by omega)
        simp only [Int.toNat_natCast] at hy0 hy1
        have hP := HP.out
        rw [show k = k - 1 + 1 by omega, posQ] at hP
        unfold rd_T56 at hy0 hy1
        rw [Int.toNat_natCast] at hy0 hy1
        generalize (l0.getD (k - 1) z56).f0 = y0 at hy0 hP
        generalize (l0.getD (k - 1) z56).f1 = y1 at hy1 hP
        have hY0 : ∀ (d : Nat) (os : Array Obj), (Go.Sort.grow (redrawn wr d) os).cell? _ = some (.int .i64 y0) := qcell hy0
        have hY1 : ∀ (d : Nat) (os : Array Obj), (Go.Sort.grow (redrawn wr d) os).cell? _ = some (.int .i64 y1) := qcell hy1
        clear hy0 hy1
        have hkk : k - 1 + 1 = k := by omega
        rw [hkk] at hP
        have go : ∀ {Z : Prop}, (a < y0 ∨ (y0 = a ∧ b < y1)) → (posQ l0 a b (k - 1) = posQ l0 a b l0.length → Z) → Z := fun hc z => z (by rw [← hP, if_pos hc])
        have stop : ∀ {Z : Prop}, ¬ (a < y0 ∨ (y0 = a ∧ b < y1)) → (k = posQ l0 a b l0.length → Z) → Z := fun hc z => z (by rw [← hP, if_neg hc])
        have GO := Aside0.mk @go
        have STOP := Aside0.mk @stop
        have hk1 : k - 1 ≤ l0.length := by omega
        have hg1 : k - 1 < k := by omega
        have e1 := e0
        clear hP go stop hkk HP hpos hk9
        by_cases c1 : a < y0
        · have c1' := eq_true c1
          have G := GO.out (.inl c1) Aside0.mk
          clear GO STOP c1
          go_wp2_with fail
          refine wq_region (by kernel_rfl) (by kernel_rfl) ?_
          iterate 35 (refine wq_step (fun K hK => ?_); go_simp; (first | (refine hK _ ?_; clear hK K) | (apply Exists.intro; refine ⟨fun _ => ?_, hK _ ?_⟩; (first | rfl | (go_simp; done) | (go_simp; rfl)); clear hK K)))
          refine wq_nil ?_
          intro w1 hb
          have HX1 : Aside0 (w1.cell? ⟨w.heap.size, 0, none⟩ = some (.int .i64 a) ∧ w1.cell? ⟨w.heap.size, 1, none⟩ = some (.int .i64 b)) := ⟨(hb.cell (World.block_lt_of_cell? _ _ HX.out.1)).trans HX.out.1, (hb.cell (World.block_lt_of_cell? _ _ HX.out.2)).trans HX.out.2⟩
          have HO1 := Aside0.mk (Kd.R_below HO.out hb)
          have HB1 := Aside0.mk (below_step HB.out hb)
          clear hb HX HO HB
          go_wp2_with fail
          go_roundg (k - 1)
          case measure => omega
          case rel => exact ⟨k - 1, by first | rfl | rw [e1] | rw [e2], hk1, Nat.le_refl _, G, HX1, HO1, HB1⟩
        · have c1' := eq_false c1
          by_cases c2 : y0 = a
          · have c2s := c2.symm
            subst c2s
            by_cases c3 : b < y1
            · have c3' := eq_true c3
              have G := GO.out (.inr ⟨rfl, c3⟩) Aside0.mk
              clear GO STOP c1 c3
              go_wp2_with fail
              refine wq_region (by kernel_rfl) (by kernel_rfl) ?_
              iterate 35 (refine wq_step (fun K hK => ?_); go_simp; (first | (refine hK _ ?_; clear hK K) | (apply Exists.intro; refine ⟨fun _ => ?_, hK _ ?_⟩; (first | rfl | (go_simp; done) | (go_simp; rfl)); clear hK K)))
              refine wq_nil ?_
              intro w1 hb
              have HX1 : Aside0 (w1.cell? ⟨w.heap.size, 0, none⟩ = some (.int .i64 a) ∧ w1.cell? ⟨w.heap.size, 1, none⟩ = some (.int .i64 b)) := ⟨(hb.cell (World.block_lt_of_cell? _ _ HX.out.1)).trans HX.out.1, (hb.cell (World.block_lt_of_cell? _ _ HX.out.2)).trans HX.out.2⟩
              have HO1 := Aside0.mk (Kd.R_below HO.out hb)
              have HB1 := Aside0.mk (below_step HB.out hb)
              clear hb HX HO HB
              go_wp2_with fail
              go_roundg (k - 1)
              case measure => omega
              case rel => exact ⟨k - 1, by first | rfl | rw [e1] | rw [e2], hk1, Nat.le_refl _, G, HX1, HO1, HB1⟩
            · have c3' := eq_false c3
              have G := STOP.out (by omega) Aside0.mk
              clear GO STOP c1 c3
              go_wp2_with fail
              refine wq_region (by kernel_rfl) (by kernel_rfl) ?_
              iterate 35 (refine wq_step (fun K hK => ?_); go_simp; (first | (refine hK _ ?_; clear hK K) | (apply Exists.intro; refine ⟨fun _ => ?_, hK _ ?_⟩; (first | rfl | (go_simp; done) | (go_simp; rfl)); clear hK K)))
              refine wq_nil ?_
              intro w1 hb
              have HX1 : Aside0 (w1.cell? ⟨w.heap.size, 0, none⟩ = some (.int .i64 a) ∧ w1.cell? ⟨w.heap.size, 1, none⟩ = some (.int .i64 b)) := ⟨(hb.cell (World.block_lt_of_cell? _ _ HX.out.1)).trans HX.out.1, (hb.cell (World.block_lt_of_cell? _ _ HX.out.2)).trans HX.out.2⟩
              have HO1 := Aside0.mk (Kd.R_below HO.out hb)
              have HB1 := Aside0.mk (below_step HB.out hb)
              clear hb HX HO HB
              go_wp2_with fail
              go_meet
              case rel => exact ⟨k, rfl, G, HX1, HO1, HB1⟩
          · have c2' : (y0 == a) = false := beq_eq_false_iff_ne.mpr c2
            have c2'' := eq_false c2
            have G := STOP.out (by omega) Aside0.mk
            clear GO STOP c1 c2
            go_wp2_with fail
            refine wq_region (by kernel_rfl) (by kernel_rfl) ?_
            iterate 35 (refine wq_step (fun K hK => ?_); go_simp; (first | (refine hK _ ?_; clear hK K) | (apply Exists.intro; refine ⟨fun _ => ?_, hK _ ?_⟩; (first | rfl | (go_simp; done) | (go_simp; rfl)); clear hK K)))
            refine wq_nil ?_
            intro w1 hb
            have HX1 : Aside0 (w1.cell? ⟨w.heap.size, 0, none⟩ = some (.int .i64 a) ∧ w1.cell? ⟨w.heap.size, 1, none⟩ = some (.int .i64 b)) := ⟨(hb.cell (World.block_lt_of_cell? _ _ HX.out.1)).trans HX.out.1, (hb.cell (World.block_lt_of_cell? _ _ HX.out.2)).trans HX.out.2⟩
            have HO1 := Aside0.mk (Kd.R_below HO.out hb)
            have HB1 := Aside0.mk (below_step HB.out hb)
            clear hb HX HO HB
            go_wp2_with fail
            go_meet
            case rel => exact ⟨k, rfl, G, HX1, HO1, HB1⟩
  case rest =>
    clear HXi HOi HBi
    obtain ⟨p, rfl, HP, HX, HO, HB⟩ := hcut
    have HL := Aside0.mk (show p ≤ l0.length by rw [HP.out]; exact posQ_le l0 a b l0.length)
    go_upto_region 4 with (fail)
    go_cut [55] (fun s55 w1 => ∃ bb : Bool, s55 = .bool bb ∧ Aside0 ((bb = true → putQ l0 ⟨a, b⟩ = l0) ∧ (bb = false → putQ l0 ⟨a, b⟩ = (l0.take p ++ [⟨a, b⟩]) ++ l0.drop p)) ∧ Aside0 (w1.cell? ⟨w.heap.size, 0, none⟩ = some (.int .i64 a) ∧ w1.cell? ⟨w.heap.size, 1, none⟩ = some (.int .i64 b)) ∧ Aside0 (Kd.R k56 56 w1 base (fun _ => True) (.slice A l0.length c) l0) ∧ Aside0 (Below w.heap.size w w1))
    case first =>
      have hX0 : ∀ (d : Nat) (os : Array Obj), (Go.Sort.grow (redrawn wc d) os).cell? ⟨w.heap.size, 0, none⟩ = some (.int .i64 a) := qcell HX.out.1
      have hX1 : ∀ (d : Nat) (os : Array Obj), (Go.Sort.grow (redrawn wc d) os).cell? ⟨w.heap.size, 1, none⟩ = some (.int .i64 b) := qcell HX.out.2
      have hq4 := eqA4
      rcases Nat.eq_zero_or_pos p with rfl | hpos
      · have E : Aside0 (putQ l0 ⟨a, b⟩ = (l0.take 0 ++ [⟨a, b⟩]) ++ l0.drop 0) := ⟨by unfold putQ; dsimp only; rw [← HP.out, if_neg (fun h => absurd h.1 (by omega))]⟩
        refine wq_region (by kernel_rfl) (by kernel_rfl) ?_
        iterate 11 (refine wq_step (fun K hK => ?_); go_simp; (first | (refine hK _ ?_; clear hK K) | (apply Exists.intro; refine ⟨fun _ => ?_, hK _ ?_⟩; (first | rfl | (go_simp; done) | (go_simp; rfl)); clear hK K)))
        refine wq_nil ?_
        intro w1 hb
        have HX1 : Aside0 (w1.cell? ⟨w.heap.size, 0, none⟩ = some (.int .i64 a) ∧ w1.cell? ⟨w.heap.size, 1, none⟩ = some (.int .i64 b)) := ⟨(hb.cell (World.block_lt_of_cell? _ _ HX.out.1)).trans HX.out.1, (hb.cell (World.block_lt_of_cell? _ _ HX.out.2)).trans HX.out.2⟩
        have HO1 := Aside0.mk (Kd.R_below HO.out hb)
        have HB1 := Aside0.mk (below_step HB.out hb)
        clear hb HX HO HB
        go_wp2_with fail
        go_meet
        case rel => exact ⟨false, rfl, ⟨fun h => absurd h (by decide), fun _ => E.out⟩, HX1, HO1, HB1⟩
      · have hl := HL.out
        have hk9 : p ≤ 9223372036854775807 := Nat.le_trans hl (Nat.le_of_lt (Nat.lt_trans LM.out (by decide)))
        have e0 : wrap64 ((p : Int) - 1) = ((p - 1 : Nat) : Int) := wr_sub1 p hpos hk9
        have e2 : IntKind.i64.wrap ((p : Int) - 1) = ((p - 1 : Nat) : Int) := (i64_w _).trans e0
        have q2 : (0 ≤ ((p - 1 : Nat) : Int)) = True := eq_true (by omega)
        have q3 : (((p - 1 : Nat) : Int) < (l0.length : Int)) = True := eq_true (by omega)
        have q4 : (0 < p) = True := eq_true hpos
        have q5 : (p - 1 < l0.length) = True := eq_true (by omega)
        obtain ⟨ad, rfl, hy0, hy1⟩ := at_T56 (Kd.R_reads' HO.out).2.2 ((p - 1 : Nat) : Int) (by omega) (by omega)
        unfold rd_T56 at hy0 hy1
        simp only [Int.toNat_natCast] at hy0 hy1
        have hE : ∀ y : S56, y = l0.getD (p - 1) z56 → (y.f0 = a ∧ y.f1 = b → putQ l0 ⟨a, b⟩ = l0) ∧ (¬ (y.f0 = a ∧ y.f1 = b) → putQ l0 ⟨a, b⟩ = (l0.take p ++ [⟨a, b⟩]) ++ l0.drop p) := by
          intro y hy
          unfold putQ
          dsimp only
          rw [← HP.out, ← hy]
          refine ⟨fun h => ?_, fun h => ?_⟩
          · rw [if_pos ⟨hpos, by cases y; cases h.1; cases h.2; rfl⟩]
          · rw [if_neg (fun h' => h (by rw [h'.2]; exact ⟨rfl, rfl⟩))]
        generalize hy : l0.getD (p - 1) z56 = y at hy0 hy1
        have HE := Aside0.mk (hE y hy.symm)
        clear hE hy
        obtain ⟨y0, y1⟩ := y
        dsimp only at hy0 hy1 HE
        have hY0 : ∀ (d : Nat) (os : Array Obj), (Go.Sort.grow (redrawn wc d) os).cell? _ = some (.int .i64 y0) := qcell hy0
        have hY1 : ∀ (d : Nat) (os : Array Obj), (Go.Sort.grow (redrawn wc d) os).cell? _ = some (.int .i64 y1) := qcell hy1
        clear hy0 hy1 hl hk9 hpos
        by_cases hd : y0 = a ∧ y1 = b
        · have E := Aside0.mk (HE.out.1 hd)
          have dq : decide (y0 = a ∧ y1 = b) = true := decide_eq_true hd
          clear HE hd HP
          refine wq_region (by kernel_rfl) (by kernel_rfl) ?_
          iterate 11 (refine wq_step (fun K hK => ?_); go_simp; (first | (refine hK _ ?_; clear hK K) | (apply Exists.intro; refine ⟨fun _ => ?_, hK _ ?_⟩; (first | rfl | (go_simp; done) | (go_simp; rfl)); clear hK K)))
          refine wq_nil ?_
          intro w1 hb
          have HX1 : Aside0 (w1.cell? ⟨w.heap.size, 0, none⟩ = some (.int .i64 a) ∧ w1.cell? ⟨w.heap.size, 1, none⟩ = some (.int .i64 b)) := ⟨(hb.cell (World.block_lt_of_cell? _ _ HX.out.1)).trans HX.out.1, (hb.cell (World.block_lt_of_cell? _ _ HX.out.2)).trans HX.out.2⟩
          have HO1 := Aside0.mk (Kd.R_below HO.out hb)
          have HB1 := Aside0.mk (below_step HB.out hb)
          clear hb HX HO HB
          go_wp2_with fail
          go_meet
          case rel => exact ⟨true, rfl, ⟨fun _ => E.out, fun h => absurd h (by decide)⟩, HX1, HO1, HB1⟩
        · have E := Aside0.mk (HE.out.2 hd)
          have dq : decide (y0 = a ∧ y1 = b) = false := decide_eq_false hd
          clear HE hd HP
          refine wq_region (by kernel_rfl) (by kernel_rfl) ?_
          iterate 11 (refine wq_step (fun K hK => ?_); go_simp; (first | (refine hK _ ?_; clear hK K) | (apply Exists.intro; refine ⟨fun _ => ?_, hK _ ?_⟩; (first | rfl | (go_simp; done) | (go_simp; rfl)); clear hK K)))
          refine wq_nil ?_
          intro w1 hb
          have HX1 : Aside0 (w1.cell? ⟨w.heap.size, 0, none⟩ = some (.int .i64 a) ∧ w1.cell? ⟨w.heap.size, 1, none⟩ = some (.int .i64 b)) := ⟨(hb.cell (World.block_lt_of_cell? _ _ HX.out.1)).trans HX.out.1, (hb.cell (World.block_lt_of_cell? _ _ HX.out.2)).trans HX.out.2⟩
          have HO1 := Aside0.mk (Kd.R_below HO.out hb)
          have HB1 := Aside0.mk (below_step HB.out hb)
          clear hb HX HO HB
          go_wp2_with fail
          go_meet
          case rel => exact ⟨false, rfl, ⟨fun h => absurd h (by decide), fun _ => E.out⟩, HX1, HO1, HB1⟩
    case rest =>
      clear HX HO HB HP
      obtain ⟨bb, rfl, HE, HX, HO, HB⟩ := hcut
      cases bb with
      | true =>
        have E := Aside0.mk (HE.out.1 rfl)
        clear HE
        go_wp2_with fail
        go_ret
        exact ⟨_, rfl, by rw [E.out]; exact HO.out, HB.out⟩
      | false =>
        have E := Aside0.mk (HE.out.2 rfl)
        clear HE
        go_upto_region 6 with (fail)
        have HC0 := Aside0.mk (Kd.R_reads' HO.out).2.1
        have HR0 := Aside0.mk (Kd.R_reads' HO.out).2.2
        have HBc := Aside0.mk (below_drew1 HB.out)
        have HS : Aside0 (wc.drew.cell? ⟨w.heap.size, 0, none⟩ = some (.int .i64 a) ∧ wc.drew.cell? ⟨w.heap.size, 1, none⟩ = some (.int .i64 b)) := HX
        clear HO HB HX
        obtain ⟨i0, hi0, _, hsz, _⟩ := info_parts info56
        have hl := HL.out
        have d1 : (0 ≤ (p : Int)) = True := eq_true (by omega)
        have d2 : ((p : Int) ≤ (l0.length : Int)) = True := eq_true (by omega)
        have hcutA := cut_to (P := Tryz.prog) 25 56 .i64 Tryz.underlying25 hi0 A l0.length c (p : Int) (by omega) (by omega) HC0.out
        have hcutB := cut_from (P := Tryz.prog) 25 56 .i64 Tryz.underlying25 hi0 2 hsz A l0.length c (p : Int) (by omega) (by omega)
        have hrA := Kd.C_take (m := (p : Int).toNat) (Kd.C_drew HR0.out) (by omega)
        have hrB := Kd.C_drop (m := (p : Int).toNat) (c := c) (Kd.C_drew HR0.out) (by omega) HC0.out
        obtain ⟨yA, hyA⟩ : ∃ y_ : List S56, y_ = l0.take (p : Int).toNat := ⟨_, rfl⟩
        obtain ⟨yB, hyB⟩ : ∃ y_ : List S56, y_ = l0.drop (p : Int).toNat := ⟨_, rfl⟩
        have hlA : yA.length = (p : Int).toNat := by rw [hyA, List.length_take]; omega
        have hlB : yB.length = l0.length - (p : Int).toNat := by rw [hyB, List.length_drop]
        rw [← hyA] at hrA
        rw [← hyB] at hrB
        rw [← hlA] at hcutA
        obtain ⟨B1, hB1⟩ : ∃ A1, A1 = (if c = (p : Int).toNat then A else (A : Option Addr).map (·.add ((p : Int).toNat * 2))) := ⟨_, rfl⟩
        obtain ⟨cB, hcB⟩ : ∃ c1, c1 = c - (p : Int).toNat := ⟨_, rfl⟩
        replace hrB : Kd.C k56 wc.drew B1 yB.length yB := by rw [hB1]; exact hrB
        rw [← hlB, ← hB1, ← hcB] at hcutB
        have LA := Aside0.mk (show yA.length + 1 + yB.length < 8796093022208 by have := LM.out; omega)
        have YA := Aside0.mk (show yA = l0.take p from hyA)
        have YB := Aside0.mk (show yB = l0.drop p from hyB)
        have HA := Aside0.mk hrA
        have HB2 := Aside0.mk hrB
        clear hrA hrB hyA hyB hlA hlB hB1 hcB hi0 hsz hl
        refine start_ (n := 13) (S := fun w' => w'.cell? ⟨w.heap.size, 0, none⟩ = some (.int .i64 a) ∧ w'.cell? ⟨w.heap.size, 1, none⟩ = some (.int .i64 b)) (ds := []) #[false,false,false,false,false,false,false,false,false,false,false,false,false] (by kernel_rfl) rfl rfl HS.out (fun hHeld => ?_)
        refine with_tabW l20.tab6 l20.bits6 (fun HT_ HW_ => ?_)
        have SX : Aside0 (∀ w', Below wc.drew.heap.size wc.drew w' → w'.cell? ⟨w.heap.size, 0, none⟩ = some (.int .i64 a) ∧ w'.cell? ⟨w.heap.size, 1, none⟩ = some (.int .i64 b)) := ⟨fun w' hb => ⟨(hb.cell (World.block_lt_of_cell? _ _ hHeld.1)).trans hHeld.1, (hb.cell (World.block_lt_of_cell? _ _ hHeld.2)).trans hHeld.2⟩⟩
        generalize wc.drew = WD at HA HB2 HBc hHeld SX HS ⊢
        have HB := Aside0.mk (Below.refl WD.heap.size WD)
        refine pz HT_ 1 58 ?_
        refine pz HT_ 2 59 ?_
        refine pz HT_ 3 60 ?_
        refine tz2 HT_ HW_ hHeld 5 62 ?_
        refine pz HT_ 8 65 ?_
        refine pz HT_ 9 66 ?_
        refine pz HT_ 10 67 ?_
        refine join_ (σ := Value × Value × Value) 3 #[true,true,true,true,true,true,true,false,true,true,true,false,false] (fun s_ => [(57, s_.1), (61, s_.2.1), (63, s_.2.2)]) (fun s_ w' => Kd.R k56 56 w' WD.heap.size (fun k_ => some k_ ≠ (s_.2.2 : Value).ownBlock) s_.2.1 yA ∧ Kd.R k56 56 w' WD.heap.size (fun k_ => some k_ ≠ (s_.2.1 : Value).ownBlock) s_.2.2 [(⟨a, b⟩ : S56)] ∧ Below WD.heap.size WD w') ?_ ?_
        rotate_left
        · intro hCont
          refine two_ (i := 0) (j := 6) (Ni := some 57) (Nj := some 63) #[true,true,true,true,false,true,false,false,true,true,true,false,false] #[false,true,true,true,false,true,true,false,true,true,true,false,false] rfl rfl rfl rfl (two_of HT_.out (by kernel_rfl)) (by decide) (by decide) (fun K hK => ?_) (fun K hK => ?_)
          · refine Kd.R_lit_step k56 _ 56 ?hg (N := 57) ?hd (xs := ([] : List S56)) (inner := []) (ok := fun _ => True) (okp := fun _ => True) ?hr ?hp (fun _ hk => hk) trivial (Below.refl _ _) (Nat.le_refl _) (by simp) ?_; (case hd => rfl); (case hg => rfl); (case hr => first | (go_simp; done) | (go_simp; rfl)); (case hp => exact (Reps.none _ _)); intro v0n wN hoN hb hg_ hnew_; clear hg_ hnew_
            have H0 := Aside0.mk (Kd.R_lower hoN (below_size HB.out)); replace HB := Aside0.mk (below_step HB.out hb); clear hb hoN
            refine hK.out _ _ (SX.out _ HB.out) (fun hHeld => ?_); clear hK K
            refine nz 57 ?_
            refine two_ (i := 4) (j := 6) (Ni := some 61) (Nj := some 63) #[true,true,true,true,true,true,false,false,true,true,true,false,false] #[true,true,true,true,false,true,true,false,true,true,true,false,false] rfl rfl rfl rfl (two_of HT_.out (by kernel_rfl)) (by decide) (by decide) (fun K hK => ?_) (fun K hK => ?_)
            · refine Kd.R_append_rows_step k56 (w0 := WD) WD.heap.size (by rfl) (.tmp 57) (.tmp 60) 25 56 (.agg #[(.int .i64 0), (.int .i64 0)]) 16 rfl Tryz.underlying25 info56 rfl (by decide) (by omega) v0n [] yA _ _ _ (fun _ => True) (fun _ => False) rfl rfl H0.out (Kd.C_below HA.out HB.out) (fun _ _ h => h) (fun _ h => h.elim) (fun _ _ => trivial) HB.out (below_size HB.out) (by have := LA.out; simp; omega) ?_; intro v2n wN hoN hb hg hat
              rw [List.nil_append] at hoN; have H2 := Aside0.mk hoN; replace HB := Aside0.mk hb; clear H0 hoN hb hg hat
              refine hK.out _ _ (SX.out _ HB.out) (fun hHeld => ?_); clear hK K
              refine nz 61 ?_; refine oz HT_ 6 (some 63) (fun K hK => ?_)
              refine Kd.R_lit_step k56 _ 56 ?hg (N := 63) ?hd (xs := ([(⟨a, b⟩ : S56)] : List S56)) (inner := [.int .i64 a, .int .i64 b]) (ok := fun _ => True) (okp := fun _ => True) ?hr ?hp (fun _ hk => hk) trivial (Below.refl _ _) (Nat.le_refl _) (by simp) ?_; (case hd => rfl); (case hg => rfl); (case hr => first | (go_simp; done) | (go_simp; rfl)); (case hp => exact (Reps.c2 (show Kd.M k56 _ _ _ (⟨a, b⟩ : S56) [.int .i64 a, .int .i64 b] from k56_mkM _ _ _ _) (Reps.none _ _))); intro v1n wN hoN hb hg_ hnew_; clear hg_ hnew_
              have H1 := Aside0.mk (Kd.R_lower (Kd.R_new' hoN (Kd.R_lt H2.out)) (below_size HB.out)); replace H2 := Aside0.mk (Kd.R_elder' H2.out (Kd.R_base hoN) hb); replace HB := Aside0.mk (below_step HB.out hb); clear hb hoN
              refine hK.out _ _ (SX.out _ HB.out) (fun hHeld => ?_); clear hK K
              refine nz 63 ?_
              exact norm_ (by simp only [putAll, Act.put, List.setIfInBounds_toArray, List.set_cons_zero, List.set_cons_succ]) (hCont (v0n, v2n, v1n) _ ⟨(Kd.R_mono H2.out (fun _ hk => hk.2)), (Kd.R_mono H1.out (fun _ hk => hk.2)), HB.out⟩)
            · refine Kd.R_lit_step k56 _ 56 ?hg (N := 63) ?hd (xs := ([(⟨a, b⟩ : S56)] : List S56)) (inner := [.int .i64 a, .int .i64 b]) (ok := fun _ => True) (okp := fun _ => True) ?hr ?hp (fun _ hk => hk) trivial (Below.refl _ _) (Nat.le_refl _) (by simp) ?_; (case hd => rfl); (case hg => rfl); (case hr => first | (go_simp; done) | (go_simp; rfl)); (case hp => exact (Reps.c2 (show Kd.M k56 _ _ _ (⟨a, b⟩ : S56) [.int .i64 a, .int .i64 b] from k56_mkM _ _ _ _) (Reps.none _ _))); intro v1n wN hoN hb hg_ hnew_; clear hg_ hnew_
              have H1 := Aside0.mk (Kd.R_lower (Kd.R_new' hoN (Kd.R_lt H0.out)) (below_size HB.out)); replace H0 := Aside0.mk (Kd.R_elder' H0.out (Kd.R_base hoN) hb); replace HB := Aside0.mk (below_step HB.out hb); clear hb hoN
              refine hK.out _ _ (SX.out _ HB.out) (fun hHeld => ?_); clear hK K
              refine nz 63 ?_; refine oz HT_ 4 (some 61) (fun K hK => ?_)
              refine Kd.R_append_rows_step k56 (w0 := WD) WD.heap.size (by rfl) (.tmp 57) (.tmp 60) 25 56 (.agg #[(.int .i64 0), (.int .i64 0)]) 16 rfl Tryz.underlying25 info56 rfl (by decide) (by omega) v0n [] yA _ _ _ (fun k_ => some k_ ≠ (v1n : Value).ownBlock) (fun _ => False) rfl rfl (Kd.R_mono H0.out (fun _ hk => hk.2)) (Kd.C_below HA.out HB.out) (fun _ _ h => h) (fun _ h => h.elim) (fun k_ hk => Kd.fresh' (Kd.R_lt H1.out) k_ hk) HB.out (below_size HB.out) (by have := LA.out; simp; omega) ?_; intro v2n wN hoN hb hg hat
              rw [List.nil_append] at hoN; have n0_ := Aside0.mk (Kd.R_after (ok := (fun _ => True)) H1.out hg hat); have H2 := Aside0.mk hoN; replace HB := Aside0.mk hb; clear H1 H0 hoN hb hg hat; have H1 := n0_; clear n0_
              refine hK.out _ _ (SX.out _ HB.out) (fun hHeld => ?_); clear hK K
              refine nz 61 ?_
              exact norm_ (by simp only [putAll, Act.put, List.setIfInBounds_toArray, List.set_cons_zero, List.set_cons_succ]) (hCont (v0n, v2n, v1n) _ ⟨H2.out, (Kd.R_mono H1.out (fun _ hk => hk.2)), HB.out⟩)
          · refine Kd.R_lit_step k56 _ 56 ?hg (N := 63) ?hd (xs := ([(⟨a, b⟩ : S56)] : List S56)) (inner := [.int .i64 a, .int .i64 b]) (ok := fun _ => True) (okp := fun _ => True) ?hr ?hp (fun _ hk => hk) trivial (Below.refl _ _) (Nat.le_refl _) (by simp) ?_; (case hd => rfl); (case hg => rfl); (case hr => first | (go_simp; done) | (go_simp; rfl)); (case hp => exact (Reps.c2 (show Kd.M k56 _ _ _ (⟨a, b⟩ : S56) [.int .i64 a, .int .i64 b] from k56_mkM _ _ _ _) (Reps.none _ _))); intro v1n wN hoN hb hg_ hnew_; clear hg_ hnew_
            have H1 := Aside0.mk (Kd.R_lower hoN (below_size HB.out)); replace HB := Aside0.mk (below_step HB.out hb); clear hb hoN
            refine hK.out _ _ (SX.out _ HB.out) (fun hHeld => ?_); clear hK K
            refine nz 63 ?_; refine oz HT_ 0 (some 57) (fun K hK => ?_)
            refine Kd.R_lit_step k56 _ 56 ?hg (N := 57) ?hd (xs := ([] : List S56)) (inner := []) (ok := fun _ => True) (okp := fun _ => True) ?hr ?hp (fun _ hk => hk) trivial (Below.refl _ _) (Nat.le_refl _) (by simp) ?_; (case hd => rfl); (case hg => rfl); (case hr => first | (go_simp; done) | (go_simp; rfl)); (case hp => exact (Reps.none _ _)); intro v0n wN hoN hb hg_ hnew_; clear hg_ hnew_
            have H0 := Aside0.mk (Kd.R_lower (Kd.R_new' hoN (Kd.R_lt H1.out)) (below_size HB.out)); replace H1 := Aside0.mk (Kd.R_elder' H1.out (Kd.R_base hoN) hb); replace HB := Aside0.mk (below_step HB.out hb); clear hb hoN
            refine hK.out _ _ (SX.out _ HB.out) (fun hHeld => ?_); clear hK K
            refine nz 57 ?_; refine oz HT_ 4 (some 61) (fun K hK => ?_)
            refine Kd.R_append_rows_step k56 (w0 := WD) WD.heap.size (by rfl) (.tmp 57) (.tmp 60) 25 56 (.agg #[(.int .i64 0), (.int .i64 0)]) 16 rfl Tryz.underlying25 info56 rfl (by decide) (by omega) v0n [] yA _ _ _ (fun k_ => some k_ ≠ (v1n : Value).ownBlock) (fun _ => False) rfl rfl (Kd.R_mono H0.out (fun _ hk => hk.2)) (Kd.C_below HA.out HB.out) (fun _ _ h => h) (fun _ h => h.elim) (fun k_ hk => Kd.fresh' (Kd.R_lt H1.out) k_ hk) HB.out (below_size HB.out) (by have := LA.out; simp; omega) ?_; intro v2n wN hoN hb hg hat
            rw [List.nil_append] at hoN; have n0_ := Aside0.mk (Kd.R_after (ok := (fun _ => True)) H1.out hg hat); have H2 := Aside0.mk hoN; replace HB := Aside0.mk hb; clear H1 H0 hoN hb hg hat; have H1 := n0_; clear n0_
            refine hK.out _ _ (SX.out _ HB.out) (fun hHeld => ?_); clear hK K
            refine nz 61 ?_
            exact norm_ (by simp only [putAll, Act.put, List.setIfInBounds_toArray, List.set_cons_zero, List.set_cons_succ]) (hCont (v0n, v2n, v1n) _ ⟨H2.out, (Kd.R_mono H1.out (fun _ hk => hk.2)), HB.out⟩)
        rintro ⟨v0n, v2n, v1n⟩ wN ⟨h0_, h1_, h2_⟩
        clear HB
        have H2 := Aside0.mk h0_; have H1 := Aside0.mk h1_; have HB := Aside0.mk h2_; clear h0_ h1_ h2_; have hHeld := SX.out _ HB.out; obtain ⟨Ax, cx, ex⟩ := Kd.R_slice H1.out; subst ex
        refine norm_ (a' := ?_) ?_ ?_
        rotate_left
        · show putAll _ _ = _
          simp only [putAll, Act.put, List.setIfInBounds_toArray, List.set_cons_zero, List.set_cons_succ]
          rfl
        refine oz HT_ 7 (some 64) (fun K hK => ?_)
        refine Kd.R_append_rows_step k56 (w0 := WD) WD.heap.size (by rfl) (.tmp 61) (.tmp 63) 25 56 (.agg #[(.int .i64 0), (.int .i64 0)]) 16 rfl Tryz.underlying25 info56 rfl (by decide) (by omega) v2n yA [(⟨a, b⟩ : S56)] _ _ _ (fun _ => True) (fun _ => False) rfl rfl (Kd.R_mono H2.out (fun _ _ => trivial)) (Kd.R_reads' H1.out).2.2 (fun _ _ h => h) (fun _ h => h.elim) (fun _ _ => trivial) HB.out (below_size HB.out) (by have := LA.out; simp; omega) ?_; intro v3n wN hoN hb hg hat
        have H3 := Aside0.mk hoN; replace HB := Aside0.mk hb; clear H1 H2 hoN hb hg hat
        refine hK.out _ _ (SX.out _ HB.out) (fun hHeld => ?_); clear hK K
        refine nz 64 ?_; refine oz HT_ 11 (some 68) (fun K hK => ?_)
        refine Kd.R_append_rows_step k56 (w0 := WD) WD.heap.size (by rfl) (.tmp 64) (.tmp 67) 25 56 (.agg #[(.int .i64 0), (.int .i64 0)]) 16 rfl Tryz.underlying25 info56 rfl (by decide) (by omega) v3n (yA ++ [(⟨a, b⟩ : S56)]) yB _ _ _ (fun _ => True) (fun _ => False) rfl rfl H3.out (Kd.C_below HB2.out HB.out) (fun _ _ h => h) (fun _ h => h.elim) (fun _ _ => trivial) HB.out (below_size HB.out) (by have := LA.out; simp; omega) ?_; intro v4n wN hoN hb hg hat
        have H4 := Aside0.mk hoN; replace HB := Aside0.mk hb; clear H3 hoN hb hg hat
        refine hK.out _ _ (SX.out _ HB.out) (fun hHeld => ?_); clear hK K
        refine nz 68 ?_; refine pz HT_ 12 4 ?_; refine dz HT_ ?_
        obtain ⟨Ay, cy, ey⟩ := Kd.R_slice H4.out; subst ey
        clear HA HB2 hHeld SX HS hcutA hcutB d1 d2
        have HO4 := Aside0.mk (Kd.R_lower H4.out (below_size HBc.out)); have HB4 := Aside0.mk (below_step HBc.out HB.out)
        clear H4 HB HBc
        go_wp2_with fail
        go_ret
        exact ⟨_, rfl, by rw [show putQ l0 ⟨a, b⟩ = (yA ++ [⟨a, b⟩]) ++ yB by rw [YA.out, YB.out]; exact E.out]; exact Kd.R_lower HO4.out HB0.out, HB4.out⟩
set_option maxHeartbeats 8000000 in
set_option maxRecDepth 100000 in
theorem spec_JoinTiles.calls (k : Nat) (A0 : Option Addr) (c0 : Nat) (l0 : List S59) (A1 : Option Addr) (c1 : Nat) (l1 : List Int) (r : List S56) (w : World) (hr0 : Kd.C k59 w A0 l0.length l0) (hc0 : l0.length ≤ c0) (hr1 : Kd.C (Kd.int .i64) w A1 l1.length l1) (hc1 : l1.length ≤ c1) (h : spec_JoinTiles.f k l0 l1 = some r) :
    Calls Tryz.prog 8 #[.slice A0 l0.length c0, .slice A1 l1.length c1] w fun e w' => ∃ v0_ : Value, e = .returned (v0_) ∧ Kd.R k56 56 w' w.heap.size (fun _ => True) v0_ r ∧ Below w.heap.size w w' := by
  have HR0 := Aside0.mk hr0
  have HC0 := Aside0.mk hc0
  have HR1 := Aside0.mk hr1
  have HC1 := Aside0.mk hc1
  have HL1 := Aside0.mk hr1.2.1
  clear hr0 hc0 hr1 hc1
  have HB := Aside0.mk (Below.refl w.heap.size w)
  have HX := Aside0.mk (show js k l0 l1 [] = some r from h)
  clear h
  go_enter Tryz.func8, Tryz.ntmps8
  go_wp2
  have HOi : Aside0 (Kd.R k56 56 (w.alloc (.cells #[] 56 (0, 0))) w.heap.size (fun _ => True) (.slice (some ⟨w.heap.size, 0, none⟩) 0 0) []) :=
    ⟨⟨fun _ _ => trivial, [], ⟨rfl, .inr ⟨w.heap.size, 0, #[], rfl, Nat.le_refl _, Array.getElem?_push_size, Nat.le_refl _, by decide, rfl, rfl⟩⟩, Reps.none _ _⟩⟩
  have HBi : Aside0 (Below w.heap.size w (w.alloc (.cells #[] 56 (0, 0)))) := ⟨below_alloc HB.out _⟩
  go_loopg [5, 6] l1.length (fun gg s5 s6 wr => ∃ (j : Nat) (xs : List S56), s6 = .int .i64 (j : Int) ∧ j ≤ l1.length ∧ l1.length - j ≤ gg ∧ Aside0 (js k l0 (l1.drop j) xs = some r) ∧ Aside0 (Kd.R k56 56 wr w.heap.size (fun _ => True) s5 xs) ∧ Aside0 (Below w.heap.size w wr))
  case atStart => exact ⟨0, [], rfl, Nat.zero_le _, by omega, HX, HOi, HBi⟩
  case round =>
    clear HOi HBi HB HX
    obtain ⟨j, xs, rfl, hj, hg, HX, HO, HB⟩ := hrel
    by_cases hlt : j < l1.length
    · have q1 : (j : Int) < (l1.length : Int) := by omega
      have q0 : 0 ≤ (j : Int) := by omega
      have m1 : l1.length - (j + 1) < l1.length - j := by omega
      have e0 : wrap64 ((j : Int) + 1) = ((j + 1 : Nat) : Int) := wr_add j (Nat.lt_of_lt_of_le hlt HL1.out)
      obtain ⟨ad, c, eA, hcl, hK, hcell⟩ := Kd.C_get HR1.out 0 (j : Int) q0 q1
      subst eA
      have hcell := hcell 0 (.int .i64 (l1.getD j 0)) (by rw [show c = [.int .i64 (l1.getD j 0)] from hK]; rfl)
      replace hcell := (HB.out.cell (World.block_lt_of_cell? w _ hcell)).trans hcell
      simp only [Int.toNat_natCast, Nat.add_zero, show (Kd.int .i64).sz = 1 from rfl, Nat.mul_one] at hcell
      have H := HX.out
      rw [js_drop hlt] at H
      generalize l1.getD j 0 = t at hcell H
      clear hK hcl
      cases hp : spec_PiecesIn.f k l0 t with
      | none => rw [hp] at H; simp at H
      | some p =>
        rw [hp, Option.bind_some] at H
        by_cases hL : xs.length + p.length < 4398046511104
        · rw [if_pos hL] at H
          have H' := Aside0.mk H
          have HP := Aside0.mk hp
          have LM := Aside0.mk hL
          have HE := Aside0.mk e0
          have M1 := Aside0.mk m1
          clear H HX hp hL e0 m1
          replace q1 := eq_true q1
          replace q0 := eq_true q0
          go_wp2_with (go_at_call 31; refine (spec_PiecesIn.calls k _ _ l0 t p _ (Kd.C_below HR0.out HB.out) HC0.out HP.out).mono ?_; rintro _ w2 ⟨v2, rfl, ho2, hb2⟩; have n0_ := Aside0.mk (Kd.R_below HO.out hb2); have n1_ := Aside0.mk (below_step HB.out hb2); have HP2 := Aside0.mk ho2; clear HO HB; have HO := n0_; have HB := n1_; obtain ⟨A2, c2, e2⟩ := Kd.R_slice HP2.out; subst e2; clear n0_ n1_; clear ho2 hb2)
          clear hcell q0 q1
          have HPC := Aside0.mk (Kd.R_reads' HP2.out).2.2
          have HPL := Aside0.mk (Kd.C_max HPC.out)
          clear HP2
          go_loopg [5, 8] p.length (fun gh s5 s8 wq => ∃ (i : Nat) (ys : List S56), s8 = .int .i64 (i : Int) ∧ i ≤ p.length ∧ p.length - i ≤ gh ∧ Aside0 ((p.drop i).foldl putQ ys = p.foldl putQ xs) ∧ Aside0 (ys.length ≤ xs.length + i) ∧ Aside0 (Kd.C k56 wq A2 p.length p) ∧ Aside0 (Kd.R k56 56 wq w.heap.size (fun _ => True) s5 ys) ∧ Aside0 (Below w.heap.size w wq))
          case atStart => exact ⟨0, xs, rfl, Nat.zero_le _, by omega, ⟨rfl⟩, ⟨Nat.le_refl _⟩, HPC, HO, HB⟩
          case round =>
            clear HO HB HPC
            obtain ⟨i, ys, rfl, hi, hgi, HF, HY, HPC, HO, HB⟩ := hrel
            by_cases hlti : i < p.length
            · have q1 : (i : Int) < (p.length : Int) := by omega
              have q0 : 0 ≤ (i : Int) := by omega
              have m1 : p.length - (i + 1) < p.length - i := by omega
              have e0 : wrap64 ((i : Int) + 1) = ((i + 1 : Nat) : Int) := wr_add i (Nat.lt_of_lt_of_le hlti HPL.out)
              obtain ⟨ad2, rfl, hy0, hy1⟩ := at_T56 HPC.out (i : Int) q0 q1
              unfold rd_T56 at hy0 hy1
              simp only [Int.toNat_natCast] at hy0 hy1
              have hF := HF.out
              rw [fq_drop hlti] at hF
              generalize p.getD i z56 = y at hy0 hy1 hF
              have HF2 := Aside0.mk hF
              have HY2 := Aside0.mk (show (putQ ys y).length ≤ xs.length + (i + 1) by have := putQ_len ys y; have := HY.out; omega)
              have HY3 := Aside0.mk (show ys.length < 4398046511104 by have := HY.out; have := LM.out; omega)
              clear hF HF HY
              replace q1 := eq_true q1
              replace q0 := eq_true q0
              go_wp2_with (go_at_call 32; refine (l20A _ ys y w.heap.size _ (below_size HB.out) HO.out HY3.out).mono ?_; rintro _ w3 ⟨v3, rfl, ho3, hb3⟩; have n0_ := Aside0.mk ho3; have n1_ := Aside0.mk (below_step HB.out hb3); have n2_ := Aside0.mk (Kd.C_below HPC.out hb3); clear HO HB HPC; have HO := n0_; have HB := n1_; have HPC := n2_; clear n0_ n1_ n2_ ho3 hb3)
              go_roundg (p.length - (i + 1))
              case measure => exact Nat.lt_of_lt_of_le m1 hgi
              case rel => exact ⟨i + 1, putQ ys y, by first | rfl | rw [e0], hlti, Nat.le_refl _, HF2, HY2, HPC, HO, HB⟩
            · have ei : i = p.length := by omega
              subst ei
              have q1 : ((p.length : Int) < (p.length : Int)) = False := eq_false (by omega)
              have hF := HF.out
              rw [List.drop_length, List.foldl_nil] at hF
              subst hF
              clear HF HY
              have e0 := HE.out
              go_wp2
              go_roundg (l1.length - (j + 1))
              case measure => exact Nat.lt_of_lt_of_le M1.out hg
              case rel => exact ⟨j + 1, _, by first | rfl | rw [e0], hlt, Nat.le_refl _, H', HO, HB⟩
        · rw [if_neg hL] at H; simp at H
    · have ej : j = l1.length := by omega
      subst ej
      have q1 : ((l1.length : Int) < (l1.length : Int)) = False := eq_false (by omega)
      have H := HX.out
      rw [List.drop_length, js] at H
      obtain rfl := Option.some.inj H
      clear H HX
      go_wp2
      go_ret
      exact ⟨_, rfl, HO.out, HB.out⟩
def laws_toPoint.Fs : List (Spc env) := []
def laws_toPoint.cut : Nat → Option (List (Lv SC)) := lk []
def laws_toPoint.ret (r0 : S75) : Option (HL eΓ [.st .s75]) := some (r0, ())
def laws_toPoint.run (k : Nat) (h : HL eΓ [.st .s136]) : Option (HL eΓ [.st .s75]) := evF env laws_toPoint.Fs Tryz.f122 laws_toPoint.cut [.st .s136] [.st .s75] k h
theorem laws_toPoint.ef (k : Nat) (h0 : S136) : laws_toPoint.run k (h0, ()) = laws_toPoint.ret (⟨h0.f0, h0.f1⟩ : S75) := by kernel_rfl
def laws_toPoint.toH (t : Int × Int) : HL eΓ [.st .s75] := ((⟨t.1, t.2⟩ : S75), ())
def laws_toPoint.spec : Spc env := ⟨122, [.st .s136], [.st .s75], laws_toPoint.run⟩
def laws_toPoint.ap {R : Type} (k : Nat) (h0 : S136) (K : S75 → Option R) : Option R := (laws_toPoint.run k (h0, ())).bind fun r => K (r.1 : S75)
theorem laws_toPoint.ap_of {R : Type} {k : Nat} {h0 : S136} {r0 : S75} {K : S75 → Option R} (h : laws_toPoint.run k (h0, ()) = some (r0, ())) : laws_toPoint.ap k h0 K = K r0 := by unfold laws_toPoint.ap; rw [h]; rfl
theorem laws_toPoint.snd : Snd env laws_toPoint.spec := evF_snd env_ok (sndN)
attribute [local irreducible] laws_toPoint.run
theorem laws_toPoint.rt (a0 : Int) (a1 : Int) : laws_toPoint.ret (⟨a0, a1⟩ : S75) = some (laws_toPoint.toH (a0, a1)) := rfl
theorem laws_toPoint.go {a0_0 : Int} {a0_1 : Int} {t} (h : laws_toPoint.f a0_0 a0_1 = some t) (K : Nat) : laws_toPoint.run K ((⟨a0_0, a0_1⟩ : S136), ()) = some (laws_toPoint.toH t) := by
  rw [laws_toPoint.ef]
  (try dsimp only)
  unfold laws_toPoint.f at h
  repeat' (with_reducible first
   | exact nos h
   | (cases some_inj h; exact laws_toPoint.rt _ _)
   | (simp only [Option.bind_some] at h)
   | (refine ite_by h ?_ ?_ <;> (intro hc h; (try simp only [nrm] at hc)))
   | refine itT ?_
   | refine itF ?_
   | (simp only [nr2] at h ⊢)
   | (exfalso; omega))
def laws_toPointS.Fs : List (Spc env) := [laws_toPoint.spec]
def laws_toPointS.fin : St eΓ → Option (HL eΓ [.l 75 (.st .s75)]) := finR env Tryz.f76.results.toList [.l 75 (.st .s75)]
def laws_toPointS.cut : Nat → Option (List (Lv SC)) := lk [(3, [⟨0, none, false⟩, ⟨3, none, false⟩, ⟨4, none, false⟩])]
def laws_toPointS.ret (r0 : List S75) : Option (HL eΓ [.l 75 (.st .s75)]) := some (r0, ())
def laws_toPointS.p3 (k : Nat) (x4 : Int) (x0 : List S136) (x3 : List S75) : Option (HL eΓ [.l 75 (.st .s75)]) := evM env laws_toPointS.Fs Tryz.f76.ntmps laws_toPointS.fin laws_toPointS.cut k [.code (sub_ [1, 1, 0, 1, 0, 0, 0, 0] (bodyOf Tryz.f76)), .code (sub_ [1, 1, 0, 1, 0, 0, 0, 1] (bodyOf Tryz.f76)), .code (sub_ [1, 1, 0, 1, 0, 0, 1] (bodyOf Tryz.f76)), .lp (sub_ [1, 1, 0, 1, 0, 0] (bodyOf Tryz.f76)), .blk 0, .code (sub_ [1, 1, 1] (bodyOf Tryz.f76))] (mkSt [(0, .c (.sl 0)), (3, .c (.sl 1)), (4, .c (.v (.int .i64 x4)))] [.row .ro 136 (.st .s136) x0, .row .own 75 (.st .s75) x3])
theorem laws_toPointS.e3 (k : Nat) (x4 : Int) (x0 : List S136) (x3 : List S75) : laws_toPointS.p3 (k + 1) x4 x0 x3 = if x4 < (x0.length : Int) then (if 0 ≤ x4 then (if x4 < (x0.length : Int) then (laws_toPoint.ap k (⟨(rd_T136 x0 x4).f0, (rd_T136 x0 x4).f1⟩ : S136) fun r1 => if 0 ≤ x4 then (if x4 < (x3.length : Int) then (laws_toPointS.p3 k (wrap64 (x4 + 1)) x0 (x3.set x4.toNat (⟨r1.f0, r1.f1⟩ : S75))) else none) else none) else none) else none) else (laws_toPointS.ret x3) := by kernel_rfl
def laws_toPointS.run (k : Nat) (h : HL eΓ [.l 136 (.st .s136)]) : Option (HL eΓ [.l 75 (.st .s75)]) := evF env laws_toPointS.Fs Tryz.f76 laws_toPointS.cut [.l 136 (.st .s136)] [.l 75 (.st .s75)] k h
theorem laws_toPointS.ef (k : Nat) (h0 : List S136) : laws_toPointS.run k (h0, ()) = if (h0.length : Int) = (h0.length : Int) then (if 0 ≤ (h0.length : Int) then (if (h0.length : Int).toNat * 16 ≤ 281474976710656 then (laws_toPointS.p3 k 0 h0 (List.replicate (h0.length : Int).toNat z75)) else none) else none) else none := by kernel_rfl
def laws_toPointS.toH (t : (List (S75))) : HL eΓ [.l 75 (.st .s75)] := (t, ())
def laws_toPointS.spec : Spc env := ⟨76, [.l 136 (.st .s136)], [.l 75 (.st .s75)], laws_toPointS.run⟩
def laws_toPointS.ap {R : Type} (k : Nat) (h0 : List S136) (K : (List S75) → Option R) : Option R := (laws_toPointS.run k (h0, ())).bind fun r => K (r.1 : List S75)
theorem laws_toPointS.ap_of {R : Type} {k : Nat} {h0 : List S136} {r0 : List S75} {K : (List S75) → Option R} (h : laws_toPointS.run k (h0, ()) = some (r0, ())) : laws_toPointS.ap k h0 K = K r0 := by unfold laws_toPointS.ap; rw [h]; rfl
theorem laws_toPointS.snd : Snd env laws_toPointS.spec := evF_snd env_ok (sndC laws_toPoint.snd (sndN))
attribute [local irreducible] laws_toPointS.run
theorem laws_toPointS.rt (a0 : List S75) : laws_toPointS.ret a0 = some (laws_toPointS.toH (a0)) := rfl
theorem laws_toPointS.br (n : Nat) : (∀ K, n ≤ K → ∀ (x4 : Int) (x0 : List S136) (x3 : List S75) t, laws_toPointS.l0 n x0 x3 x4 = some t → laws_toPointS.p3 K x4 x0 x3 = some (laws_toPointS.toH t)) := by
  induction n using Nat.strongRecOn with
  | _ n ih =>
  intro K hK x4 x0 x3 t h
  all_goals (rcases n with _ | k)
  all_goals (try (exact nos h))
  all_goals (obtain ⟨K, rfl⟩ : ∃ q, K = q + 1 := ⟨K - 1, by omega⟩)
  all_goals (first | rw [laws_toPointS.e3])
  all_goals (simp only [laws_toPointS.l0] at h)
  repeat' (with_reducible first
   | exact nos h
   | (cases some_inj h; exact laws_toPointS.rt _)
   | exact (ih _ (by omega)) _ (by omega) _ _ _ _ h
   | (simp only [Option.bind_some] at h)
   | (refine ite_by h ?_ ?_ <;> (intro hc h; (try simp only [nrm] at hc)))
   | refine itT ?_
   | refine itF ?_
   | (refine bind_by h (fun t ht h => ?_); refine (laws_toPoint.ap_of (laws_toPoint.go ht _)).trans ?_; (try dsimp only at h ⊢))
   | (simp only [nr2] at h ⊢)
   | (exfalso; omega))
theorem laws_toPointS.go {k : Nat} {l0 : List S136} {t} (h : laws_toPointS.f k l0 = some t) (K : Nat) (hK : k ≤ K) : laws_toPointS.run K (l0, ()) = some (laws_toPointS.toH t) := by
  rw [laws_toPointS.ef]
  (try dsimp only)
  unfold laws_toPointS.f at h
  repeat' (with_reducible first
   | exact nos h
   | (cases some_inj h; exact laws_toPointS.rt _)
   | exact (laws_toPointS.br _) _ (by omega) _ _ _ _ h
   | (simp only [Option.bind_some] at h)
   | (refine ite_by h ?_ ?_ <;> (intro hc h; (try simp only [nrm] at hc)))
   | refine itT ?_
   | refine itF ?_
   | (refine bind_by h (fun t ht h => ?_); refine (laws_toPoint.ap_of (laws_toPoint.go ht _)).trans ?_; (try dsimp only at h ⊢))
   | (simp only [nr2] at h ⊢)
   | (exfalso; omega))
def laws_toFeature.Fs : List (Spc env) := [laws_toPointS.spec]
def laws_toFeature.cut : Nat → Option (List (Lv SC)) := lk []
def laws_toFeature.ret (r0 : S59) : Option (HL eΓ [.st .s59]) := some (r0, ())
def laws_toFeature.run (k : Nat) (h : HL eΓ [.st .s52]) : Option (HL eΓ [.st .s59]) := evF env laws_toFeature.Fs Tryz.f33 laws_toFeature.cut [.st .s52] [.st .s59] k h
theorem laws_toFeature.ef (k : Nat) (h0 : S52) : laws_toFeature.run k (h0, ()) = laws_toPointS.ap k h0.f4 fun r1 => laws_toFeature.ret (⟨h0.f0, h0.f1, h0.f2, h0.f3, r1⟩ : S59) := by kernel_rfl
def laws_toFeature.toH (t : Int × Int × Int × ByteArray × (List (S75))) : HL eΓ [.st .s59] := ((⟨t.1, t.2.1, t.2.2.1, t.2.2.2.1, t.2.2.2.2⟩ : S59), ())
def laws_toFeature.spec : Spc env := ⟨33, [.st .s52], [.st .s59], laws_toFeature.run⟩
theorem laws_toFeature.snd : Snd env laws_toFeature.spec := evF_snd env_ok (sndC laws_toPointS.snd (sndN))
attribute [local irreducible] laws_toFeature.run
theorem laws_toFeature.rt (a0 : Int) (a1 : Int) (a2 : Int) (a3 : ByteArray) (a4 : List S75) : laws_toFeature.ret (⟨a0, a1, a2, a3, a4⟩ : S59) = some (laws_toFeature.toH (a0, a1, a2, a3, a4)) := rfl
theorem laws_toFeature.go {k : Nat} {a0_0 : Int} {a0_1 : Int} {a0_2 : Int} {a0_3 : ByteArray} {l0_4 : List S136} {t} (h : laws_toFeature.f k a0_0 a0_1 a0_2 a0_3 l0_4 = some t) (K : Nat) (hK : k ≤ K) : laws_toFeature.run K ((⟨a0_0, a0_1, a0_2, a0_3, l0_4⟩ : S52), ()) = some (laws_toFeature.toH t) := by
  rw [laws_toFeature.ef]
  (try dsimp only)
  unfold laws_toFeature.f at h
  repeat' (with_reducible first
   | exact nos h
   | (cases some_inj h; exact laws_toFeature.rt _ _ _ _ _)
   | (simp only [Option.bind_some] at h)
   | (refine ite_by h ?_ ?_ <;> (intro hc h; (try simp only [nrm] at hc)))
   | refine itT ?_
   | refine itF ?_
   | (refine bind_by h (fun t ht h => ?_); refine (laws_toPointS.ap_of (laws_toPointS.go ht _ (by omega))).trans ?_; (try dsimp only at h ⊢))
   | (simp only [nr2] at h ⊢)
   | (exfalso; omega))
end
end Go.Proofs.YtkomgmgpgnjooaaGreat.PFnExactJoinTiles
