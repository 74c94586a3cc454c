-- Written by a program of this session's: the kit's print, turned (turnprint.py): functions, and that Go comes to just their answers.
import Derived.Test.YtlclpggodhodiaaZ
import Derived.Test.YtlclpggodhodiaaPFnLabelsx0
namespace Go.Proofs.Ytlclpggodhodiaa.PFnLabels
open Go.RowKit Go.Proofs.YtlclpggodhodiaaW.PrintWords Go.Proofs.YtlclpggodhodiaaW.PrintLast Go.Proofs.YtlclpggodhodiaaW.PrintMore Go.Proofs.YtlclpggodhodiaaGeo Go.Proofs.YtlclpggodhodiaaHand Go.Proofs.YtlclpggodhodiaaZ
attribute [local go_sem] max2_int min2_int max_two min_two max_three min_three max_four min_four   -- for this text's walks alone
set_option linter.unusedVariables false
set_option linter.unusedSimpArgs false

/-! ### impl_CornerName: function 18 -/
def cornerL : List ByteArray := [(⟨#[117, 112, 114, 105, 103, 104, 116]⟩ : ByteArray), (⟨#[117, 112, 108, 101, 102, 116]⟩ : ByteArray), (⟨#[100, 111, 119, 110, 114, 105, 103, 104, 116]⟩ : ByteArray), (⟨#[100, 111, 119, 110, 108, 101, 102, 116]⟩ : ByteArray)]
def cornerN (a0 : Int) : ByteArray := if a0 < 0 then (⟨#[]⟩ : ByteArray) else if a0 ≥ 4 then (⟨#[]⟩ : ByteArray) else rdOf ByteArray.empty cornerL a0
def impl_CornerName.f (a0 : Int) : Option (ByteArray) := some (cornerN a0)
theorem impl_CornerName.calls (a0 : Int) (r : ByteArray) (w : World) (h : impl_CornerName.f a0 = some r) :
    Calls Try.prog 18 #[.int .i64 a0] w fun e w' => e = .returned (.string r) ∧ Below w.heap.size w w' := by
  obtain rfl := Option.some.inj h; clear h
  by_cases h0 : a0 < 0
  · have d0 : decide (a0 < 0) = true := decide_eq_true h0
    go_enter Try.func18, Try.ntmps18; go_wp2
    all_goals (go_ret; refine ⟨by simp [cornerN, h0], below_alloc (Below.refl _ _) _⟩)
  · by_cases h1 : a0 ≥ 4
    · have d0 : decide (a0 < 0) = false := decide_eq_false h0; have d1 : decide (4 ≤ a0) = true := decide_eq_true h1
      go_enter Try.func18, Try.ntmps18; go_wp2
      all_goals (go_ret; refine ⟨by simp [cornerN, h0, h1], below_alloc (Below.refl _ _) _⟩)
    · have hc : a0 = 0 ∨ a0 = 1 ∨ a0 = 2 ∨ a0 = 3 := by omega
      rcases hc with rfl | rfl | rfl | rfl
      all_goals
        go_enter Try.func18, Try.ntmps18; go_wp2
        all_goals (go_ret; refine ⟨by simp [cornerN, cornerL, rdOf], below_alloc (Below.refl _ _) _⟩)
/-! ### impl_InRange: function 72 -/
theorem impl_InRange.any (a0 : Int) (a1 : Int) (a2 : Int) (w : World) :
    Calls Try.prog 72 #[.int .i64 a0, .int .i64 a1, .int .i64 a2] w fun e w' => e = .returned (.bool (inR a0 a1 a2)) ∧ w = w' := by
  go_enter Try.func72, Try.ntmps72; go_wp2
  all_goals (go_ret; refine ⟨?_, rfl⟩; congr 2; first | (simp [inR, *]; done) | (simp [inR, *] <;> omega) | (unfold inR; repeat' split <;> first | rfl | omega))
def impl_InRange.f (a0 : Int) (a1 : Int) (a2 : Int) : Option (Bool) := some (inR a0 a1 a2)
theorem impl_InRange.calls (a0 : Int) (a1 : Int) (a2 : Int) (r : Bool) (w : World) (h : impl_InRange.f a0 a1 a2 = some r) :
    Calls Try.prog 72 #[.int .i64 a0, .int .i64 a1, .int .i64 a2] w fun e w' => e = .returned (.bool (r)) ∧ ∃ nd_ : Nat, w = w' := by
  obtain rfl := Option.some.inj h
  exact (impl_InRange.any a0 a1 a2 w).mono fun e w' ⟨he, hw⟩ => ⟨he, 0, hw⟩
/-! ### impl_IsName: function 76 -/
def impl_IsName.l0 : Nat → ByteArray → Int → Int → Option (Bool)
 | 0, _, _, _ => none
 | k + 1, x0, x5, x6 => if x6 < x5 then (if 0 ≤ x6 then (if x6 < (x0.size : Int) then (if (bt x0 x6) < 97 then (some false) else (if (bt x0 x6) > 122 then (some false) else (impl_IsName.l0 k x0 x5 (wrap64 (x6 + 1))))) else (none)) else (none)) else ((impl_InRange.f (x0.size : Int) 1 8).bind fun t101 => (some t101))
def impl_IsName.f (k : Nat) (a0 : ByteArray) : Option (Bool) := impl_IsName.l0 k a0 (a0.size : Int) 0
theorem impl_IsName.mono_l : ∀ k, (∀ y0 y1 y2, LeO (impl_IsName.l0 k y0 y1 y2) (impl_IsName.l0 (k + 1) y0 y1 y2))
 | 0 => fun _ _ _ r h => by simp [impl_IsName.l0] at h
 | k + 1 => by
  have ih0 := impl_IsName.mono_l k
  ·intro y0 y1 y2
   unfold impl_IsName.l0
   repeat' first | (with_reducible first | exact ih0 _ _ _ | exact LeO.refl _ | exact LeO.none _ | refine LeO.ite ?_ ?_ | refine LeO.bind ?_ (fun _ => ?_)) | exact ih0 _ _ _ | exact LeO.none _ | refine LeO.ite ?_ ?_ | refine LeO.bind ?_ (fun _ => ?_)
theorem impl_IsName.mono : ∀ a0 k, LeO (impl_IsName.f k a0) (impl_IsName.f (k + 1) a0) := by
 intro a0 k; have ih0 := impl_IsName.mono_l k
 unfold impl_IsName.f
 repeat' first | (with_reducible first | exact ih0 _ _ _ | exact LeO.refl _ | exact LeO.none _ | refine LeO.ite ?_ ?_ | refine LeO.bind ?_ (fun _ => ?_)) | exact ih0 _ _ _ | exact LeO.none _ | refine LeO.ite ?_ ?_ | refine LeO.bind ?_ (fun _ => ?_)
set_option maxHeartbeats 8000000 in
set_option maxRecDepth 100000 in
theorem impl_IsName.calls (k : Nat) (a0 : ByteArray) (r : Bool) (w : World) (h : impl_IsName.f k a0 = some r) :
  Calls Try.prog 76 #[.string a0] w fun e w' => e = .returned (.bool r) ∧ Drawn0 w w' := by
 have H : (impl_IsName.l0 k a0 (a0.size : Int) 0) = some r := h; clear h; have H' := Aside0.mk H; clear H
 go_enter Try.func76, Try.ntmps76; go_wp2; (try simp only [Act.put, List.setIfInBounds_toArray, List.set_cons_zero, List.set_cons_succ])
 go_loopg [6] k (fun kq v6 w' => ∃ (x6_1 : Int), v6 = .int .i64 x6_1 ∧ Aside0 (impl_IsName.l0 kq a0 (a0.size : Int) x6_1 = some r) ∧ Aside0 (kq ≤ k) ∧ Drawn0 w w')
 case atStart => exact ⟨(0), rz, H', ⟨Nat.le_refl _⟩, by repeat (first | exact Drawn0.refl _ | apply Drawn0.step)⟩
 case round =>
  clear H'; obtain ⟨x6_1, rfl, HA, HK1, ⟨m1, rfl⟩⟩ := hrel
  cases gk with
  | zero => exact absurd HA.out (by simp [impl_IsName.l0])
  | succ k1 =>
   have H := HA.out; clear HA; simp only [impl_IsName.l0] at H
   by_cases c2 : x6_1 < (a0.size : Int)
   ·rw [if_pos c2] at H; have c2b0 := decide_eq_true c2; clear c2
    by_cases c3 : 0 ≤ x6_1
    ·rw [if_pos c3] at H; have c3b0 := decide_eq_true c3; clear c3
     by_cases c4 : x6_1 < (a0.size : Int)
     ·rw [if_pos c4] at H; have c4b0 := decide_eq_true c4; clear c4
      by_cases c6 : (bt a0 x6_1) < 97
      ·rw [if_pos c6] at H; have c6b0 := decide_eq_true c6; clear c6; obtain rfl := Option.some.inj H; have p5 : 0 ≤ (x6_1 : Int) := of_decide_eq_true az; have q5 : x6_1 < (a0.size : Int) := of_decide_eq_true az; have hx5 := bt_at a0 x6_1; replace p5 := eq_true p5; replace q5 := eq_true q5; go_wp2; go_ret
       exact ⟨by first | rfl | (simp; done) | (simp [*]; done), by repeat (first | exact Drawn0.refl _ | apply Drawn0.step)⟩
      ·rw [if_neg c6] at H; have c6b0 := decide_eq_false c6; clear c6
       by_cases c8 : (bt a0 x6_1) > 122
       ·rw [if_pos c8] at H; have c8b0 := decide_eq_true c8; clear c8; obtain rfl := Option.some.inj H; have p5 : 0 ≤ (x6_1 : Int) := of_decide_eq_true az; have q5 : x6_1 < (a0.size : Int) := of_decide_eq_true az; have hx5 := bt_at a0 x6_1; replace p5 := eq_true p5; replace q5 := eq_true q5; have p7 : 0 ≤ (x6_1 : Int) := of_decide_eq_true az; have q7 : x6_1 < (a0.size : Int) := of_decide_eq_true az; have hx7 := bt_at a0 x6_1; replace p7 := eq_true p7; replace q7 := eq_true q7; go_wp2; go_ret
        exact ⟨by first | rfl | (simp; done) | (simp [*]; done), by repeat (first | exact Drawn0.refl _ | apply Drawn0.step)⟩
       ·rw [if_neg c8] at H; have c8b0 := decide_eq_false c8; clear c8; have H' := Aside0.mk H; clear H; have p5 : 0 ≤ (x6_1 : Int) := of_decide_eq_true az; have q5 : x6_1 < (a0.size : Int) := of_decide_eq_true az; have hx5 := bt_at a0 x6_1; replace p5 := eq_true p5; replace q5 := eq_true q5; have p7 : 0 ≤ (x6_1 : Int) := of_decide_eq_true az; have q7 : x6_1 < (a0.size : Int) := of_decide_eq_true az; have hx7 := bt_at a0 x6_1; replace p7 := eq_true p7; replace q7 := eq_true q7; go_wp2
        go_roundg k1
        case measure => have := HK1.out; omega
        case rel => exact ⟨(wrap64 (x6_1 + 1)), rz, H', ⟨by have := HK1.out; omega⟩, by repeat (first | exact Drawn0.refl _ | apply Drawn0.step)⟩
     ·rw [if_neg c4] at H
      exact absurd H (by simp)
    ·rw [if_neg c3] at H
     exact absurd H (by simp)
   ·rw [if_neg c2] at H; have c2b0 := decide_eq_false c2; clear c2; replace H := Option.bind_eq_some_iff.mp H; obtain ⟨t101, A90, H⟩ := H; have A9 := Aside0.mk A90; clear A90; obtain rfl := Option.some.inj H; go_wp2_with (first | ((with_reducible refine gt (some 22) rfl ?_); refine gc Try.func72 (impl_InRange.calls (a0.size : Int) 1 8 t101 _ A9.out) ?_; rintro e w' ⟨rfl, ⟨nd, rfl⟩⟩; refine ⟨_, rfl, ?_⟩)); go_ret
    exact ⟨by first | rfl | (simp; done) | (simp [*]; done), by repeat (first | exact Drawn0.refl _ | apply Drawn0.step)⟩

/-! ### impl_NameWidth: function 26 -/
def impl_NameWidth.f (k : Nat) (a0 : ByteArray) : Option (Int) := (impl_IsName.f k a0).bind fun t102 => (if t102 = true then (some (wrap64 (2 * (a0.size : Int)))) else (some 0))
theorem impl_NameWidth.mono : ∀ a0 k, LeO (impl_NameWidth.f k a0) (impl_NameWidth.f (k + 1) a0) := by
 intro a0 k
 unfold impl_NameWidth.f
 repeat' first | (with_reducible first | exact impl_IsName.mono _ _ | exact LeO.refl _ | exact LeO.none _ | refine LeO.ite ?_ ?_ | refine LeO.bind ?_ (fun _ => ?_)) | exact impl_IsName.mono _ _ | exact LeO.none _ | refine LeO.ite ?_ ?_ | refine LeO.bind ?_ (fun _ => ?_)
set_option maxHeartbeats 8000000 in
set_option maxRecDepth 100000 in
theorem impl_NameWidth.calls (k : Nat) (a0 : ByteArray) (r : Int) (w : World) (h : impl_NameWidth.f k a0 = some r) :
  Calls Try.prog 26 #[.string a0] w fun e w' => e = .returned (.int .i64 r) ∧ Drawn0 w w' := by
 have H : ((impl_IsName.f k a0).bind fun t102 => (if t102 = true then (some (wrap64 (2 * (a0.size : Int)))) else (some 0))) = some r := h; clear h; replace H := Option.bind_eq_some_iff.mp H; obtain ⟨t102, A20, H⟩ := H; have A2 := Aside0.mk A20; clear A20
 by_cases c3 : t102 = true
 ·subst c3; replace H := ift H; obtain rfl := Option.some.inj H
  go_enter Try.func26, Try.ntmps26; go_wp2_with (first | ((with_reducible refine gt (some 4) rfl ?_); refine gc Try.func76 (impl_IsName.calls k a0 true _ A2.out) ?_; rintro e w' ⟨rfl, ⟨nd, rfl⟩⟩; refine ⟨_, rfl, ?_⟩)); go_ret
  exact ⟨by first | rfl | (simp; done) | (simp [*]; done), by repeat (first | exact Drawn0.refl _ | apply Drawn0.step)⟩
 ·replace c3 := Bool.eq_false_iff.mpr c3; subst c3; replace H := iff_ H; obtain rfl := Option.some.inj H
  go_enter Try.func26, Try.ntmps26; go_wp2_with (first | ((with_reducible refine gt (some 4) rfl ?_); refine gc Try.func76 (impl_IsName.calls k a0 false _ A2.out) ?_; rintro e w' ⟨rfl, ⟨nd, rfl⟩⟩; refine ⟨_, rfl, ?_⟩)); go_ret
  exact ⟨by first | rfl | (simp; done) | (simp [*]; done), by repeat (first | exact Drawn0.refl _ | apply Drawn0.step)⟩

/-- A state of type 33 at block g of W; what its slices lead to came in by w0. -/
def IsS33 (w0 W : World) (g : Nat) (f0 : Int) (f1 : Int) : Prop := W.heap[g]? = some (.cells #[.int .i64 f0, .int .i64 f1] 33 (0, 0)) ∧ w0.heap.size ≤ g
theorem IsS33.grown {w0 W : World} {g : Nat} {f0 : Int} {f1 : Int} {W1 : World} {row : Option Nat} (h : IsS33 w0 W g f0 f1) (hw : W.grownBy W1 row) (hne : some g ≠ row) : IsS33 w0 W1 g f0 f1 := by
  obtain ⟨hb, hg⟩ := h
  exact ⟨blk_grown hb hw hne, hg⟩
theorem IsS33.own_neN {w0 W : World} {g : Nat} {f0 : Int} {f1 : Int} {α : Type} {d : Kd α} {e : Nat} {base : Nat} {ok : Nat → Prop} {v : Value} {xs : List α} (h : IsS33 w0 W g f0 f1) (ho : Kd.N d e W base ok v xs) (ht : e ≠ 33) : some g ≠ v.ownBlock := by
  obtain ⟨hb, hg⟩ := h
  exact Kd.N_ne ho hb ht
theorem IsS33.fresh {w0 W : World} {g : Nat} {f0 : Int} {f1 : Int} (h : IsS33 w0 W g f0 f1) : ∀ k, W.heap.size ≤ k → k ≠ g := by
  obtain ⟨hb, hg⟩ := h
  exact Kd.freshB hb
theorem IsS33.kept {w0 W : World} {g : Nat} {f0 : Int} {f1 : Int} {W1 : World} {S : Nat → Prop} (h : IsS33 w0 W g f0 f1) (hk : Kept W W1 S) (hne : ¬ S g) : IsS33 w0 W1 g f0 f1 := by
  obtain ⟨hb, hg⟩ := h
  exact ⟨blk_kept hb hk hne, hg⟩
theorem IsS33.below {w0 W : World} {g : Nat} {f0 : Int} {f1 : Int} {W1 : World} (h : IsS33 w0 W g f0 f1) (hw : Below W.heap.size W W1) : IsS33 w0 W1 g f0 f1 := h.grown (grown_of_below hw none) (by simp)
theorem IsS33.alloc {w0 W : World} {g : Nat} {f0 : Int} {f1 : Int} (h : IsS33 w0 W g f0 f1) (o : Obj) : IsS33 w0 (W.alloc o) g f0 f1 := h.below (below_alloc (Below.refl _ _) o)
theorem IsS33.drewN {w0 W : World} {g : Nat} {f0 : Int} {f1 : Int} (h : IsS33 w0 W g f0 f1) (m : Nat) : IsS33 w0 (W.drewN m) g f0 f1 := h
theorem IsS33.drew {w0 W : World} {g : Nat} {f0 : Int} {f1 : Int} (h : IsS33 w0 W g f0 f1) : IsS33 w0 W.drew g f0 f1 := h
theorem IsS33.at_ {w0 W : World} {g : Nat} {f0 : Int} {f1 : Int} {w' : World} {m : Nat} (hq : W.drewN m = w') (h : IsS33 w0 W g f0 f1) : IsS33 w0 w' g f0 f1 := by subst hq; exact IsS33.drewN h m
theorem IsS33.apart {w0 W : World} {g : Nat} {f0 : Int} {f1 : Int} {α : Type} {d : Kd α} {e : Nat} {base : Nat} {ok : Nat → Prop} {v : Value} {xs : List α} (h : IsS33 w0 W g f0 f1) (ho : d.R e W base ok v xs) (ht : ∀ q, q ∈ e :: d.E → q ≠ 33) : d.R e W base (fun k => ok k ∧ k ≠ g) v xs := by
  obtain ⟨hb, hg⟩ := h
  exact Kd.R_types ho hb ht
theorem IsS33.own_ne {w0 W : World} {g : Nat} {f0 : Int} {f1 : Int} {α : Type} {d : Kd α} {e : Nat} {base : Nat} {ok : Nat → Prop} {v : Value} {xs : List α} (h : IsS33 w0 W g f0 f1) (ho : d.R e W base ok v xs) (ht : e ≠ 33) : some g ≠ v.ownBlock := by
  obtain ⟨hb, hg⟩ := h
  exact Kd.R_ne ho hb ht
theorem IsS33.apartQ {w0 W : World} {g : Nat} {f0 : Int} {f1 : Int} {α : Type} {d : Kd α} {e : Nat} {base : Nat} {ok : Nat → Prop} {v : Value} {xs : List α} (h : IsS33 w0 W g f0 f1) (ho : d.Q e W base ok v xs) (ht : ∀ q, q ∈ e :: d.E → q ≠ 33) : d.Q e W base (fun k => ok k ∧ k ≠ g) v xs := by
  obtain ⟨hb, hg⟩ := h
  exact Kd.Q_types ho hb ht
theorem IsS33.own_neQ {w0 W : World} {g : Nat} {f0 : Int} {f1 : Int} {α : Type} {d : Kd α} {e : Nat} {base : Nat} {ok : Nat → Prop} {v : Value} {xs : List α} (h : IsS33 w0 W g f0 f1) (ho : d.Q e W base ok v xs) (ht : e ≠ 33) : some g ≠ v.ownBlock := by
  obtain ⟨hb, hg⟩ := h
  exact Kd.Q_ne ho hb ht
theorem IsS33.apartS {w0 W : World} {g : Nat} {f0 : Int} {f1 : Int} {α : Type} {d : Kd α} {e : Nat} {base : Nat} {ok : Nat → Prop} {v : Value} {xs : List α} (h : IsS33 w0 W g f0 f1) (ho : d.S e W base ok v xs) (ht : ∀ q, q ∈ e :: d.E → q ≠ 33) : d.S e W base (fun k => ok k ∧ k ≠ g) v xs := by
  obtain ⟨hb, hg⟩ := h
  exact Kd.S_types ho hb ht
theorem IsS33.own_neS {w0 W : World} {g : Nat} {f0 : Int} {f1 : Int} {α : Type} {d : Kd α} {e : Nat} {base : Nat} {ok : Nat → Prop} {v : Value} {xs : List α} (h : IsS33 w0 W g f0 f1) (ho : d.S e W base ok v xs) (ht : e ≠ 33) : some g ≠ v.ownBlock := by
  obtain ⟨hb, hg⟩ := h
  exact Kd.S_ne ho hb ht
theorem IsS33.lt {w0 W : World} {g : Nat} {f0 : Int} {f1 : Int} (h : IsS33 w0 W g f0 f1) : g < W.heap.size := by
  obtain ⟨hb, hg⟩ := h
  exact blk_lt hb
theorem IsS33.ge {w0 W : World} {g : Nat} {f0 : Int} {f1 : Int} (h : IsS33 w0 W g f0 f1) : w0.heap.size ≤ g := by
  obtain ⟨hb, hg⟩ := h
  exact hg
theorem IsS33.ne_blk {w0 W : World} {g : Nat} {f0 : Int} {f1 : Int} {a : Nat} {cs : Array Value} {t : TypeId} {fr : Nat × Nat} (h : IsS33 w0 W g f0 f1) (hb2 : W.heap[a]? = some (.cells cs t fr)) (ht : t ≠ 33) : g ≠ a := by
  obtain ⟨hb, hg⟩ := h; rintro rfl; rw [hb] at hb2
  injection hb2 with hb2
  injection hb2 with _ ht2
  exact ht ht2.symm
theorem IsS33.far {w0 W : World} {g : Nat} {f0 : Int} {f1 : Int} {p : Addr} (h : IsS33 w0 W g f0 f1) (hne : g ≠ p.block) (u : Value) : IsS33 w0 (W.setCell p u) g f0 f1 := by
  obtain ⟨hb, hg⟩ := h
  exact ⟨blk_far hb hne u, hg⟩
theorem cellS33_0 {W : World} {g : Nat} {f0 : Int} {f1 : Int} (h : W.heap[g]? = some (.cells #[.int .i64 f0, .int .i64 f1] 33 (0, 0))) : W.cell? ⟨g, 0, none⟩ = some (.int .i64 f0) := (blk_cell h 0).trans rfl
theorem IsS33.set_0 {w0 W : World} {g : Nat} {f0 : Int} {f1 : Int} (h : IsS33 w0 W g f0 f1) (x : Int) : IsS33 w0 (W.setCell ⟨g, 0, none⟩ (.int .i64 x)) g x f1 := by
  obtain ⟨hb, hg⟩ := h
  exact ⟨by simpa using blk_set hb 0 (.int .i64 x), hg⟩
theorem cellS33_1 {W : World} {g : Nat} {f0 : Int} {f1 : Int} (h : W.heap[g]? = some (.cells #[.int .i64 f0, .int .i64 f1] 33 (0, 0))) : W.cell? ⟨g, 1, none⟩ = some (.int .i64 f1) := (blk_cell h 1).trans rfl
theorem IsS33.set_1 {w0 W : World} {g : Nat} {f0 : Int} {f1 : Int} (h : IsS33 w0 W g f0 f1) (x : Int) : IsS33 w0 (W.setCell ⟨g, 1, none⟩ (.int .i64 x)) g f0 x := by
  obtain ⟨hb, hg⟩ := h
  exact ⟨by simpa using blk_set hb 1 (.int .i64 x), hg⟩
theorem IsS33.new (w0 W : World) (f0 : Int) (f1 : Int) (hB : Below w0.heap.size w0 W) : IsS33 w0 (W.alloc (.cells #[.int .i64 f0, .int .i64 f1] 33)) W.heap.size f0 f1 := ⟨by simpa using heap_alloc_new W _, hB.size⟩

/-! ### impl_IsPoint: function 74 -/
theorem impl_IsPoint.any (a0_0 : Int) (a0_1 : Int) (w : World) :
    Calls Try.prog 74 #[.agg #[.int .i64 a0_0, .int .i64 a0_1]] w fun e w' => e = .returned (.bool (isPt a0_0 a0_1)) ∧ Below w.heap.size w w' := by
  have HB := Aside0.mk (Below.refl w.heap.size w)
  go_enter Try.func74, Try.ntmps74; go_wp2_with (first
    | (go_at_call 72; refine (impl_InRange.any _ _ _ _).mono ?_; rintro e w1 ⟨rfl, rfl⟩))
  all_goals (go_ret; refine ⟨?_, by repeat (first | (with_reducible first | exact HB.out | apply below_alloc | apply below_drew1 | apply pw_below_drewN) | exact HB.out)⟩; clear HB; congr 2; simp [isPt, *])
def impl_IsPoint.f (a0_0 : Int) (a0_1 : Int) : Option (Bool) := some (isPt a0_0 a0_1)
theorem impl_IsPoint.calls (a0_0 : Int) (a0_1 : Int) (r : Bool) (w : World) (h : impl_IsPoint.f a0_0 a0_1 = some r) :
    Calls Try.prog 74 #[.agg #[.int .i64 a0_0, .int .i64 a0_1]] w fun e w' => e = .returned (.bool (r)) ∧ Below w.heap.size w w' := by
  obtain rfl := Option.some.inj h
  exact (impl_IsPoint.any a0_0 a0_1 w).mono fun e w' ⟨he, hw⟩ => ⟨he, hw⟩
/-! ### impl_IsBox: function 61 -/
def impl_IsBox.f (a0_0 : Int) (a0_1 : Int) (a0_2 : Int) (a0_3 : Int) : Option (Bool) := (impl_IsPoint.f a0_0 a0_1).bind fun t104 => (if t104 = true then ((impl_IsPoint.f a0_2 a0_3).bind fun t105 => (if t105 = true then (if a0_0 ≤ a0_2 then (some (decide (a0_1 ≤ a0_3))) else (some false)) else (some false))) else (some false))
set_option maxHeartbeats 8000000 in
set_option maxRecDepth 100000 in
theorem impl_IsBox.calls (a0_0 : Int) (a0_1 : Int) (a0_2 : Int) (a0_3 : Int) (r : Bool) (w : World) (h : impl_IsBox.f a0_0 a0_1 a0_2 a0_3 = some r) :
  Calls Try.prog 61 #[.agg #[.int .i64 a0_0, .int .i64 a0_1, .int .i64 a0_2, .int .i64 a0_3]] w fun e w' => e = .returned (.bool r) ∧ Below w.heap.size w w' := by
 have hu39 := Try.underlying39; have hu33 := Try.underlying33; have HB := Aside0.mk (Below.refl w.heap.size w); have H : ((impl_IsPoint.f a0_0 a0_1).bind fun t104 => (if t104 = true then ((impl_IsPoint.f a0_2 a0_3).bind fun t105 => (if t105 = true then (if a0_0 ≤ a0_2 then (some (decide (a0_1 ≤ a0_3))) else (some false)) else (some false))) else (some false))) = some r := h; clear h; replace H := Option.bind_eq_some_iff.mp H; obtain ⟨t104, A20, H⟩ := H; have A2 := Aside0.mk A20; clear A20
 by_cases c3 : t104 = true
 ·subst c3; replace H := ift H; replace H := Option.bind_eq_some_iff.mp H; obtain ⟨t105, A40, H⟩ := H; have A4 := Aside0.mk A40; clear A40
  by_cases c5 : t105 = true
  ·subst c5; replace H := ift H
   by_cases c6 : a0_0 ≤ a0_2
   ·rw [if_pos c6] at H; have c6b0 := decide_eq_true c6; clear c6; obtain rfl := Option.some.inj H
    go_enter Try.func61, Try.ntmps61; go_wp2_with (first | ((with_reducible refine gt (some 1) rfl ?_); refine bx #[.int .i64 a0_0, .int .i64 a0_1, .int .i64 a0_2, .int .i64 a0_3] 39 ?_; intro gb103 hg w7 hbox hb; have BK103 := Aside0.mk (hbox); have GW103 := Aside0.mk (gez HB hg); have GE103 := Aside0.mk (gez HB hg); replace HB := Aside0.mk (below_step bz hb); clear hb hbox hg; obtain ⟨hcz8_0, hcz8_1, hcz8_2, hcz8_3, hfz8_0, hfz8_1, hfz8_2, hfz8_3⟩ := cells4 BK103) | ((with_reducible refine gt (some 5) rfl ?_); refine gc Try.func74 (impl_IsPoint.calls a0_0 a0_1 true _ A2.out) ?_; rintro e w9 ⟨rfl, hb⟩; refine ⟨_, rfl, ?_⟩; replace BK103 := Aside0.mk (bbz BK103 hb); replace HB := Aside0.mk (below_step bzs hb); (try clear hb); obtain ⟨hcz10_0, hcz10_1, hcz10_2, hcz10_3, hfz10_0, hfz10_1, hfz10_2, hfz10_3⟩ := cells4 BK103) | (go_at_call 74; (with_reducible refine (impl_IsPoint.calls a0_2 a0_3 true _ A4.out).mono ?_); rintro e w11 ⟨rfl, hb⟩; replace BK103 := Aside0.mk (bbz BK103 hb); replace HB := Aside0.mk (below_step bzs hb); (try clear hb); obtain ⟨hcz12_0, hcz12_1, hcz12_2, hcz12_3, hfz12_0, hfz12_1, hfz12_2, hfz12_3⟩ := cells4 BK103)); go_ret
    exact ⟨ez, bzs⟩
   ·rw [if_neg c6] at H; have c6b0 := decide_eq_false c6; clear c6; obtain rfl := Option.some.inj H
    go_enter Try.func61, Try.ntmps61; go_wp2_with (first | ((with_reducible refine gt (some 1) rfl ?_); refine bx #[.int .i64 a0_0, .int .i64 a0_1, .int .i64 a0_2, .int .i64 a0_3] 39 ?_; intro gb103 hg w13 hbox hb; have BK103 := Aside0.mk (hbox); have GW103 := Aside0.mk (gez HB hg); have GE103 := Aside0.mk (gez HB hg); replace HB := Aside0.mk (below_step bz hb); clear hb hbox hg; obtain ⟨hcz14_0, hcz14_1, hcz14_2, hcz14_3, hfz14_0, hfz14_1, hfz14_2, hfz14_3⟩ := cells4 BK103) | ((with_reducible refine gt (some 5) rfl ?_); refine gc Try.func74 (impl_IsPoint.calls a0_0 a0_1 true _ A2.out) ?_; rintro e w15 ⟨rfl, hb⟩; refine ⟨_, rfl, ?_⟩; replace BK103 := Aside0.mk (bbz BK103 hb); replace HB := Aside0.mk (below_step bzs hb); (try clear hb); obtain ⟨hcz16_0, hcz16_1, hcz16_2, hcz16_3, hfz16_0, hfz16_1, hfz16_2, hfz16_3⟩ := cells4 BK103) | (go_at_call 74; (with_reducible refine (impl_IsPoint.calls a0_2 a0_3 true _ A4.out).mono ?_); rintro e w17 ⟨rfl, hb⟩; replace BK103 := Aside0.mk (bbz BK103 hb); replace HB := Aside0.mk (below_step bzs hb); (try clear hb); obtain ⟨hcz18_0, hcz18_1, hcz18_2, hcz18_3, hfz18_0, hfz18_1, hfz18_2, hfz18_3⟩ := cells4 BK103)); go_ret
    exact ⟨ez, bzs⟩
  ·replace c5 := Bool.eq_false_iff.mpr c5; subst c5; replace H := iff_ H; obtain rfl := Option.some.inj H
   go_enter Try.func61, Try.ntmps61; go_wp2_with (first | ((with_reducible refine gt (some 1) rfl ?_); refine bx #[.int .i64 a0_0, .int .i64 a0_1, .int .i64 a0_2, .int .i64 a0_3] 39 ?_; intro gb103 hg w19 hbox hb; have BK103 := Aside0.mk (hbox); have GW103 := Aside0.mk (gez HB hg); have GE103 := Aside0.mk (gez HB hg); replace HB := Aside0.mk (below_step bz hb); clear hb hbox hg; obtain ⟨hcz20_0, hcz20_1, hcz20_2, hcz20_3, hfz20_0, hfz20_1, hfz20_2, hfz20_3⟩ := cells4 BK103) | ((with_reducible refine gt (some 5) rfl ?_); refine gc Try.func74 (impl_IsPoint.calls a0_0 a0_1 true _ A2.out) ?_; rintro e w21 ⟨rfl, hb⟩; refine ⟨_, rfl, ?_⟩; replace BK103 := Aside0.mk (bbz BK103 hb); replace HB := Aside0.mk (below_step bzs hb); (try clear hb); obtain ⟨hcz22_0, hcz22_1, hcz22_2, hcz22_3, hfz22_0, hfz22_1, hfz22_2, hfz22_3⟩ := cells4 BK103) | (go_at_call 74; (with_reducible refine (impl_IsPoint.calls a0_2 a0_3 false _ A4.out).mono ?_); rintro e w23 ⟨rfl, hb⟩; replace BK103 := Aside0.mk (bbz BK103 hb); replace HB := Aside0.mk (below_step bzs hb); (try clear hb))); go_ret
   exact ⟨ez, bzs⟩
 ·replace c3 := Bool.eq_false_iff.mpr c3; subst c3; replace H := iff_ H; obtain rfl := Option.some.inj H
  go_enter Try.func61, Try.ntmps61; go_wp2_with (first | ((with_reducible refine gt (some 1) rfl ?_); refine bx #[.int .i64 a0_0, .int .i64 a0_1, .int .i64 a0_2, .int .i64 a0_3] 39 ?_; intro gb103 hg w24 hbox hb; have BK103 := Aside0.mk (hbox); have GW103 := Aside0.mk (gez HB hg); have GE103 := Aside0.mk (gez HB hg); replace HB := Aside0.mk (below_step bz hb); clear hb hbox hg; obtain ⟨hcz25_0, hcz25_1, hcz25_2, hcz25_3, hfz25_0, hfz25_1, hfz25_2, hfz25_3⟩ := cells4 BK103) | ((with_reducible refine gt (some 5) rfl ?_); refine gc Try.func74 (impl_IsPoint.calls a0_0 a0_1 false _ A2.out) ?_; rintro e w26 ⟨rfl, hb⟩; refine ⟨_, rfl, ?_⟩; replace BK103 := Aside0.mk (bbz BK103 hb); replace HB := Aside0.mk (below_step bzs hb); (try clear hb))); go_ret
  exact ⟨ez, bzs⟩

end Go.Proofs.Ytlclpggodhodiaa.PFnLabels
