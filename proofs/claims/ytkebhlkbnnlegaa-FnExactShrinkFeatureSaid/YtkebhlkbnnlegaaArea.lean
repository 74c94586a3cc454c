/-
  A valid ring has an area that is not 0. No program stands here. No condition.
-/
import Derived.Test.YtkebhlkbnnlegaaMeet
namespace Go.Proofs.YtkebhlkbnnlegaaArea
open Go Go.RowKit Go.Proofs.YtkebhlkbnnlegaaW.PrintWords Go.Proofs.YtkebhlkbnnlegaaW.PrintMore Go.Proofs.YtkebhlkbnnlegaaGeo
/-- The sum of f below n. -/
def sm (f : Nat → Int) : Nat → Int
  | 0 => 0
  | n + 1 => sm f n + f n
/-- How many below n. -/
def ct (p : Nat → Bool) : Nat → Nat
  | 0 => 0
  | n + 1 => ct p n + (p n).toNat
theorem sm_congr {f g : Nat → Int} {n : Nat} (h : ∀ i, i < n → f i = g i) : sm f n = sm g n := by
  induction n with
  | zero => rfl
  | succ n ih => rw [sm, sm, ih (fun i hi => h i (by omega)), h n (by omega)]
theorem sm_add (f g : Nat → Int) (n : Nat) : sm (fun i => f i + g i) n = sm f n + sm g n := by
  induction n with
  | zero => rfl
  | succ n ih => rw [sm, sm, sm, ih]; omega
theorem sm_mul (c : Int) (f : Nat → Int) (n : Nat) : sm (fun i => c * f i) n = c * sm f n := by
  induction n with
  | zero => simp [sm]
  | succ n ih => rw [sm, sm, ih, Int.mul_add]
theorem sm_zero (n : Nat) : sm (fun _ => 0) n = 0 := by
  induction n with
  | zero => rfl
  | succ n ih => rw [sm, ih]; rfl
theorem ct_congr {p q : Nat → Bool} {n : Nat} (h : ∀ i, i < n → p i = q i) : ct p n = ct q n := by
  induction n with
  | zero => rfl
  | succ n ih => rw [ct, ct, ih (fun i hi => h i (by omega)), h n (by omega)]
theorem ct_none {p : Nat → Bool} {n : Nat} (h : ∀ i, i < n → p i = false) : ct p n = 0 := by
  induction n with
  | zero => rfl
  | succ n ih => rw [ct, ih (fun i hi => h i (by omega)), h n (by omega)]; rfl
theorem tn_le (b : Bool) : b.toNat ≤ 1 := by cases b <;> decide
theorem ct_pos {p : Nat → Bool} {n a : Nat} (ha : a < n) (h : p a = true) : 0 < ct p n := by
  induction n with
  | zero => omega
  | succ n ih =>
    rw [ct]
    by_cases e : a = n
    · subst e; rw [h]; simp
    · have := ih (by omega); omega
theorem ct_xor (p q : Nat → Bool) (n : Nat) : (ct p n + ct q n + ct (fun i => p i != q i) n) % 2 = 0 := by
  induction n with
  | zero => rfl
  | succ n ih =>
    simp only [ct]
    generalize p n = x
    generalize q n = y
    cases x <;> cases y <;> simp <;> omega
/-- One taken out. -/
theorem ct_one (p : Nat → Bool) {n a : Nat} (ha : a < n) : ct p n = ct (fun i => p i && decide (i ≠ a)) n + (p a).toNat := by
  induction n with
  | zero => omega
  | succ n ih =>
    simp only [ct]
    by_cases e : a = n
    · subst e
      have : ct (fun i => p i && decide (i ≠ a)) a = ct p a := ct_congr (fun i hi => by simp; omega)
      rw [this]
      simp
    · rw [ih (by omega)]
      have : (p n && decide (n ≠ a)) = p n := by simp; omega
      rw [this]
      omega
theorem sm_one (f : Nat → Int) (p : Nat → Bool) {n a : Nat} (ha : a < n) : sm (fun i => if p i = true then f i else 0) n = sm (fun i => if (p i && decide (i ≠ a)) = true then f i else 0) n + (if p a = true then f a else 0) := by
  induction n with
  | zero => omega
  | succ n ih =>
    simp only [sm]
    by_cases e : a = n
    · subst e
      have : sm (fun i => if (p i && decide (i ≠ a)) = true then f i else 0) a = sm (fun i => if p i = true then f i else 0) a := sm_congr (fun i hi => by
        have : (p i && decide (i ≠ a)) = p i := by simp; omega
        rw [this])
      rw [this]
      simp
    · rw [ih (by omega)]
      have : (p n && decide (n ≠ a)) = p n := by simp; omega
      rw [this]
      omega
theorem least_of (p : Nat → Bool) (g : Nat → Int) (n : Nat) (h : 0 < ct p n) : ∃ a, a < n ∧ p a = true ∧ ∀ j, j < n → p j = true → g a ≤ g j := by
  induction n with
  | zero => simp [ct] at h
  | succ n ih =>
    rw [ct] at h
    by_cases h0 : 0 < ct p n
    · obtain ⟨a, h1, h2, h3⟩ := ih h0
      by_cases hc : p n = true ∧ g n < g a
      · refine ⟨n, by omega, hc.1, fun j hj hp => ?_⟩
        by_cases e : j = n
        · subst e; omega
        · have := h3 j (by omega) hp; omega
      · refine ⟨a, by omega, h2, fun j hj hp => ?_⟩
        by_cases e : j = n
        · subst e
          have : ¬ g j < g a := fun h => hc ⟨hp, h⟩
          omega
        · exact h3 j (by omega) hp
    · have hp : p n = true := by
        by_cases e : p n = true
        · exact e
        · rw [Bool.not_eq_true] at e; rw [e] at h; simp at h; omega
      refine ⟨n, by omega, hp, fun j hj hpj => ?_⟩
      by_cases e : j = n
      · subst e; omega
      · exact absurd (ct_pos (show j < n by omega) hpj) h0
def sg (k : Nat) (s : Int) : Int := if k % 2 = 0 then s else -s
theorem sg_even {k m : Nat} (h : k % 2 = m % 2) (s : Int) : sg k s = sg m s := by unfold sg; rw [h]
theorem sg_odd {k m : Nat} (h : (k + m) % 2 = 1) (s : Int) : sg k s = sg m (-s) := by
  unfold sg
  have := Nat.mod_two_eq_zero_or_one k
  have := Nat.mod_two_eq_zero_or_one m
  split <;> split <;> first | omega | rfl
/-- Numbers in turn added and taken away, from the least on: the sum has one sign. -/
theorem alt (n : Nat) (g d : Nat → Int) (s : Int) (hs : s = 1 ∨ s = -1) (m : Nat) : ∀ p : Nat → Bool, ct p n ≤ m → (∀ i j, i < n → j < n → p i = true → p j = true → g i = g j → i = j) →
    (∀ i, i < n → p i = true → d i = sg (ct (fun j => p j && decide (g j < g i)) n) s) → sm (fun i => if p i = true then d i else 0) n = 0 →
    s * sm (fun i => if p i = true then d i * g i else 0) n ≤ 0 ∧ (0 < ct p n → s * sm (fun i => if p i = true then d i * g i else 0) n < 0) := by
  induction m with
  | zero =>
    intro p hm _ _ _
    have h0 : ∀ i, i < n → p i = false := fun i hi => by
      cases h : p i
      · rfl
      · have := ct_pos hi h; omega
    have e : sm (fun i => if p i = true then d i * g i else 0) n = 0 := by
      rw [sm_congr (g := fun _ => 0) (fun i hi => by rw [h0 i hi]; rfl), sm_zero]
    rw [e]
    exact ⟨by simp, fun h => by omega⟩
  | succ m ih =>
    intro p hm hinj hd hsum
    by_cases h0 : 0 < ct p n
    · obtain ⟨a, ha, pa, mina⟩ := least_of p g n h0
      have e1 := ct_one p ha
      rw [pa, Bool.toNat_true] at e1
      have da : d a = s := by
        rw [hd a ha pa, ct_none (fun j hj => by
          by_cases hp : p j = true
          · have := mina j hj hp; simp; omega
          · simp [hp])]
        rfl
      have s1 := sm_one d p ha
      rw [if_pos pa, hsum, da] at s1
      by_cases h1 : 0 < ct (fun i => p i && decide (i ≠ a)) n
      · obtain ⟨b, hb, pb, minb⟩ := least_of (fun i => p i && decide (i ≠ a)) g n h1
        have pb' : p b = true := by simp at pb; exact pb.1
        have hne : b ≠ a := by simp at pb; exact pb.2
        have hlt : g a < g b := by
          have h1 := mina b hb pb'
          have h2 : g a ≠ g b := fun e => hne (hinj a b ha hb pa pb' e).symm
          omega
        have db : d b = -s := by
          have : ct (fun j => p j && decide (g j < g b)) n = 1 := by
            rw [ct_one _ ha, ct_none (fun j hj => by
              by_cases hp : p j = true
              · by_cases hja : j = a
                · simp [hja]
                · have := minb j hj (by simp [hp, hja]); simp; omega
              · simp [hp])]
            simp [pa, hlt]
          rw [hd b hb pb', this]
          rfl
        have e2 := ct_one (fun i => p i && decide (i ≠ a)) hb
        rw [pb, Bool.toNat_true] at e2
        have s2 := sm_one d (fun i => p i && decide (i ≠ a)) hb
        rw [if_pos pb, db] at s2
        have t1 := sm_one (fun i => d i * g i) p ha
        rw [if_pos pa, da] at t1
        have t2 := sm_one (fun i => d i * g i) (fun i => p i && decide (i ≠ a)) hb
        rw [if_pos pb, db] at t2
        have far : ∀ i, i < n → ((p i && decide (i ≠ a)) && decide (i ≠ b)) = true → p i = true ∧ i ≠ a ∧ i ≠ b := fun i _ h => by simp at h; exact ⟨h.1.1, h.1.2, h.2⟩
        have IH := ih (fun i => (p i && decide (i ≠ a)) && decide (i ≠ b)) (by omega) (fun i j hi hj h1 h2 => hinj i j hi hj (far i hi h1).1 (far j hj h2).1) (fun i hi h => by
          obtain ⟨q1, q2, q3⟩ := far i hi h
          rw [hd i hi q1]
          refine sg_even ?_ s
          have ia : g a < g i := by
            have h1 := mina i hi q1
            have h2 : g a ≠ g i := fun e => q2 (hinj a i ha hi pa q1 e).symm
            omega
          have ib : g b < g i := by
            have h1 := minb i hi (by simp [q1, q2])
            have h2 : g b ≠ g i := fun e => q3 (hinj b i hb hi pb' q1 e).symm
            omega
          have c1 := ct_one (fun j => p j && decide (g j < g i)) ha
          rw [show (p a && decide (g a < g i)) = true by simp [pa, ia], Bool.toNat_true] at c1
          have c2 := ct_one (fun j => (p j && decide (g j < g i)) && decide (j ≠ a)) hb
          rw [show ((p b && decide (g b < g i)) && decide (b ≠ a)) = true by simp [pb', ib, hne], Bool.toNat_true] at c2
          have c3 : ct (fun j => ((p j && decide (g j < g i)) && decide (j ≠ a)) && decide (j ≠ b)) n = ct (fun j => ((p j && decide (j ≠ a)) && decide (j ≠ b)) && decide (g j < g i)) n := ct_congr (fun j _ => by
            cases p j <;> cases decide (g j < g i) <;> cases decide (j ≠ a) <;> cases decide (j ≠ b) <;> rfl)
          omega) (by omega)
        have key : s * sm (fun i => if p i = true then d i * g i else 0) n = s * sm (fun i => if ((p i && decide (i ≠ a)) && decide (i ≠ b)) = true then d i * g i else 0) n + (g a - g b) := by
          rw [t1, t2]
          rcases hs with rfl | rfl <;> omega
        rw [key]
        have := IH.1
        exact ⟨by omega, fun _ => by omega⟩
      · exfalso
        have : sm (fun i => if (p i && decide (i ≠ a)) = true then d i else 0) n = 0 := by
          rw [sm_congr (g := fun _ => 0) (fun i hi => by
            cases h : (p i && decide (i ≠ a))
            · rfl
            · exact absurd (ct_pos (p := fun i => p i && decide (i ≠ a)) hi h) h1), sm_zero]
        omega
    · have h1 : ct p n ≤ m := by omega
      exact ih p h1 hinj hd hsum
def nx (n i : Nat) : Nat := if i + 1 = n then 0 else i + 1
def pv (n i : Nat) : Nat := if i = 0 then n - 1 else i - 1
theorem nx_lt {n i : Nat} (h : i < n) : nx n i < n := by unfold nx; split <;> omega
theorem pv_lt {n i : Nat} (h : i < n) : pv n i < n := by unfold pv; split <;> omega
theorem nx_pv {n i : Nat} (h : i < n) : nx n (pv n i) = i := by unfold nx pv; split <;> split <;> omega
theorem nx_inj {n i j : Nat} (_ : i < n) (_ : j < n) (e : nx n i = nx n j) : i = j := by
  unfold nx at e
  split at e <;> split at e <;> omega
theorem nx_ne {n i : Nat} (hn : 3 ≤ n) (_ : i < n) : nx n i ≠ i := by unfold nx; split <;> omega
theorem sm_cyc (b : Nat → Int) (n : Nat) (hn : 0 < n) : sm (fun e => b (nx n e)) n = sm b n := by
  have sh : ∀ m, sm (fun e => b (e + 1)) m + b 0 = sm b (m + 1) := fun m => by
    induction m with
    | zero => simp [sm]
    | succ m ih => rw [sm, sm]; omega
  obtain ⟨m, rfl⟩ : ∃ m, n = m + 1 := ⟨n - 1, by omega⟩
  rw [← sh m, sm, sm_congr (g := fun e => b (e + 1)) (fun i hi => by
    have : nx (m + 1) i = i + 1 := by unfold nx; rw [if_neg (by omega)]
    rw [this])]
  have : nx (m + 1) m = 0 := by unfold nx; rw [if_pos rfl]
  rw [this]
/-- A closed line of n edges over distinct places u, told by their heights G e (doubled places), of which none meets another one but at a shared end. -/
structure Poly (n : Nat) (u z al be : Nat → Int) : Prop where
  n3 : 3 ≤ n
  inj : ∀ i j, i < n → j < n → u i = u j → i = j
  N1 : ∀ e f t, e < n → f < n → e ≠ f → (u e ≤ t ∧ t < u (nx n e) ∨ u (nx n e) ≤ t ∧ t < u e) → (u f ≤ t ∧ t < u (nx n f) ∨ u (nx n f) ≤ t ∧ t < u f) → al e + be e * (2 * t + 1) ≠ al f + be f * (2 * t + 1)
  N2 : ∀ e f t, e < n → f < n → e ≠ f → (u e ≤ t ∧ t + 1 < u (nx n e) ∨ u (nx n e) ≤ t ∧ t + 1 < u e) → (u f ≤ t ∧ t + 1 < u (nx n f) ∨ u (nx n f) ≤ t ∧ t + 1 < u f) → (al f + be f * (2 * t + 1) < al e + be e * (2 * t + 1) ↔ al f + be f * (2 * t + 3) < al e + be e * (2 * t + 3))
  N3 : ∀ e f w t, e < n → f < n → w < n → e ≠ f → u w = t + 1 → (f = w ∨ nx n f = w) → (u e ≤ t ∧ t + 1 < u (nx n e) ∨ u (nx n e) ≤ t ∧ t + 1 < u e) →
    ((u f ≤ t ∧ t < u (nx n f) ∨ u (nx n f) ≤ t ∧ t < u f) → (al f + be f * (2 * t + 1) < al e + be e * (2 * t + 1) ↔ z w < al e + be e * (2 * t + 2))) ∧
    ((u f ≤ t + 1 ∧ t + 1 < u (nx n f) ∨ u (nx n f) ≤ t + 1 ∧ t + 1 < u f) → (al f + be f * (2 * t + 3) < al e + be e * (2 * t + 3) ↔ z w < al e + be e * (2 * t + 2)))
section
variable {n : Nat} {u z al be : Nat → Int} (H : Poly n u z al be)
/-- Edge e passes between t and t + 1. -/
def Eb (n : Nat) (u : Nat → Int) (t : Int) (e : Nat) : Bool := decide (u e ≤ t ∧ t < u (nx n e) ∨ u (nx n e) ≤ t ∧ t < u e)
theorem Eb_iff {t : Int} {e : Nat} : Eb n u t e = true ↔ (u e ≤ t ∧ t < u (nx n e) ∨ u (nx n e) ≤ t ∧ t < u e) := by unfold Eb; rw [decide_eq_true_iff]
def gt (al be : Nat → Int) (t : Int) (e : Nat) : Int := al e + be e * (2 * t + 1)
/-- How many edges pass below e. -/
def Nb (n : Nat) (u al be : Nat → Int) (t : Int) (e : Nat) : Nat := ct (fun f => Eb n u t f && decide (gt al be t f < gt al be t e)) n
def dr (n : Nat) (u : Nat → Int) (e : Nat) : Int := if u e < u (nx n e) then 1 else -1
theorem both {t : Int} {e : Nat} (_ : e < n) (h1 : Eb n u t e = true) (h2 : Eb n u (t + 1) e = true) : u e ≤ t ∧ t + 1 < u (nx n e) ∨ u (nx n e) ≤ t ∧ t + 1 < u e := by
  rw [Eb_iff] at h1 h2
  omega
theorem same_eb {t : Int} {f : Nat} (h1 : u f ≠ t + 1) (h2 : u (nx n f) ≠ t + 1) : Eb n u t f = Eb n u (t + 1) f := by
  rw [Bool.eq_iff_iff, Eb_iff, Eb_iff]
  omega
include H in
theorem same_below {t : Int} {e f : Nat} (he : e < n) (hf : f < n) (h1 : Eb n u t e = true) (h2 : Eb n u (t + 1) e = true) (g1 : u f ≠ t + 1) (g2 : u (nx n f) ≠ t + 1) :
    (Eb n u t f && decide (gt al be t f < gt al be t e)) = (Eb n u (t + 1) f && decide (gt al be (t + 1) f < gt al be (t + 1) e)) := by
  by_cases hef : f = e
  · subst hef; simp
  · have hs := same_eb g1 g2
    cases hE : Eb n u t f
    · rw [← hs, hE]; rfl
    · have hE2 : Eb n u (t + 1) f = true := by rw [← hs]; exact hE
      have := H.N2 e f t he hf (fun h => hef h.symm) (both he h1 h2) (both hf hE hE2)
      rw [hE2, Bool.true_and, Bool.true_and, decide_eq_decide]
      unfold gt
      rw [show 2 * (t + 1) + 1 = 2 * t + 3 by omega]
      exact this
include H
theorem one_side {t : Int} {f w : Nat} (hf : f < n) (hw : w < n) (hu : u w = t + 1) (hfw : f = w ∨ nx n f = w) : (Eb n u t f != Eb n u (t + 1) f) = true := by
  have hn := nx_lt hf
  have hne := nx_ne H.n3 hf
  have huv : u f ≠ u (nx n f) := fun e => hne (H.inj f _ hf hn e).symm
  have : Eb n u t f = !Eb n u (t + 1) f := by
    rw [Bool.eq_iff_iff, Bool.not_eq_true', ← Bool.not_eq_true, Eb_iff, Eb_iff]
    rcases hfw with rfl | rfl <;> omega
  rw [this]
  cases Eb n u (t + 1) f <;> rfl
theorem parity {t : Int} {e : Nat} (he : e < n) (h1 : Eb n u t e = true) (h2 : Eb n u (t + 1) e = true) : Nb n u al be t e % 2 = Nb n u al be (t + 1) e % 2 := by
  have hx := ct_xor (fun f => Eb n u t f && decide (gt al be t f < gt al be t e)) (fun f => Eb n u (t + 1) f && decide (gt al be (t + 1) f < gt al be (t + 1) e)) n
  have hb := both he h1 h2
  suffices hs : ct (fun f => (Eb n u t f && decide (gt al be t f < gt al be t e)) != (Eb n u (t + 1) f && decide (gt al be (t + 1) f < gt al be (t + 1) e))) n % 2 = 0 by
    unfold Nb; omega
  by_cases hv : ∃ w, w < n ∧ u w = t + 1
  · obtain ⟨w, hw, hu⟩ := hv
    have ha := pv_lt hw
    have haw := nx_pv hw
    have hne : w ≠ pv n w := fun e => nx_ne H.n3 ha (by rw [haw]; exact e)
    have inc : ∀ f, f < n → (f = w ∨ nx n f = w) → ((Eb n u t f && decide (gt al be t f < gt al be t e)) != (Eb n u (t + 1) f && decide (gt al be (t + 1) f < gt al be (t + 1) e))) = decide (z w < al e + be e * (2 * t + 2)) := by
      intro f hf hfw
      have hef : e ≠ f := by
        intro h; subst h
        rcases hfw with rfl | rfl <;> omega
      have h3 := H.N3 e f w t he hf hw hef hu hfw hb
      have hsd := one_side H hf hw hu hfw
      cases hE : Eb n u t f
      · have hE2 : Eb n u (t + 1) f = true := by
          rw [hE] at hsd; simpa using hsd
        rw [hE2]
        have key : gt al be (t + 1) f < gt al be (t + 1) e ↔ z w < al e + be e * (2 * t + 2) := by
          unfold gt
          rw [show 2 * (t + 1) + 1 = 2 * t + 3 by omega]
          exact h3.2 (Eb_iff.1 hE2)
        rw [decide_eq_decide.2 key, Bool.false_and, Bool.true_and, Bool.false_bne]
      · have hE2 : Eb n u (t + 1) f = false := by
          rw [hE] at hsd; simpa using hsd
        rw [hE2]
        have key : gt al be t f < gt al be t e ↔ z w < al e + be e * (2 * t + 2) := h3.1 (Eb_iff.1 hE)
        rw [decide_eq_decide.2 key, Bool.false_and, Bool.true_and, Bool.bne_false]
    have c1 := ct_one (fun f => (Eb n u t f && decide (gt al be t f < gt al be t e)) != (Eb n u (t + 1) f && decide (gt al be (t + 1) f < gt al be (t + 1) e))) hw
    have c2 := ct_one (fun f => ((Eb n u t f && decide (gt al be t f < gt al be t e)) != (Eb n u (t + 1) f && decide (gt al be (t + 1) f < gt al be (t + 1) e))) && decide (f ≠ w)) ha
    rw [inc w hw (.inl rfl)] at c1
    rw [inc (pv n w) ha (.inr haw)] at c2
    have c3 : ct (fun f => (((Eb n u t f && decide (gt al be t f < gt al be t e)) != (Eb n u (t + 1) f && decide (gt al be (t + 1) f < gt al be (t + 1) e))) && decide (f ≠ w)) && decide (f ≠ pv n w)) n = 0 := ct_none (fun f hf => by
      by_cases q1 : f = w
      · simp [q1]
      · by_cases q2 : f = pv n w
        · simp [q2]
        · have g1 : u f ≠ t + 1 := fun h => q1 (H.inj f w hf hw (by omega))
          have g2 : u (nx n f) ≠ t + 1 := fun h => q2 (nx_inj hf ha (by rw [haw]; exact H.inj _ w (nx_lt hf) hw (by omega)))
          rw [same_below H he hf h1 h2 g1 g2]
          simp)
    have hd : decide (pv n w ≠ w) = true := by simp; exact fun h => hne h.symm
    rw [hd, Bool.and_true] at c2
    omega
  · rw [ct_none (fun f hf => by
      have g1 : u f ≠ t + 1 := fun h => hv ⟨f, hf, h⟩
      have g2 : u (nx n f) ≠ t + 1 := fun h => hv ⟨nx n f, nx_lt hf, h⟩
      rw [same_below H he hf h1 h2 g1 g2]
      simp)]
end
section
variable {n : Nat} {u z al be : Nat → Int} (H : Poly n u z al be)
include H
theorem ends_ne {e : Nat} (he : e < n) : u e ≠ u (nx n e) := fun h => nx_ne H.n3 he (H.inj e _ he (nx_lt he) h).symm
/-- The side of w on which an edge that ends in w lies. -/
theorem at_side {f w : Nat} {T : Int} (hf : f < n) (hu : u w = T + 1) (hfw : f = w ∨ nx n f = w) : (Eb n u T f = true ∧ Eb n u (T + 1) f = false) ∨ (Eb n u T f = false ∧ Eb n u (T + 1) f = true) := by
  have hne := ends_ne H hf
  cases h1 : Eb n u T f
  · refine .inr ⟨rfl, ?_⟩
    rw [Eb_iff]
    rw [← Bool.not_eq_true, Eb_iff] at h1
    rcases hfw with rfl | rfl <;> omega
  · refine .inl ⟨rfl, ?_⟩
    rw [Eb_iff] at h1
    rw [← Bool.not_eq_true, Eb_iff]
    rcases hfw with rfl | rfl <;> omega
/-- What passes below w, of the edges that do not end in it. -/
def Kb (n : Nat) (u z al be : Nat → Int) (T : Int) (w : Nat) : Nat := ct (fun f => ((Eb n u T f && decide (¬ z w < al f + be f * (2 * T + 2))) && decide (f ≠ w)) && decide (f ≠ pv n w)) n
theorem count_at {f w : Nat} {T τ : Int} (hf : f < n) (hw : w < n) (hu : u w = T + 1) (hfw : f = w ∨ nx n f = w) (hτ : τ = T ∨ τ = T + 1) (hE : Eb n u τ f = true) :
    Nb n u al be τ f = Kb n u z al be T w + (Eb n u τ w && decide (gt al be τ w < gt al be τ f)).toNat + (Eb n u τ (pv n w) && decide (gt al be τ (pv n w) < gt al be τ f)).toNat := by
  have ha := pv_lt hw
  have haw := nx_pv hw
  have hne : w ≠ pv n w := fun e => nx_ne H.n3 ha (by rw [haw]; exact e)
  unfold Nb
  have c1 := ct_one (fun g => Eb n u τ g && decide (gt al be τ g < gt al be τ f)) hw
  have c2 := ct_one (fun g => (Eb n u τ g && decide (gt al be τ g < gt al be τ f)) && decide (g ≠ w)) ha
  have hd : decide (pv n w ≠ w) = true := by simp; exact fun h => hne h.symm
  rw [hd, Bool.and_true] at c2
  have c3 : ct (fun g => ((Eb n u τ g && decide (gt al be τ g < gt al be τ f)) && decide (g ≠ w)) && decide (g ≠ pv n w)) n = Kb n u z al be T w := by
    unfold Kb
    refine ct_congr (fun g hg => ?_)
    by_cases q1 : g = w
    · simp [q1]
    · by_cases q2 : g = pv n w
      · simp [q2]
      · have g1 : u g ≠ T + 1 := fun h => q1 (H.inj g w hg hw (by omega))
        have g2 : u (nx n g) ≠ T + 1 := fun h => q2 (nx_inj hg ha (by rw [haw]; exact H.inj _ w (nx_lt hg) hw (by omega)))
        have hs := same_eb g1 g2
        have hτE : Eb n u τ g = Eb n u T g := by rcases hτ with rfl | rfl; · rfl
                                                 · exact hs.symm
        have hgf : g ≠ f := by
          intro h; subst h
          rcases hfw with h | h
          · exact q1 h
          · exact q2 (nx_inj hg ha (by rw [haw]; exact h))
        rw [hτE]
        cases hE1 : Eb n u T g
        · rfl
        · have hE2 : Eb n u (T + 1) g = true := by rw [← hs]; exact hE1
          have h3 := H.N3 g f w T hg hf hw hgf hu hfw (both hg hE1 hE2)
          have h1 := H.N1 g f τ hg hf hgf (Eb_iff.1 (by rw [hτE]; exact hE1)) (Eb_iff.1 hE)
          have key : (gt al be τ g < gt al be τ f) ↔ ¬ z w < al g + be g * (2 * T + 2) := by
            unfold gt
            rcases hτ with rfl | rfl
            · have := h3.1 (Eb_iff.1 hE)
              rw [← this]
              omega
            · have := h3.2 (Eb_iff.1 hE)
              rw [← this]
              rw [show 2 * (T + 1) + 1 = 2 * T + 3 by omega] at h1 ⊢
              omega
          rw [decide_eq_decide.2 key]
  rw [c3] at c2
  omega
/-- Across a corner the sign stays. -/
theorem corner {w : Nat} {T τ τ' : Int} (hw : w < n) (hu : u w = T + 1) (hτ : τ = T ∨ τ = T + 1) (hτ' : τ' = T ∨ τ' = T + 1) (hE : Eb n u τ (pv n w) = true) (hE' : Eb n u τ' w = true) :
    sg (Nb n u al be τ (pv n w)) (dr n u (pv n w)) = sg (Nb n u al be τ' w) (dr n u w) := by
  have ha := pv_lt hw
  have haw := nx_pv hw
  have hne : w ≠ pv n w := fun e => nx_ne H.n3 ha (by rw [haw]; exact e)
  have na := count_at H ha hw hu (.inr haw) hτ hE
  have nb := count_at H hw hw hu (.inl rfl) hτ' hE'
  rw [show decide (gt al be τ (pv n w) < gt al be τ (pv n w)) = false by simp, Bool.and_false] at na
  rw [show decide (gt al be τ' w < gt al be τ' w) = false by simp, Bool.and_false] at nb
  have sa := at_side H ha hu (.inr haw)
  have sb := at_side H hw hu (.inl rfl)
  have da := Eb_iff.1 hE
  have db := Eb_iff.1 hE'
  rw [haw] at da
  have dira : dr n u (pv n w) = if τ = T then 1 else -1 := by
    unfold dr
    rw [haw]
    rcases hτ with rfl | rfl
    · rw [if_pos (by omega), if_pos rfl]
    · rw [if_neg (by omega), if_neg (by omega)]
  have dirb : dr n u w = if τ' = T then -1 else 1 := by
    unfold dr
    rcases hτ' with rfl | rfl
    · rw [if_neg (by omega), if_pos rfl]
    · rw [if_pos (by omega), if_neg (by omega)]
  by_cases heq : τ = τ'
  · subst heq
    rw [hE', Bool.true_and] at na
    rw [hE, Bool.true_and] at nb
    have h1 := H.N1 w (pv n w) τ hw ha hne (Eb_iff.1 hE') (Eb_iff.1 hE)
    have hd : dr n u (pv n w) = - dr n u w := by rw [dira, dirb]; split <;> omega
    rw [hd]
    have ho : (Nb n u al be τ (pv n w) + Nb n u al be τ w) % 2 = 1 := by
      by_cases hl : gt al be τ w < gt al be τ (pv n w)
      · have hl2 : ¬ gt al be τ (pv n w) < gt al be τ w := by omega
        rw [decide_eq_true hl] at na
        rw [decide_eq_false hl2] at nb
        simp at na nb
        omega
      · have hl2 : gt al be τ (pv n w) < gt al be τ w := by unfold gt at hl ⊢; omega
        rw [decide_eq_false hl] at na
        rw [decide_eq_true hl2] at nb
        simp at na nb
        omega
    have := sg_odd ho (- dr n u w)
    rw [this, Int.neg_neg]
  · have e1 : Eb n u τ w = false := by
      rcases hτ with rfl | rfl <;> rcases hτ' with rfl | rfl
      · exact absurd rfl heq
      · rcases sb with h | h
        · rw [h.2] at hE'; cases hE'
        · exact h.1
      · rcases sb with h | h
        · exact h.2
        · rw [h.1] at hE'; cases hE'
      · exact absurd rfl heq
    have e2 : Eb n u τ' (pv n w) = false := by
      rcases hτ with rfl | rfl <;> rcases hτ' with rfl | rfl
      · exact absurd rfl heq
      · rcases sa with h | h
        · exact h.2
        · rw [h.1] at hE; cases hE
      · rcases sa with h | h
        · rw [h.2] at hE; cases hE
        · exact h.1
      · exact absurd rfl heq
    rw [e1] at na
    rw [e2] at nb
    have hd : dr n u (pv n w) = dr n u w := by
      rw [dira, dirb]
      rcases hτ with rfl | rfl <;> rcases hτ' with rfl | rfl
      · exact absurd rfl heq
      · rw [if_pos rfl, if_neg (by omega)]
      · rw [if_neg (by omega), if_pos rfl]
      · exact absurd rfl heq
    rw [hd]
    refine sg_even ?_ _
    simp at na nb
    omega
/-- Along an edge the sign stays. -/
theorem along {e : Nat} (he : e < n) (t : Int) (h : Eb n u t e = true) (k : Nat) : Eb n u (t + (k : Int)) e = true → sg (Nb n u al be (t + (k : Int)) e) (dr n u e) = sg (Nb n u al be t e) (dr n u e) := by
  induction k with
  | zero => intro _; rw [show t + ((0 : Nat) : Int) = t by omega]
  | succ k ih =>
    intro h2
    have h1 : Eb n u (t + (k : Int)) e = true := by
      rw [Eb_iff] at h h2 ⊢
      omega
    rw [← ih h1]
    have e1 : t + ((k + 1 : Nat) : Int) = t + (k : Int) + 1 := by omega
    rw [e1] at h2 ⊢
    exact (sg_even (parity H he h1 h2) _).symm
theorem along2 {e : Nat} (he : e < n) {t t' : Int} (h : Eb n u t e = true) (h' : Eb n u t' e = true) : sg (Nb n u al be t e) (dr n u e) = sg (Nb n u al be t' e) (dr n u e) := by
  rcases Int.le_total t t' with hl | hl
  · have := along H he t h (t' - t).toNat (by rw [show t + ((t' - t).toNat : Int) = t' by omega]; exact h')
    rw [show t + ((t' - t).toNat : Int) = t' by omega] at this
    exact this.symm
  · have := along H he t' h' (t - t').toNat (by rw [show t' + ((t - t').toNat : Int) = t by omega]; exact h)
    rw [show t' + ((t - t').toNat : Int) = t by omega] at this
    exact this
/-- All edges have one sign. -/
theorem one_sign : ∃ s : Int, (s = 1 ∨ s = -1) ∧ ∀ e t, e < n → Eb n u t e = true → dr n u e = sg (Nb n u al be t e) s := by
  have some_t : ∀ e, e < n → ∃ t, Eb n u t e = true := fun e he => by
    have hne := ends_ne H he
    by_cases hl : u e < u (nx n e)
    · exact ⟨u e, Eb_iff.2 (by omega)⟩
    · exact ⟨u (nx n e), Eb_iff.2 (by omega)⟩
  have h0 : 0 < n := by have := H.n3; omega
  obtain ⟨t0, ht0⟩ := some_t 0 h0
  have flip : ∀ k (a b : Int), sg k a = b → a = sg k b := by
    intro k a b h
    unfold sg at h ⊢
    split at h <;> omega
  refine ⟨sg (Nb n u al be t0 0) (dr n u 0), ?_, ?_⟩
  · unfold sg dr
    split <;> split <;> omega
  · have main : ∀ e, e < n → ∀ t, Eb n u t e = true → sg (Nb n u al be t e) (dr n u e) = sg (Nb n u al be t0 0) (dr n u 0) := by
      intro e
      induction e with
      | zero => intro _ t ht; exact along2 H h0 ht ht0
      | succ e ih =>
        intro he t ht
        have he' : e < n := by omega
        have hnx : nx n e = e + 1 := by unfold nx; rw [if_neg (by omega)]
        have hpv : pv n (e + 1) = e := by unfold pv; rw [if_neg (by omega)]; omega
        have sa := at_side H he' (T := u (e + 1) - 1) (w := e + 1) (by omega) (.inr hnx)
        have sb := at_side H he (T := u (e + 1) - 1) (w := e + 1) (by omega) (.inl rfl)
        obtain ⟨τ, hτ, hE⟩ : ∃ τ, (τ = u (e + 1) - 1 ∨ τ = u (e + 1) - 1 + 1) ∧ Eb n u τ e = true := by
          rcases sa with h | h
          · exact ⟨_, .inl rfl, h.1⟩
          · exact ⟨_, .inr rfl, h.2⟩
        obtain ⟨τ', hτ', hE'⟩ : ∃ τ, (τ = u (e + 1) - 1 ∨ τ = u (e + 1) - 1 + 1) ∧ Eb n u τ (e + 1) = true := by
          rcases sb with h | h
          · exact ⟨_, .inl rfl, h.1⟩
          · exact ⟨_, .inr rfl, h.2⟩
        have hc := corner H he (T := u (e + 1) - 1) (by omega) hτ hτ' (by rw [hpv]; exact hE) hE'
        rw [hpv] at hc
        rw [along2 H he ht hE', ← hc]
        exact ih he' τ hE
    intro e t he ht
    exact flip _ _ _ (main e he t ht)
end
section
variable {n : Nat} {u z al be : Nat → Int} (H : Poly n u z al be)
include H
/-- As many edges go one way as the other. -/
theorem level (t : Int) : sm (fun e => if Eb n u t e = true then dr n u e else 0) n = 0 := by
  have h0 : 0 < n := by have := H.n3; omega
  have e : sm (fun e => if Eb n u t e = true then dr n u e else 0) n = sm (fun e => (fun i => if t < u i then (1 : Int) else 0) (nx n e) + (-1) * (fun i => if t < u i then (1 : Int) else 0) e) n := sm_congr (fun i hi => by
    have hne := ends_ne H hi
    unfold dr
    by_cases h : Eb n u t i = true
    · rw [if_pos h]
      rw [Eb_iff] at h
      rcases h with h | h
      · simp only [if_pos (show u i < u (nx n i) by omega), if_pos (show t < u (nx n i) by omega), if_neg (show ¬ t < u i by omega)]; omega
      · simp only [if_neg (show ¬ u i < u (nx n i) by omega), if_neg (show ¬ t < u (nx n i) by omega), if_pos (show t < u i by omega)]; omega
    · rw [if_neg h]
      rw [Eb_iff] at h
      by_cases h1 : t < u i
      · simp only [if_pos h1, if_pos (show t < u (nx n i) by omega)]; omega
      · simp only [if_neg h1, if_neg (show ¬ t < u (nx n i) by omega)]; omega)
  rw [e, sm_add, sm_mul, show sm (fun e => (fun i => if t < u i then (1 : Int) else 0) (nx n e)) n = sm (fun i => if t < u i then (1 : Int) else 0) n from sm_cyc (fun i => if t < u i then (1 : Int) else 0) n h0]
  omega
/-- The line's signed length at a place. -/
def rowS (n : Nat) (u al be : Nat → Int) (t : Int) : Int := sm (fun e => if Eb n u t e = true then dr n u e * gt al be t e else 0) n
theorem row_sign : ∃ s : Int, (s = 1 ∨ s = -1) ∧ ∀ t, s * rowS n u al be t ≤ 0 ∧ ((∃ e, e < n ∧ Eb n u t e = true) → s * rowS n u al be t < 0) := by
  obtain ⟨s, hs, hd⟩ := one_sign H
  refine ⟨s, hs, fun t => ?_⟩
  have := alt n (gt al be t) (dr n u) s hs n (Eb n u t) (by
      have : ∀ m, ct (Eb n u t) m ≤ m := fun m => by
        induction m with
        | zero => exact Nat.le_refl _
        | succ m ih => rw [ct]; have := tn_le (Eb n u t m); omega
      exact this n) (fun i j hi hj h1 h2 he => by
      by_cases hij : i = j
      · exact hij
      · exact absurd he (H.N1 i j t hi hj hij (Eb_iff.1 h1) (Eb_iff.1 h2))) (fun i hi h => hd i t hi h) (level H t)
  exact ⟨this.1, fun ⟨e, he, h⟩ => this.2 (ct_pos he h)⟩
/-- All rows from m on, k of them. -/
def tot (n : Nat) (u al be : Nat → Int) (m : Int) : Nat → Int
  | 0 => 0
  | k + 1 => tot n u al be m k + rowS n u al be (m + (k : Int))
theorem tot_ne (m : Int) (k : Nat) (hm : ∀ i, i < n → m ≤ u i) (hk : ∀ i, i < n → u i ≤ m + (k : Int)) : tot n u al be m k ≠ 0 := by
  obtain ⟨s, hs, hr⟩ := row_sign H
  have le : ∀ k : Nat, s * tot n u al be m k ≤ 0 := fun k => by
    induction k with
    | zero => simp [tot]
    | succ k ih => rw [tot, Int.mul_add]; have := (hr (m + (k : Int))).1; omega
  have lt : ∀ k j : Nat, j < k → (∃ e, e < n ∧ Eb n u (m + (j : Int)) e = true) → s * tot n u al be m k < 0 := fun k j hj he => by
    induction k with
    | zero => omega
    | succ k ih =>
      rw [tot, Int.mul_add]
      by_cases e : j = k
      · subst e; have := le j; have := (hr (m + (j : Int))).2 he; omega
      · have := ih (by omega); have := (hr (m + (k : Int))).1; omega
  have h0 : 0 < n := by have := H.n3; omega
  have hne := ends_ne H h0
  have hn0 := nx_lt h0
  have a1 := hm 0 h0
  have a2 := hm _ hn0
  have b1 := hk 0 h0
  have b2 := hk _ hn0
  intro hz
  have : s * tot n u al be m k < 0 := by
    by_cases hl : u 0 < u (nx n 0)
    · refine lt k (u 0 - m).toNat (by omega) ⟨0, h0, ?_⟩
      rw [Eb_iff]
      omega
    · refine lt k (u (nx n 0) - m).toNat (by omega) ⟨0, h0, ?_⟩
      rw [Eb_iff]
      omega
  rw [hz] at this
  simp at this
omit H in
/-- One edge's part of the rows. -/
def part (n : Nat) (u al be : Nat → Int) (m : Int) (e : Nat) : Nat → Int
  | 0 => 0
  | k + 1 => part n u al be m e k + (if Eb n u (m + (k : Int)) e = true then dr n u e * gt al be (m + (k : Int)) e else 0)
omit H in
theorem tot_parts (m : Int) (k : Nat) : tot n u al be m k = sm (fun e => part n u al be m e k) n := by
  induction k with
  | zero => exact (sm_zero n).symm
  | succ k ih =>
    rw [tot, ih]
    unfold rowS
    rw [← sm_add]
    rfl
omit H in
/-- An edge's rows come to its width times the heights of its ends. -/
theorem part_eq (m : Int) (e : Nat) (k : Nat) (lo hi : Int) (h : (lo = u e ∧ hi = u (nx n e) ∨ lo = u (nx n e) ∧ hi = u e) ∧ lo ≤ hi) (hm : m ≤ lo) :
    part n u al be m e k = dr n u e * (if m + (k : Int) ≤ lo then 0 else if m + (k : Int) ≤ hi then (m + (k : Int) - lo) * (al e + be e * (m + (k : Int) + lo)) else (hi - lo) * (al e + be e * (hi + lo))) := by
  induction k with
  | zero => rw [part, if_pos (by omega)]; simp
  | succ k ih =>
    rw [part, ih]
    have hE : Eb n u (m + (k : Int)) e = true ↔ lo ≤ m + (k : Int) ∧ m + (k : Int) < hi := by rw [Eb_iff]; omega
    have ec : m + ((k + 1 : Nat) : Int) = m + (k : Int) + 1 := by omega
    rw [ec]
    generalize m + (k : Int) = t at hE ⊢
    unfold gt
    by_cases h1 : t + 1 ≤ lo
    · rw [if_pos (show t ≤ lo by omega), if_pos h1, if_neg (show ¬ Eb n u t e = true from fun hh => by have := hE.1 hh; omega)]; simp
    · by_cases h2 : t + 1 ≤ hi
      · rw [if_pos (hE.2 ⟨by omega, by omega⟩), if_neg h1, if_pos h2]
        by_cases h3 : t ≤ lo
        · have : t = lo := by omega
          subst this
          rw [if_pos h3]
          grind
        · rw [if_neg h3, if_pos (show t ≤ hi by omega)]
          grind
      · rw [if_neg (show ¬ Eb n u t e = true from fun hh => by have := hE.1 hh; omega), if_neg h1, if_neg h2]
        by_cases h3 : t ≤ lo
        · have e1 : lo = hi := by omega
          rw [if_pos h3, e1]
          simp
        · rw [if_neg h3]
          by_cases h4 : t ≤ hi
          · have : t = hi := by omega
            subst this
            rw [if_pos h4]; simp
          · rw [if_neg h4]; simp
end
/-- A common multiple. -/
theorem common (q : Nat → Int) (n : Nat) (h : ∀ e, e < n → q e ≠ 0) : ∃ D : Int, 0 < D ∧ ∃ M : Nat → Int, ∀ e, e < n → M e * q e = D := by
  induction n with
  | zero => exact ⟨1, by omega, fun _ => 0, fun e he => by omega⟩
  | succ n ih =>
    obtain ⟨D, hD, M, hM⟩ := ih (fun e he => h e (by omega))
    have hq := h n (by omega)
    refine ⟨D * (q n * q n), Int.mul_pos hD (by
      rcases Int.lt_or_gt_of_ne hq with h | h
      · exact Int.mul_pos_of_neg_of_neg h h
      · exact Int.mul_pos h h), fun e => if e = n then D * q n else M e * (q n * q n), fun e he => ?_⟩
    by_cases e1 : e = n
    · subst e1; simp only [if_true]; grind
    · simp only [if_neg e1]
      have := hM e (by omega)
      grind
theorem shoe {n : Nat} {u z al be : Nat → Int} (H : Poly n u z al be) (D : Int) (v : Nat → Int) (h1 : ∀ e, e < n → al e + be e * (2 * u e) = 2 * D * v e) (h2 : ∀ e, e < n → al e + be e * (2 * u (nx n e)) = 2 * D * v (nx n e)) :
    sm (fun e => (u (nx n e) - u e) * (v e + v (nx n e))) n ≠ 0 := by
  -- bounds of the places
  obtain ⟨m, hm⟩ : ∃ m : Int, ∀ i, i < n → m ≤ u i := by
    have : ∀ k, ∃ m : Int, ∀ i, i < k → m ≤ u i := fun k => by
      induction k with
      | zero => exact ⟨0, fun i hi => by omega⟩
      | succ k ih =>
        obtain ⟨m, hm⟩ := ih
        by_cases hc : m ≤ u k
        · exact ⟨m, fun i hi => by by_cases e : i = k; · subst e; exact hc
                                   · exact hm i (by omega)⟩
        · exact ⟨u k, fun i hi => by by_cases e : i = k; · subst e; exact Int.le_refl _
                                     · have := hm i (by omega); omega⟩
    exact this n
  obtain ⟨k, hk⟩ : ∃ k : Nat, ∀ i, i < n → u i ≤ m + (k : Int) := by
    have : ∀ j, ∃ k : Nat, ∀ i, i < j → u i ≤ m + (k : Int) := fun j => by
      induction j with
      | zero => exact ⟨0, fun i hi => by omega⟩
      | succ j ih =>
        obtain ⟨k, hk⟩ := ih
        refine ⟨k + (u j - m).toNat, fun i hi => ?_⟩
        by_cases e : i = j
        · subst e; omega
        · have := hk i (by omega); omega
    exact this n
  have hne := tot_ne H m k hm hk
  rw [tot_parts] at hne
  have e : sm (fun e => part n u al be m e k) n = sm (fun e => D * ((u (nx n e) - u e) * (v e + v (nx n e)))) n := sm_congr (fun i hi => by
    have hd := ends_ne H hi
    have hn := nx_lt hi
    have a1 := h1 i hi
    have a2 := h2 i hi
    have b1 := hm i hi
    have b2 := hm _ hn
    have c1 := hk i hi
    have c2 := hk _ hn
    by_cases hl : u i < u (nx n i)
    · rw [part_eq m i k (u i) (u (nx n i)) ⟨.inl ⟨rfl, rfl⟩, by omega⟩ b1, if_neg (by omega)]
      have dd : dr n u i = 1 := by unfold dr; rw [if_pos hl]
      rw [dd]
      split
      · have : m + (k : Int) = u (nx n i) := by omega
        rw [this]
        grind
      · grind
    · rw [part_eq m i k (u (nx n i)) (u i) ⟨.inr ⟨rfl, rfl⟩, by omega⟩ b2, if_neg (by omega)]
      have dd : dr n u i = -1 := by unfold dr; rw [if_neg hl]
      rw [dd]
      split
      · have : m + (k : Int) = u i := by omega
        rw [this]
        grind
      · grind)
  rw [e, sm_mul] at hne
  intro hz
  rw [hz] at hne
  simp at hne
/-- In grid points. -/
theorem shoe_xy {n : Nat} (hn : 0 < n) (x y : Nat → Int) : sm (fun e => ((1000 * y (nx n e) + x (nx n e)) - (1000 * y e + x e)) * (x e + x (nx n e))) n = 1000 * sm (fun e => x e * y (nx n e) - y e * x (nx n e)) n := by
  have e1 : sm (fun e => ((1000 * y (nx n e) + x (nx n e)) - (1000 * y e + x e)) * (x e + x (nx n e))) n = sm (fun e => 1000 * (x e * y (nx n e) - y e * x (nx n e)) + ((fun i => (1000 * y i + x i) * x i) (nx n e) + (-1) * (fun i => (1000 * y i + x i) * x i) e)) n := sm_congr (fun i _ => by simp only; grind)
  rw [e1, sm_add, sm_mul, sm_add, sm_mul, show sm (fun e => (fun i => (1000 * y i + x i) * x i) (nx n e)) n = sm (fun i => (1000 * y i + x i) * x i) n from sm_cyc (fun i => (1000 * y i + x i) * x i) n hn]
  omega
section
variable {n : Nat} (x y : Nat → Int)
def U (x y : Nat → Int) (i : Nat) : Int := 1000 * y i + x i
/-- On which side of edge e a point lies. -/
def co (n : Nat) (x y : Nat → Int) (e p : Nat) : Int := (x (nx n e) - x e) * (y p - y e) - (y (nx n e) - y e) * (x p - x e)
/-- What is asked of two edges. -/
structure Far (n : Nat) (x y : Nat → Int) (e f : Nat) : Prop where
  k1 : ∀ t, Eb n (U x y) t e = true → Eb n (U x y) t f = true → ¬ (co n x y e f = 0 ∧ co n x y e (nx n f) = 0)
  k2 : ¬ (co n x y e f * co n x y e (nx n f) < 0 ∧ co n x y f e * co n x y f (nx n e) < 0)
  k3 : ∀ p, (p = f ∨ nx n f = p) → (U x y e < U x y p ∧ U x y p < U x y (nx n e) ∨ U x y (nx n e) < U x y p ∧ U x y p < U x y e) → co n x y e p ≠ 0
theorem lt_or_ge_ (a b : Int) : a < b ∨ a ≥ b := by omega
theorem mul_neg_of {a b d : Int} (h1 : a * b < 0) (h2 : 0 < a * d) : b * d < 0 := by
  rcases Int.lt_trichotomy a 0 with h | h | h
  · have hb : 0 < b := by
      rcases lt_or_ge_ 0 b with g | g
      · exact g
      · have := Int.mul_nonneg_of_nonpos_of_nonpos (Int.le_of_lt h) g; omega
    have hd : d < 0 := by
      rcases lt_or_ge_ d 0 with g | g
      · exact g
      · have := Int.mul_nonpos_of_nonpos_of_nonneg (Int.le_of_lt h) g; omega
    exact Int.mul_neg_of_pos_of_neg hb hd
  · subst h; simp at h1
  · have hb : b < 0 := by
      rcases lt_or_ge_ b 0 with g | g
      · exact g
      · have := Int.mul_nonneg (Int.le_of_lt h) g; omega
    have hd : 0 < d := by
      rcases lt_or_ge_ 0 d with g | g
      · exact g
      · have := Int.mul_nonpos_of_nonneg_of_nonpos (Int.le_of_lt h) g; omega
    exact Int.mul_neg_of_neg_of_pos hb hd
theorem lin_le {A B X Y : Int} (hB : 0 ≤ B) (h : X ≤ Y) : A + B * X ≤ A + B * Y := by
  have := Int.mul_le_mul_of_nonneg_left h hB; omega
variable {x y}
theorem poly_of (hn : 3 ≤ n) (inj : ∀ i j, i < n → j < n → U x y i = U x y j → i = j) (far : ∀ e f, e < n → f < n → e ≠ f → Far n x y e f) :
    ∃ (D : Int) (al be : Nat → Int), Poly n (U x y) (fun i => 2 * D * x i) al be ∧ (∀ e, e < n → al e + be e * (2 * U x y e) = 2 * D * x e) ∧ ∀ e, e < n → al e + be e * (2 * U x y (nx n e)) = 2 * D * x (nx n e) := by
  have hq : ∀ e, e < n → U x y (nx n e) - U x y e ≠ 0 := fun e he h => nx_ne hn he (inj _ _ (nx_lt he) he (by omega))
  obtain ⟨D, hD, M, hM⟩ := common (fun e => U x y (nx n e) - U x y e) n hq
  obtain ⟨be, hbe⟩ : ∃ be : Nat → Int, ∀ e, be e = (x (nx n e) - x e) * M e := ⟨_, fun _ => rfl⟩
  obtain ⟨al, hal⟩ : ∃ al : Nat → Int, ∀ e, al e = 2 * D * x e - be e * (2 * U x y e) := ⟨_, fun _ => rfl⟩
  have id : ∀ e, e < n → ∀ p, al e + be e * (2 * U x y p) - 2 * D * x p = 2000 * (M e * co n x y e p) := fun e he p => by
    have h := hM e he
    rw [hal, hbe, ← h]
    unfold co U
    grind
  have at1 : ∀ e, e < n → al e + be e * (2 * U x y e) = 2 * D * x e := fun e he => by rw [hal]; omega
  have at2 : ∀ e, e < n → al e + be e * (2 * U x y (nx n e)) = 2 * D * x (nx n e) := fun e he => by
    have h := id e he (nx n e)
    have : co n x y e (nx n e) = 0 := by unfold co; grind
    rw [this] at h
    simp at h
    omega
  have hM0 : ∀ e, e < n → M e ≠ 0 := fun e he h => by have := hM e he; rw [h] at this; simp at this; omega
  -- heights that change sides are a crossing
  have star : ∀ e f L R, e < n → f < n → e ≠ f → L < R → (U x y e ≤ L ∧ R ≤ U x y (nx n e) ∨ U x y (nx n e) ≤ L ∧ R ≤ U x y e) → (U x y f ≤ L ∧ R ≤ U x y (nx n f) ∨ U x y (nx n f) ≤ L ∧ R ≤ U x y f) →
      al e + be e * (2 * L) < al f + be f * (2 * L) → al f + be f * (2 * R) < al e + be e * (2 * R) → False := by
    intro e f L R he hf hef hLR ce cf h1 h2
    have hB : 0 ≤ be e - be f := by
      rcases lt_or_ge_ (be e - be f) 0 with g | g
      · have := lin_le (A := 0) (B := -(be e - be f)) (X := 2 * L) (Y := 2 * R) (by omega) (by omega)
        have e1 : -(be e - be f) * (2 * L) = -(be e * (2 * L)) + be f * (2 * L) := by grind
        have e2 : -(be e - be f) * (2 * R) = -(be e * (2 * R)) + be f * (2 * R) := by grind
        omega
      · exact g
    have down : ∀ X, X ≤ L → al e + be e * (2 * X) < al f + be f * (2 * X) := fun X hX => by
      have := lin_le (A := 0) (B := be e - be f) (X := 2 * X) (Y := 2 * L) hB (by omega)
      have e1 : (be e - be f) * (2 * X) = be e * (2 * X) - be f * (2 * X) := by grind
      have e2 : (be e - be f) * (2 * L) = be e * (2 * L) - be f * (2 * L) := by grind
      omega
    have up : ∀ X, R ≤ X → al f + be f * (2 * X) < al e + be e * (2 * X) := fun X hX => by
      have := lin_le (A := 0) (B := be e - be f) (X := 2 * R) (Y := 2 * X) hB (by omega)
      have e1 : (be e - be f) * (2 * X) = be e * (2 * X) - be f * (2 * X) := by grind
      have e2 : (be e - be f) * (2 * R) = be e * (2 * R) - be f * (2 * R) := by grind
      omega
    have i1 := id e he f
    have i2 := id e he (nx n f)
    have j1 := id f hf e
    have j2 := id f hf (nx n e)
    have a1 := at1 e he
    have a2 := at2 e he
    have b1 := at1 f hf
    have b2 := at2 f hf
    refine (far e f he hf hef).k2 ⟨?_, ?_⟩
    · rcases cf with ⟨c1, c2⟩ | ⟨c1, c2⟩
      · have d1 := down _ c1
        have d2 := up _ c2
        exact mul_neg_of (a := M e) (by omega) (by omega)
      · have d1 := down _ c1
        have d2 := up _ c2
        have := mul_neg_of (a := M e) (b := co n x y e (nx n f)) (d := co n x y e f) (by omega) (by omega)
        rw [Int.mul_comm]; exact this
    · rcases ce with ⟨c1, c2⟩ | ⟨c1, c2⟩
      · have d1 := down _ c1
        have d2 := up _ c2
        have := mul_neg_of (a := M f) (b := co n x y f (nx n e)) (d := co n x y f e) (by omega) (by omega)
        rw [Int.mul_comm]; exact this
      · have d1 := down _ c1
        have d2 := up _ c2
        exact mul_neg_of (a := M f) (by omega) (by omega)
  have N1 : ∀ e f t, e < n → f < n → e ≠ f → (U x y e ≤ t ∧ t < U x y (nx n e) ∨ U x y (nx n e) ≤ t ∧ t < U x y e) → (U x y f ≤ t ∧ t < U x y (nx n f) ∨ U x y (nx n f) ≤ t ∧ t < U x y f) → al e + be e * (2 * t + 1) ≠ al f + be f * (2 * t + 1) := by
    intro e f t he hf hef ce cf h
    have m1 : be e * (2 * t + 1) = be e * (2 * t) + be e := by grind
    have m2 : be f * (2 * t + 1) = be f * (2 * t) + be f := by grind
    have m3 : be e * (2 * (t + 1)) = be e * (2 * t) + 2 * be e := by grind
    have m4 : be f * (2 * (t + 1)) = be f * (2 * t) + 2 * be f := by grind
    rcases Int.lt_trichotomy (be e) (be f) with g | g | g
    · have s1 : al f + be f * (2 * t) < al e + be e * (2 * t) := by omega
      have s2 : al e + be e * (2 * (t + 1)) < al f + be f * (2 * (t + 1)) := by rw [m3, m4]; omega
      exact star f e t (t + 1) hf he (fun h => hef h.symm) (by omega) (by omega) (by omega) s1 s2
    · have ea : al e = al f := by rw [g] at h; omega
      have i1 := id e he f
      have i2 := id e he (nx n f)
      have b1 := at1 f hf
      have b2 := at2 f hf
      rw [ea, g] at i1 i2
      have z1 : M e * co n x y e f = 0 := by omega
      have z2 : M e * co n x y e (nx n f) = 0 := by omega
      refine (far e f he hf hef).k1 t (Eb_iff.2 ce) (Eb_iff.2 cf) ⟨?_, ?_⟩
      · rcases Int.mul_eq_zero.1 z1 with q | q
        · exact absurd q (hM0 e he)
        · exact q
      · rcases Int.mul_eq_zero.1 z2 with q | q
        · exact absurd q (hM0 e he)
        · exact q
    · exact star e f t (t + 1) he hf hef (by omega) (by omega) (by omega) (by omega) (by omega)
  refine ⟨D, al, be, ⟨hn, inj, N1, ?_, ?_⟩, at1, at2⟩
  · intro e f t he hf hef ce cf
    have n1 := N1 e f t he hf hef (by omega) (by omega)
    have n2 := N1 e f (t + 1) he hf hef (by omega) (by omega)
    have m1 : be e * (2 * t + 1) = be e * (2 * t) + be e := by grind
    have m2 : be f * (2 * t + 1) = be f * (2 * t) + be f := by grind
    have m3 : be e * (2 * t + 3) = be e * (2 * t) + 3 * be e := by grind
    have m4 : be f * (2 * t + 3) = be f * (2 * t) + 3 * be f := by grind
    have m5 : be e * (2 * (t + 2)) = be e * (2 * t) + 4 * be e := by grind
    have m6 : be f * (2 * (t + 2)) = be f * (2 * t) + 4 * be f := by grind
    have m7 : be e * (2 * (t + 1) + 1) = be e * (2 * t) + 3 * be e := by grind
    have m8 : be f * (2 * (t + 1) + 1) = be f * (2 * t) + 3 * be f := by grind
    constructor
    · intro h
      rcases lt_or_ge_ (al f + be f * (2 * t + 3)) (al e + be e * (2 * t + 3)) with g | g
      · exact g
      · exact (star f e t (t + 2) hf he (fun h => hef h.symm) (by omega) (by omega) (by omega) (by omega) (by omega)).elim
    · intro h
      rcases lt_or_ge_ (al f + be f * (2 * t + 1)) (al e + be e * (2 * t + 1)) with g | g
      · exact g
      · exact (star e f t (t + 2) he hf hef (by omega) (by omega) (by omega) (by omega) (by omega)).elim
  · intro e f w t he hf hw hef hu hfw ce
    have hz : al f + be f * (2 * t + 2) = 2 * D * x w := by
      have : 2 * t + 2 = 2 * U x y w := by omega
      rw [this]
      rcases hfw with rfl | rfl
      · exact at1 f hf
      · exact at2 f hf
    have hc := (far e f he hf hef).k3 w (hfw.elim (fun h => .inl h.symm) .inr) (by omega)
    have hi := id e he w
    have hne : al e + be e * (2 * t + 2) ≠ 2 * D * x w := by
      intro h
      have e2 : 2 * U x y w = 2 * t + 2 := by omega
      rw [e2] at hi
      have z1 : M e * co n x y e w = 0 := by omega
      rcases Int.mul_eq_zero.1 z1 with q | q
      · exact hM0 e he q
      · exact hc q
    have m1 : be e * (2 * t + 1) = be e * (2 * t) + be e := by grind
    have m2 : be f * (2 * t + 1) = be f * (2 * t) + be f := by grind
    have m3 : be e * (2 * t + 2) = be e * (2 * t) + 2 * be e := by grind
    have m4 : be f * (2 * t + 2) = be f * (2 * t) + 2 * be f := by grind
    have m5 : be e * (2 * (t + 1)) = be e * (2 * t) + 2 * be e := by grind
    have m6 : be f * (2 * (t + 1)) = be f * (2 * t) + 2 * be f := by grind
    have m7 : be e * (2 * t + 3) = be e * (2 * t) + 3 * be e := by grind
    have m8 : be f * (2 * t + 3) = be f * (2 * t) + 3 * be f := by grind
    have m9 : be e * (2 * (t + 2)) = be e * (2 * t) + 4 * be e := by grind
    have m10 : be f * (2 * (t + 2)) = be f * (2 * t) + 4 * be f := by grind
    have m11 : be e * (2 * (t + 1) + 1) = be e * (2 * t) + 3 * be e := by grind
    have m12 : be f * (2 * (t + 1) + 1) = be f * (2 * t) + 3 * be f := by grind
    refine ⟨fun cf => ?_, fun cf => ?_⟩
    · have n1 := N1 e f t he hf hef (by omega) cf
      constructor
      · intro h
        rcases lt_or_ge_ (2 * D * x w) (al e + be e * (2 * t + 2)) with g | g
        · exact g
        · exact (star f e t (t + 1) hf he (fun h => hef h.symm) (by omega) (by omega) (by omega) (by omega) (by omega)).elim
      · intro h
        rcases lt_or_ge_ (al f + be f * (2 * t + 1)) (al e + be e * (2 * t + 1)) with g | g
        · exact g
        · exact (star e f t (t + 1) he hf hef (by omega) (by omega) (by omega) (by omega) (by omega)).elim
    · have n1 := N1 e f (t + 1) he hf hef (by omega) (by omega)
      constructor
      · intro h
        rcases lt_or_ge_ (2 * D * x w) (al e + be e * (2 * t + 2)) with g | g
        · exact g
        · exact (star e f (t + 1) (t + 2) he hf hef (by omega) (by omega) (by omega) (by omega) (by omega)).elim
      · intro h
        rcases lt_or_ge_ (al f + be f * (2 * t + 3)) (al e + be e * (2 * t + 3)) with g | g
        · exact g
        · exact (star f e (t + 1) (t + 2) hf he (fun h => hef h.symm) (by omega) (by omega) (by omega) (by omega) (by omega)).elim
/-- A ring's area is not 0. -/
theorem ring_area (hn : 3 ≤ n) (inj : ∀ i j, i < n → j < n → U x y i = U x y j → i = j) (far : ∀ e f, e < n → f < n → e ≠ f → Far n x y e f) : sm (fun e => x e * y (nx n e) - y e * x (nx n e)) n ≠ 0 := by
  obtain ⟨D, al, be, H, h1, h2⟩ := poly_of hn inj far
  have := shoe H D x h1 h2
  intro hz
  refine this ?_
  have e := shoe_xy (n := n) (by omega) x y
  rw [hz] at e
  exact e
end
open Go.Proofs.YtkebhlkbnnlegaaMeet
theorem mn_min (a b : Int) : mn a b = min a b := by unfold mn; split <;> omega
theorem mx_max (a b : Int) : mx a b = max a b := by unfold mx; split <;> omega
def inK (ax ay bx b_y px py : Int) : Prop := min (kyI ax ay) (kyI bx b_y) ≤ kyI px py ∧ kyI px py ≤ max (kyI ax ay) (kyI bx b_y)
theorem mul_sd {a b : Int} : sdI a * sdI b < 0 ↔ a * b < 0 := by
  rcases sdI_cases a with ⟨h, h1⟩ | ⟨h, h1⟩ | ⟨h, h1⟩ <;> rcases sdI_cases b with ⟨g, g1⟩ | ⟨g, g1⟩ | ⟨g, g1⟩ <;> rw [h, g]
  · have := Int.mul_pos_of_neg_of_neg h1 g1; omega
  · subst g1; simp
  · have := Int.mul_neg_of_neg_of_pos h1 g1; omega
  · subst h1; simp
  · subst h1; simp
  · subst h1; simp
  · have := Int.mul_neg_of_pos_of_neg h1 g1; omega
  · subst g1; simp
  · have := Int.mul_pos h1 g1; omega
/-- Two segments that meet nowhere (w = 0) or touch (w = 1). -/
structure Apart (w : Int) (ax ay bx b_y cx cy dx dy : Int) : Prop where
  c1 : cr ax ay bx b_y cx cy = 0 → cr ax ay bx b_y dx dy = 0 → ∀ a b, a < b → min (kyI ax ay) (kyI bx b_y) ≤ a → b ≤ max (kyI ax ay) (kyI bx b_y) → min (kyI cx cy) (kyI dx dy) ≤ a → b ≤ max (kyI cx cy) (kyI dx dy) → False
  cX : ¬ (cr ax ay bx b_y cx cy * cr ax ay bx b_y dx dy < 0 ∧ cr cx cy dx dy ax ay * cr cx cy dx dy bx b_y < 0)
  z1 : w = 0 → cr ax ay bx b_y cx cy = 0 → inK ax ay bx b_y cx cy → False
  z2 : w = 0 → cr ax ay bx b_y dx dy = 0 → inK ax ay bx b_y dx dy → False
  z3 : w = 0 → cr cx cy dx dy ax ay = 0 → inK cx cy dx dy ax ay → False
  z4 : w = 0 → cr cx cy dx dy bx b_y = 0 → inK cx cy dx dy bx b_y → False
theorem Apart.symm {w ax ay bx b_y cx cy dx dy : Int} (ht : isSeg cx cy dx dy = true) (h : Apart w ax ay bx b_y cx cy dx dy) : Apart w cx cy dx dy ax ay bx b_y :=
  ⟨fun h1 h2 a b hab l1 l2 l3 l4 => by
    obtain ⟨g1, g2⟩ := col1 (isSeg_iff.1 ht).2.2 h1 h2
    exact h.c1 g1 g2 a b hab l3 l4 l1 l2, fun hx => h.cX ⟨hx.2, hx.1⟩, h.z3, h.z4, h.z1, h.z2⟩
theorem on_of {ax ay bx b_y px py : Int} (hs : isSeg ax ay bx b_y = true) (hp : isPt px py = true) (h : cr ax ay bx b_y px py = 0) (hk : inK ax ay bx b_y px py) : isOnI ax ay bx b_y px py = true := by
  rw [on_col hs hp h, mn_min, mx_max]
  unfold inK at hk
  simp only [Bool.and_eq_true, decide_eq_true_eq]
  exact hk
theorem apart_of {w ax ay bx b_y cx cy dx dy : Int} (hs : isSeg ax ay bx b_y = true) (ht : isSeg cx cy dx dy = true) (h : howS ax ay bx b_y cx cy dx dy = w) (hw : w = 0 ∨ w = 1) : Apart w ax ay bx b_y cx cy dx dy := by
  rw [← how_eq] at h
  obtain ⟨pa, pb, pab⟩ := isSeg_iff.1 hs
  obtain ⟨pc, pd, pcd⟩ := isSeg_iff.1 ht
  unfold howP at h
  rw [if_neg (by rw [hs, ht]; simp), side_eq pa pb pc, side_eq pa pb pd, side_eq pc pd pa, side_eq pc pd pb] at h
  simp only [sdI_zero, mul_sd] at h
  by_cases hc : cr ax ay bx b_y cx cy = 0 ∧ cr ax ay bx b_y dx dy = 0
  · rw [if_pos hc] at h
    simp only [mn_min, mx_max] at h
    refine ⟨fun _ _ a b hab l1 l2 l3 l4 => ?_, fun hx => ?_, fun hz _ hk => ?_, fun hz _ hk => ?_, fun hz _ hk => ?_, fun hz _ hk => ?_⟩
    · split at h
      · omega
      · split at h
        · omega
        · omega
    · rw [hc.1] at hx; simp at hx
    all_goals
      subst hz
      unfold inK at hk
      split at h
      · omega
      · split at h
        · omega
        · omega
  · rw [if_neg hc] at h
    by_cases hx : cr ax ay bx b_y cx cy * cr ax ay bx b_y dx dy < 0 ∧ cr cx cy dx dy ax ay * cr cx cy dx dy bx b_y < 0
    · rw [if_pos hx] at h; omega
    rw [if_neg hx] at h
    refine ⟨fun h1 h2 => absurd ⟨h1, h2⟩ hc, hx, fun hz h0 hk => ?_, fun hz h0 hk => ?_, fun hz h0 hk => ?_, fun hz h0 hk => ?_⟩
    · rw [on_of hs pc h0 hk] at h; simp at h; omega
    · rw [on_of hs pd h0 hk] at h; simp at h; omega
    · rw [on_of ht pa h0 hk] at h; simp at h; omega
    · rw [on_of ht pb h0 hk] at h; simp at h; omega
theorem ky_pt {ax ay bx b_y : Int} (h1 : isPt ax ay = true) (h2 : isPt bx b_y = true) (h : kyI ax ay = kyI bx b_y) : ax = bx ∧ ay = b_y := by
  rw [isPt_iff] at h1 h2
  unfold kyI at h
  omega
/-- A valid ring's area is not 0. -/
theorem valid_area {n : Nat} (x y : Nat → Int) (hn : 3 ≤ n) (hs : ∀ e, e < n → isSeg (x e) (y e) (x (nx n e)) (y (nx n e)) = true)
    (hh : ∀ i k, k < i → i < n → howS (x i) (y i) (x (nx n i)) (y (nx n i)) (x k) (y k) (x (nx n k)) (y (nx n k)) = if k + 1 = i ∨ (k = 0 ∧ i + 1 = n) then 1 else 0) :
    sm (fun e => x e * y (nx n e) - y e * x (nx n e)) n ≠ 0 := by
  have pt : ∀ e, e < n → isPt (x e) (y e) = true := fun e he => (isSeg_iff.1 (hs e he)).1
  have ap : ∀ e f, e < n → f < n → e ≠ f → ∃ w, (w = 0 ∨ w = 1 ∧ (nx n e = f ∨ nx n f = e)) ∧ Apart w (x e) (y e) (x (nx n e)) (y (nx n e)) (x f) (y f) (x (nx n f)) (y (nx n f)) := by
    have one : ∀ e f, f < e → e < n → ∃ w, (w = 0 ∨ w = 1 ∧ (nx n e = f ∨ nx n f = e)) ∧ Apart w (x e) (y e) (x (nx n e)) (y (nx n e)) (x f) (y f) (x (nx n f)) (y (nx n f)) := by
      intro e f hfe he
      have := hh e f hfe he
      split at this
      · rename_i q
        exact ⟨1, .inr ⟨rfl, by unfold nx; exact q.elim (fun q => .inr (by rw [if_neg (by omega)]; exact q)) (fun q => .inl (by rw [if_pos q.2]; exact q.1.symm))⟩, apart_of (hs e he) (hs f (by omega)) this (.inr rfl)⟩
      · exact ⟨0, .inl rfl, apart_of (hs e he) (hs f (by omega)) this (.inl rfl)⟩
    intro e f he hf hef
    by_cases h : f < e
    · exact one e f h he
    · obtain ⟨w, hw, ha⟩ := one f e (by omega) hf
      exact ⟨w, hw.imp id (fun q => ⟨q.1, q.2.symm⟩), ha.symm (hs e he)⟩
  have U_ky : ∀ i, U x y i = kyI (x i) (y i) := fun i => rfl
  have inj : ∀ i j, i < n → j < n → U x y i = U x y j → i = j := by
    intro i j hi hj h
    by_cases hij : i = j
    · exact hij
    rw [U_ky, U_ky] at h
    obtain ⟨ex, ey⟩ := ky_pt (pt i hi) (pt j hj) h
    obtain ⟨w, hw, ha⟩ := ap i j hi hj hij
    rcases hw with hw | ⟨_, hw | hw⟩
    · refine (ha.z1 hw ?_ ?_).elim
      · rw [← ex, ← ey]; exact cr_self1 ..
      · unfold inK; rw [← ex, ← ey]; omega
    · have := (isSeg_iff.1 (hs i hi)).2.2
      rw [hw] at this
      exact absurd ⟨ex, ey⟩ this
    · have := (isSeg_iff.1 (hs j hj)).2.2
      rw [hw] at this
      exact absurd ⟨ex.symm, ey.symm⟩ this
  refine ring_area hn inj fun e f he hf hef => ?_
  obtain ⟨w, hw, ha⟩ := ap e f he hf hef
  have ee := nx_lt he
  have ff := nx_lt hf
  have cc : ∀ p, co n x y e p = cr (x e) (y e) (x (nx n e)) (y (nx n e)) (x p) (y p) := fun p => rfl
  have c' : ∀ p, co n x y f p = cr (x f) (y f) (x (nx n f)) (y (nx n f)) (x p) (y p) := fun p => rfl
  refine ⟨fun t h1 h2 => ?_, ?_, fun p hp hb hz => ?_⟩
  · rw [Eb_iff] at h1 h2
    simp only [U_ky] at h1 h2
    exact fun hz => ha.c1 hz.1 hz.2 t (t + 1) (by omega) (by omega) (by omega) (by omega) (by omega)
  · exact ha.cX
  · simp only [U_ky] at hb
    rcases hw with hw | ⟨_, hw⟩
    · rcases hp with rfl | rfl
      · exact ha.z1 hw hz (by unfold inK; omega)
      · exact ha.z2 hw hz (by unfold inK; omega)
    · -- v: the common end
      have key : ∀ v, (v = f ∨ nx n f = v) → v ≠ p → cr (x e) (y e) (x (nx n e)) (y (nx n e)) (x v) (y v) = 0 → (kyI (x v) (y v) = kyI (x e) (y e) ∨ kyI (x v) (y v) = kyI (x (nx n e)) (y (nx n e))) → False := by
        intro v hv hvp h0 hk
        have hvn : v < n := hv.elim (fun h => h ▸ hf) (fun h => h ▸ ff)
        have hpn : p < n := hp.elim (fun h => h ▸ hf) (fun h => h ▸ ff)
        have hne : kyI (x v) (y v) ≠ kyI (x p) (y p) := fun h => hvp (inj v p hvn hpn (by rw [U_ky, U_ky]; exact h))
        rw [cc] at hz
        by_cases hlt : kyI (x v) (y v) < kyI (x p) (y p)
        · rcases hv with rfl | rfl <;> rcases hp with rfl | rfl
          · exact hvp rfl
          · exact ha.c1 h0 hz _ _ hlt (by omega) (by omega) (by omega) (by omega)
          · exact ha.c1 hz h0 _ _ hlt (by omega) (by omega) (by omega) (by omega)
          · exact hvp rfl
        · have hlt : kyI (x p) (y p) < kyI (x v) (y v) := by omega
          rcases hv with rfl | rfl <;> rcases hp with rfl | rfl
          · exact hvp rfl
          · exact ha.c1 h0 hz _ _ hlt (by omega) (by omega) (by omega) (by omega)
          · exact ha.c1 hz h0 _ _ hlt (by omega) (by omega) (by omega) (by omega)
          · exact hvp rfl
      rcases hw with hw | hw
      · -- nx e = f
        refine key f (.inl rfl) (fun h => ?_) ?_ ?_
        · subst h; rw [hw] at hb; omega
        · rw [hw]; exact cr_self2 ..
        · rw [hw]; exact .inr rfl
      · refine key e (.inr hw) (fun h => ?_) (cr_self1 ..) (.inl rfl)
        subst h; omega
end Go.Proofs.YtkebhlkbnnlegaaArea
