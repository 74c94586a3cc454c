/- Taking a letter: the program writes bytes, the reference cuts and joins strings; the answers are the same. No condition. -/
import Derived.Test.YthodhcalknelcaaPFnExactTakeLabelx
namespace Go.Proofs.Ythodhcalknelcaa.Pure.FnExactTakeLabel
open Go Go.RowKit Go.Proofs.Ythodhcalknelcaa.PFnExactTakeLabel Go.Proofs.YthodhcalknelcaaW.PrintWords Go.Proofs.YthodhcalknelcaaW.PrintLast Go.Proofs.YthodhcalknelcaaW.PrintMore Go.Proofs.YthodhcalknelcaaGeo
set_option linter.unusedVariables false
set_option linter.unusedSimpArgs false
theorem w1 (i : Nat) (h : i < 9223372036854775807) : wrap64 ((i : Int) + 1) = ((i + 1 : Nat) : Int) := by unfold wrap64; omega
theorem rd_at (l : List Int) (i : Nat) (h : i < l.length) : rd l (i : Int) = l[i] := by
  unfold rd
  rw [Int.toNat_natCast, List.getD_eq_getElem?_getD, List.getElem?_eq_getElem h]
  rfl
def Asc (l : List Int) : Prop := l.Pairwise (· < ·)
theorem asc_eq : ∀ {a b : List Int}, Asc a → Asc b → (∀ x, x ∈ a ↔ x ∈ b) → a = b
  | [], [], _, _, _ => rfl
  | [], y :: b, _, _, h => absurd ((h y).2 (List.mem_cons_self ..)) (by simp)
  | x :: a, [], _, _, h => absurd ((h x).1 (List.mem_cons_self ..)) (by simp)
  | x :: a, y :: b, ha, hb, h => by
    have ha' := List.pairwise_cons.1 ha
    have hb' := List.pairwise_cons.1 hb
    have e : x = y := by
      rcases List.mem_cons.1 ((h x).1 (List.mem_cons_self ..)) with e | h1
      · exact e
      · rcases List.mem_cons.1 ((h y).2 (List.mem_cons_self ..)) with e | h2
        · exact e.symm
        · have := ha'.1 y h2
          have := hb'.1 x h1
          omega
    subst e
    rw [asc_eq ha'.2 hb'.2 (fun z => ⟨fun hz => ?_, fun hz => ?_⟩)]
    · rcases List.mem_cons.1 ((h z).1 (List.mem_cons_of_mem _ hz)) with e | h1
      · subst e; have := ha'.1 z hz; omega
      · exact h1
    · rcases List.mem_cons.1 ((h z).2 (List.mem_cons_of_mem _ hz)) with e | h1
      · subst e; have := hb'.1 z hz; omega
      · exact h1
/-- What a valid cover is, in numbers. -/
def Cov (W H : Int) (s : ByteArray) : Prop := 1 ≤ W ∧ W ≤ 6 ∧ 1 ≤ H ∧ H ≤ 6 ∧ (s.size : Int) = W * H ∧ ∀ i : Nat, i < s.size → 97 ≤ bt s (i : Int) ∧ bt s (i : Int) ≤ 122
theorem cov_size {W H : Int} {s : ByteArray} (h : Cov W H s) : s.size ≤ 36 := by
  obtain ⟨h1, h2, h3, h4, h5, _⟩ := h
  have a : W = 1 ∨ W = 2 ∨ W = 3 ∨ W = 4 ∨ W = 5 ∨ W = 6 := by omega
  rcases a with rfl | rfl | rfl | rfl | rfl | rfl <;> omega
theorem cover_l (W H : Int) (s : ByteArray) (hs : s.size ≤ 9223372036854775806) (d : Nat) : ∀ i : Nat, i + d = s.size → ∃ r : Bool, Ev (fun k => spec_IsCover.l0 k (i : Int) W H s) r ∧ Ev (fun k => impl_IsCover.l0 k (s.size : Int) (i : Int) W H s) r ∧
    (r = true → ∀ j : Nat, i ≤ j → j < s.size → 97 ≤ bt s (j : Int) ∧ bt s (j : Int) ≤ 122) := by
  induction d with
  | zero =>
    intro i hi
    refine ⟨true, Ev.step (f := fun _ => some true) (fun k => ?_) (Ev.now _), Ev.step (f := fun _ => some true) (fun k => ?_) (Ev.now _), fun _ j h1 h2 => by omega⟩
    · simp only [spec_IsCover.l0]; rw [if_neg (by omega)]
    · simp only [impl_IsCover.l0]; rw [if_neg (by omega)]
  | succ d ih =>
    intro i hi
    have hlt : (i : Int) < (s.size : Int) := by omega
    by_cases hc : bt s (i : Int) < 97
    · refine ⟨false, Ev.step (f := fun _ => some false) (fun k => ?_) (Ev.now _), Ev.step (f := fun _ => some false) (fun k => ?_) (Ev.now _), fun h => by cases h⟩
      · simp only [spec_IsCover.l0]; rw [if_pos hlt, if_pos (by omega), if_pos hc]
      · simp only [impl_IsCover.l0]; rw [if_pos hlt, if_pos (by omega), if_pos hlt, if_pos hc]
    · by_cases hc' : bt s (i : Int) > 122
      · refine ⟨false, Ev.step (f := fun _ => some false) (fun k => ?_) (Ev.now _), Ev.step (f := fun _ => some false) (fun k => ?_) (Ev.now _), fun h => by cases h⟩
        · simp only [spec_IsCover.l0]; rw [if_pos hlt, if_pos (by omega), if_neg hc, if_pos hc']
        · simp only [impl_IsCover.l0]; rw [if_pos hlt, if_pos (by omega), if_pos hlt, if_neg hc, if_pos hc']
      · obtain ⟨r, h1, h2, h3⟩ := ih (i + 1) (by omega)
        refine ⟨r, Ev.step (fun k => ?_) h1, Ev.step (fun k => ?_) h2, fun hr j hj1 hj2 => ?_⟩
        · simp only [spec_IsCover.l0]; rw [if_pos hlt, if_pos (by omega), if_neg hc, if_neg hc', w1 i (by omega)]
        · simp only [impl_IsCover.l0]; rw [if_pos hlt, if_pos (by omega), if_pos hlt, if_neg hc, if_neg hc', w1 i (by omega)]
        · by_cases e : j = i
          · subst e; omega
          · exact h3 hr j (by omega) hj2
theorem wrap_small {a : Int} (h : -9223372036854775808 ≤ a) (h' : a ≤ 9223372036854775807) : wrap64 a = a := by unfold wrap64; omega
theorem mul_small {a b : Int} (h1 : 1 ≤ a) (h2 : a ≤ 6) (h3 : 1 ≤ b) (h4 : b ≤ 6) : 1 ≤ a * b ∧ a * b ≤ 36 ∧ b ≤ a * b := by
  have e : a = 1 ∨ a = 2 ∨ a = 3 ∨ a = 4 ∨ a = 5 ∨ a = 6 := by omega
  rcases e with rfl | rfl | rfl | rfl | rfl | rfl <;> omega
theorem cover_same (W H : Int) (s : ByteArray) (hs : s.size ≤ 9223372036854775806) : ∃ r : Bool, Ev (fun k => spec_IsCover.f k W H s) r ∧ Ev (fun k => impl_IsCover.f k W H s) r ∧ (r = true → Cov W H s) := by
  unfold spec_IsCover.f impl_IsCover.f spec_l1In.f impl_InRange.f
  have no : ∃ r : Bool, Ev (fun k => spec_IsCover.j0 k true W H s) r ∧ Ev (fun k => impl_IsCover.j0 k true W H s) r ∧ (r = true → Cov W H s) :=
    ⟨false, Ev.step (f := fun _ => some false) (fun k => by simp [spec_IsCover.j0]) (Ev.now _), Ev.step (f := fun _ => some false) (fun k => by simp [impl_IsCover.j0]) (Ev.now _), fun h => by cases h⟩
  by_cases h1 : inR W 1 6 = true
  · by_cases h2 : inR H 1 6 = true
    · simp only [Option.bind_some, h1, h2, if_true]
      have w1' : 1 ≤ W ∧ W ≤ 6 := by simpa [inR] using h1
      have w2' : 1 ≤ H ∧ H ≤ 6 := by simpa [inR] using h2
      have hm := mul_small w1'.1 w1'.2 w2'.1 w2'.2
      rw [wrap_small (a := W * H) (by omega) (by omega)]
      by_cases h3 : (s.size : Int) = W * H
      · obtain ⟨r, e1, e2, e3⟩ := cover_l W H s hs s.size 0 (by omega)
        have hb : ((s.size : Int) != W * H) = false := by simpa using h3
        rw [hb]
        refine ⟨r, Ev.step (fun k => ?_) e1, Ev.step (fun k => ?_) e2, fun hr => ⟨w1'.1, w1'.2, w2'.1, w2'.2, h3, fun i hi => e3 hr i (by omega) hi⟩⟩
        · simp [spec_IsCover.j0]
        · simp [impl_IsCover.j0]
      · have hb : ((s.size : Int) != W * H) = true := by simpa using h3
        rw [hb]
        exact no
    · simp only [Option.bind_some, h1, h2, if_true, if_false, Bool.false_eq_true]
      exact no
  · simp only [Option.bind_some, h1, if_false, Bool.false_eq_true]
    exact no
theorem rd_set (l : List Int) (y j : Nat) (v : Int) (hy : y < l.length) : rd (l.set y v) (j : Int) = if y = j then v else rd l (j : Int) := by
  unfold rd
  rw [Int.toNat_natCast, List.getD_eq_getElem?_getD, List.getD_eq_getElem?_getD, List.getElem?_set]
  split
  · rename_i h
    subst h
    simp [hy]
  · rfl
theorem rd_ext {a b : List Int} (hl : a.length = b.length) (h : ∀ j : Nat, j < a.length → rd a (j : Int) = rd b (j : Int)) : a = b := by
  apply List.ext_getElem hl
  intro j h1 h2
  have := h j h1
  rwa [rd_at a j h1, rd_at b j h2] at this
/-- Two cells beside, above or below one another. -/
def Adj (W : Int) (i k : Nat) : Prop := (k : Int) = i + W ∨ (i : Int) = k + W ∨ ((k : Int) = i + 1 ∧ Int.tmod (k : Int) W ≠ 0) ∨ ((i : Int) = k + 1 ∧ Int.tmod (i : Int) W ≠ 0)
theorem Adj.symm {W : Int} {i k : Nat} (h : Adj W i k) : Adj W k i := by
  rcases h with h | h | h | h
  · exact .inr (.inl h)
  · exact .inl h
  · exact .inr (.inr (.inr h))
  · exact .inr (.inr (.inl h))
theorem next_spec (W H : Int) (s : ByteArray) (hW : 1 ≤ W) (hW6 : W ≤ 6) (i k : Nat) (hi : i < 1000) (hk : k < 1000) : ∃ b : Bool, spec_l15Next.f W H s (i : Int) (k : Int) = some b ∧ (b = true ↔ Adj W i k) := by
  unfold spec_l15Next.f Adj
  rw [wrap_small (a := (k : Int) + W) (by omega) (by omega), wrap_small (a := (k : Int) + 1) (by omega) (by omega), wrap_small (a := (i : Int) + W) (by omega) (by omega), wrap_small (a := (i : Int) + 1) (by omega) (by omega)]
  by_cases h : (i : Int) > (k : Int)
  · rw [if_pos h]
    by_cases h1 : (i : Int) = k + W
    · rw [if_pos h1]; exact ⟨true, rfl, by simp [h1]⟩
    · rw [if_neg h1]
      by_cases h2 : (i : Int) = k + 1
      · rw [if_pos h2, if_neg (by omega)]
        refine ⟨_, rfl, ?_⟩
        simp only [bne_iff_ne, ne_eq]
        constructor
        · intro h3; exact .inr (.inr (.inr ⟨h2, h3⟩))
        · rintro (h3 | h3 | h3 | h3)
          · omega
          · omega
          · omega
          · exact h3.2
      · rw [if_neg h2]
        refine ⟨false, rfl, ?_⟩
        constructor
        · intro h3; cases h3
        · rintro (h3 | h3 | h3 | h3) <;> omega
  · rw [if_neg h]
    by_cases h1 : (k : Int) = i + W
    · rw [if_pos h1]; exact ⟨true, rfl, by simp [h1]⟩
    · rw [if_neg h1]
      by_cases h2 : (k : Int) = i + 1
      · rw [if_pos h2, if_neg (by omega)]
        refine ⟨_, rfl, ?_⟩
        simp only [bne_iff_ne, ne_eq]
        constructor
        · intro h3; exact .inr (.inr (.inl ⟨h2, h3⟩))
        · rintro (h3 | h3 | h3 | h3)
          · omega
          · omega
          · exact h3.2
          · omega
      · rw [if_neg h2]
        refine ⟨false, rfl, ?_⟩
        constructor
        · intro h3; cases h3
        · rintro (h3 | h3 | h3 | h3) <;> omega
/-- One letter, side by side. -/
def Edge (W : Int) (s : ByteArray) (i k : Nat) : Prop := i < s.size ∧ k < s.size ∧ Adj W i k ∧ bt s (i : Int) = bt s (k : Int)
theorem Edge.symm {W : Int} {s : ByteArray} {i k : Nat} (h : Edge W s i k) : Edge W s k i := ⟨h.2.1, h.1, h.2.2.1.symm, h.2.2.2.symm⟩
inductive Conn (W : Int) (s : ByteArray) (a : Nat) : Nat → Prop
  | refl : Conn W s a a
  | step {j k : Nat} : Conn W s a j → Edge W s j k → Conn W s a k
theorem Conn.trans {W : Int} {s : ByteArray} {a b c : Nat} (h : Conn W s a b) (k : Conn W s b c) : Conn W s a c := by
  induction k with
  | refl => exact h
  | step _ e ih => exact ih.step e
theorem Conn.symm {W : Int} {s : ByteArray} {a b : Nat} (h : Conn W s a b) : Conn W s b a := by
  induction h with
  | refl => exact .refl
  | step _ e ih => exact (Conn.refl.step e.symm).trans ih
theorem Conn.letter {W : Int} {s : ByteArray} {a b : Nat} (h : Conn W s a b) : bt s (a : Int) = bt s (b : Int) := by
  induction h with
  | refl => rfl
  | step _ e ih => exact ih.trans e.2.2.2
theorem Conn.lt {W : Int} {s : ByteArray} {a b : Nat} (h : Conn W s a b) (ha : a < s.size) : b < s.size := by
  induction h with
  | refl => exact ha
  | step _ e _ => exact e.2.1
/-- m is the least cell of j's region. -/
def Root (W : Int) (s : ByteArray) (j m : Nat) : Prop := Conn W s m j ∧ ∀ l, Conn W s l j → m ≤ l
theorem Root.uniq {W : Int} {s : ByteArray} {j m m' : Nat} (h : Root W s j m) (h' : Root W s j m') : m = m' := Nat.le_antisymm (h.2 _ h'.1) (h'.2 _ h.1)
theorem Root.conn {W : Int} {s : ByteArray} {i j m : Nat} (h : Root W s i m) (c : Conn W s i j) : Root W s j m := ⟨h.1.trans c, fun l hl => h.2 l (hl.trans c.symm)⟩
theorem Root.self {W : Int} {s : ByteArray} {j m : Nat} (h : Root W s j m) : Root W s m m := h.conn h.1.symm
theorem Root.le {W : Int} {s : ByteArray} {j m : Nat} (h : Root W s j m) : m ≤ j := h.2 j .refl
theorem least (Q : Nat → Prop) : ∀ n, Q n → ∃ m, Q m ∧ ∀ l, Q l → m ≤ l := by
  intro n
  induction n using Nat.strongRecOn with
  | _ n ih =>
    intro hn
    by_cases h : ∃ l, Q l ∧ l < n
    · obtain ⟨l, hl, hlt⟩ := h
      exact ih l hlt hl
    · exact ⟨n, hn, fun l hl => Nat.le_of_not_lt fun hlt => h ⟨l, hl, hlt⟩⟩
theorem Root.exists (W : Int) (s : ByteArray) (j : Nat) : ∃ m, Root W s j m := least (fun l => Conn W s l j) j .refl
/-- The list of the regions' numbers. -/
def IsReg (W : Int) (s : ByteArray) (N : List Int) : Prop := N.length = s.size ∧ ∀ j : Nat, j < s.size → ∃ m : Nat, rd N (j : Int) = (m : Int) ∧ Root W s j m
theorem IsReg.uniq {W : Int} {s : ByteArray} {N N' : List Int} (h : IsReg W s N) (h' : IsReg W s N') : N = N' := by
  refine rd_ext (h.1.trans h'.1.symm) fun j hj => ?_
  rw [h.1] at hj
  obtain ⟨m, e, r⟩ := h.2 j hj
  obtain ⟨m', e', r'⟩ := h'.2 j hj
  rw [e, e', r.uniq r']
/-! the reference's numbers -/
section
variable (W H : Int) (s : ByteArray)
def Inv (x : List Int) : Prop := x.length = s.size ∧ ∀ j : Nat, j < s.size → ∃ m : Nat, rd x (j : Int) = (m : Int) ∧ m ≤ j ∧ Conn W s m j
def total (x : List Int) : Nat := (x.map Int.toNat).sum
theorem total_set : ∀ (x : List Int) (i : Nat) (v : Int), i < x.length → 0 ≤ v → v < rd x (i : Int) → total (x.set i v) < total x
  | [], i, v, h, _, _ => by simp at h
  | a :: t, 0, v, _, h0, h => by
    have : rd (a :: t) ((0 : Nat) : Int) = a := rfl
    rw [this] at h
    simp only [List.set_cons_zero, total, List.map_cons, List.sum_cons]
    omega
  | a :: t, i + 1, v, hl, h0, h => by
    have e : rd (a :: t) ((i + 1 : Nat) : Int) = rd t (i : Int) := by
      unfold rd
      rw [Int.toNat_natCast, Int.toNat_natCast]
      simp
    rw [e] at h
    have := total_set t i v (by simpa using hl) h0 h
    simp only [List.set_cons_succ, total, List.map_cons, List.sum_cons] at this ⊢
    omega
/-- Nothing more is to be handed on. -/
def Quiet (x : List Int) (i k : Nat) : Prop := ¬ (Adj W i k ∧ bt s (i : Int) = bt s (k : Int) ∧ rd x (k : Int) < rd x (i : Int))
theorem Inv.set {x : List Int} (h : Inv W s x) {i k : Nat} (hi : i < s.size) (hk : k < s.size) (ha : Adj W i k) (hb : bt s (i : Int) = bt s (k : Int)) (hlt : rd x (k : Int) < rd x (i : Int)) : Inv W s (x.set i (rd x (k : Int))) := by
  refine ⟨by simpa using h.1, fun j hj => ?_⟩
  rw [rd_set x i j _ (by rw [h.1]; exact hi)]
  split
  · rename_i e
    subst e
    obtain ⟨m, e1, h1, h2⟩ := h.2 k hk
    obtain ⟨m', e1', h1', h2'⟩ := h.2 i hi
    exact ⟨m, e1, by omega, h2.step ⟨hk, hi, ha.symm, hb.symm⟩⟩
  · exact h.2 j hj
theorem fix_reg {x : List Int} (h : Inv W s x) (hq : ∀ i k : Nat, i < s.size → k < s.size → Quiet W s x i k) : IsReg W s x := by
  refine ⟨h.1, fun j hj => ?_⟩
  have edge : ∀ i k : Nat, Edge W s i k → rd x (i : Int) = rd x (k : Int) := by
    intro i k e
    have h1 := hq i k e.1 e.2.1
    have h2 := hq k i e.2.1 e.1
    unfold Quiet at h1 h2
    have h1' : ¬ rd x (k : Int) < rd x (i : Int) := fun hc => h1 ⟨e.2.2.1, e.2.2.2, hc⟩
    have h2' : ¬ rd x (i : Int) < rd x (k : Int) := fun hc => h2 ⟨e.2.2.1.symm, e.2.2.2.symm, hc⟩
    omega
  have conn : ∀ a b : Nat, Conn W s a b → rd x (a : Int) = rd x (b : Int) := by
    intro a b c
    induction c with
    | refl => rfl
    | step _ e ih => exact ih.trans (edge _ _ e)
  obtain ⟨m, e1, h1, h2⟩ := h.2 j hj
  refine ⟨m, e1, h2, fun l hl => ?_⟩
  have hls : l < s.size := (hl.symm).lt hj
  obtain ⟨m', e1', h1', _⟩ := h.2 l hls
  have := conn l j hl
  omega
theorem num_l3 (hs : s.size ≤ 36) (hW : 1 ≤ W) (hW6 : W ≤ 6) (x0 : List Int) (N : List Int) (i : Nat) (hi : i < s.size)
    (next : ∀ (x : List Int) (again : Bool), Inv W s x → (again = true → total x < total x0) → (again = false → x = x0 ∧ ∀ i' k' : Nat, i' ≤ i → k' < s.size → Quiet W s x i' k') → Ev (fun k => spec_l15Numbers.l2 k x again ((i + 1 : Nat) : Int) W H s) N) (d : Nat) :
    ∀ (c : Nat) (x : List Int) (again : Bool), c + d = s.size → Inv W s x → total x ≤ total x0 → (again = true → total x < total x0) → (again = false → x = x0 ∧ (∀ i' k' : Nat, i' < i → k' < s.size → Quiet W s x i' k') ∧ ∀ k' : Nat, k' < c → Quiet W s x i k') →
      Ev (fun k => spec_l15Numbers.l3 k x again (i : Int) (c : Int) W H s) N := by
  induction d with
  | zero =>
    intro c x again hc hI ht h1 h2
    have := next x again hI h1 (fun ha => by
      obtain ⟨e, q1, q2⟩ := h2 ha
      refine ⟨e, fun i' k' hi' hk' => ?_⟩
      by_cases e' : i' = i
      · subst e'; exact q2 k' (by omega)
      · exact q1 i' k' (by omega) hk')
    refine Ev.step (fun k => ?_) this
    simp only [spec_l15Numbers.l3]
    rw [if_neg (by rw [hI.1]; omega), w1 i (by omega)]
  | succ d ih =>
    intro c x again hc hI ht h1 h2
    have hcs : c < s.size := by omega
    obtain ⟨b, eb, hb⟩ := next_spec W H s hW hW6 i c (by omega) (by omega)
    have skip : Quiet W s x i c → Ev (fun k => spec_l15Numbers.l3 k x again (i : Int) ((c + 1 : Nat) : Int) W H s) N := fun hq =>
      ih (c + 1) x again (by omega) hI ht h1 (fun ha => by
        obtain ⟨e, q1, q2⟩ := h2 ha
        refine ⟨e, q1, fun k' hk' => ?_⟩
        by_cases e' : k' = c
        · subst e'; exact hq
        · exact q2 k' (by omega))
    cases b with
    | false =>
      have hn : ¬ Adj W i c := fun h => by have := hb.2 h; cases this
      refine Ev.step (fun k => ?_) (skip (fun h => hn h.1))
      simp only [spec_l15Numbers.l3]
      rw [if_pos (by rw [hI.1]; omega), eb]
      simp only [Option.bind_some, Bool.false_eq_true, if_false]
      rw [w1 c (by omega)]
    | true =>
      have ha : Adj W i c := hb.1 rfl
      by_cases hl : bt s (i : Int) = bt s (c : Int)
      · by_cases hlt : rd x (c : Int) < rd x (i : Int)
        · have hI' := hI.set W s hi hcs ha hl hlt
          obtain ⟨m, em, _, _⟩ := hI.2 c hcs
          have htt := total_set x i (rd x (c : Int)) (by rw [hI.1]; exact hi) (by omega) hlt
          have := ih (c + 1) (x.set i (rd x (c : Int))) true (by omega) hI' (by omega) (fun _ => by omega) (fun h => by cases h)
          refine Ev.step (fun k => ?_) this
          simp only [spec_l15Numbers.l3]
          rw [if_pos (by rw [hI.1]; omega), eb]
          simp only [Option.bind_some, if_true]
          rw [if_pos (by omega), if_pos (by omega), if_pos (by omega), if_pos (by omega), if_pos hl, if_pos (by rw [hI.1]; omega), if_pos hlt, w1 c (by omega), Int.toNat_natCast]
        · refine Ev.step (fun k => ?_) (skip (fun h => hlt h.2.2))
          simp only [spec_l15Numbers.l3]
          rw [if_pos (by rw [hI.1]; omega), eb]
          simp only [Option.bind_some, if_true]
          rw [if_pos (by omega), if_pos (by omega), if_pos (by omega), if_pos (by omega), if_pos hl, if_pos (by rw [hI.1]; omega), if_neg hlt, w1 c (by omega)]
      · refine Ev.step (fun k => ?_) (skip (fun h => hl h.2.1))
        simp only [spec_l15Numbers.l3]
        rw [if_pos (by rw [hI.1]; omega), eb]
        simp only [Option.bind_some, if_true]
        rw [if_pos (by omega), if_pos (by omega), if_pos (by omega), if_pos (by omega), if_neg hl, w1 c (by omega)]
theorem num_l2 (hs : s.size ≤ 36) (hW : 1 ≤ W) (hW6 : W ≤ 6) (x0 : List Int) (N : List Int)
    (next : ∀ (x : List Int) (again : Bool), Inv W s x → (again = true → total x < total x0) → (again = false → x = x0 ∧ ∀ i' k' : Nat, i' < s.size → k' < s.size → Quiet W s x i' k') → Ev (fun k => spec_l15Numbers.l1 k x again W H s) N) (d : Nat) :
    ∀ (i : Nat) (x : List Int) (again : Bool), i + d = s.size → Inv W s x → total x ≤ total x0 → (again = true → total x < total x0) → (again = false → x = x0 ∧ ∀ i' k' : Nat, i' < i → k' < s.size → Quiet W s x i' k') →
      Ev (fun k => spec_l15Numbers.l2 k x again (i : Int) W H s) N := by
  induction d with
  | zero =>
    intro i x again hi hI ht h1 h2
    refine Ev.step (fun k => ?_) (next x again hI h1 (fun ha => ⟨(h2 ha).1, fun i' k' hi' hk' => (h2 ha).2 i' k' (by omega) hk'⟩))
    simp only [spec_l15Numbers.l2]
    rw [if_neg (by rw [hI.1]; omega)]
  | succ d ih =>
    intro i x again hi hI ht h1 h2
    have := num_l3 W H s hs hW hW6 x0 N i (by omega) (fun x' again' hI' h1' h2' => ih (i + 1) x' again' (by omega) hI' (by
        cases again' with
        | true => exact Nat.le_of_lt (h1' rfl)
        | false => rw [(h2' rfl).1]; exact Nat.le_refl _) h1' (fun ha => ⟨(h2' ha).1, fun i' k' hi' hk' => (h2' ha).2 i' k' (by omega) hk'⟩)) s.size 0 x again (by omega) hI ht h1 (fun ha => ⟨(h2 ha).1, (h2 ha).2, fun k' hk' => by omega⟩)
    refine Ev.step (fun k => ?_) this
    simp only [spec_l15Numbers.l2]
    rw [if_pos (by rw [hI.1]; omega)]
    rfl
theorem num_l1 (hs : s.size ≤ 36) (hW : 1 ≤ W) (hW6 : W ≤ 6) (N : List Int) (hN : IsReg W s N) (n : Nat) : ∀ (x : List Int), total x = n → Inv W s x → Ev (fun k => spec_l15Numbers.l1 k x true W H s) N := by
  induction n using Nat.strongRecOn with
  | _ n ih =>
    intro x hx hI
    have := num_l2 W H s hs hW hW6 x N (fun x' again' hI' h1' h2' => by
      cases again' with
      | true => exact ih (total x') (by have := h1' rfl; omega) x' rfl hI'
      | false =>
        obtain ⟨_, q⟩ := h2' rfl
        rw [hN.uniq (fix_reg W s hI' q)]
        exact Ev.step (f := fun _ => some x') (fun k => by simp [spec_l15Numbers.l1]) (Ev.now _)) s.size 0 x false (by omega) hI (Nat.le_refl _) (fun h => by cases h) (fun _ => ⟨rfl, fun i' k' hi' _ => by omega⟩)
    refine Ev.step (fun k => ?_) this
    simp only [spec_l15Numbers.l1]
    rw [if_pos trivial]
    rfl
theorem num_l0 (hs : s.size ≤ 36) (N : List Int) (h : ∀ x : List Int, x.length = s.size → (∀ j : Nat, j < s.size → rd x (j : Int) = (j : Int)) → Ev (fun k => spec_l15Numbers.l1 k x true W H s) N) (d : Nat) :
    ∀ (x : List Int), x.length + d = s.size → (∀ j : Nat, j < x.length → rd x (j : Int) = (j : Int)) → Ev (fun k => spec_l15Numbers.l0 k x (x.length : Int) W H s) N := by
  induction d with
  | zero =>
    intro x hx hj
    refine Ev.step (fun k => ?_) (h x (by omega) (fun j h' => hj j (by omega)))
    simp only [spec_l15Numbers.l0]
    rw [if_neg (by omega)]
  | succ d ih =>
    intro x hx hj
    have := ih (x ++ [(x.length : Int)]) (by simp; omega) (fun j h' => by
      simp at h'
      by_cases e : j < x.length
      · have h2 := hj j e
        rw [rd_at _ j (by simp; omega), List.getElem_append_left e, ← rd_at x j e]
        exact h2
      · have : j = x.length := by omega
        subst this
        rw [rd_at _ _ (by simp)]
        simp)
    refine Ev.step (fun k => ?_) this
    simp only [spec_l15Numbers.l0]
    rw [if_pos (by omega), if_pos (by omega), w1 x.length (by omega)]
    simp
theorem numbers (hs : s.size ≤ 36) (hW : 1 ≤ W) (hW6 : W ≤ 6) (N : List Int) (hN : IsReg W s N) : Ev (fun k => spec_l15Numbers.f k W H s) N := by
  unfold spec_l15Numbers.f
  refine num_l0 W H s hs N (fun x hx hj => num_l1 W H s hs hW hW6 N hN (total x) x rfl ⟨hx, fun j h => ⟨j, hj j h, Nat.le_refl _, .refl⟩⟩) s.size [] (by simp) (fun j h => by simp at h)
end
/-! the program's flood -/
section
variable (W H : Int) (s : ByteArray)
def besideL (x : Int) : List Int := (if x ≥ W then [x - W] else []) ++ ((if Int.tmod x W > 0 then [x - 1] else []) ++ ((if Int.tmod x W < W - 1 then [x + 1] else []) ++ (if x + W < W * H then [x + W] else [])))
theorem beside_j1 (hc : Cov W H s) (x : Int) (h0 : 0 ≤ x) (h1 : x < 1000) (l : List Int) (hl : l.length ≤ 10) : Ev (fun k => impl_beside.j1 k x l W H s) (l ++ ((if Int.tmod x W < W - 1 then [x + 1] else []) ++ (if x + W < W * H then [x + W] else []))) := by
  obtain ⟨w1', w2, w3, w4, w5, _⟩ := hc
  have hm := mul_small w1' w2 w3 w4
  refine Ev.step (f := fun _ => some (l ++ ((if Int.tmod x W < W - 1 then [x + 1] else []) ++ (if x + W < W * H then [x + W] else [])))) (fun k => ?_) (Ev.now _)
  have hl1 : l.length < 17592186044416 := by omega
  have hl2 : (l ++ [x + 1]).length < 17592186044416 := by simp; omega
  simp only [impl_beside.j1]
  rw [if_neg (by omega), wrap_small (a := W - 1) (by omega) (by omega), wrap_small (a := x + 1) (by omega) (by omega), wrap_small (a := x + W) (by omega) (by omega), wrap_small (a := W * H) (by omega) (by omega)]
  by_cases c1 : Int.tmod x W < W - 1
  · by_cases c2 : x + W < W * H
    · simp only [if_pos c1, if_pos c2, if_pos hl1, Option.bind_some, if_pos hl2]
      simp
    · simp only [if_pos c1, if_neg c2, if_pos hl1, Option.bind_some]
      simp
  · by_cases c2 : x + W < W * H
    · simp only [if_neg c1, if_pos c2, if_pos hl1]
      simp
    · simp only [if_neg c1, if_neg c2]
      simp
theorem beside_j0 (hc : Cov W H s) (x : Int) (h0 : 0 ≤ x) (h1 : x < 1000) (l : List Int) (hl : l.length ≤ 5) : Ev (fun k => impl_beside.j0 k x l W H s) (l ++ ((if Int.tmod x W > 0 then [x - 1] else []) ++ ((if Int.tmod x W < W - 1 then [x + 1] else []) ++ (if x + W < W * H then [x + W] else [])))) := by
  have hW := hc.1
  by_cases c : Int.tmod x W > 0
  · have := beside_j1 W H s hc x h0 h1 (l ++ [x - 1]) (by simp; omega)
    rw [if_pos c]
    rw [List.append_assoc] at this
    refine Ev.step (fun k => ?_) this
    simp only [impl_beside.j0]
    rw [if_neg (by omega), if_pos c, if_pos (by omega), wrap_small (a := x - 1) (by omega) (by omega)]
  · have := beside_j1 W H s hc x h0 h1 l (by omega)
    rw [if_neg c, List.nil_append]
    refine Ev.step (fun k => ?_) this
    simp only [impl_beside.j0]
    rw [if_neg (by omega), if_neg c]
theorem beside_f (hc : Cov W H s) (x : Int) (h0 : 0 ≤ x) (h1 : x < 1000) : Ev (fun k => impl_beside.f k W H s x) (besideL W H x) := by
  have hW := hc.1
  have hW6 := hc.2.1
  unfold impl_beside.f besideL
  simp only [Option.bind_some]
  by_cases c : x ≥ W
  · simp only [if_pos c, List.length_nil, List.nil_append]
    rw [wrap_small (a := x - W) (by omega) (by omega)]
    simp only [if_pos (show (0 : Nat) < 17592186044416 by omega)]
    exact beside_j0 W H s hc x h0 h1 [x - W] (by simp)
  · simp only [if_neg c, List.nil_append]
    exact beside_j0 W H s hc x h0 h1 [] (by simp)
theorem beside_mem (hc : Cov W H s) (x : Nat) (hx : x < s.size) (y : Int) : y ∈ besideL W H (x : Int) ↔ ∃ k : Nat, y = (k : Int) ∧ k < s.size ∧ Adj W x k := by
  obtain ⟨w1', w2, w3, w4, w5, _⟩ := hc
  unfold besideL Adj
  have tm : ∀ z : Nat, Int.tmod (z : Int) W = (z : Int) % W := fun z => Int.tmod_eq_emod_of_nonneg (by omega)
  rw [tm x]
  simp only [tm, List.mem_append]
  have e : W = 1 ∨ W = 2 ∨ W = 3 ∨ W = 4 ∨ W = 5 ∨ W = 6 := by omega
  constructor
  · rintro (h | h | h | h)
    · split at h
      · rw [List.mem_singleton] at h
        exact ⟨x - W.toNat, by omega, by omega, .inr (.inl (by omega))⟩
      · cases h
    · split at h
      · rename_i c
        rw [List.mem_singleton] at h
        have : 0 < x := by rcases e with rfl | rfl | rfl | rfl | rfl | rfl <;> omega
        exact ⟨x - 1, by omega, by omega, .inr (.inr (.inr ⟨by omega, by omega⟩))⟩
      · cases h
    · split at h
      · rename_i c
        rw [List.mem_singleton] at h
        refine ⟨x + 1, by omega, ?_, .inr (.inr (.inl ⟨by omega, ?_⟩))⟩
        · rcases e with rfl | rfl | rfl | rfl | rfl | rfl <;> omega
        · rcases e with rfl | rfl | rfl | rfl | rfl | rfl <;> omega
      · cases h
    · split at h
      · rw [List.mem_singleton] at h
        exact ⟨x + W.toNat, by omega, by omega, .inl (by omega)⟩
      · cases h
  · rintro ⟨k, rfl, hk, (h | h | ⟨h, h'⟩ | ⟨h, h'⟩)⟩
    · right; right; right
      rw [if_pos (by omega), List.mem_singleton]
      exact h
    · left
      rw [if_pos (by omega), List.mem_singleton]
      omega
    · right; right; left
      rw [if_pos (by rcases e with rfl | rfl | rfl | rfl | rfl | rfl <;> omega), List.mem_singleton]
      exact h
    · right; left
      rw [if_pos (by rcases e with rfl | rfl | rfl | rfl | rfl | rfl <;> omega), List.mem_singleton]
      omega
theorem beside_len (x : Int) : (besideL W H x).length ≤ 4 := by
  unfold besideL
  (repeat' split) <;> simp
def cnt (x : List Int) : Nat := (x.filter (fun v => decide (v = -1))).length
theorem cnt_set : ∀ (x : List Int) (y : Nat) (v : Int), y < x.length → rd x (y : Int) = -1 → v ≠ -1 → cnt (x.set y v) + 1 = cnt x
  | [], y, v, h, _, _ => by simp at h
  | a :: t, 0, v, _, h, hv => by
    have : rd (a :: t) ((0 : Nat) : Int) = a := rfl
    rw [this] at h
    subst h
    simp [cnt, hv]
  | a :: t, y + 1, v, hl, h, hv => by
    have e : rd (a :: t) ((y + 1 : Nat) : Int) = rd t (y : Int) := by
      unfold rd
      rw [Int.toNat_natCast, Int.toNat_natCast]
      simp
    rw [e] at h
    have := cnt_set t y v (by simpa using hl) h hv
    simp only [cnt, List.set_cons_succ, List.filter_cons] at this ⊢
    split <;> simp_all <;> omega
theorem cnt_le (x : List Int) : cnt x ≤ x.length := List.length_filter_le _ _
def Vals (i : Nat) (x : List Int) : Prop := x.length = s.size ∧ (∀ j : Nat, j < s.size → rd x (j : Int) = -1 ∨ ∃ m : Nat, rd x (j : Int) = (m : Int) ∧ Root W s j m) ∧ ∀ j m : Nat, j < s.size → Root W s j m → m < i → rd x (j : Int) = (m : Int)
def Closed (x : List Int) : Prop := ∀ j k : Nat, Edge W s j k → rd x (j : Int) = rd x (k : Int)
/-- P tells for which cells an edge may still lead to a cell without a number. -/
def Near (i : Nat) (x : List Int) (P : Nat → Nat → Prop) : Prop := ∀ j k : Nat, Edge W s j k → rd x (j : Int) = rd x (k : Int) ∨ (rd x (j : Int) = (i : Int) ∧ P j k ∧ rd x (k : Int) = -1) ∨ (rd x (k : Int) = (i : Int) ∧ P k j ∧ rd x (j : Int) = -1)
theorem closed_conn {x : List Int} (h : Closed W s x) {a b : Nat} (c : Conn W s a b) : rd x (a : Int) = rd x (b : Int) := by
  induction c with
  | refl => rfl
  | step _ e ih => exact ih.trans (h _ _ e)
theorem vals_next {i : Nat} {x : List Int} (h : Vals W s i x) (hc : Closed W s x) (hi : i < s.size) (hx : rd x (i : Int) ≠ -1) : Vals W s (i + 1) x := by
  refine ⟨h.1, h.2.1, fun j m hj hr hm => ?_⟩
  by_cases e : m = i
  · subst e
    rcases h.2.1 m hi with h1 | ⟨m', h1, h2⟩
    · exact absurd h1 hx
    · rw [← closed_conn W s hc hr.1, h1, h2.uniq hr.self]
  · exact h.2.2 j m hj hr (by omega)
theorem fill_l3 (hc : Cov W H s) (N : List Int) (i c : Nat) (hi : i < s.size) (hcs : c < s.size) (t : List Int) (ht : ∀ y, y ∈ t ↔ ∃ k : Nat, y = (k : Int) ∧ k < s.size ∧ Adj W c k) (htl : t.length ≤ 4) (B : Nat) (hB : B ≤ 1000)
    (next : ∀ (x o : List Int), Vals W s i x → Near W s i x (fun j _ => (j : Int) ∈ o) → rd x (i : Int) = (i : Int) → (∀ y ∈ o, ∃ j : Nat, y = (j : Int) ∧ j < s.size ∧ rd x (j : Int) = (i : Int)) → 2 * cnt x + o.length ≤ B → Ev (fun k => impl_regions.l2 k x (i : Int) o (s.size : Int) (i : Int) W H s) N) (d : Nat) :
    ∀ (p : Nat) (x o : List Int), p + d = t.length → Vals W s i x → Near W s i x (fun j k => (j : Int) ∈ o ∨ (j = c ∧ (k : Int) ∈ t.drop p)) → rd x (i : Int) = (i : Int) → rd x (c : Int) = (i : Int) → (∀ y ∈ o, ∃ j : Nat, y = (j : Int) ∧ j < s.size ∧ rd x (j : Int) = (i : Int)) → 2 * cnt x + o.length ≤ B →
      Ev (fun k => impl_regions.l3 k x (i : Int) o (s.size : Int) (i : Int) t (t.length : Int) (p : Int) W H s) N := by
  have h36 := cov_size hc
  induction d with
  | zero =>
    intro p x o hp hv hn hxi hxc ho hm
    have e : t.drop p = [] := List.drop_of_length_le (by omega)
    have hn' : Near W s i x (fun j _ => (j : Int) ∈ o) := by
      intro j k he
      rcases hn j k he with h | ⟨a, b, c'⟩ | ⟨a, b, c'⟩
      · exact .inl h
      · rw [e] at b
        exact .inr (.inl ⟨a, by simpa using b, c'⟩)
      · rw [e] at b
        exact .inr (.inr ⟨a, by simpa using b, c'⟩)
    refine Ev.step (fun k => ?_) (next x o hv hn' hxi ho hm)
    simp only [impl_regions.l3]
    rw [if_neg (by omega)]
  | succ d ih =>
    intro p x o hp hv hn hxi hxc ho hm
    have hpt : p < t.length := by omega
    have ed := List.drop_eq_getElem_cons hpt
    obtain ⟨y, ey, hy, hadj⟩ := (ht t[p]).1 (List.getElem_mem hpt)
    have hlen := hv.1
    have hcroot : Root W s c i := by
      rcases hv.2.1 c hcs with h | ⟨m, h, hr⟩
      · rw [hxc] at h; omega
      · rw [hxc] at h
        have : m = i := by omega
        rw [← this]; exact hr
    have hlet : bt s (c : Int) = bt s (i : Int) := hcroot.1.letter.symm
    -- nothing is turned
    have stay : ¬ (rd x (y : Int) = -1 ∧ bt s (y : Int) = bt s (i : Int)) → Ev (fun k => impl_regions.l3 k x (i : Int) o (s.size : Int) (i : Int) t (t.length : Int) ((p + 1 : Nat) : Int) W H s) N := by
      intro hno
      refine ih (p + 1) x o (by omega) hv ?_ hxi hxc ho hm
      intro j k he
      have strip : ∀ a b : Nat, Edge W s a b → rd x (b : Int) = -1 → ((a : Int) ∈ o ∨ (a = c ∧ (b : Int) ∈ t.drop p)) → ((a : Int) ∈ o ∨ (a = c ∧ (b : Int) ∈ t.drop (p + 1))) := by
        intro a b hab hb hor
        rcases hor with h | ⟨h1, h2⟩
        · exact .inl h
        · rw [ed] at h2
          rcases List.mem_cons.1 h2 with h3 | h3
          · rw [ey] at h3
            have : b = y := by omega
            subst this
            subst h1
            exact absurd ⟨hb, by rw [← hab.2.2.2, hlet]⟩ hno
          · exact .inr ⟨h1, h3⟩
      rcases hn j k he with h | ⟨a, b, c'⟩ | ⟨a, b, c'⟩
      · exact .inl h
      · exact .inr (.inl ⟨a, strip j k he c' b, c'⟩)
      · exact .inr (.inr ⟨a, strip k j he.symm c' b, c'⟩)
    have erd : rd t (p : Int) = (y : Int) := by rw [rd_at t p hpt, ey]
    by_cases hneg : rd x (y : Int) < 0
    · have hm1 : rd x (y : Int) = -1 := by
        rcases hv.2.1 y hy with h | ⟨m, h, _⟩
        · exact h
        · omega
      by_cases hb : bt s (y : Int) = bt s (i : Int)
      · have hedge : Edge W s c y := ⟨hcs, hy, hadj, by rw [hlet, hb]⟩
        have hyroot : Root W s y i := hcroot.conn (Conn.refl.step hedge)
        have hset : ∀ j : Nat, rd (x.set y (i : Int)) (j : Int) = if y = j then (i : Int) else rd x (j : Int) := fun j => rd_set x y j _ (by rw [hlen]; exact hy)
        have hcnt := cnt_set x y (i : Int) (by rw [hlen]; exact hy) hm1 (by omega)
        have hyi : y ≠ i := by intro e; subst e; omega
        have hyc : y ≠ c := by intro e; subst e; omega
        have := ih (p + 1) (x.set y (i : Int)) (o ++ [(y : Int)]) (by omega) (by
          refine ⟨by simpa using hlen, fun j hj => ?_, fun j m hj hr hmi => ?_⟩
          · rw [hset j]
            split
            · rename_i e; subst e; exact .inr ⟨i, rfl, hyroot⟩
            · exact hv.2.1 j hj
          · rw [hset j]
            split
            · rename_i e; subst e
              have := hr.uniq hyroot
              omega
            · exact hv.2.2 j m hj hr hmi) (by
          intro j k he
          have aux : ∀ a b : Nat, Edge W s a b → rd (x.set y (i : Int)) (a : Int) = rd (x.set y (i : Int)) (b : Int) ∨ (rd (x.set y (i : Int)) (a : Int) = (i : Int) ∧ ((a : Int) ∈ o ++ [(y : Int)] ∨ (a = c ∧ (b : Int) ∈ t.drop (p + 1))) ∧ rd (x.set y (i : Int)) (b : Int) = -1) ∨ (rd (x.set y (i : Int)) (b : Int) = (i : Int) ∧ ((b : Int) ∈ o ++ [(y : Int)] ∨ (b = c ∧ (a : Int) ∈ t.drop (p + 1))) ∧ rd (x.set y (i : Int)) (a : Int) = -1) := by
            intro a b hab
            have lift : ∀ u v : Nat, y ≠ v → ((u : Int) ∈ o ∨ (u = c ∧ (v : Int) ∈ t.drop p)) → ((u : Int) ∈ o ++ [(y : Int)] ∨ (u = c ∧ (v : Int) ∈ t.drop (p + 1))) := by
              intro u v hyv hor
              rcases hor with h | ⟨h1, h2⟩
              · exact .inl (List.mem_append_left _ h)
              · rw [ed, ey] at h2
                rcases List.mem_cons.1 h2 with h3 | h3
                · exact absurd (by omega : y = v) hyv
                · exact .inr ⟨h1, h3⟩
            rw [hset a, hset b]
            by_cases ea : y = a
            · subst ea
              rw [if_pos rfl]
              by_cases eb : y = b
              · subst eb; rw [if_pos rfl]; exact .inl rfl
              · rw [if_neg eb]
                rcases hn y b hab with h | ⟨h, _, _⟩ | ⟨h, _, _⟩
                · exact .inr (.inl ⟨rfl, .inl (List.mem_append_right _ (List.mem_singleton.2 rfl)), by omega⟩)
                · omega
                · exact .inl h.symm
            · rw [if_neg ea]
              by_cases eb : y = b
              · subst eb
                rw [if_pos rfl]
                rcases hn a y hab with h | ⟨h, _, _⟩ | ⟨h, _, _⟩
                · exact .inr (.inr ⟨rfl, .inl (List.mem_append_right _ (List.mem_singleton.2 rfl)), by omega⟩)
                · exact .inl h
                · omega
              · rw [if_neg eb]
                rcases hn a b hab with h | ⟨h, h2, h3⟩ | ⟨h, h2, h3⟩
                · exact .inl h
                · exact .inr (.inl ⟨h, lift a b eb h2, h3⟩)
                · exact .inr (.inr ⟨h, lift b a ea h2, h3⟩)
          exact aux j k he) (by rw [hset i, if_neg hyi]; exact hxi) (by rw [hset c, if_neg hyc]; exact hxc) (by
          intro z hz
          rcases List.mem_append.1 hz with hz | hz
          · obtain ⟨j, e1, e2, e3⟩ := ho z hz
            refine ⟨j, e1, e2, ?_⟩
            rw [hset j]
            split
            · rfl
            · exact e3
          · rw [List.mem_singleton] at hz
            exact ⟨y, hz, hy, by rw [hset y, if_pos rfl]⟩) (by simp only [List.length_append, List.length_cons, List.length_nil]; omega)
        refine Ev.step (fun k => ?_) this
        simp only [impl_regions.l3]
        rw [if_pos (by omega), if_pos (by omega), if_pos (by omega), erd, if_pos (by omega), if_pos (by omega), if_pos hneg, if_pos (by omega), if_pos (by omega), if_pos (by omega), if_pos hb, if_pos (by omega), w1 p (by omega), Int.toNat_natCast]
      · refine Ev.step (fun k => ?_) (stay (fun h => hb h.2))
        simp only [impl_regions.l3]
        rw [if_pos (by omega), if_pos (by omega), if_pos (by omega), erd, if_pos (by omega), if_pos (by omega), if_pos hneg, if_pos (by omega), if_pos (by omega), if_pos (by omega), if_neg hb, w1 p (by omega)]
    · refine Ev.step (fun k => ?_) (stay (fun h => hneg (by omega)))
      simp only [impl_regions.l3]
      rw [if_pos (by omega), if_pos (by omega), if_pos (by omega), erd, if_pos (by omega), if_pos (by omega), if_neg hneg, w1 p (by omega)]
theorem fill_l2 (hc : Cov W H s) (N : List Int) (i : Nat) (hi : i < s.size)
    (next : ∀ x : List Int, Vals W s (i + 1) x → Closed W s x → Ev (fun k => impl_regions.l1 k x (s.size : Int) ((i + 1 : Nat) : Int) W H s) N) (n : Nat) :
    ∀ (x o : List Int), 2 * cnt x + o.length = n → n ≤ 1000 → Vals W s i x → Near W s i x (fun j _ => (j : Int) ∈ o) → rd x (i : Int) = (i : Int) → (∀ y ∈ o, ∃ j : Nat, y = (j : Int) ∧ j < s.size ∧ rd x (j : Int) = (i : Int)) →
      Ev (fun k => impl_regions.l2 k x (i : Int) o (s.size : Int) (i : Int) W H s) N := by
  have h36 := cov_size hc
  induction n using Nat.strongRecOn with
  | _ n ih =>
    intro x o hn hn1 hv hnear hxi ho
    rcases List.eq_nil_or_concat o with rfl | ⟨o', z, eo⟩
    · have hcl : Closed W s x := by
        intro j k he
        rcases hnear j k he with h | ⟨_, h, _⟩ | ⟨_, h, _⟩
        · exact h
        · simp at h
        · simp at h
      refine Ev.step (fun k => ?_) (next x (vals_next W s hv hcl hi (by omega)) hcl)
      simp only [impl_regions.l2]
      rw [if_neg (by simp), w1 i (by omega)]
    · have eo' : o = o' ++ [z] := by rw [eo]; first | rfl | exact List.concat_eq_append
      subst eo'
      obtain ⟨c, ez, hcs, hxc⟩ := ho z (by simp)
      subst ez
      have ht := beside_mem W H s hc c hcs
      simp only [List.length_append, List.length_cons, List.length_nil] at hn
      have := fill_l3 W H s hc N i c hi hcs (besideL W H (c : Int)) ht (beside_len W H _) (n - 1) (by omega) (fun x' o' a b c' d e => ih (2 * cnt x' + o'.length) (by omega) x' o' rfl (by omega) a b c' d) (besideL W H (c : Int)).length 0 x o' (by omega) hv (by
        intro j k he
        have widen : ∀ a b : Nat, Edge W s a b → (a : Int) ∈ o' ++ [(c : Int)] → ((a : Int) ∈ o' ∨ (a = c ∧ (b : Int) ∈ (besideL W H (c : Int)).drop 0)) := by
          intro a b hab hor
          rcases List.mem_append.1 hor with h | h
          · exact .inl h
          · rw [List.mem_singleton] at h
            have : a = c := by omega
            subst this
            exact .inr ⟨rfl, by rw [List.drop_zero]; exact (ht _).2 ⟨b, rfl, hab.2.1, hab.2.2.1⟩⟩
        rcases hnear j k he with h | ⟨a, b, c'⟩ | ⟨a, b, c'⟩
        · exact .inl h
        · exact .inr (.inl ⟨a, widen j k he b, c'⟩)
        · exact .inr (.inr ⟨a, widen k j he.symm b, c'⟩)) hxi hxc (fun y hy => ho y (List.mem_append_left _ hy)) (by omega)
      refine Ev.step (f := fun k => (impl_beside.f k W H s (c : Int)).bind fun t => impl_regions.l3 k x (i : Int) o' (s.size : Int) (i : Int) t (t.length : Int) 0 W H s) (fun k => ?_) (Ev.bind (beside_f W H s hc (c : Int) (by omega) (by omega)) this)
      have hlen : ((o' ++ [(c : Int)]).length : Int) = o'.length + 1 := by simp
      simp only [impl_regions.l2]
      rw [hlen, wrap_small (a := (o'.length : Int) + 1 - 1) (by omega) (by omega), if_pos (by omega), if_pos (by omega), if_pos (by omega), if_pos (by omega)]
      have e1 : (o'.length : Int) + 1 - 1 = (o'.length : Int) := by omega
      rw [e1, rd_at _ o'.length (by simp), Int.toNat_natCast]
      simp
theorem fill_l1 (hc : Cov W H s) (N : List Int) (hN : IsReg W s N) (d : Nat) : ∀ (i : Nat) (x : List Int), i + d = s.size → Vals W s i x → Closed W s x → Ev (fun k => impl_regions.l1 k x (s.size : Int) (i : Int) W H s) N := by
  have h36 := cov_size hc
  induction d with
  | zero =>
    intro i x hi hv hcl
    have hreg : IsReg W s x := ⟨hv.1, fun j hj => by
      obtain ⟨m, hr⟩ := Root.exists W s j
      exact ⟨m, hv.2.2 j m hj hr (by have := hr.le; omega), hr⟩⟩
    rw [hN.uniq hreg]
    refine Ev.step (f := fun _ => some x) (fun k => ?_) (Ev.now _)
    simp only [impl_regions.l1]
    rw [if_neg (by omega)]
  | succ d ih =>
    intro i x hi hv hcl
    have his : i < s.size := by omega
    by_cases hge : rd x (i : Int) ≥ 0
    · refine Ev.step (fun k => ?_) (ih (i + 1) x (by omega) (vals_next W s hv hcl his (by omega)) hcl)
      simp only [impl_regions.l1]
      rw [if_pos (by omega), if_pos (by omega), if_pos (by rw [hv.1]; omega), if_pos hge, w1 i (by omega)]
    · have hm1 : rd x (i : Int) = -1 := by
        rcases hv.2.1 i his with h | ⟨m, h, _⟩
        · exact h
        · omega
      have hroot : Root W s i i := by
        obtain ⟨m, hr⟩ := Root.exists W s i
        have hle := hr.le
        by_cases e : m = i
        · rw [e] at hr; exact hr
        · have := hv.2.2 i m his hr (by omega)
          omega
      have hset : ∀ j : Nat, rd (x.set i (i : Int)) (j : Int) = if i = j then (i : Int) else rd x (j : Int) := fun j => rd_set x i j _ (by rw [hv.1]; exact his)
      have hcnt := cnt_set x i (i : Int) (by rw [hv.1]; exact his) hm1 (by omega)
      have hcl' := cnt_le x
      have := fill_l2 W H s hc N i his (fun x' a b => ih (i + 1) x' (by omega) a b) (2 * cnt (x.set i (i : Int)) + 1) (x.set i (i : Int)) [(i : Int)] (by simp) (by have := hv.1; omega) (by
        refine ⟨by simpa using hv.1, fun j hj => ?_, fun j m hj hr hmi => ?_⟩
        · rw [hset j]
          split
          · rename_i e; subst e; exact .inr ⟨i, rfl, hroot⟩
          · exact hv.2.1 j hj
        · rw [hset j]
          split
          · rename_i e; subst e
            have := hr.uniq hroot
            omega
          · exact hv.2.2 j m hj hr hmi) (by
        intro j k he
        have := hcl j k he
        rw [hset j, hset k]
        by_cases ej : i = j
        · subst ej
          rw [if_pos rfl]
          by_cases ek : i = k
          · subst ek; rw [if_pos rfl]; exact .inl rfl
          · rw [if_neg ek]
            exact .inr (.inl ⟨rfl, by simp, by omega⟩)
        · rw [if_neg ej]
          by_cases ek : i = k
          · subst ek
            rw [if_pos rfl]
            exact .inr (.inr ⟨rfl, by simp, by omega⟩)
          · rw [if_neg ek]
            exact .inl this) (by rw [hset i, if_pos rfl]) (by
        intro y hy
        rw [List.mem_singleton] at hy
        exact ⟨i, hy, his, by rw [hset i, if_pos rfl]⟩)
      refine Ev.step (fun k => ?_) this
      simp only [impl_regions.l1]
      rw [if_pos (by omega), if_pos (by omega), if_pos (by rw [hv.1]; omega), if_neg hge, Int.toNat_natCast]
theorem fill_l0 (N : List Int) (hs : s.size ≤ 36) (h : Ev (fun k => impl_regions.l1 k (List.replicate s.size (-1)) (s.size : Int) 0 W H s) N) (d : Nat) : ∀ (i : Nat), i + d = s.size → Ev (fun k => impl_regions.l0 k (List.replicate i (-1) ++ List.replicate d 0) (s.size : Int) (i : Int) W H s) N := by
  induction d with
  | zero =>
    intro i hi
    have e : i = s.size := by omega
    subst e
    refine Ev.step (fun k => ?_) h
    simp only [impl_regions.l0]
    rw [if_neg (by omega)]
    simp
  | succ d ih =>
    intro i hi
    refine Ev.step (fun k => ?_) (ih (i + 1) (by omega))
    simp only [impl_regions.l0]
    rw [if_pos (by omega), if_pos (by omega), if_pos (by simp; omega), w1 i (by omega), Int.toNat_natCast]
    congr 1
    rw [List.set_append_right _ _ (by simp)]
    simp only [List.length_replicate, Nat.sub_self, List.replicate_succ, List.set_cons_zero]
    rw [← List.replicate_succ, List.replicate_succ', List.append_assoc]
    rfl
theorem reg_exists (h : s.size ≤ 36) : ∃ N, IsReg W s N := by
  have : ∀ n : Nat, ∃ N : List Int, N.length = n ∧ ∀ j : Nat, j < n → ∃ m : Nat, rd N (j : Int) = (m : Int) ∧ Root W s j m := by
    intro n
    induction n with
    | zero => exact ⟨[], rfl, fun j hj => by omega⟩
    | succ n ih =>
      obtain ⟨N, hl, hN⟩ := ih
      obtain ⟨m, hr⟩ := Root.exists W s n
      refine ⟨N ++ [(m : Int)], by simp [hl], fun j hj => ?_⟩
      by_cases e : j < n
      · obtain ⟨m', e1, e2⟩ := hN j e
        refine ⟨m', ?_, e2⟩
        rw [rd_at _ j (by simp; omega), List.getElem_append_left (by omega), ← rd_at N j (by omega)]
        exact e1
      · have : j = n := by omega
        subst this
        exact ⟨m, by rw [rd_at _ j (by simp; omega)]; simp [hl], hr⟩
  exact this s.size
/-- Both find the regions' numbers; of what is no cover the program has none. -/
theorem regions_f (hs : s.size ≤ 9223372036854775806) : ∃ (r : Bool) (N : List Int), Ev (fun k => spec_IsCover.f k W H s) r ∧ Ev (fun k => impl_IsCover.f k W H s) r ∧ Ev (fun k => impl_regions.f k W H s) N ∧ (r = false → N = []) ∧ (r = true → Cov W H s ∧ IsReg W s N ∧ Ev (fun k => spec_l15Numbers.f k W H s) N) := by
  obtain ⟨r, h1, h2, h3⟩ := cover_same W H s hs
  cases r with
  | false =>
    refine ⟨false, [], h1, h2, ?_, fun _ => rfl, fun h => by cases h⟩
    unfold impl_regions.f
    refine Ev.bind h2 ?_
    simp only [Bool.false_eq_true, if_false]
    exact Ev.now _
  | true =>
    have hc := h3 rfl
    have h36 := cov_size hc
    obtain ⟨N, hN⟩ := reg_exists W s h36
    refine ⟨true, N, h1, h2, ?_, fun h => (by cases h), fun _ => ⟨hc, hN, numbers W H s h36 hc.1 hc.2.1 N hN⟩⟩
    unfold impl_regions.f
    refine Ev.bind h2 ?_
    simp only [if_true, if_pos (show (0 : Int) ≤ (s.size : Int) by omega), Int.toNat_natCast, if_pos (show s.size ≤ 35184372088832 by omega), Option.bind_some, List.length_replicate]
    have hv : Vals W s 0 (List.replicate s.size (-1)) := by
      refine ⟨by simp, fun j hj => .inl ?_, fun j m _ _ h => by omega⟩
      rw [rd_at _ j (by simpa using hj)]
      simp
    have hcl : Closed W s (List.replicate s.size (-1)) := by
      intro j k he
      rw [rd_at _ j (by simpa using he.1), rd_at _ k (by simpa using he.2.1)]
      simp
    have := fill_l0 W H s N h36 (fill_l1 W H s hc N hN s.size 0 _ (by omega) hv hcl) s.size 0 (by omega)
    simpa using this
end
/-- The places whose number is m, from place i on. -/
def cellsF (m : Int) : List Int → Nat → List Int
  | [], _ => []
  | x :: t, i => if x = m then (i : Int) :: cellsF m t (i + 1) else cellsF m t (i + 1)
theorem cellsF_len (m : Int) (l : List Int) : ∀ i : Nat, (cellsF m l i).length ≤ l.length := by
  induction l with
  | nil => intro i; simp [cellsF]
  | cons y t ih =>
    intro i
    have := ih (i + 1)
    rw [cellsF]
    split <;> simp <;> omega
theorem cellsF_mem (m : Int) (l : List Int) : ∀ (i : Nat) (x : Int), x ∈ cellsF m l i ↔ ∃ (j : Nat) (h : j < l.length), l[j] = m ∧ x = ((i + j : Nat) : Int) := by
  induction l with
  | nil => intro i x; simp [cellsF]
  | cons y t ih =>
    intro i x
    have hr := ih (i + 1) x
    have key : (∃ (j : Nat) (h : j < (y :: t).length), (y :: t)[j] = m ∧ x = ((i + j : Nat) : Int)) ↔ (y = m ∧ x = (i : Int)) ∨ ∃ (j : Nat) (h : j < t.length), t[j] = m ∧ x = ((i + 1 + j : Nat) : Int) := by
      constructor
      · rintro ⟨j, h, h1, h2⟩
        cases j with
        | zero => exact .inl ⟨by simpa using h1, by simpa using h2⟩
        | succ j => exact .inr ⟨j, by simpa using h, by simpa using h1, by omega⟩
      · rintro (⟨h1, h2⟩ | ⟨j, h, h1, h2⟩)
        · exact ⟨0, by simp, by simpa using h1, by simpa using h2⟩
        · exact ⟨j + 1, by simpa using h, by simpa using h1, by omega⟩
    rw [key, ← hr, cellsF]
    split
    · rename_i h
      subst h
      rw [List.mem_cons]
      simp
    · rename_i h
      simp [h]
theorem cellsF_asc (m : Int) (l : List Int) : ∀ i : Nat, Asc (cellsF m l i) := by
  induction l with
  | nil => intro i; exact List.Pairwise.nil
  | cons y t ih =>
    intro i
    rw [cellsF]
    split
    · rename_i h
      refine List.pairwise_cons.2 ⟨fun x hx => ?_, ih _⟩
      obtain ⟨j, _, _, e⟩ := (cellsF_mem m t (i + 1) x).1 hx
      omega
    · exact ih _
theorem specCells_l (m : Int) (N : List Int) (hN : N.length ≤ 36) (d : Nat) : ∀ (i : Nat) (a : List Int), i + d = N.length → a.length ≤ i → Ev (fun k => spec_RegionCells.l0 k m a N (i : Int)) (a ++ cellsF m (N.drop i) i) := by
  induction d with
  | zero =>
    intro i a hi ha
    have e : N.drop i = [] := List.drop_of_length_le (by omega)
    rw [e]
    refine Ev.step (f := fun _ => some (a ++ cellsF m [] i)) (fun k => ?_) (Ev.now _)
    simp only [spec_RegionCells.l0]
    rw [if_neg (by omega)]
    simp [cellsF]
  | succ d ih =>
    intro i a hi ha
    have h1 : i < N.length := by omega
    have e := List.drop_eq_getElem_cons h1
    rw [e]
    by_cases hv : N[i] = m
    · have := ih (i + 1) (a ++ [(i : Int)]) (by omega) (by simp; omega)
      rw [List.append_assoc] at this
      have e2 : cellsF m (N[i] :: N.drop (i + 1)) i = [(i : Int)] ++ cellsF m (N.drop (i + 1)) (i + 1) := by rw [cellsF, if_pos hv]; rfl
      rw [e2]
      refine Ev.step (fun k => ?_) this
      simp only [spec_RegionCells.l0]
      rw [if_pos (by omega), if_pos (by omega), rd_at N i h1, if_pos hv, if_pos (by omega), w1 i (by omega)]
    · have := ih (i + 1) a (by omega) (by omega)
      have e2 : cellsF m (N[i] :: N.drop (i + 1)) i = cellsF m (N.drop (i + 1)) (i + 1) := by rw [cellsF, if_neg hv]
      rw [e2]
      refine Ev.step (fun k => ?_) this
      simp only [spec_RegionCells.l0]
      rw [if_pos (by omega), if_pos (by omega), rd_at N i h1, if_neg hv, w1 i (by omega)]
theorem specCells_f (m W H : Int) (s : ByteArray) (r : Bool) (N : List Int) (hN : N.length ≤ 36) (h1 : Ev (fun k => spec_IsCover.f k W H s) r) (h0 : r = false → N = []) (hn : r = true → Ev (fun k => spec_l15Numbers.f k W H s) N) : Ev (fun k => spec_RegionCells.f k W H s m) (cellsF m N 0) := by
  unfold spec_RegionCells.f
  simp only [Option.bind_some]
  refine Ev.bind h1 ?_
  cases r with
  | false =>
    obtain rfl := h0 rfl
    simp only [Bool.false_eq_true, if_false]
    exact Ev.now _
  | true =>
    simp only [if_true]
    refine Ev.bind (hn rfl) ?_
    have := specCells_l m N hN N.length 0 [] (by omega) (by simp)
    rw [List.drop_zero, List.nil_append] at this
    exact this
theorem implCells_l (m : Int) (N : List Int) (hN : N.length ≤ 36) (d : Nat) : ∀ (i : Nat) (a : List Int), i + d = N.length → a.length ≤ i → Ev (fun k => impl_RegionCells.l0 k m a N (N.length : Int) (i : Int)) (a ++ cellsF m (N.drop i) i) := by
  induction d with
  | zero =>
    intro i a hi ha
    have e : N.drop i = [] := List.drop_of_length_le (by omega)
    rw [e]
    refine Ev.step (f := fun _ => some (a ++ cellsF m [] i)) (fun k => ?_) (Ev.now _)
    simp only [impl_RegionCells.l0]
    rw [if_neg (by omega)]
    simp [cellsF]
  | succ d ih =>
    intro i a hi ha
    have h1 : i < N.length := by omega
    have e := List.drop_eq_getElem_cons h1
    rw [e]
    by_cases hv : N[i] = m
    · have := ih (i + 1) (a ++ [(i : Int)]) (by omega) (by simp; omega)
      rw [List.append_assoc] at this
      have e2 : cellsF m (N[i] :: N.drop (i + 1)) i = [(i : Int)] ++ cellsF m (N.drop (i + 1)) (i + 1) := by rw [cellsF, if_pos hv]; rfl
      rw [e2]
      refine Ev.step (fun k => ?_) this
      simp only [impl_RegionCells.l0]
      rw [if_pos (by omega), if_pos (by omega), if_pos (by omega), rd_at N i h1, if_pos hv, if_pos (by omega), w1 i (by omega)]
    · have := ih (i + 1) a (by omega) (by omega)
      have e2 : cellsF m (N[i] :: N.drop (i + 1)) i = cellsF m (N.drop (i + 1)) (i + 1) := by rw [cellsF, if_neg hv]
      rw [e2]
      refine Ev.step (fun k => ?_) this
      simp only [impl_RegionCells.l0]
      rw [if_pos (by omega), if_pos (by omega), if_pos (by omega), rd_at N i h1, if_neg hv, w1 i (by omega)]
theorem implCells_f (m W H : Int) (s : ByteArray) (N : List Int) (hN : N.length ≤ 36) (h1 : Ev (fun k => impl_regions.f k W H s) N) : Ev (fun k => impl_RegionCells.f k W H s m) (cellsF m N 0) := by
  unfold impl_RegionCells.f
  refine Ev.bind h1 ?_
  have := implCells_l m N hN N.length 0 [] (by omega) (by simp)
  rw [List.drop_zero, List.nil_append] at this
  exact this
theorem tk_nums (s : ByteArray) : strOfNums (tlNums s) = s := by
  apply ByteArray.ext
  apply Array.ext'
  rw [strOfNums_data]
  unfold tlNums
  rw [List.map_map]
  have h : ∀ l : List UInt8, l.map ((fun n : Int => UInt8.ofNat n.toNat) ∘ fun b : UInt8 => (b.toNat : Int)) = l := by
    intro l
    induction l with
    | nil => rfl
    | cons b l ih => rw [List.map_cons, ih]; simp
  exact h _
theorem tk_one (lt : ByteArray) (hl : lt.size = 1) : lt.data.toList = [UInt8.ofNat (bt lt 0).toNat] := by
  obtain ⟨d⟩ := lt
  obtain ⟨c, rfl⟩ := Array.size_eq_one_iff.1 (show d.size = 1 from hl)
  have e : bt ⟨#[c]⟩ 0 = (c.toNat : Int) := by unfold bt; rw [dif_pos (by show (0 : Int).toNat < 1; decide)]; rfl
  rw [e]
  simp
theorem tk_set (L : List Int) (i : Nat) (hi : i < L.length) (lt : ByteArray) (hl : lt.size = 1) : ((strOfNums L).extract 0 i ++ lt) ++ (strOfNums L).extract (i + 1) (strOfNums L).size = strOfNums (L.set i (bt lt 0)) := by
  apply ByteArray.ext
  apply Array.ext'
  rw [ByteArray.data_append, ByteArray.data_append, ByteArray.data_extract, ByteArray.data_extract, strOfNums_size]
  simp only [Array.toList_append, Array.toList_extract]
  rw [tk_one lt hl, strOfNums_data, strOfNums_data, List.map_set, List.set_eq_take_append_cons_drop, if_pos (by simpa using hi)]
  simp only [List.extract_eq_take_drop, List.drop_zero, Nat.sub_zero, List.append_assoc, List.cons_append, List.nil_append]
  congr 2
  rw [List.take_of_length_le]
  simp
/-- What taking a letter answers. -/
def tkV (W H : Int) (s : ByteArray) (C : List Int) (lt : ByteArray) : Int × Int × ByteArray × Bool :=
  if C = [] ∨ lt.size ≠ 1 ∨ bt lt 0 < 97 ∨ bt lt 0 > 122 then (W, H, s, false) else (W, H, strOfNums (tlPut (tlNums s) C (bt lt 0)), true)
theorem tk_sl (W H : Int) (lt : ByteArray) (hl : lt.size = 1) (C : List Int) (hC : C.length ≤ 36) (n : Nat) (hn : n ≤ 36) (hin : ∀ x ∈ C, 0 ≤ x ∧ x < (n : Int)) (d : Nat) : ∀ (i : Nat) (L : List Int), i + d = C.length → L.length = n →
    Ev (fun k => spec_TakeLabel.l0 k lt C (i : Int) W H (strOfNums L)) (W, H, strOfNums (tlPut L (C.drop i) (bt lt 0)), true) := by
  induction d with
  | zero =>
    intro i L hi hL
    rw [List.drop_of_length_le (by omega)]
    refine Ev.step (f := fun _ => some (W, H, strOfNums (tlPut L [] (bt lt 0)), true)) (fun k => ?_) (Ev.now _)
    simp only [spec_TakeLabel.l0]
    rw [if_neg (by omega)]; rfl
  | succ d ih =>
    intro i L hi hL
    have h1 : i < C.length := by omega
    obtain ⟨g1, g2⟩ := hin C[i] (List.getElem_mem h1)
    obtain ⟨y, hy⟩ : ∃ y : Nat, C[i] = (y : Int) := ⟨C[i].toNat, by omega⟩
    rw [List.drop_eq_getElem_cons h1]
    have hr := ih (i + 1) (L.set y (bt lt 0)) (by omega) (by rw [List.length_set]; exact hL)
    have e : tlPut L (C[i] :: C.drop (i + 1)) (bt lt 0) = tlPut (L.set y (bt lt 0)) (C.drop (i + 1)) (bt lt 0) := by
      unfold tlPut; rw [List.foldl_cons, hy, Int.toNat_natCast]
    rw [e]
    rw [hy] at g1 g2
    refine Ev.step (fun k => ?_) hr
    have hs := strOfNums_size L
    have hw : wrap64 ((y : Int) + 1) = ((y + 1 : Nat) : Int) := by unfold wrap64; omega
    simp only [spec_TakeLabel.l0]
    rw [rd_at C i h1, hy, hw, Int.toNat_natCast, Int.toNat_natCast]
    rw [if_pos (by omega), if_pos (by omega), if_pos (by omega), if_pos (by omega), if_pos (by rw [ByteArray.size_extract]; omega), if_pos (by omega), if_pos (by omega), if_pos (by rw [ByteArray.size_append, ByteArray.size_extract, ByteArray.size_extract]; omega), w1 i (by omega), tk_set L y (by omega) lt hl]
theorem tk_name (lt : ByteArray) (hl : lt.size = 1) : Ev (fun k => spec_IsName.f k lt) (decide (97 ≤ bt lt 0) && decide (bt lt 0 ≤ 122)) := by
  unfold spec_IsName.f
  by_cases h1 : bt lt 0 < 97
  · rw [decide_eq_false (show ¬ 97 ≤ bt lt 0 by omega)]
    refine Ev.step (f := fun _ => some false) (fun k => ?_) (Ev.now _)
    simp only [spec_IsName.l0]
    rw [if_pos (by omega), if_pos (by omega), if_pos h1]
  · by_cases h2 : bt lt 0 > 122
    · rw [decide_eq_true (show 97 ≤ bt lt 0 by omega), decide_eq_false (show ¬ bt lt 0 ≤ 122 by omega)]
      refine Ev.step (f := fun _ => some false) (fun k => ?_) (Ev.now _)
      simp only [spec_IsName.l0]
      rw [if_pos (by omega), if_pos (by omega), if_neg h1, if_pos h2]
    · rw [decide_eq_true (show 97 ≤ bt lt 0 by omega), decide_eq_true (show bt lt 0 ≤ 122 by omega)]
      refine Ev.step (f := fun k => spec_IsName.l0 k lt 1) (fun k => ?_) ?_
      · simp only [spec_IsName.l0]
        rw [if_pos (by omega), if_pos (by omega), if_neg h1, if_neg h2, show wrap64 (0 + 1) = 1 by unfold wrap64; omega]
      · refine Ev.step (f := fun _ => some true) (fun k => ?_) (Ev.now _)
        simp only [spec_IsName.l0, spec_l1In.f]
        rw [if_neg (by omega), hl]; rfl
section
variable (W H : Int) (s : ByteArray) (m : Int) (C : List Int) (lt : ByteArray)
theorem take_s (hC : C.length ≤ 36) (hn : C ≠ [] → s.size ≤ 36) (hin : ∀ x ∈ C, 0 ≤ x ∧ x < (s.size : Int)) (h1 : Ev (fun k => spec_RegionCells.f k W H s m) C) : Ev (fun k => spec_TakeLabel.f k W H s m lt) (tkV W H s C lt) := by
  unfold spec_TakeLabel.f tkV
  refine Ev.bind h1 ?_
  have no : Ev (fun k => spec_TakeLabel.j0 k lt C true W H s) (W, H, s, false) := Ev.step (f := fun _ => some (W, H, s, false)) (fun k => by simp [spec_TakeLabel.j0]) (Ev.now _)
  by_cases h0 : C = []
  · subst h0
    simp only [List.length_nil, true_or, if_true, Int.natCast_zero]
    exact no
  · have hp := List.length_pos_iff.2 h0
    simp only [if_neg (show ¬ ((C.length : Int) = 0) by omega)]
    by_cases hl : lt.size = 1
    · simp only [if_pos (show (lt.size : Int) = 1 by omega)]
      refine Ev.bind (tk_name lt hl) ?_
      by_cases hc : bt lt 0 < 97 ∨ bt lt 0 > 122
      · rw [if_pos (.inr (.inr hc))]
        have e : (decide (97 ≤ bt lt 0) && decide (bt lt 0 ≤ 122)) = false := by
          rcases hc with h | h
          · rw [decide_eq_false (show ¬ 97 ≤ bt lt 0 by omega)]; rfl
          · rw [decide_eq_false (show ¬ bt lt 0 ≤ 122 by omega), Bool.and_false]
        simp only [e, Bool.not_false]
        exact no
      · rw [if_neg (by intro h; rcases h with h | h | h; exact h0 h; exact h hl; exact hc h)]
        have e : (decide (97 ≤ bt lt 0) && decide (bt lt 0 ≤ 122)) = true := by
          rw [decide_eq_true (show 97 ≤ bt lt 0 by omega), decide_eq_true (show bt lt 0 ≤ 122 by omega)]; rfl
        simp only [e, Bool.not_true]
        have hr := tk_sl W H lt hl C hC s.size (hn h0) hin C.length 0 (tlNums s) (Nat.zero_add _) (tlNums_len s)
        rw [tk_nums, List.drop_zero] at hr
        exact Ev.step (fun k => by simp [spec_TakeLabel.j0]) hr
    · rw [if_pos (.inr (.inl hl))]
      simp only [if_neg (show ¬ ((lt.size : Int) = 1) by omega)]
      exact no
theorem take_i (hC : C.length ≤ 36) (hn : C ≠ [] → s.size ≤ 36) (hin : ∀ x ∈ C, 0 ≤ x ∧ x < (s.size : Int)) (h1 : Ev (fun k => impl_RegionCells.f k W H s m) C) : Ev (fun k => impl_TakeLabel.f k W H s m lt) (tkV W H s C lt) := by
  unfold impl_TakeLabel.f tkV
  refine Ev.bind h1 ?_
  by_cases h0 : C = []
  · simp only [if_pos h0, if_pos (show C = [] ∨ _ from .inl h0)]
    exact Ev.now _
  · simp only [if_neg h0]
    by_cases hl : lt.size ≠ 1
    · simp only [if_pos hl, if_pos (show C = [] ∨ lt.size ≠ 1 ∨ bt lt 0 < 97 ∨ bt lt 0 > 122 from .inr (.inl hl))]
      exact Ev.now _
    · simp only [if_neg hl]
      by_cases h2 : bt lt 0 < 97
      · simp only [if_pos h2, if_pos (show C = [] ∨ lt.size ≠ 1 ∨ bt lt 0 < 97 ∨ bt lt 0 > 122 from .inr (.inr (.inl h2)))]
        exact Ev.now _
      · simp only [if_neg h2]
        by_cases h3 : bt lt 0 > 122
        · simp only [if_pos h3, if_pos (show C = [] ∨ lt.size ≠ 1 ∨ bt lt 0 < 97 ∨ bt lt 0 > 122 from .inr (.inr (.inr h3)))]
          exact Ev.now _
        · simp only [if_neg h3]
          have := hn h0
          simp only [if_pos (show (∀ i ∈ C, 0 ≤ i ∧ i < (s.size : Int)) ∧ s.size ≤ 9223372036854775807 ∧ C.length ≤ 1000000 from ⟨hin, by omega, by omega⟩)]
          rw [if_neg (by intro h; rcases h with h | h | h | h; exact h0 h; exact hl h; exact h2 h; exact h3 h)]
          exact Ev.now _
end
theorem main : ∀ (a0_0 : Int) (a0_1 : Int) (a0_2 : ByteArray) (a1 : Int) (a2 : ByteArray), (Lit.int .i64 a0_0).wf = true → (Lit.int .i64 a0_1).wf = true → a0_2.size ≤ 9223372036854775807 → (Lit.int .i64 a1).wf = true → a2.size ≤ 9223372036854775807 → ∃ k, laws_FnExactTakeLabel.f k a0_0 a0_1 a0_2 a1 a2 = some true := by
  intro W H s m lt _ _ hs _ hlt
  refine Ev.rounds (r := true) ?_
  unfold laws_FnExactTakeLabel.f laws_szCover.f laws_toCover.f
  by_cases hb : (lt.size : Int) > 1048576
  · simp only [if_pos hb]; exact Ev.now _
  simp only [if_neg hb]
  by_cases h1 : (s.size : Int) ≤ 1048576
  · simp only [wrap_small (a := 1048576 - (s.size : Int)) (by omega) (by omega), if_neg (show ¬ (1048576 - (s.size : Int) < 0) by omega), Option.bind_some]
    obtain ⟨r, N, c1, _, c2, hf, ht⟩ := regions_f W H s (by omega)
    have hN : N.length ≤ 36 ∧ (N ≠ [] → N.length = s.size) := by
      cases r with
      | false => rw [hf rfl]; simp
      | true => rw [(ht rfl).2.1.1]; exact ⟨cov_size (ht rfl).1, fun _ => rfl⟩
    have e1 := specCells_f m W H s r N hN.1 c1 hf (fun h => (ht h).2.2)
    have e2 := implCells_f m W H s N hN.1 c2
    have hin : ∀ x ∈ cellsF m N 0, 0 ≤ x ∧ x < (s.size : Int) := by
      intro x hx
      obtain ⟨j, hj, _, e⟩ := (cellsF_mem m N 0 x).1 hx
      have hn : N ≠ [] := by intro h; rw [h] at hj; simp at hj
      have := hN.2 hn
      omega
    have hsz : cellsF m N 0 ≠ [] → s.size ≤ 36 := by
      intro h
      have hn : N ≠ [] := by rintro rfl; exact h rfl
      have := hN.2 hn
      omega
    have hR : (cellsF m N 0).length ≤ 36 := by have := cellsF_len m N 0; omega
    generalize cellsF m N 0 = C at e1 e2 hin hsz hR
    refine Ev.bind (take_s W H s m C lt hR hsz hin e1) (Ev.bind (take_i W H s m C lt hR hsz hin e2) ?_)
    generalize tkV W H s C lt = V
    unfold laws_eqCover.f
    simp only [if_true, Option.bind_some, bne_self_eq_false, Bool.false_eq_true, if_false]
    exact Ev.now _
  · simp only [wrap_small (a := 1048576 - (s.size : Int)) (by omega) (by omega), if_pos (show 1048576 - (s.size : Int) < 0 by omega), Option.bind_some, if_pos (show (-1 : Int) < 0 by omega)]
    exact Ev.now _
end Go.Proofs.Ythodhcalknelcaa.Pure.FnExactTakeLabel
