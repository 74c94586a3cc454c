/- After merging no region is too small unless it is alone, and no new letter came. No condition. -/
import Derived.Test.YthodhcalknelcaaPFnMergedx
namespace Go.Proofs.Ythodhcalknelcaa.Pure.FnMerged
open Go Go.RowKit Go.Proofs.Ythodhcalknelcaa.PFnMerged Go.Proofs.YthodhcalknelcaaW.PrintWords Go.Proofs.YthodhcalknelcaaW.PrintLast Go.Proofs.YthodhcalknelcaaW.PrintMore Go.Proofs.YthodhcalknelcaaGeo
set_option linter.unusedVariables false
set_option linter.unusedSimpArgs false
theorem w1 (i : Nat) (h : i < 9223372036854775807) : wrap64 ((i : Int) + 1) = ((i + 1 : Nat) : Int) := by unfold wrap64; omega
theorem rd_at (l : List Int) (i : Nat) (h : i < l.length) : rd l (i : Int) = l[i] := by
  unfold rd
  rw [Int.toNat_natCast, List.getD_eq_getElem?_getD, List.getElem?_eq_getElem h]
  rfl
def Asc (l : List Int) : Prop := l.Pairwise (· < ·)
theorem asc_eq : ∀ {a b : List Int}, Asc a → Asc b → (∀ x, x ∈ a ↔ x ∈ b) → a = b
  | [], [], _, _, _ => rfl
  | [], y :: b, _, _, h => absurd ((h y).2 (List.mem_cons_self ..)) (by simp)
  | x :: a, [], _, _, h => absurd ((h x).1 (List.mem_cons_self ..)) (by simp)
  | x :: a, y :: b, ha, hb, h => by
    have ha' := List.pairwise_cons.1 ha
    have hb' := List.pairwise_cons.1 hb
    have e : x = y := by
      rcases List.mem_cons.1 ((h x).1 (List.mem_cons_self ..)) with e | h1
      · exact e
      · rcases List.mem_cons.1 ((h y).2 (List.mem_cons_self ..)) with e | h2
        · exact e.symm
        · have := ha'.1 y h2
          have := hb'.1 x h1
          omega
    subst e
    rw [asc_eq ha'.2 hb'.2 (fun z => ⟨fun hz => ?_, fun hz => ?_⟩)]
    · rcases List.mem_cons.1 ((h z).1 (List.mem_cons_of_mem _ hz)) with e | h1
      · subst e; have := ha'.1 z hz; omega
      · exact h1
    · rcases List.mem_cons.1 ((h z).2 (List.mem_cons_of_mem _ hz)) with e | h1
      · subst e; have := hb'.1 z hz; omega
      · exact h1
def putL : List Int → Int → List Int
  | [], n => [n]
  | x :: t, n => if x < n then x :: putL t n else if x = n then x :: t else n :: x :: t
theorem putL_mem (l : List Int) (n x : Int) : x ∈ putL l n ↔ x = n ∨ x ∈ l := by
  induction l with
  | nil => simp [putL]
  | cons y t ih =>
    unfold putL
    split
    · rw [List.mem_cons, ih, List.mem_cons]
      constructor
      · rintro (h | h | h) <;> simp [h]
      · rintro (h | h | h) <;> simp [h]
    · split
      · rename_i h
        subst h
        simp
      · simp
theorem putL_asc {l : List Int} (h : Asc l) (n : Int) : Asc (putL l n) := by
  induction l with
  | nil => exact List.pairwise_singleton _ _
  | cons y t ih =>
    have h' := List.pairwise_cons.1 h
    unfold putL
    split
    · rename_i hy
      refine List.pairwise_cons.2 ⟨fun z hz => ?_, ih h'.2⟩
      rcases (putL_mem t n z).1 hz with e | hz
      · subst e; exact hy
      · exact h'.1 z hz
    · split
      · exact h
      · rename_i h1 h2
        refine List.pairwise_cons.2 ⟨fun z hz => ?_, h⟩
        rcases List.mem_cons.1 hz with e | hz
        · subst e; omega
        · have := h'.1 z hz; omega
theorem putL_len (l : List Int) (n : Int) : (putL l n).length ≤ l.length + 1 := by
  induction l with
  | nil => simp [putL]
  | cons y t ih =>
    unfold putL
    split
    · simp; omega
    · split <;> simp
theorem put_l (l : List Int) (n : Int) (hb : l.length < 1000000000) (d : Nat) : ∀ i : Nat, i + d = l.length → Ev (fun k => spec_l14Put.l0 k l n (i : Int)) (l.take i ++ putL (l.drop i) n) := by
  induction d with
  | zero =>
    intro i hi
    refine Ev.step (f := fun _ => some (l.take i ++ putL (l.drop i) n)) (fun k => ?_) (Ev.now _)
    simp only [spec_l14Put.l0]
    rw [if_neg (by omega)]
    have e1 : l.take i = l := List.take_of_length_le (by omega)
    have e2 : l.drop i = [] := List.drop_of_length_le (by omega)
    simp only [Option.bind_some, Int.toNat_natCast, e1, e2, List.nil_append, List.length_nil, List.length_append, List.length_cons, putL, List.append_nil]
    rw [if_pos (by omega), if_pos (by omega), if_pos (by omega), if_pos (by omega), if_pos (by omega)]
  | succ d ih =>
    intro i hi
    have h1 : i < l.length := by omega
    have e := List.drop_eq_getElem_cons h1
    by_cases hc : l[i] < n
    · have := ih (i + 1) (by omega)
      have e' : l.take (i + 1) ++ putL (l.drop (i + 1)) n = l.take i ++ putL (l.drop i) n := by
        rw [e, List.take_succ_eq_append_getElem h1, List.append_assoc]
        simp [putL, hc]
      rw [e'] at this
      refine Ev.step (fun k => ?_) this
      simp only [spec_l14Put.l0]
      rw [if_pos (by omega), if_pos (by omega), rd_at l i h1, if_pos hc, w1 i (by omega)]
    · by_cases hn : l[i] = n
      · have e' : l.take i ++ putL (l.drop i) n = l := by
          rw [e]
          simp only [putL, if_neg hc, if_pos hn]
          rw [← e, List.take_append_drop]
        rw [e']
        refine Ev.step (f := fun _ => some l) (fun k => ?_) (Ev.now _)
        simp only [spec_l14Put.l0]
        rw [if_pos (by omega), if_pos (by omega), rd_at l i h1, if_neg hc, if_pos hn]
        simp only [Option.bind_some, List.nil_append, List.length_nil]
        rw [if_pos (by omega)]
      · have e' : putL (l.drop i) n = n :: l.drop i := by
          rw [e]
          simp only [putL, if_neg hc, if_neg hn]
        rw [e']
        refine Ev.step (f := fun _ => some (l.take i ++ n :: l.drop i)) (fun k => ?_) (Ev.now _)
        simp only [spec_l14Put.l0]
        rw [if_pos (by omega), if_pos (by omega), rd_at l i h1, if_neg hc, if_neg hn]
        simp only [Option.bind_some, Int.toNat_natCast, List.nil_append, List.length_nil, List.length_append, List.length_cons, List.length_take, List.length_drop]
        rw [if_pos (by omega), if_pos (by omega), if_pos (by omega), if_pos (by omega)]
        simp
theorem put (l : List Int) (n : Int) (hb : l.length < 1000000000) : Ev (fun k => spec_l14Put.f k l n) (putL l n) := by
  have := put_l l n hb l.length 0 (by omega)
  simpa [spec_l14Put.f] using this
def putAll (s : List Int) (l : List Int) : List Int := l.foldl putL s
theorem putAll_asc (l : List Int) : ∀ s, Asc s → Asc (putAll s l) := by
  induction l with
  | nil => intro s h; exact h
  | cons x t ih => intro s h; exact ih _ (putL_asc h x)
theorem putAll_mem (l : List Int) : ∀ s x, x ∈ putAll s l ↔ x ∈ s ∨ x ∈ l := by
  induction l with
  | nil => intro s x; simp [putAll]
  | cons y t ih =>
    intro s x
    have := ih (putL s y) x
    rw [putL_mem] at this
    show x ∈ putAll (putL s y) t ↔ _
    rw [this, List.mem_cons]
    constructor
    · rintro ((h | h) | h) <;> simp [h]
    · rintro (h | h | h) <;> simp [h]
theorem putAll_len (l : List Int) : ∀ s, (putAll s l).length ≤ s.length + l.length := by
  induction l with
  | nil => intro s; simp [putAll]
  | cons y t ih =>
    intro s
    have h1 := ih (putL s y)
    have h2 := putL_len s y
    show (putAll (putL s y) t).length ≤ _
    simp only [List.length_cons]
    omega
theorem compact_mem (l : List Int) (x : Int) : x ∈ Go.Lib.compact l ↔ x ∈ l := by
  unfold Go.Lib.compact Go.Lib.compactUpTo
  simp only [List.mem_map, List.mem_filter, List.mem_range]
  constructor
  · rintro ⟨j, ⟨hj, _⟩, rfl⟩
    have : l.toArray[j]! = l[j] := by simp [hj]
    rw [this]
    exact List.getElem_mem _
  · intro hx
    -- the first place that holds x
    have ex : ∃ j, j < l.length ∧ l.toArray[j]! = x ∧ ∀ i, i < j → l.toArray[i]! ≠ x := by
      obtain ⟨m, hm, e⟩ := List.getElem_of_mem hx
      have main : ∀ n, (∃ j, j < n ∧ j < l.length ∧ l.toArray[j]! = x) → ∃ j, j < l.length ∧ l.toArray[j]! = x ∧ ∀ i, i < j → l.toArray[i]! ≠ x := by
        intro n
        induction n with
        | zero => rintro ⟨j, hj, _⟩; omega
        | succ n ih =>
          rintro ⟨j, hj, hl, e⟩
          by_cases h : ∃ i, i < n ∧ i < l.length ∧ l.toArray[i]! = x
          · exact ih h
          · have : j = n := by
              rcases Nat.lt_or_ge j n with h' | h'
              · exact absurd ⟨j, h', hl, e⟩ h
              · omega
            subst this
            exact ⟨j, hl, e, fun i hi he => h ⟨i, hi, by omega, he⟩⟩
      exact main (m + 1) ⟨m, by omega, hm, by simp [hm, e]⟩
    obtain ⟨j, hj, e, hf⟩ := ex
    refine ⟨j, ⟨hj, ?_⟩, e⟩
    by_cases h0 : j = 0
    · subst h0; simp [Go.Lib.keeps]
    · exact Go.Lib.keeps_pos (by rw [e]; exact fun h => hf (j - 1) (by omega) h.symm)
theorem compact_asc {l : List Int} (h : l.Pairwise (· ≤ ·)) : Asc (Go.Lib.compact l) := by
  unfold Go.Lib.compact Go.Lib.compactUpTo Asc
  rw [List.pairwise_map]
  have hp : ((List.range l.length).filter (Go.Lib.keeps l.toArray)).Pairwise (· < ·) := List.Pairwise.filter _ List.pairwise_lt_range
  refine hp.imp_of_mem ?_
  intro a b ha hb hab
  have ha' := List.mem_filter.1 ha
  have hb' := List.mem_filter.1 hb
  have la := List.mem_range.1 ha'.1
  have lb := List.mem_range.1 hb'.1
  have ea : l.toArray[a]! = l[a] := by simp [la]
  have eb : l.toArray[b]! = l[b] := by simp [lb]
  have eb' : l.toArray[b - 1]! = l[b - 1] := by simp [show b - 1 < l.length by omega]
  have hne : l[b] ≠ l[b - 1] := by
    intro he
    have := Go.Lib.keeps_neg (d := l.toArray) (m := b) (by omega) (by rw [eb, eb', he])
    rw [this] at hb'
    exact absurd hb'.2 (by simp)
  have h1 : l[b - 1] ≤ l[b] := List.pairwise_iff_getElem.1 h (b - 1) b (by omega) lb (by omega)
  have h2 : l[a] ≤ l[b - 1] := by
    by_cases e : a = b - 1
    · subst e; exact Int.le_refl _
    · exact List.pairwise_iff_getElem.1 h a (b - 1) la (by omega) (by omega)
  rw [ea, eb]
  omega
theorem sorted_int (l : List Int) : (l.mergeSort fun x y => decide (x ≤ y)).Pairwise (· ≤ ·) := by
  have := List.pairwise_mergeSort (le := fun x y : Int => decide (x ≤ y)) (fun a b c h1 h2 => by simp at *; omega) (fun a b => by simp; omega) l
  exact this.imp (fun h => by simpa using h)
/-- Sorted and struck: the ascending list of the same elements. -/
theorem uniq_asc (l : List Int) : Asc (Go.Lib.compact (l.mergeSort fun x y => decide (x ≤ y))) := compact_asc (sorted_int l)
theorem uniq_mem (l : List Int) (x : Int) : x ∈ Go.Lib.compact (l.mergeSort fun x y => decide (x ≤ y)) ↔ x ∈ l := by rw [compact_mem]; exact List.mem_mergeSort
/-- What a valid cover is, in numbers. -/
def Cov (W H : Int) (s : ByteArray) : Prop := 1 ≤ W ∧ W ≤ 6 ∧ 1 ≤ H ∧ H ≤ 6 ∧ (s.size : Int) = W * H ∧ ∀ i : Nat, i < s.size → 97 ≤ bt s (i : Int) ∧ bt s (i : Int) ≤ 122
theorem cov_size {W H : Int} {s : ByteArray} (h : Cov W H s) : s.size ≤ 36 := by
  obtain ⟨h1, h2, h3, h4, h5, _⟩ := h
  have a : W = 1 ∨ W = 2 ∨ W = 3 ∨ W = 4 ∨ W = 5 ∨ W = 6 := by omega
  rcases a with rfl | rfl | rfl | rfl | rfl | rfl <;> omega
theorem cover_l (W H : Int) (s : ByteArray) (hs : s.size ≤ 9223372036854775806) (d : Nat) : ∀ i : Nat, i + d = s.size → ∃ r : Bool, Ev (fun k => spec_IsCover.l0 k (i : Int) W H s) r ∧ Ev (fun k => impl_IsCover.l0 k (s.size : Int) (i : Int) W H s) r ∧
    (r = true → ∀ j : Nat, i ≤ j → j < s.size → 97 ≤ bt s (j : Int) ∧ bt s (j : Int) ≤ 122) := by
  induction d with
  | zero =>
    intro i hi
    refine ⟨true, Ev.step (f := fun _ => some true) (fun k => ?_) (Ev.now _), Ev.step (f := fun _ => some true) (fun k => ?_) (Ev.now _), fun _ j h1 h2 => by omega⟩
    · simp only [spec_IsCover.l0]; rw [if_neg (by omega)]
    · simp only [impl_IsCover.l0]; rw [if_neg (by omega)]
  | succ d ih =>
    intro i hi
    have hlt : (i : Int) < (s.size : Int) := by omega
    by_cases hc : bt s (i : Int) < 97
    · refine ⟨false, Ev.step (f := fun _ => some false) (fun k => ?_) (Ev.now _), Ev.step (f := fun _ => some false) (fun k => ?_) (Ev.now _), fun h => by cases h⟩
      · simp only [spec_IsCover.l0]; rw [if_pos hlt, if_pos (by omega), if_pos hc]
      · simp only [impl_IsCover.l0]; rw [if_pos hlt, if_pos (by omega), if_pos hlt, if_pos hc]
    · by_cases hc' : bt s (i : Int) > 122
      · refine ⟨false, Ev.step (f := fun _ => some false) (fun k => ?_) (Ev.now _), Ev.step (f := fun _ => some false) (fun k => ?_) (Ev.now _), fun h => by cases h⟩
        · simp only [spec_IsCover.l0]; rw [if_pos hlt, if_pos (by omega), if_neg hc, if_pos hc']
        · simp only [impl_IsCover.l0]; rw [if_pos hlt, if_pos (by omega), if_pos hlt, if_neg hc, if_pos hc']
      · obtain ⟨r, h1, h2, h3⟩ := ih (i + 1) (by omega)
        refine ⟨r, Ev.step (fun k => ?_) h1, Ev.step (fun k => ?_) h2, fun hr j hj1 hj2 => ?_⟩
        · simp only [spec_IsCover.l0]; rw [if_pos hlt, if_pos (by omega), if_neg hc, if_neg hc', w1 i (by omega)]
        · simp only [impl_IsCover.l0]; rw [if_pos hlt, if_pos (by omega), if_pos hlt, if_neg hc, if_neg hc', w1 i (by omega)]
        · by_cases e : j = i
          · subst e; omega
          · exact h3 hr j (by omega) hj2
theorem wrap_small {a : Int} (h : -9223372036854775808 ≤ a) (h' : a ≤ 9223372036854775807) : wrap64 a = a := by unfold wrap64; omega
theorem mul_small {a b : Int} (h1 : 1 ≤ a) (h2 : a ≤ 6) (h3 : 1 ≤ b) (h4 : b ≤ 6) : 1 ≤ a * b ∧ a * b ≤ 36 ∧ b ≤ a * b := by
  have e : a = 1 ∨ a = 2 ∨ a = 3 ∨ a = 4 ∨ a = 5 ∨ a = 6 := by omega
  rcases e with rfl | rfl | rfl | rfl | rfl | rfl <;> omega
theorem cover_same (W H : Int) (s : ByteArray) (hs : s.size ≤ 9223372036854775806) : ∃ r : Bool, Ev (fun k => spec_IsCover.f k W H s) r ∧ Ev (fun k => impl_IsCover.f k W H s) r ∧ (r = true → Cov W H s) := by
  unfold spec_IsCover.f impl_IsCover.f spec_l1In.f impl_InRange.f
  have no : ∃ r : Bool, Ev (fun k => spec_IsCover.j0 k true W H s) r ∧ Ev (fun k => impl_IsCover.j0 k true W H s) r ∧ (r = true → Cov W H s) :=
    ⟨false, Ev.step (f := fun _ => some false) (fun k => by simp [spec_IsCover.j0]) (Ev.now _), Ev.step (f := fun _ => some false) (fun k => by simp [impl_IsCover.j0]) (Ev.now _), fun h => by cases h⟩
  by_cases h1 : inR W 1 6 = true
  · by_cases h2 : inR H 1 6 = true
    · simp only [Option.bind_some, h1, h2, if_true]
      have w1' : 1 ≤ W ∧ W ≤ 6 := by simpa [inR] using h1
      have w2' : 1 ≤ H ∧ H ≤ 6 := by simpa [inR] using h2
      have hm := mul_small w1'.1 w1'.2 w2'.1 w2'.2
      rw [wrap_small (a := W * H) (by omega) (by omega)]
      by_cases h3 : (s.size : Int) = W * H
      · obtain ⟨r, e1, e2, e3⟩ := cover_l W H s hs s.size 0 (by omega)
        have hb : ((s.size : Int) != W * H) = false := by simpa using h3
        rw [hb]
        refine ⟨r, Ev.step (fun k => ?_) e1, Ev.step (fun k => ?_) e2, fun hr => ⟨w1'.1, w1'.2, w2'.1, w2'.2, h3, fun i hi => e3 hr i (by omega) hi⟩⟩
        · simp [spec_IsCover.j0]
        · simp [impl_IsCover.j0]
      · have hb : ((s.size : Int) != W * H) = true := by simpa using h3
        rw [hb]
        exact no
    · simp only [Option.bind_some, h1, h2, if_true, if_false, Bool.false_eq_true]
      exact no
  · simp only [Option.bind_some, h1, if_false, Bool.false_eq_true]
    exact no
theorem cover_tl (W H : Int) (s : ByteArray) (hs : s.size ≤ 36) (h : ∀ j : Nat, j < s.size → 97 ≤ bt s (j : Int) ∧ bt s (j : Int) ≤ 122) (d : Nat) : ∀ i : Nat, i + d = s.size → Ev (fun k => impl_IsCover.l0 k (s.size : Int) (i : Int) W H s) true := by
  induction d with
  | zero =>
    intro i hi
    refine Ev.step (f := fun _ => some true) (fun k => ?_) (Ev.now _)
    simp only [impl_IsCover.l0]; rw [if_neg (by omega)]
  | succ d ih =>
    intro i hi
    have hlt : (i : Int) < (s.size : Int) := by omega
    have := h i (by omega)
    refine Ev.step (fun k => ?_) (ih (i + 1) (by omega))
    simp only [impl_IsCover.l0]; rw [if_pos hlt, if_pos (by omega), if_pos hlt, if_neg (by omega), if_neg (by omega), w1 i (by omega)]
theorem cover_t (W H : Int) (s : ByteArray) (h : Cov W H s) : Ev (fun k => impl_IsCover.f k W H s) true := by
  have h36 := cov_size h
  obtain ⟨a1, a2, a3, a4, a5, a6⟩ := h
  have hm := mul_small a1 a2 a3 a4
  have i1 : inR W 1 6 = true := by simp [inR]; omega
  have i2 : inR H 1 6 = true := by simp [inR]; omega
  have hb : ((s.size : Int) != W * H) = false := by simpa using a5
  unfold impl_IsCover.f impl_InRange.f
  simp only [Option.bind_some, i1, i2, if_true]
  rw [wrap_small (a := W * H) (by omega) (by omega), hb]
  refine Ev.step (fun k => ?_) (cover_tl W H s h36 a6 s.size 0 (by omega))
  simp [impl_IsCover.j0]
theorem rd_set (l : List Int) (y j : Nat) (v : Int) (hy : y < l.length) : rd (l.set y v) (j : Int) = if y = j then v else rd l (j : Int) := by
  unfold rd
  rw [Int.toNat_natCast, List.getD_eq_getElem?_getD, List.getD_eq_getElem?_getD, List.getElem?_set]
  split
  · rename_i h
    subst h
    simp [hy]
  · rfl
theorem rd_ext {a b : List Int} (hl : a.length = b.length) (h : ∀ j : Nat, j < a.length → rd a (j : Int) = rd b (j : Int)) : a = b := by
  apply List.ext_getElem hl
  intro j h1 h2
  have := h j h1
  rwa [rd_at a j h1, rd_at b j h2] at this
/-- Two cells beside, above or below one another. -/
def Adj (W : Int) (i k : Nat) : Prop := (k : Int) = i + W ∨ (i : Int) = k + W ∨ ((k : Int) = i + 1 ∧ Int.tmod (k : Int) W ≠ 0) ∨ ((i : Int) = k + 1 ∧ Int.tmod (i : Int) W ≠ 0)
theorem Adj.symm {W : Int} {i k : Nat} (h : Adj W i k) : Adj W k i := by
  rcases h with h | h | h | h
  · exact .inr (.inl h)
  · exact .inl h
  · exact .inr (.inr (.inr h))
  · exact .inr (.inr (.inl h))
theorem next_spec (W H : Int) (s : ByteArray) (hW : 1 ≤ W) (hW6 : W ≤ 6) (i k : Nat) (hi : i < 1000) (hk : k < 1000) : ∃ b : Bool, spec_l15Next.f W H s (i : Int) (k : Int) = some b ∧ (b = true ↔ Adj W i k) := by
  unfold spec_l15Next.f Adj
  rw [wrap_small (a := (k : Int) + W) (by omega) (by omega), wrap_small (a := (k : Int) + 1) (by omega) (by omega), wrap_small (a := (i : Int) + W) (by omega) (by omega), wrap_small (a := (i : Int) + 1) (by omega) (by omega)]
  by_cases h : (i : Int) > (k : Int)
  · rw [if_pos h]
    by_cases h1 : (i : Int) = k + W
    · rw [if_pos h1]; exact ⟨true, rfl, by simp [h1]⟩
    · rw [if_neg h1]
      by_cases h2 : (i : Int) = k + 1
      · rw [if_pos h2, if_neg (by omega)]
        refine ⟨_, rfl, ?_⟩
        simp only [bne_iff_ne, ne_eq]
        constructor
        · intro h3; exact .inr (.inr (.inr ⟨h2, h3⟩))
        · rintro (h3 | h3 | h3 | h3)
          · omega
          · omega
          · omega
          · exact h3.2
      · rw [if_neg h2]
        refine ⟨false, rfl, ?_⟩
        constructor
        · intro h3; cases h3
        · rintro (h3 | h3 | h3 | h3) <;> omega
  · rw [if_neg h]
    by_cases h1 : (k : Int) = i + W
    · rw [if_pos h1]; exact ⟨true, rfl, by simp [h1]⟩
    · rw [if_neg h1]
      by_cases h2 : (k : Int) = i + 1
      · rw [if_pos h2, if_neg (by omega)]
        refine ⟨_, rfl, ?_⟩
        simp only [bne_iff_ne, ne_eq]
        constructor
        · intro h3; exact .inr (.inr (.inl ⟨h2, h3⟩))
        · rintro (h3 | h3 | h3 | h3)
          · omega
          · omega
          · exact h3.2
          · omega
      · rw [if_neg h2]
        refine ⟨false, rfl, ?_⟩
        constructor
        · intro h3; cases h3
        · rintro (h3 | h3 | h3 | h3) <;> omega
/-- One letter, side by side. -/
def Edge (W : Int) (s : ByteArray) (i k : Nat) : Prop := i < s.size ∧ k < s.size ∧ Adj W i k ∧ bt s (i : Int) = bt s (k : Int)
theorem Edge.symm {W : Int} {s : ByteArray} {i k : Nat} (h : Edge W s i k) : Edge W s k i := ⟨h.2.1, h.1, h.2.2.1.symm, h.2.2.2.symm⟩
inductive Conn (W : Int) (s : ByteArray) (a : Nat) : Nat → Prop
  | refl : Conn W s a a
  | step {j k : Nat} : Conn W s a j → Edge W s j k → Conn W s a k
theorem Conn.trans {W : Int} {s : ByteArray} {a b c : Nat} (h : Conn W s a b) (k : Conn W s b c) : Conn W s a c := by
  induction k with
  | refl => exact h
  | step _ e ih => exact ih.step e
theorem Conn.symm {W : Int} {s : ByteArray} {a b : Nat} (h : Conn W s a b) : Conn W s b a := by
  induction h with
  | refl => exact .refl
  | step _ e ih => exact (Conn.refl.step e.symm).trans ih
theorem Conn.letter {W : Int} {s : ByteArray} {a b : Nat} (h : Conn W s a b) : bt s (a : Int) = bt s (b : Int) := by
  induction h with
  | refl => rfl
  | step _ e ih => exact ih.trans e.2.2.2
theorem Conn.lt {W : Int} {s : ByteArray} {a b : Nat} (h : Conn W s a b) (ha : a < s.size) : b < s.size := by
  induction h with
  | refl => exact ha
  | step _ e _ => exact e.2.1
/-- m is the least cell of j's region. -/
def Root (W : Int) (s : ByteArray) (j m : Nat) : Prop := Conn W s m j ∧ ∀ l, Conn W s l j → m ≤ l
theorem Root.uniq {W : Int} {s : ByteArray} {j m m' : Nat} (h : Root W s j m) (h' : Root W s j m') : m = m' := Nat.le_antisymm (h.2 _ h'.1) (h'.2 _ h.1)
theorem Root.conn {W : Int} {s : ByteArray} {i j m : Nat} (h : Root W s i m) (c : Conn W s i j) : Root W s j m := ⟨h.1.trans c, fun l hl => h.2 l (hl.trans c.symm)⟩
theorem Root.self {W : Int} {s : ByteArray} {j m : Nat} (h : Root W s j m) : Root W s m m := h.conn h.1.symm
theorem Root.le {W : Int} {s : ByteArray} {j m : Nat} (h : Root W s j m) : m ≤ j := h.2 j .refl
theorem least (Q : Nat → Prop) : ∀ n, Q n → ∃ m, Q m ∧ ∀ l, Q l → m ≤ l := by
  intro n
  induction n using Nat.strongRecOn with
  | _ n ih =>
    intro hn
    by_cases h : ∃ l, Q l ∧ l < n
    · obtain ⟨l, hl, hlt⟩ := h
      exact ih l hlt hl
    · exact ⟨n, hn, fun l hl => Nat.le_of_not_lt fun hlt => h ⟨l, hl, hlt⟩⟩
theorem Root.exists (W : Int) (s : ByteArray) (j : Nat) : ∃ m, Root W s j m := least (fun l => Conn W s l j) j .refl
/-- The list of the regions' numbers. -/
def IsReg (W : Int) (s : ByteArray) (N : List Int) : Prop := N.length = s.size ∧ ∀ j : Nat, j < s.size → ∃ m : Nat, rd N (j : Int) = (m : Int) ∧ Root W s j m
theorem IsReg.uniq {W : Int} {s : ByteArray} {N N' : List Int} (h : IsReg W s N) (h' : IsReg W s N') : N = N' := by
  refine rd_ext (h.1.trans h'.1.symm) fun j hj => ?_
  rw [h.1] at hj
  obtain ⟨m, e, r⟩ := h.2 j hj
  obtain ⟨m', e', r'⟩ := h'.2 j hj
  rw [e, e', r.uniq r']
/-! the reference's numbers -/
section
variable (W H : Int) (s : ByteArray)
def Inv (x : List Int) : Prop := x.length = s.size ∧ ∀ j : Nat, j < s.size → ∃ m : Nat, rd x (j : Int) = (m : Int) ∧ m ≤ j ∧ Conn W s m j
def total (x : List Int) : Nat := (x.map Int.toNat).sum
theorem total_set : ∀ (x : List Int) (i : Nat) (v : Int), i < x.length → 0 ≤ v → v < rd x (i : Int) → total (x.set i v) < total x
  | [], i, v, h, _, _ => by simp at h
  | a :: t, 0, v, _, h0, h => by
    have : rd (a :: t) ((0 : Nat) : Int) = a := rfl
    rw [this] at h
    simp only [List.set_cons_zero, total, List.map_cons, List.sum_cons]
    omega
  | a :: t, i + 1, v, hl, h0, h => by
    have e : rd (a :: t) ((i + 1 : Nat) : Int) = rd t (i : Int) := by
      unfold rd
      rw [Int.toNat_natCast, Int.toNat_natCast]
      simp
    rw [e] at h
    have := total_set t i v (by simpa using hl) h0 h
    simp only [List.set_cons_succ, total, List.map_cons, List.sum_cons] at this ⊢
    omega
/-- Nothing more is to be handed on. -/
def Quiet (x : List Int) (i k : Nat) : Prop := ¬ (Adj W i k ∧ bt s (i : Int) = bt s (k : Int) ∧ rd x (k : Int) < rd x (i : Int))
theorem Inv.set {x : List Int} (h : Inv W s x) {i k : Nat} (hi : i < s.size) (hk : k < s.size) (ha : Adj W i k) (hb : bt s (i : Int) = bt s (k : Int)) (hlt : rd x (k : Int) < rd x (i : Int)) : Inv W s (x.set i (rd x (k : Int))) := by
  refine ⟨by simpa using h.1, fun j hj => ?_⟩
  rw [rd_set x i j _ (by rw [h.1]; exact hi)]
  split
  · rename_i e
    subst e
    obtain ⟨m, e1, h1, h2⟩ := h.2 k hk
    obtain ⟨m', e1', h1', h2'⟩ := h.2 i hi
    exact ⟨m, e1, by omega, h2.step ⟨hk, hi, ha.symm, hb.symm⟩⟩
  · exact h.2 j hj
theorem fix_reg {x : List Int} (h : Inv W s x) (hq : ∀ i k : Nat, i < s.size → k < s.size → Quiet W s x i k) : IsReg W s x := by
  refine ⟨h.1, fun j hj => ?_⟩
  have edge : ∀ i k : Nat, Edge W s i k → rd x (i : Int) = rd x (k : Int) := by
    intro i k e
    have h1 := hq i k e.1 e.2.1
    have h2 := hq k i e.2.1 e.1
    unfold Quiet at h1 h2
    have h1' : ¬ rd x (k : Int) < rd x (i : Int) := fun hc => h1 ⟨e.2.2.1, e.2.2.2, hc⟩
    have h2' : ¬ rd x (i : Int) < rd x (k : Int) := fun hc => h2 ⟨e.2.2.1.symm, e.2.2.2.symm, hc⟩
    omega
  have conn : ∀ a b : Nat, Conn W s a b → rd x (a : Int) = rd x (b : Int) := by
    intro a b c
    induction c with
    | refl => rfl
    | step _ e ih => exact ih.trans (edge _ _ e)
  obtain ⟨m, e1, h1, h2⟩ := h.2 j hj
  refine ⟨m, e1, h2, fun l hl => ?_⟩
  have hls : l < s.size := (hl.symm).lt hj
  obtain ⟨m', e1', h1', _⟩ := h.2 l hls
  have := conn l j hl
  omega
theorem num_l3 (hs : s.size ≤ 36) (hW : 1 ≤ W) (hW6 : W ≤ 6) (x0 : List Int) (N : List Int) (i : Nat) (hi : i < s.size)
    (next : ∀ (x : List Int) (again : Bool), Inv W s x → (again = true → total x < total x0) → (again = false → x = x0 ∧ ∀ i' k' : Nat, i' ≤ i → k' < s.size → Quiet W s x i' k') → Ev (fun k => spec_l15Numbers.l2 k x again ((i + 1 : Nat) : Int) W H s) N) (d : Nat) :
    ∀ (c : Nat) (x : List Int) (again : Bool), c + d = s.size → Inv W s x → total x ≤ total x0 → (again = true → total x < total x0) → (again = false → x = x0 ∧ (∀ i' k' : Nat, i' < i → k' < s.size → Quiet W s x i' k') ∧ ∀ k' : Nat, k' < c → Quiet W s x i k') →
      Ev (fun k => spec_l15Numbers.l3 k x again (i : Int) (c : Int) W H s) N := by
  induction d with
  | zero =>
    intro c x again hc hI ht h1 h2
    have := next x again hI h1 (fun ha => by
      obtain ⟨e, q1, q2⟩ := h2 ha
      refine ⟨e, fun i' k' hi' hk' => ?_⟩
      by_cases e' : i' = i
      · subst e'; exact q2 k' (by omega)
      · exact q1 i' k' (by omega) hk')
    refine Ev.step (fun k => ?_) this
    simp only [spec_l15Numbers.l3]
    rw [if_neg (by rw [hI.1]; omega), w1 i (by omega)]
  | succ d ih =>
    intro c x again hc hI ht h1 h2
    have hcs : c < s.size := by omega
    obtain ⟨b, eb, hb⟩ := next_spec W H s hW hW6 i c (by omega) (by omega)
    have skip : Quiet W s x i c → Ev (fun k => spec_l15Numbers.l3 k x again (i : Int) ((c + 1 : Nat) : Int) W H s) N := fun hq =>
      ih (c + 1) x again (by omega) hI ht h1 (fun ha => by
        obtain ⟨e, q1, q2⟩ := h2 ha
        refine ⟨e, q1, fun k' hk' => ?_⟩
        by_cases e' : k' = c
        · subst e'; exact hq
        · exact q2 k' (by omega))
    cases b with
    | false =>
      have hn : ¬ Adj W i c := fun h => by have := hb.2 h; cases this
      refine Ev.step (fun k => ?_) (skip (fun h => hn h.1))
      simp only [spec_l15Numbers.l3]
      rw [if_pos (by rw [hI.1]; omega), eb]
      simp only [Option.bind_some, Bool.false_eq_true, if_false]
      rw [w1 c (by omega)]
    | true =>
      have ha : Adj W i c := hb.1 rfl
      by_cases hl : bt s (i : Int) = bt s (c : Int)
      · by_cases hlt : rd x (c : Int) < rd x (i : Int)
        · have hI' := hI.set W s hi hcs ha hl hlt
          obtain ⟨m, em, _, _⟩ := hI.2 c hcs
          have htt := total_set x i (rd x (c : Int)) (by rw [hI.1]; exact hi) (by omega) hlt
          have := ih (c + 1) (x.set i (rd x (c : Int))) true (by omega) hI' (by omega) (fun _ => by omega) (fun h => by cases h)
          refine Ev.step (fun k => ?_) this
          simp only [spec_l15Numbers.l3]
          rw [if_pos (by rw [hI.1]; omega), eb]
          simp only [Option.bind_some, if_true]
          rw [if_pos (by omega), if_pos (by omega), if_pos (by omega), if_pos (by omega), if_pos hl, if_pos (by rw [hI.1]; omega), if_pos hlt, w1 c (by omega), Int.toNat_natCast]
        · refine Ev.step (fun k => ?_) (skip (fun h => hlt h.2.2))
          simp only [spec_l15Numbers.l3]
          rw [if_pos (by rw [hI.1]; omega), eb]
          simp only [Option.bind_some, if_true]
          rw [if_pos (by omega), if_pos (by omega), if_pos (by omega), if_pos (by omega), if_pos hl, if_pos (by rw [hI.1]; omega), if_neg hlt, w1 c (by omega)]
      · refine Ev.step (fun k => ?_) (skip (fun h => hl h.2.1))
        simp only [spec_l15Numbers.l3]
        rw [if_pos (by rw [hI.1]; omega), eb]
        simp only [Option.bind_some, if_true]
        rw [if_pos (by omega), if_pos (by omega), if_pos (by omega), if_pos (by omega), if_neg hl, w1 c (by omega)]
theorem num_l2 (hs : s.size ≤ 36) (hW : 1 ≤ W) (hW6 : W ≤ 6) (x0 : List Int) (N : List Int)
    (next : ∀ (x : List Int) (again : Bool), Inv W s x → (again = true → total x < total x0) → (again = false → x = x0 ∧ ∀ i' k' : Nat, i' < s.size → k' < s.size → Quiet W s x i' k') → Ev (fun k => spec_l15Numbers.l1 k x again W H s) N) (d : Nat) :
    ∀ (i : Nat) (x : List Int) (again : Bool), i + d = s.size → Inv W s x → total x ≤ total x0 → (again = true → total x < total x0) → (again = false → x = x0 ∧ ∀ i' k' : Nat, i' < i → k' < s.size → Quiet W s x i' k') →
      Ev (fun k => spec_l15Numbers.l2 k x again (i : Int) W H s) N := by
  induction d with
  | zero =>
    intro i x again hi hI ht h1 h2
    refine Ev.step (fun k => ?_) (next x again hI h1 (fun ha => ⟨(h2 ha).1, fun i' k' hi' hk' => (h2 ha).2 i' k' (by omega) hk'⟩))
    simp only [spec_l15Numbers.l2]
    rw [if_neg (by rw [hI.1]; omega)]
  | succ d ih =>
    intro i x again hi hI ht h1 h2
    have := num_l3 W H s hs hW hW6 x0 N i (by omega) (fun x' again' hI' h1' h2' => ih (i + 1) x' again' (by omega) hI' (by
        cases again' with
        | true => exact Nat.le_of_lt (h1' rfl)
        | false => rw [(h2' rfl).1]; exact Nat.le_refl _) h1' (fun ha => ⟨(h2' ha).1, fun i' k' hi' hk' => (h2' ha).2 i' k' (by omega) hk'⟩)) s.size 0 x again (by omega) hI ht h1 (fun ha => ⟨(h2 ha).1, (h2 ha).2, fun k' hk' => by omega⟩)
    refine Ev.step (fun k => ?_) this
    simp only [spec_l15Numbers.l2]
    rw [if_pos (by rw [hI.1]; omega)]
    rfl
theorem num_l1 (hs : s.size ≤ 36) (hW : 1 ≤ W) (hW6 : W ≤ 6) (N : List Int) (hN : IsReg W s N) (n : Nat) : ∀ (x : List Int), total x = n → Inv W s x → Ev (fun k => spec_l15Numbers.l1 k x true W H s) N := by
  induction n using Nat.strongRecOn with
  | _ n ih =>
    intro x hx hI
    have := num_l2 W H s hs hW hW6 x N (fun x' again' hI' h1' h2' => by
      cases again' with
      | true => exact ih (total x') (by have := h1' rfl; omega) x' rfl hI'
      | false =>
        obtain ⟨_, q⟩ := h2' rfl
        rw [hN.uniq (fix_reg W s hI' q)]
        exact Ev.step (f := fun _ => some x') (fun k => by simp [spec_l15Numbers.l1]) (Ev.now _)) s.size 0 x false (by omega) hI (Nat.le_refl _) (fun h => by cases h) (fun _ => ⟨rfl, fun i' k' hi' _ => by omega⟩)
    refine Ev.step (fun k => ?_) this
    simp only [spec_l15Numbers.l1]
    rw [if_pos trivial]
    rfl
theorem num_l0 (hs : s.size ≤ 36) (N : List Int) (h : ∀ x : List Int, x.length = s.size → (∀ j : Nat, j < s.size → rd x (j : Int) = (j : Int)) → Ev (fun k => spec_l15Numbers.l1 k x true W H s) N) (d : Nat) :
    ∀ (x : List Int), x.length + d = s.size → (∀ j : Nat, j < x.length → rd x (j : Int) = (j : Int)) → Ev (fun k => spec_l15Numbers.l0 k x (x.length : Int) W H s) N := by
  induction d with
  | zero =>
    intro x hx hj
    refine Ev.step (fun k => ?_) (h x (by omega) (fun j h' => hj j (by omega)))
    simp only [spec_l15Numbers.l0]
    rw [if_neg (by omega)]
  | succ d ih =>
    intro x hx hj
    have := ih (x ++ [(x.length : Int)]) (by simp; omega) (fun j h' => by
      simp at h'
      by_cases e : j < x.length
      · have h2 := hj j e
        rw [rd_at _ j (by simp; omega), List.getElem_append_left e, ← rd_at x j e]
        exact h2
      · have : j = x.length := by omega
        subst this
        rw [rd_at _ _ (by simp)]
        simp)
    refine Ev.step (fun k => ?_) this
    simp only [spec_l15Numbers.l0]
    rw [if_pos (by omega), if_pos (by omega), w1 x.length (by omega)]
    simp
theorem numbers (hs : s.size ≤ 36) (hW : 1 ≤ W) (hW6 : W ≤ 6) (N : List Int) (hN : IsReg W s N) : Ev (fun k => spec_l15Numbers.f k W H s) N := by
  unfold spec_l15Numbers.f
  refine num_l0 W H s hs N (fun x hx hj => num_l1 W H s hs hW hW6 N hN (total x) x rfl ⟨hx, fun j h => ⟨j, hj j h, Nat.le_refl _, .refl⟩⟩) s.size [] (by simp) (fun j h => by simp at h)
end
/-! the program's flood -/
section
variable (W H : Int) (s : ByteArray)
def besideL (x : Int) : List Int := (if x ≥ W then [x - W] else []) ++ ((if Int.tmod x W > 0 then [x - 1] else []) ++ ((if Int.tmod x W < W - 1 then [x + 1] else []) ++ (if x + W < W * H then [x + W] else [])))
theorem beside_j1 (hc : Cov W H s) (x : Int) (h0 : 0 ≤ x) (h1 : x < 1000) (l : List Int) (hl : l.length ≤ 10) : Ev (fun k => impl_beside.j1 k x l W H s) (l ++ ((if Int.tmod x W < W - 1 then [x + 1] else []) ++ (if x + W < W * H then [x + W] else []))) := by
  obtain ⟨w1', w2, w3, w4, w5, _⟩ := hc
  have hm := mul_small w1' w2 w3 w4
  refine Ev.step (f := fun _ => some (l ++ ((if Int.tmod x W < W - 1 then [x + 1] else []) ++ (if x + W < W * H then [x + W] else [])))) (fun k => ?_) (Ev.now _)
  have hl1 : l.length < 17592186044416 := by omega
  have hl2 : (l ++ [x + 1]).length < 17592186044416 := by simp; omega
  simp only [impl_beside.j1]
  rw [if_neg (by omega), wrap_small (a := W - 1) (by omega) (by omega), wrap_small (a := x + 1) (by omega) (by omega), wrap_small (a := x + W) (by omega) (by omega), wrap_small (a := W * H) (by omega) (by omega)]
  by_cases c1 : Int.tmod x W < W - 1
  · by_cases c2 : x + W < W * H
    · simp only [if_pos c1, if_pos c2, if_pos hl1, Option.bind_some, if_pos hl2]
      simp
    · simp only [if_pos c1, if_neg c2, if_pos hl1, Option.bind_some]
      simp
  · by_cases c2 : x + W < W * H
    · simp only [if_neg c1, if_pos c2, if_pos hl1]
      simp
    · simp only [if_neg c1, if_neg c2]
      simp
theorem beside_j0 (hc : Cov W H s) (x : Int) (h0 : 0 ≤ x) (h1 : x < 1000) (l : List Int) (hl : l.length ≤ 5) : Ev (fun k => impl_beside.j0 k x l W H s) (l ++ ((if Int.tmod x W > 0 then [x - 1] else []) ++ ((if Int.tmod x W < W - 1 then [x + 1] else []) ++ (if x + W < W * H then [x + W] else [])))) := by
  have hW := hc.1
  by_cases c : Int.tmod x W > 0
  · have := beside_j1 W H s hc x h0 h1 (l ++ [x - 1]) (by simp; omega)
    rw [if_pos c]
    rw [List.append_assoc] at this
    refine Ev.step (fun k => ?_) this
    simp only [impl_beside.j0]
    rw [if_neg (by omega), if_pos c, if_pos (by omega), wrap_small (a := x - 1) (by omega) (by omega)]
  · have := beside_j1 W H s hc x h0 h1 l (by omega)
    rw [if_neg c, List.nil_append]
    refine Ev.step (fun k => ?_) this
    simp only [impl_beside.j0]
    rw [if_neg (by omega), if_neg c]
theorem beside_f (hc : Cov W H s) (x : Int) (h0 : 0 ≤ x) (h1 : x < 1000) : Ev (fun k => impl_beside.f k W H s x) (besideL W H x) := by
  have hW := hc.1
  have hW6 := hc.2.1
  unfold impl_beside.f besideL
  simp only [Option.bind_some]
  by_cases c : x ≥ W
  · simp only [if_pos c, List.length_nil, List.nil_append]
    rw [wrap_small (a := x - W) (by omega) (by omega)]
    simp only [if_pos (show (0 : Nat) < 17592186044416 by omega)]
    exact beside_j0 W H s hc x h0 h1 [x - W] (by simp)
  · simp only [if_neg c, List.nil_append]
    exact beside_j0 W H s hc x h0 h1 [] (by simp)
theorem beside_mem (hc : Cov W H s) (x : Nat) (hx : x < s.size) (y : Int) : y ∈ besideL W H (x : Int) ↔ ∃ k : Nat, y = (k : Int) ∧ k < s.size ∧ Adj W x k := by
  obtain ⟨w1', w2, w3, w4, w5, _⟩ := hc
  unfold besideL Adj
  have tm : ∀ z : Nat, Int.tmod (z : Int) W = (z : Int) % W := fun z => Int.tmod_eq_emod_of_nonneg (by omega)
  rw [tm x]
  simp only [tm, List.mem_append]
  have e : W = 1 ∨ W = 2 ∨ W = 3 ∨ W = 4 ∨ W = 5 ∨ W = 6 := by omega
  constructor
  · rintro (h | h | h | h)
    · split at h
      · rw [List.mem_singleton] at h
        exact ⟨x - W.toNat, by omega, by omega, .inr (.inl (by omega))⟩
      · cases h
    · split at h
      · rename_i c
        rw [List.mem_singleton] at h
        have : 0 < x := by rcases e with rfl | rfl | rfl | rfl | rfl | rfl <;> omega
        exact ⟨x - 1, by omega, by omega, .inr (.inr (.inr ⟨by omega, by omega⟩))⟩
      · cases h
    · split at h
      · rename_i c
        rw [List.mem_singleton] at h
        refine ⟨x + 1, by omega, ?_, .inr (.inr (.inl ⟨by omega, ?_⟩))⟩
        · rcases e with rfl | rfl | rfl | rfl | rfl | rfl <;> omega
        · rcases e with rfl | rfl | rfl | rfl | rfl | rfl <;> omega
      · cases h
    · split at h
      · rw [List.mem_singleton] at h
        exact ⟨x + W.toNat, by omega, by omega, .inl (by omega)⟩
      · cases h
  · rintro ⟨k, rfl, hk, (h | h | ⟨h, h'⟩ | ⟨h, h'⟩)⟩
    · right; right; right
      rw [if_pos (by omega), List.mem_singleton]
      exact h
    · left
      rw [if_pos (by omega), List.mem_singleton]
      omega
    · right; right; left
      rw [if_pos (by rcases e with rfl | rfl | rfl | rfl | rfl | rfl <;> omega), List.mem_singleton]
      exact h
    · right; left
      rw [if_pos (by rcases e with rfl | rfl | rfl | rfl | rfl | rfl <;> omega), List.mem_singleton]
      omega
theorem beside_len (x : Int) : (besideL W H x).length ≤ 4 := by
  unfold besideL
  (repeat' split) <;> simp
def cnt (x : List Int) : Nat := (x.filter (fun v => decide (v = -1))).length
theorem cnt_set : ∀ (x : List Int) (y : Nat) (v : Int), y < x.length → rd x (y : Int) = -1 → v ≠ -1 → cnt (x.set y v) + 1 = cnt x
  | [], y, v, h, _, _ => by simp at h
  | a :: t, 0, v, _, h, hv => by
    have : rd (a :: t) ((0 : Nat) : Int) = a := rfl
    rw [this] at h
    subst h
    simp [cnt, hv]
  | a :: t, y + 1, v, hl, h, hv => by
    have e : rd (a :: t) ((y + 1 : Nat) : Int) = rd t (y : Int) := by
      unfold rd
      rw [Int.toNat_natCast, Int.toNat_natCast]
      simp
    rw [e] at h
    have := cnt_set t y v (by simpa using hl) h hv
    simp only [cnt, List.set_cons_succ, List.filter_cons] at this ⊢
    split <;> simp_all <;> omega
theorem cnt_le (x : List Int) : cnt x ≤ x.length := List.length_filter_le _ _
def Vals (i : Nat) (x : List Int) : Prop := x.length = s.size ∧ (∀ j : Nat, j < s.size → rd x (j : Int) = -1 ∨ ∃ m : Nat, rd x (j : Int) = (m : Int) ∧ Root W s j m) ∧ ∀ j m : Nat, j < s.size → Root W s j m → m < i → rd x (j : Int) = (m : Int)
def Closed (x : List Int) : Prop := ∀ j k : Nat, Edge W s j k → rd x (j : Int) = rd x (k : Int)
/-- P tells for which cells an edge may still lead to a cell without a number. -/
def Near (i : Nat) (x : List Int) (P : Nat → Nat → Prop) : Prop := ∀ j k : Nat, Edge W s j k → rd x (j : Int) = rd x (k : Int) ∨ (rd x (j : Int) = (i : Int) ∧ P j k ∧ rd x (k : Int) = -1) ∨ (rd x (k : Int) = (i : Int) ∧ P k j ∧ rd x (j : Int) = -1)
theorem closed_conn {x : List Int} (h : Closed W s x) {a b : Nat} (c : Conn W s a b) : rd x (a : Int) = rd x (b : Int) := by
  induction c with
  | refl => rfl
  | step _ e ih => exact ih.trans (h _ _ e)
theorem vals_next {i : Nat} {x : List Int} (h : Vals W s i x) (hc : Closed W s x) (hi : i < s.size) (hx : rd x (i : Int) ≠ -1) : Vals W s (i + 1) x := by
  refine ⟨h.1, h.2.1, fun j m hj hr hm => ?_⟩
  by_cases e : m = i
  · subst e
    rcases h.2.1 m hi with h1 | ⟨m', h1, h2⟩
    · exact absurd h1 hx
    · rw [← closed_conn W s hc hr.1, h1, h2.uniq hr.self]
  · exact h.2.2 j m hj hr (by omega)
theorem fill_l3 (hc : Cov W H s) (N : List Int) (i c : Nat) (hi : i < s.size) (hcs : c < s.size) (t : List Int) (ht : ∀ y, y ∈ t ↔ ∃ k : Nat, y = (k : Int) ∧ k < s.size ∧ Adj W c k) (htl : t.length ≤ 4) (B : Nat) (hB : B ≤ 1000)
    (next : ∀ (x o : List Int), Vals W s i x → Near W s i x (fun j _ => (j : Int) ∈ o) → rd x (i : Int) = (i : Int) → (∀ y ∈ o, ∃ j : Nat, y = (j : Int) ∧ j < s.size ∧ rd x (j : Int) = (i : Int)) → 2 * cnt x + o.length ≤ B → Ev (fun k => impl_regions.l2 k x (i : Int) o (s.size : Int) (i : Int) W H s) N) (d : Nat) :
    ∀ (p : Nat) (x o : List Int), p + d = t.length → Vals W s i x → Near W s i x (fun j k => (j : Int) ∈ o ∨ (j = c ∧ (k : Int) ∈ t.drop p)) → rd x (i : Int) = (i : Int) → rd x (c : Int) = (i : Int) → (∀ y ∈ o, ∃ j : Nat, y = (j : Int) ∧ j < s.size ∧ rd x (j : Int) = (i : Int)) → 2 * cnt x + o.length ≤ B →
      Ev (fun k => impl_regions.l3 k x (i : Int) o (s.size : Int) (i : Int) t (t.length : Int) (p : Int) W H s) N := by
  have h36 := cov_size hc
  induction d with
  | zero =>
    intro p x o hp hv hn hxi hxc ho hm
    have e : t.drop p = [] := List.drop_of_length_le (by omega)
    have hn' : Near W s i x (fun j _ => (j : Int) ∈ o) := by
      intro j k he
      rcases hn j k he with h | ⟨a, b, c'⟩ | ⟨a, b, c'⟩
      · exact .inl h
      · rw [e] at b
        exact .inr (.inl ⟨a, by simpa using b, c'⟩)
      · rw [e] at b
        exact .inr (.inr ⟨a, by simpa using b, c'⟩)
    refine Ev.step (fun k => ?_) (next x o hv hn' hxi ho hm)
    simp only [impl_regions.l3]
    rw [if_neg (by omega)]
  | succ d ih =>
    intro p x o hp hv hn hxi hxc ho hm
    have hpt : p < t.length := by omega
    have ed := List.drop_eq_getElem_cons hpt
    obtain ⟨y, ey, hy, hadj⟩ := (ht t[p]).1 (List.getElem_mem hpt)
    have hlen := hv.1
    have hcroot : Root W s c i := by
      rcases hv.2.1 c hcs with h | ⟨m, h, hr⟩
      · rw [hxc] at h; omega
      · rw [hxc] at h
        have : m = i := by omega
        rw [← this]; exact hr
    have hlet : bt s (c : Int) = bt s (i : Int) := hcroot.1.letter.symm
    -- nothing is turned
    have stay : ¬ (rd x (y : Int) = -1 ∧ bt s (y : Int) = bt s (i : Int)) → Ev (fun k => impl_regions.l3 k x (i : Int) o (s.size : Int) (i : Int) t (t.length : Int) ((p + 1 : Nat) : Int) W H s) N := by
      intro hno
      refine ih (p + 1) x o (by omega) hv ?_ hxi hxc ho hm
      intro j k he
      have strip : ∀ a b : Nat, Edge W s a b → rd x (b : Int) = -1 → ((a : Int) ∈ o ∨ (a = c ∧ (b : Int) ∈ t.drop p)) → ((a : Int) ∈ o ∨ (a = c ∧ (b : Int) ∈ t.drop (p + 1))) := by
        intro a b hab hb hor
        rcases hor with h | ⟨h1, h2⟩
        · exact .inl h
        · rw [ed] at h2
          rcases List.mem_cons.1 h2 with h3 | h3
          · rw [ey] at h3
            have : b = y := by omega
            subst this
            subst h1
            exact absurd ⟨hb, by rw [← hab.2.2.2, hlet]⟩ hno
          · exact .inr ⟨h1, h3⟩
      rcases hn j k he with h | ⟨a, b, c'⟩ | ⟨a, b, c'⟩
      · exact .inl h
      · exact .inr (.inl ⟨a, strip j k he c' b, c'⟩)
      · exact .inr (.inr ⟨a, strip k j he.symm c' b, c'⟩)
    have erd : rd t (p : Int) = (y : Int) := by rw [rd_at t p hpt, ey]
    by_cases hneg : rd x (y : Int) < 0
    · have hm1 : rd x (y : Int) = -1 := by
        rcases hv.2.1 y hy with h | ⟨m, h, _⟩
        · exact h
        · omega
      by_cases hb : bt s (y : Int) = bt s (i : Int)
      · have hedge : Edge W s c y := ⟨hcs, hy, hadj, by rw [hlet, hb]⟩
        have hyroot : Root W s y i := hcroot.conn (Conn.refl.step hedge)
        have hset : ∀ j : Nat, rd (x.set y (i : Int)) (j : Int) = if y = j then (i : Int) else rd x (j : Int) := fun j => rd_set x y j _ (by rw [hlen]; exact hy)
        have hcnt := cnt_set x y (i : Int) (by rw [hlen]; exact hy) hm1 (by omega)
        have hyi : y ≠ i := by intro e; subst e; omega
        have hyc : y ≠ c := by intro e; subst e; omega
        have := ih (p + 1) (x.set y (i : Int)) (o ++ [(y : Int)]) (by omega) (by
          refine ⟨by simpa using hlen, fun j hj => ?_, fun j m hj hr hmi => ?_⟩
          · rw [hset j]
            split
            · rename_i e; subst e; exact .inr ⟨i, rfl, hyroot⟩
            · exact hv.2.1 j hj
          · rw [hset j]
            split
            · rename_i e; subst e
              have := hr.uniq hyroot
              omega
            · exact hv.2.2 j m hj hr hmi) (by
          intro j k he
          have aux : ∀ a b : Nat, Edge W s a b → rd (x.set y (i : Int)) (a : Int) = rd (x.set y (i : Int)) (b : Int) ∨ (rd (x.set y (i : Int)) (a : Int) = (i : Int) ∧ ((a : Int) ∈ o ++ [(y : Int)] ∨ (a = c ∧ (b : Int) ∈ t.drop (p + 1))) ∧ rd (x.set y (i : Int)) (b : Int) = -1) ∨ (rd (x.set y (i : Int)) (b : Int) = (i : Int) ∧ ((b : Int) ∈ o ++ [(y : Int)] ∨ (b = c ∧ (a : Int) ∈ t.drop (p + 1))) ∧ rd (x.set y (i : Int)) (a : Int) = -1) := by
            intro a b hab
            have lift : ∀ u v : Nat, y ≠ v → ((u : Int) ∈ o ∨ (u = c ∧ (v : Int) ∈ t.drop p)) → ((u : Int) ∈ o ++ [(y : Int)] ∨ (u = c ∧ (v : Int) ∈ t.drop (p + 1))) := by
              intro u v hyv hor
              rcases hor with h | ⟨h1, h2⟩
              · exact .inl (List.mem_append_left _ h)
              · rw [ed, ey] at h2
                rcases List.mem_cons.1 h2 with h3 | h3
                · exact absurd (by omega : y = v) hyv
                · exact .inr ⟨h1, h3⟩
            rw [hset a, hset b]
            by_cases ea : y = a
            · subst ea
              rw [if_pos rfl]
              by_cases eb : y = b
              · subst eb; rw [if_pos rfl]; exact .inl rfl
              · rw [if_neg eb]
                rcases hn y b hab with h | ⟨h, _, _⟩ | ⟨h, _, _⟩
                · exact .inr (.inl ⟨rfl, .inl (List.mem_append_right _ (List.mem_singleton.2 rfl)), by omega⟩)
                · omega
                · exact .inl h.symm
            · rw [if_neg ea]
              by_cases eb : y = b
              · subst eb
                rw [if_pos rfl]
                rcases hn a y hab with h | ⟨h, _, _⟩ | ⟨h, _, _⟩
                · exact .inr (.inr ⟨rfl, .inl (List.mem_append_right _ (List.mem_singleton.2 rfl)), by omega⟩)
                · exact .inl h
                · omega
              · rw [if_neg eb]
                rcases hn a b hab with h | ⟨h, h2, h3⟩ | ⟨h, h2, h3⟩
                · exact .inl h
                · exact .inr (.inl ⟨h, lift a b eb h2, h3⟩)
                · exact .inr (.inr ⟨h, lift b a ea h2, h3⟩)
          exact aux j k he) (by rw [hset i, if_neg hyi]; exact hxi) (by rw [hset c, if_neg hyc]; exact hxc) (by
          intro z hz
          rcases List.mem_append.1 hz with hz | hz
          · obtain ⟨j, e1, e2, e3⟩ := ho z hz
            refine ⟨j, e1, e2, ?_⟩
            rw [hset j]
            split
            · rfl
            · exact e3
          · rw [List.mem_singleton] at hz
            exact ⟨y, hz, hy, by rw [hset y, if_pos rfl]⟩) (by simp only [List.length_append, List.length_cons, List.length_nil]; omega)
        refine Ev.step (fun k => ?_) this
        simp only [impl_regions.l3]
        rw [if_pos (by omega), if_pos (by omega), if_pos (by omega), erd, if_pos (by omega), if_pos (by omega), if_pos hneg, if_pos (by omega), if_pos (by omega), if_pos (by omega), if_pos hb, if_pos (by omega), w1 p (by omega), Int.toNat_natCast]
      · refine Ev.step (fun k => ?_) (stay (fun h => hb h.2))
        simp only [impl_regions.l3]
        rw [if_pos (by omega), if_pos (by omega), if_pos (by omega), erd, if_pos (by omega), if_pos (by omega), if_pos hneg, if_pos (by omega), if_pos (by omega), if_pos (by omega), if_neg hb, w1 p (by omega)]
    · refine Ev.step (fun k => ?_) (stay (fun h => hneg (by omega)))
      simp only [impl_regions.l3]
      rw [if_pos (by omega), if_pos (by omega), if_pos (by omega), erd, if_pos (by omega), if_pos (by omega), if_neg hneg, w1 p (by omega)]
theorem fill_l2 (hc : Cov W H s) (N : List Int) (i : Nat) (hi : i < s.size)
    (next : ∀ x : List Int, Vals W s (i + 1) x → Closed W s x → Ev (fun k => impl_regions.l1 k x (s.size : Int) ((i + 1 : Nat) : Int) W H s) N) (n : Nat) :
    ∀ (x o : List Int), 2 * cnt x + o.length = n → n ≤ 1000 → Vals W s i x → Near W s i x (fun j _ => (j : Int) ∈ o) → rd x (i : Int) = (i : Int) → (∀ y ∈ o, ∃ j : Nat, y = (j : Int) ∧ j < s.size ∧ rd x (j : Int) = (i : Int)) →
      Ev (fun k => impl_regions.l2 k x (i : Int) o (s.size : Int) (i : Int) W H s) N := by
  have h36 := cov_size hc
  induction n using Nat.strongRecOn with
  | _ n ih =>
    intro x o hn hn1 hv hnear hxi ho
    rcases List.eq_nil_or_concat o with rfl | ⟨o', z, eo⟩
    · have hcl : Closed W s x := by
        intro j k he
        rcases hnear j k he with h | ⟨_, h, _⟩ | ⟨_, h, _⟩
        · exact h
        · simp at h
        · simp at h
      refine Ev.step (fun k => ?_) (next x (vals_next W s hv hcl hi (by omega)) hcl)
      simp only [impl_regions.l2]
      rw [if_neg (by simp), w1 i (by omega)]
    · have eo' : o = o' ++ [z] := by rw [eo]; first | rfl | exact List.concat_eq_append
      subst eo'
      obtain ⟨c, ez, hcs, hxc⟩ := ho z (by simp)
      subst ez
      have ht := beside_mem W H s hc c hcs
      simp only [List.length_append, List.length_cons, List.length_nil] at hn
      have := fill_l3 W H s hc N i c hi hcs (besideL W H (c : Int)) ht (beside_len W H _) (n - 1) (by omega) (fun x' o' a b c' d e => ih (2 * cnt x' + o'.length) (by omega) x' o' rfl (by omega) a b c' d) (besideL W H (c : Int)).length 0 x o' (by omega) hv (by
        intro j k he
        have widen : ∀ a b : Nat, Edge W s a b → (a : Int) ∈ o' ++ [(c : Int)] → ((a : Int) ∈ o' ∨ (a = c ∧ (b : Int) ∈ (besideL W H (c : Int)).drop 0)) := by
          intro a b hab hor
          rcases List.mem_append.1 hor with h | h
          · exact .inl h
          · rw [List.mem_singleton] at h
            have : a = c := by omega
            subst this
            exact .inr ⟨rfl, by rw [List.drop_zero]; exact (ht _).2 ⟨b, rfl, hab.2.1, hab.2.2.1⟩⟩
        rcases hnear j k he with h | ⟨a, b, c'⟩ | ⟨a, b, c'⟩
        · exact .inl h
        · exact .inr (.inl ⟨a, widen j k he b, c'⟩)
        · exact .inr (.inr ⟨a, widen k j he.symm b, c'⟩)) hxi hxc (fun y hy => ho y (List.mem_append_left _ hy)) (by omega)
      refine Ev.step (f := fun k => (impl_beside.f k W H s (c : Int)).bind fun t => impl_regions.l3 k x (i : Int) o' (s.size : Int) (i : Int) t (t.length : Int) 0 W H s) (fun k => ?_) (Ev.bind (beside_f W H s hc (c : Int) (by omega) (by omega)) this)
      have hlen : ((o' ++ [(c : Int)]).length : Int) = o'.length + 1 := by simp
      simp only [impl_regions.l2]
      rw [hlen, wrap_small (a := (o'.length : Int) + 1 - 1) (by omega) (by omega), if_pos (by omega), if_pos (by omega), if_pos (by omega), if_pos (by omega)]
      have e1 : (o'.length : Int) + 1 - 1 = (o'.length : Int) := by omega
      rw [e1, rd_at _ o'.length (by simp), Int.toNat_natCast]
      simp
theorem fill_l1 (hc : Cov W H s) (N : List Int) (hN : IsReg W s N) (d : Nat) : ∀ (i : Nat) (x : List Int), i + d = s.size → Vals W s i x → Closed W s x → Ev (fun k => impl_regions.l1 k x (s.size : Int) (i : Int) W H s) N := by
  have h36 := cov_size hc
  induction d with
  | zero =>
    intro i x hi hv hcl
    have hreg : IsReg W s x := ⟨hv.1, fun j hj => by
      obtain ⟨m, hr⟩ := Root.exists W s j
      exact ⟨m, hv.2.2 j m hj hr (by have := hr.le; omega), hr⟩⟩
    rw [hN.uniq hreg]
    refine Ev.step (f := fun _ => some x) (fun k => ?_) (Ev.now _)
    simp only [impl_regions.l1]
    rw [if_neg (by omega)]
  | succ d ih =>
    intro i x hi hv hcl
    have his : i < s.size := by omega
    by_cases hge : rd x (i : Int) ≥ 0
    · refine Ev.step (fun k => ?_) (ih (i + 1) x (by omega) (vals_next W s hv hcl his (by omega)) hcl)
      simp only [impl_regions.l1]
      rw [if_pos (by omega), if_pos (by omega), if_pos (by rw [hv.1]; omega), if_pos hge, w1 i (by omega)]
    · have hm1 : rd x (i : Int) = -1 := by
        rcases hv.2.1 i his with h | ⟨m, h, _⟩
        · exact h
        · omega
      have hroot : Root W s i i := by
        obtain ⟨m, hr⟩ := Root.exists W s i
        have hle := hr.le
        by_cases e : m = i
        · rw [e] at hr; exact hr
        · have := hv.2.2 i m his hr (by omega)
          omega
      have hset : ∀ j : Nat, rd (x.set i (i : Int)) (j : Int) = if i = j then (i : Int) else rd x (j : Int) := fun j => rd_set x i j _ (by rw [hv.1]; exact his)
      have hcnt := cnt_set x i (i : Int) (by rw [hv.1]; exact his) hm1 (by omega)
      have hcl' := cnt_le x
      have := fill_l2 W H s hc N i his (fun x' a b => ih (i + 1) x' (by omega) a b) (2 * cnt (x.set i (i : Int)) + 1) (x.set i (i : Int)) [(i : Int)] (by simp) (by have := hv.1; omega) (by
        refine ⟨by simpa using hv.1, fun j hj => ?_, fun j m hj hr hmi => ?_⟩
        · rw [hset j]
          split
          · rename_i e; subst e; exact .inr ⟨i, rfl, hroot⟩
          · exact hv.2.1 j hj
        · rw [hset j]
          split
          · rename_i e; subst e
            have := hr.uniq hroot
            omega
          · exact hv.2.2 j m hj hr hmi) (by
        intro j k he
        have := hcl j k he
        rw [hset j, hset k]
        by_cases ej : i = j
        · subst ej
          rw [if_pos rfl]
          by_cases ek : i = k
          · subst ek; rw [if_pos rfl]; exact .inl rfl
          · rw [if_neg ek]
            exact .inr (.inl ⟨rfl, by simp, by omega⟩)
        · rw [if_neg ej]
          by_cases ek : i = k
          · subst ek
            rw [if_pos rfl]
            exact .inr (.inr ⟨rfl, by simp, by omega⟩)
          · rw [if_neg ek]
            exact .inl this) (by rw [hset i, if_pos rfl]) (by
        intro y hy
        rw [List.mem_singleton] at hy
        exact ⟨i, hy, his, by rw [hset i, if_pos rfl]⟩)
      refine Ev.step (fun k => ?_) this
      simp only [impl_regions.l1]
      rw [if_pos (by omega), if_pos (by omega), if_pos (by rw [hv.1]; omega), if_neg hge, Int.toNat_natCast]
theorem fill_l0 (N : List Int) (hs : s.size ≤ 36) (h : Ev (fun k => impl_regions.l1 k (List.replicate s.size (-1)) (s.size : Int) 0 W H s) N) (d : Nat) : ∀ (i : Nat), i + d = s.size → Ev (fun k => impl_regions.l0 k (List.replicate i (-1) ++ List.replicate d 0) (s.size : Int) (i : Int) W H s) N := by
  induction d with
  | zero =>
    intro i hi
    have e : i = s.size := by omega
    subst e
    refine Ev.step (fun k => ?_) h
    simp only [impl_regions.l0]
    rw [if_neg (by omega)]
    simp
  | succ d ih =>
    intro i hi
    refine Ev.step (fun k => ?_) (ih (i + 1) (by omega))
    simp only [impl_regions.l0]
    rw [if_pos (by omega), if_pos (by omega), if_pos (by simp; omega), w1 i (by omega), Int.toNat_natCast]
    congr 1
    rw [List.set_append_right _ _ (by simp)]
    simp only [List.length_replicate, Nat.sub_self, List.replicate_succ, List.set_cons_zero]
    rw [← List.replicate_succ, List.replicate_succ', List.append_assoc]
    rfl
theorem reg_exists (h : s.size ≤ 36) : ∃ N, IsReg W s N := by
  have : ∀ n : Nat, ∃ N : List Int, N.length = n ∧ ∀ j : Nat, j < n → ∃ m : Nat, rd N (j : Int) = (m : Int) ∧ Root W s j m := by
    intro n
    induction n with
    | zero => exact ⟨[], rfl, fun j hj => by omega⟩
    | succ n ih =>
      obtain ⟨N, hl, hN⟩ := ih
      obtain ⟨m, hr⟩ := Root.exists W s n
      refine ⟨N ++ [(m : Int)], by simp [hl], fun j hj => ?_⟩
      by_cases e : j < n
      · obtain ⟨m', e1, e2⟩ := hN j e
        refine ⟨m', ?_, e2⟩
        rw [rd_at _ j (by simp; omega), List.getElem_append_left (by omega), ← rd_at N j (by omega)]
        exact e1
      · have : j = n := by omega
        subst this
        exact ⟨m, by rw [rd_at _ j (by simp; omega)]; simp [hl], hr⟩
  exact this s.size
/-- Both find the regions' numbers; of what is no cover the program has none. -/
theorem regions_f (hs : s.size ≤ 9223372036854775806) : ∃ (r : Bool) (N : List Int), Ev (fun k => spec_IsCover.f k W H s) r ∧ Ev (fun k => impl_IsCover.f k W H s) r ∧ Ev (fun k => impl_regions.f k W H s) N ∧ (r = false → N = []) ∧ (r = true → Cov W H s ∧ IsReg W s N ∧ Ev (fun k => spec_l15Numbers.f k W H s) N) := by
  obtain ⟨r, h1, h2, h3⟩ := cover_same W H s hs
  cases r with
  | false =>
    refine ⟨false, [], h1, h2, ?_, fun _ => rfl, fun h => by cases h⟩
    unfold impl_regions.f
    refine Ev.bind h2 ?_
    simp only [Bool.false_eq_true, if_false]
    exact Ev.now _
  | true =>
    have hc := h3 rfl
    have h36 := cov_size hc
    obtain ⟨N, hN⟩ := reg_exists W s h36
    refine ⟨true, N, h1, h2, ?_, fun h => (by cases h), fun _ => ⟨hc, hN, numbers W H s h36 hc.1 hc.2.1 N hN⟩⟩
    unfold impl_regions.f
    refine Ev.bind h2 ?_
    simp only [if_true, if_pos (show (0 : Int) ≤ (s.size : Int) by omega), Int.toNat_natCast, if_pos (show s.size ≤ 35184372088832 by omega), Option.bind_some, List.length_replicate]
    have hv : Vals W s 0 (List.replicate s.size (-1)) := by
      refine ⟨by simp, fun j hj => .inl ?_, fun j m _ _ h => by omega⟩
      rw [rd_at _ j (by simpa using hj)]
      simp
    have hcl : Closed W s (List.replicate s.size (-1)) := by
      intro j k he
      rw [rd_at _ j (by simpa using he.1), rd_at _ k (by simpa using he.2.1)]
      simp
    have := fill_l0 W H s N h36 (fill_l1 W H s hc N hN s.size 0 _ (by omega) hv hcl) s.size 0 (by omega)
    simpa using this
end
/-- The cells whose number is their own place: the regions' first cells. -/
def rootsF : List Int → Nat → List Int
  | [], _ => []
  | x :: t, i => if x = (i : Int) then x :: rootsF t (i + 1) else rootsF t (i + 1)
theorem rootsF_mem (l : List Int) : ∀ (i : Nat) (x : Int), x ∈ rootsF l i ↔ ∃ (j : Nat) (h : j < l.length), l[j] = ((i + j : Nat) : Int) ∧ x = ((i + j : Nat) : Int) := by
  induction l with
  | nil => intro i x; simp [rootsF]
  | cons y t ih =>
    intro i x
    have hr := ih (i + 1) x
    have key : (∃ (j : Nat) (h : j < (y :: t).length), (y :: t)[j] = ((i + j : Nat) : Int) ∧ x = ((i + j : Nat) : Int)) ↔ (y = (i : Int) ∧ x = (i : Int)) ∨ ∃ (j : Nat) (h : j < t.length), t[j] = ((i + 1 + j : Nat) : Int) ∧ x = ((i + 1 + j : Nat) : Int) := by
      constructor
      · rintro ⟨j, h, h1, h2⟩
        cases j with
        | zero => exact .inl ⟨by simpa using h1, by simpa using h2⟩
        | succ j => exact .inr ⟨j, by simpa using h, by have := h1; simp only [List.getElem_cons_succ] at this; rw [this]; omega, by omega⟩
      · rintro (⟨h1, h2⟩ | ⟨j, h, h1, h2⟩)
        · exact ⟨0, by simp, by simpa using h1, by simpa using h2⟩
        · exact ⟨j + 1, by simpa using h, by simp only [List.getElem_cons_succ]; rw [h1]; omega, by omega⟩
    rw [key, ← hr, rootsF]
    split
    · rename_i h
      subst h
      rw [List.mem_cons]
      simp
    · rename_i h
      simp [h]
theorem rootsF_asc (l : List Int) : ∀ i : Nat, Asc (rootsF l i) := by
  induction l with
  | nil => intro i; exact List.Pairwise.nil
  | cons y t ih =>
    intro i
    rw [rootsF]
    split
    · rename_i h
      refine List.pairwise_cons.2 ⟨fun x hx => ?_, ih _⟩
      obtain ⟨j, _, _, e⟩ := (rootsF_mem t (i + 1) x).1 hx
      omega
    · exact ih _
theorem rootsF_len (l : List Int) : ∀ i : Nat, (rootsF l i).length ≤ l.length := by
  induction l with
  | nil => intro i; simp [rootsF]
  | cons y t ih =>
    intro i
    have := ih (i + 1)
    rw [rootsF]
    split <;> simp <;> omega
theorem reg_mem {W : Int} {s : ByteArray} {N : List Int} (hr : IsReg W s N) (x : Int) : x ∈ N ↔ ∃ j : Nat, j < s.size ∧ x = rd N (j : Int) := by
  rw [List.mem_iff_getElem]
  constructor
  · rintro ⟨j, h, e⟩
    exact ⟨j, by rw [← hr.1]; exact h, by rw [rd_at N j h, e]⟩
  · rintro ⟨j, h, e⟩
    have h' : j < N.length := by rw [hr.1]; exact h
    exact ⟨j, h', by rw [e, rd_at N j h']⟩
theorem roots_mem {W : Int} {s : ByteArray} {N : List Int} (hr : IsReg W s N) (x : Int) : x ∈ rootsF N 0 ↔ ∃ j : Nat, j < s.size ∧ x = rd N (j : Int) := by
  rw [rootsF_mem]
  constructor
  · rintro ⟨j, h, h1, h2⟩
    refine ⟨j, by rw [← hr.1]; exact h, ?_⟩
    rw [rd_at N j h, h1, h2]
  · rintro ⟨j, h, e⟩
    obtain ⟨m, e1, hm⟩ := hr.2 j h
    have hms : m < s.size := by have := hm.le; omega
    have hm' : m < N.length := by rw [hr.1]; exact hms
    obtain ⟨m', e2, hm2⟩ := hr.2 m hms
    have := hm.self.uniq hm2
    subst this
    refine ⟨m, hm', ?_, ?_⟩
    · rw [← rd_at N m hm', e2]; simp
    · rw [e, e1]; simp
theorem roots_eq {W : Int} {s : ByteArray} {N : List Int} (hr : IsReg W s N) : rootsF N 0 = putAll [] N :=
  asc_eq (rootsF_asc N 0) (putAll_asc N [] List.Pairwise.nil) (fun x => by rw [putAll_mem, roots_mem hr, reg_mem hr]; simp)
theorem roots_nonneg (N : List Int) (x : Int) (h : x ∈ rootsF N 0) : 0 ≤ x := by
  obtain ⟨j, _, _, e⟩ := (rootsF_mem N 0 x).1 h
  omega
theorem regs (W H : Int) (s : ByteArray) (hs : s.size ≤ 9223372036854775806) : ∃ (r : Bool) (N : List Int), Ev (fun k => spec_IsCover.f k W H s) r ∧ Ev (fun k => impl_IsCover.f k W H s) r ∧ Ev (fun k => impl_regions.f k W H s) N ∧ N.length ≤ 36 ∧ (r = false → N = []) ∧
    (r = true → Cov W H s ∧ IsReg W s N ∧ Ev (fun k => spec_l15Numbers.f k W H s) N) ∧ (N ≠ [] → Cov W H s ∧ N.length = s.size) := by
  obtain ⟨r, N, h1, h2, h3, h4, h5⟩ := regions_f W H s hs
  refine ⟨r, N, h1, h2, h3, ?_, h4, h5, fun hn => ?_⟩
  · cases r with
    | false => rw [h4 rfl]; simp
    | true => rw [(h5 rfl).2.1.1]; exact cov_size (h5 rfl).1
  · cases r with
    | false => exact absurd (h4 rfl) hn
    | true => exact ⟨(h5 rfl).1, (h5 rfl).2.1.1⟩
theorem implOf_l (N : List Int) (hN : N.length ≤ 36) (d : Nat) : ∀ (i : Nat) (a : List Int), i + d = N.length → a.length ≤ i → Ev (fun k => impl_RegionsOf.l0 k a N (N.length : Int) (i : Int)) (a ++ rootsF (N.drop i) i) := by
  induction d with
  | zero =>
    intro i a hi ha
    have e : N.drop i = [] := List.drop_of_length_le (by omega)
    rw [e]
    refine Ev.step (f := fun _ => some (a ++ rootsF [] i)) (fun k => ?_) (Ev.now _)
    simp only [impl_RegionsOf.l0]
    rw [if_neg (by omega)]
    simp [rootsF]
  | succ d ih =>
    intro i a hi ha
    have h1 : i < N.length := by omega
    have e := List.drop_eq_getElem_cons h1
    rw [e]
    by_cases hv : N[i] = (i : Int)
    · have := ih (i + 1) (a ++ [N[i]]) (by omega) (by simp; omega)
      rw [List.append_assoc] at this
      have e2 : rootsF (N[i] :: N.drop (i + 1)) i = [N[i]] ++ rootsF (N.drop (i + 1)) (i + 1) := by rw [rootsF, if_pos hv]; rfl
      rw [e2]
      refine Ev.step (fun k => ?_) this
      simp only [impl_RegionsOf.l0]
      rw [if_pos (by omega), if_pos (by omega), if_pos (by omega), rd_at N i h1, if_pos hv, if_pos (by omega), w1 i (by omega)]
    · have := ih (i + 1) a (by omega) (by omega)
      have e2 : rootsF (N[i] :: N.drop (i + 1)) i = rootsF (N.drop (i + 1)) (i + 1) := by rw [rootsF, if_neg hv]
      rw [e2]
      refine Ev.step (fun k => ?_) this
      simp only [impl_RegionsOf.l0]
      rw [if_pos (by omega), if_pos (by omega), if_pos (by omega), rd_at N i h1, if_neg hv, w1 i (by omega)]
theorem implOf_f (W H : Int) (s : ByteArray) (N : List Int) (hN : N.length ≤ 36) (h : Ev (fun k => impl_regions.f k W H s) N) : Ev (fun k => impl_RegionsOf.f k W H s) (rootsF N 0) := by
  unfold impl_RegionsOf.f
  refine Ev.bind h ?_
  have := implOf_l N hN N.length 0 [] (by omega) (by simp)
  rwa [List.drop_zero, List.nil_append] at this
theorem specOf_l (N : List Int) (hN : N.length ≤ 36) (d : Nat) : ∀ (i : Nat) (a : List Int), i + d = N.length → a.length ≤ i → Ev (fun k => spec_RegionsOf.l0 k a N (i : Int)) (putAll a (N.drop i)) := by
  induction d with
  | zero =>
    intro i a hi ha
    have e : N.drop i = [] := List.drop_of_length_le (by omega)
    rw [e]
    refine Ev.step (f := fun _ => some (putAll a [])) (fun k => ?_) (Ev.now _)
    simp only [spec_RegionsOf.l0]
    rw [if_neg (by omega)]
    rfl
  | succ d ih =>
    intro i a hi ha
    have h1 : i < N.length := by omega
    have e := List.drop_eq_getElem_cons h1
    have h2 := putL_len a N[i]
    have := ih (i + 1) (putL a N[i]) (by omega) (by omega)
    rw [e]
    refine Ev.step (f := fun k => (spec_l14Put.f k a N[i]).bind fun t => spec_RegionsOf.l0 k t N ((i + 1 : Nat) : Int)) (fun k => ?_) (Ev.bind (put a N[i] (by omega)) this)
    simp only [spec_RegionsOf.l0]
    rw [if_pos (by omega), if_pos (by omega), rd_at N i h1, w1 i (by omega)]
theorem specOf_f (W H : Int) (s : ByteArray) (r : Bool) (N : List Int) (hN : N.length ≤ 36) (h1 : Ev (fun k => spec_IsCover.f k W H s) r) (h0 : r = false → N = []) (ht : r = true → Cov W H s ∧ IsReg W s N ∧ Ev (fun k => spec_l15Numbers.f k W H s) N) : Ev (fun k => spec_RegionsOf.f k W H s) (rootsF N 0) := by
  unfold spec_RegionsOf.f
  simp only [Option.bind_some]
  refine Ev.bind h1 ?_
  cases r with
  | false =>
    obtain rfl := h0 rfl
    simp only [Bool.false_eq_true, if_false]
    exact Ev.now _
  | true =>
    obtain ⟨_, hr, hn⟩ := ht rfl
    simp only [if_true]
    refine Ev.bind hn ?_
    have := specOf_l N hN N.length 0 [] (by omega) (by simp)
    rwa [List.drop_zero, ← roots_eq hr] at this
/-- The places whose number is m, from place i on. -/
def cellsF (m : Int) : List Int → Nat → List Int
  | [], _ => []
  | x :: t, i => if x = m then (i : Int) :: cellsF m t (i + 1) else cellsF m t (i + 1)
theorem cellsF_len (m : Int) (l : List Int) : ∀ i : Nat, (cellsF m l i).length ≤ l.length := by
  induction l with
  | nil => intro i; simp [cellsF]
  | cons y t ih =>
    intro i
    have := ih (i + 1)
    rw [cellsF]
    split <;> simp <;> omega
theorem cellsF_mem (m : Int) (l : List Int) : ∀ (i : Nat) (x : Int), x ∈ cellsF m l i ↔ ∃ (j : Nat) (h : j < l.length), l[j] = m ∧ x = ((i + j : Nat) : Int) := by
  induction l with
  | nil => intro i x; simp [cellsF]
  | cons y t ih =>
    intro i x
    have hr := ih (i + 1) x
    have key : (∃ (j : Nat) (h : j < (y :: t).length), (y :: t)[j] = m ∧ x = ((i + j : Nat) : Int)) ↔ (y = m ∧ x = (i : Int)) ∨ ∃ (j : Nat) (h : j < t.length), t[j] = m ∧ x = ((i + 1 + j : Nat) : Int) := by
      constructor
      · rintro ⟨j, h, h1, h2⟩
        cases j with
        | zero => exact .inl ⟨by simpa using h1, by simpa using h2⟩
        | succ j => exact .inr ⟨j, by simpa using h, by simpa using h1, by omega⟩
      · rintro (⟨h1, h2⟩ | ⟨j, h, h1, h2⟩)
        · exact ⟨0, by simp, by simpa using h1, by simpa using h2⟩
        · exact ⟨j + 1, by simpa using h, by simpa using h1, by omega⟩
    rw [key, ← hr, cellsF]
    split
    · rename_i h
      subst h
      rw [List.mem_cons]
      simp
    · rename_i h
      simp [h]
theorem cellsF_asc (m : Int) (l : List Int) : ∀ i : Nat, Asc (cellsF m l i) := by
  induction l with
  | nil => intro i; exact List.Pairwise.nil
  | cons y t ih =>
    intro i
    rw [cellsF]
    split
    · rename_i h
      refine List.pairwise_cons.2 ⟨fun x hx => ?_, ih _⟩
      obtain ⟨j, _, _, e⟩ := (cellsF_mem m t (i + 1) x).1 hx
      omega
    · exact ih _
theorem implCells_l (m : Int) (N : List Int) (hN : N.length ≤ 36) (d : Nat) : ∀ (i : Nat) (a : List Int), i + d = N.length → a.length ≤ i → Ev (fun k => impl_RegionCells.l0 k m a N (N.length : Int) (i : Int)) (a ++ cellsF m (N.drop i) i) := by
  induction d with
  | zero =>
    intro i a hi ha
    have e : N.drop i = [] := List.drop_of_length_le (by omega)
    rw [e]
    refine Ev.step (f := fun _ => some (a ++ cellsF m [] i)) (fun k => ?_) (Ev.now _)
    simp only [impl_RegionCells.l0]
    rw [if_neg (by omega)]
    simp [cellsF]
  | succ d ih =>
    intro i a hi ha
    have h1 : i < N.length := by omega
    have e := List.drop_eq_getElem_cons h1
    rw [e]
    by_cases hv : N[i] = m
    · have := ih (i + 1) (a ++ [(i : Int)]) (by omega) (by simp; omega)
      rw [List.append_assoc] at this
      have e2 : cellsF m (N[i] :: N.drop (i + 1)) i = [(i : Int)] ++ cellsF m (N.drop (i + 1)) (i + 1) := by rw [cellsF, if_pos hv]; rfl
      rw [e2]
      refine Ev.step (fun k => ?_) this
      simp only [impl_RegionCells.l0]
      rw [if_pos (by omega), if_pos (by omega), if_pos (by omega), rd_at N i h1, if_pos hv, if_pos (by omega), w1 i (by omega)]
    · have := ih (i + 1) a (by omega) (by omega)
      have e2 : cellsF m (N[i] :: N.drop (i + 1)) i = cellsF m (N.drop (i + 1)) (i + 1) := by rw [cellsF, if_neg hv]
      rw [e2]
      refine Ev.step (fun k => ?_) this
      simp only [impl_RegionCells.l0]
      rw [if_pos (by omega), if_pos (by omega), if_pos (by omega), rd_at N i h1, if_neg hv, w1 i (by omega)]
theorem implCells_f (m W H : Int) (s : ByteArray) (N : List Int) (hN : N.length ≤ 36) (h1 : Ev (fun k => impl_regions.f k W H s) N) : Ev (fun k => impl_RegionCells.f k W H s m) (cellsF m N 0) := by
  unfold impl_RegionCells.f
  refine Ev.bind h1 ?_
  have := implCells_l m N hN N.length 0 [] (by omega) (by simp)
  rw [List.drop_zero, List.nil_append] at this
  exact this
section
variable (W H : Int) (s : ByteArray)
noncomputable def adjI (W : Int) (x y : Int) : Bool := @decide (Adj W x.toNat y.toNat) (Classical.propDecidable _)
theorem adjI_iff (W x y : Int) : adjI W x y = true ↔ Adj W x.toNat y.toNat := by unfold adjI; exact @decide_eq_true_iff _ (Classical.propDecidable _)
noncomputable def rowS (W : Int) (B : List Int) (x : Int) : Nat := (B.filter (adjI W x)).length
/-- How many of the cells beside x have the number r. -/
def rowI (N : List Int) (r : Int) (t : List Int) : Nat := (t.filter (fun y => decide (rd N y = r))).length
def brd (W H : Int) (N : List Int) (m r : Int) : Nat := if m = r then 0 else ((cellsF m N 0).map (fun x => rowI N r (besideL W H x))).sum
theorem beside_nodup (hc : Cov W H s) (x : Nat) : (besideL W H (x : Int)).Nodup := by
  obtain ⟨w1', w2, w3, w4, w5, _⟩ := hc
  unfold besideL
  rw [Int.tmod_eq_emod_of_nonneg (by omega)]
  by_cases hw : W = 1
  · subst hw
    simp only [Int.emod_one, if_neg (show ¬ (0 : Int) > 0 by omega), if_neg (show ¬ (0 : Int) < 1 - 1 by omega)]
    (repeat' split) <;> simp <;> omega
  · (repeat' split) <;> simp <;> omega
theorem asc_nodup {l : List Int} (h : Asc l) : l.Nodup := h.imp (fun h => by omega)
theorem row_same (hc : Cov W H s) (N : List Int) (hN : N.length = s.size) (r : Int) (x : Nat) (hx : x < s.size) : rowS W (cellsF r N 0) (x : Int) = rowI N r (besideL W H (x : Int)) := by
  unfold rowS rowI
  refine List.Perm.length_eq ((List.perm_ext_iff_of_nodup ?_ ?_).2 fun y => ?_)
  · exact (asc_nodup (cellsF_asc r N 0)).filter _
  · exact (beside_nodup W H s hc x).filter _
  · rw [List.mem_filter, List.mem_filter, cellsF_mem, beside_mem W H s hc x hx, adjI_iff, decide_eq_true_iff]
    constructor
    · rintro ⟨⟨j, h, e1, e2⟩, ha⟩
      have e3 : y = (j : Int) := by rw [e2]; simp
      subst e3
      exact ⟨⟨j, rfl, by omega, by simpa using ha⟩, by rw [rd_at N j h]; exact e1⟩
    · rintro ⟨⟨k, e1, hk, ha⟩, e2⟩
      subst e1
      have h : k < N.length := by omega
      exact ⟨⟨k, h, by rw [← rd_at N k h]; exact e2, by simp⟩, by simpa using ha⟩
theorem rowI_le (N : List Int) (r x : Int) : rowI N r (besideL W H x) ≤ 4 := Nat.le_trans (List.length_filter_le _ _) (beside_len W H x)
theorem sum_le {α : Type} (f : α → Nat) (b : Nat) (h : ∀ x, f x ≤ b) : ∀ l : List α, (l.map f).sum ≤ b * l.length
  | [] => by simp
  | x :: t => by
    have := sum_le f b h t
    have := h x
    simp only [List.map_cons, List.sum_cons, List.length_cons, Nat.mul_succ]
    omega
theorem brd_le (N : List Int) (m r : Int) : brd W H N m r ≤ 4 * N.length := by
  unfold brd
  split
  · omega
  · have h1 := sum_le (fun x => rowI N r (besideL W H x)) 4 (rowI_le W H N r) (cellsF m N 0)
    have h2 := cellsF_len m N 0
    omega
end
section
variable (W H : Int) (s : ByteArray)
/-- The other numbers among the cells beside. -/
def neF (N : List Int) (m : Int) (t : List Int) : List Int := (t.map (rd N)).filter (fun y => decide (y ≠ m))
theorem neF_len (N : List Int) (m : Int) (t : List Int) : (neF N m t).length ≤ t.length := by
  unfold neF
  exact Nat.le_trans (List.length_filter_le _ _) (by simp)
def nbr (W H : Int) (N R : List Int) (m : Int) : List Int := R.filter (fun x => decide (0 < brd W H N m x))
theorem implN_l1 (N : List Int) (hN : N.length ≤ 36) (m : Int) (i : Nat) (hi : i < N.length) (t : List Int) (ht : ∀ y ∈ t, 0 ≤ y ∧ y < (N.length : Int)) (htl : t.length ≤ 4) (v : List Int) (d : Nat) :
    ∀ (j : Nat) (a : List Int), j + d = t.length → a.length + d ≤ 100000 → Ev (fun k => impl_Neighbours.l0 k m N (a ++ neF N m (t.drop j)) (N.length : Int) ((i + 1 : Nat) : Int) W H s) v →
      Ev (fun k => impl_Neighbours.l1 k m N a (N.length : Int) (i : Int) t (t.length : Int) (j : Int) W H s) v := by
  induction d with
  | zero =>
    intro j a hj ha h
    have e : t.drop j = [] := List.drop_of_length_le (by omega)
    rw [e] at h
    have e2 : a ++ neF N m [] = a := by simp [neF]
    rw [e2] at h
    refine Ev.step (fun k => ?_) h
    simp only [impl_Neighbours.l1]
    rw [if_neg (by omega), w1 i (by omega)]
  | succ d ih =>
    intro j a hj ha h
    have hl : j < t.length := by omega
    have e := List.drop_eq_getElem_cons hl
    obtain ⟨h1, h2⟩ := ht t[j] (List.getElem_mem hl)
    rw [e] at h
    by_cases hv : rd N t[j] = m
    · have e2 : neF N m (t[j] :: t.drop (j + 1)) = neF N m (t.drop (j + 1)) := by unfold neF; rw [List.map_cons, List.filter_cons_of_neg (by simpa using hv)]
      rw [e2] at h
      have := ih (j + 1) a (by omega) (by omega) h
      refine Ev.step (fun k => ?_) this
      simp only [impl_Neighbours.l1]
      rw [if_pos (by omega), if_pos (by omega), if_pos (by omega), rd_at t j hl, if_pos h1, if_pos h2, if_pos hv, w1 j (by omega)]
    · have e2 : neF N m (t[j] :: t.drop (j + 1)) = [rd N t[j]] ++ neF N m (t.drop (j + 1)) := by unfold neF; rw [List.map_cons, List.filter_cons_of_pos (by simpa using hv)]; rfl
      rw [e2, ← List.append_assoc] at h
      have := ih (j + 1) (a ++ [rd N t[j]]) (by omega) (by simp; omega) h
      refine Ev.step (fun k => ?_) this
      simp only [impl_Neighbours.l1]
      rw [if_pos (by omega), if_pos (by omega), if_pos (by omega), rd_at t j hl, if_pos h1, if_pos h2, if_neg hv, if_pos (by omega), w1 j (by omega)]
theorem implN_l0 (N : List Int) (hN : N.length ≤ 36) (hc : N ≠ [] → Cov W H s ∧ N.length = s.size) (m : Int) (d : Nat) :
    ∀ (i : Nat) (a : List Int), i + d = N.length → a.length + 4 * d ≤ 90000 → Ev (fun k => impl_Neighbours.l0 k m N a (N.length : Int) (i : Int) W H s) (Go.Lib.compact ((a ++ (cellsF m (N.drop i) i).flatMap (fun x => neF N m (besideL W H x))).mergeSort fun x y => decide (x ≤ y))) := by
  induction d with
  | zero =>
    intro i a hi ha
    have e : N.drop i = [] := List.drop_of_length_le (by omega)
    rw [e]
    have e2 : a ++ (cellsF m [] i).flatMap (fun x => neF N m (besideL W H x)) = a := by simp [cellsF]
    rw [e2]
    refine Ev.step (f := fun _ => some (Go.Lib.compact (a.mergeSort fun x y => decide (x ≤ y)))) (fun k => ?_) (Ev.now _)
    simp only [impl_Neighbours.l0, slices_Sort_int_int.f, slices_Compact_int_int.f]
    rw [if_neg (by omega), if_pos (by omega)]
    simp only [Option.bind_some]
    rw [if_pos (by rw [List.length_mergeSort]; omega)]
    rfl
  | succ d ih =>
    intro i a hi ha
    have hl : i < N.length := by omega
    have e := List.drop_eq_getElem_cons hl
    rw [e]
    by_cases hv : N[i] = m
    · obtain ⟨hcov, hsz⟩ := hc (by intro h0; rw [h0] at hl; simp at hl)
      have hb := beside_f W H s hcov (i : Int) (by omega) (by omega)
      have hbl := beside_len W H (i : Int)
      have hnl := neF_len N m (besideL W H (i : Int))
      have h := ih (i + 1) (a ++ neF N m (besideL W H (i : Int))) (by omega) (by rw [List.length_append]; omega)
      have e2 : (cellsF m (N[i] :: N.drop (i + 1)) i).flatMap (fun x => neF N m (besideL W H x)) = neF N m (besideL W H (i : Int)) ++ (cellsF m (N.drop (i + 1)) (i + 1)).flatMap (fun x => neF N m (besideL W H x)) := by rw [cellsF, if_pos hv, List.flatMap_cons]
      rw [e2, ← List.append_assoc]
      have hl1 := implN_l1 W H s N hN m i hl (besideL W H (i : Int)) (by
        intro y hy
        obtain ⟨k, e3, hk, _⟩ := (beside_mem W H s hcov i (by omega) y).1 hy
        omega) hbl _ (besideL W H (i : Int)).length 0 a (by omega) (by omega) (by rw [List.drop_zero]; exact h)
      refine Ev.step (f := fun k => (impl_beside.f k W H s (i : Int)).bind fun t => impl_Neighbours.l1 k m N a (N.length : Int) (i : Int) t (t.length : Int) ((0 : Nat) : Int) W H s) (fun k => ?_) (Ev.bind hb hl1)
      simp only [impl_Neighbours.l0]
      rw [if_pos (by omega), if_pos (by omega), if_pos (by omega), rd_at N i hl, if_pos hv]
      rfl
    · have h := ih (i + 1) a (by omega) (by omega)
      have e2 : cellsF m (N[i] :: N.drop (i + 1)) i = cellsF m (N.drop (i + 1)) (i + 1) := by rw [cellsF, if_neg hv]
      rw [e2]
      refine Ev.step (fun k => ?_) h
      simp only [impl_Neighbours.l0]
      rw [if_pos (by omega), if_pos (by omega), if_pos (by omega), rd_at N i hl, if_neg hv, w1 i (by omega)]
theorem sum_pos {α : Type} (f : α → Nat) : ∀ l : List α, 0 < (l.map f).sum ↔ ∃ x ∈ l, 0 < f x
  | [] => by simp
  | x :: t => by
    have := sum_pos f t
    simp only [List.map_cons, List.sum_cons, List.mem_cons]
    constructor
    · intro h
      by_cases hx : 0 < f x
      · exact ⟨x, .inl rfl, hx⟩
      · obtain ⟨y, hy, hf⟩ := this.1 (by omega)
        exact ⟨y, .inr hy, hf⟩
    · rintro ⟨y, rfl | hy, hf⟩
      · omega
      · have := this.2 ⟨y, hy, hf⟩
        omega
theorem brd_pos (N : List Int) (m r : Int) : 0 < brd W H N m r ↔ m ≠ r ∧ ∃ x ∈ cellsF m N 0, ∃ y ∈ besideL W H x, rd N y = r := by
  unfold brd
  split
  · rename_i h
    constructor
    · intro h0; omega
    · intro h0; exact absurd h h0.1
  · rename_i h
    rw [sum_pos]
    unfold rowI
    constructor
    · rintro ⟨x, hx, hp⟩
      obtain ⟨y, hy⟩ := List.exists_mem_of_length_pos hp
      rw [List.mem_filter, decide_eq_true_iff] at hy
      exact ⟨h, x, hx, y, hy.1, hy.2⟩
    · rintro ⟨_, x, hx, y, hy, e⟩
      exact ⟨x, hx, List.length_pos_of_mem (List.mem_filter.2 ⟨hy, by simpa using e⟩)⟩
theorem implN_f (N : List Int) (hN : N.length ≤ 36) (hc : N ≠ [] → Cov W H s ∧ N.length = s.size) (hreg : N ≠ [] → IsReg W s N) (h1 : Ev (fun k => impl_regions.f k W H s) N) (m : Int) : Ev (fun k => impl_Neighbours.f k W H s m) (nbr W H N (rootsF N 0) m) := by
  unfold impl_Neighbours.f
  refine Ev.bind h1 ?_
  have := implN_l0 W H s N hN hc m N.length 0 [] (by omega) (by simp; omega)
  rw [List.drop_zero, List.nil_append] at this
  have e : nbr W H N (rootsF N 0) m = Go.Lib.compact (((cellsF m N 0).flatMap (fun x => neF N m (besideL W H x))).mergeSort fun x y => decide (x ≤ y)) := by
    refine asc_eq (List.Pairwise.filter _ (rootsF_asc N 0)) (uniq_asc _) fun x => ?_
    rw [uniq_mem]
    unfold nbr
    rw [List.mem_filter, decide_eq_true_iff, brd_pos, List.mem_flatMap]
    unfold neF
    constructor
    · rintro ⟨_, hne, z, hz, y, hy, e⟩
      exact ⟨z, hz, List.mem_filter.2 ⟨List.mem_map.2 ⟨y, hy, e⟩, by simpa using fun h => hne h.symm⟩⟩
    · rintro ⟨z, hz, hx⟩
      rw [List.mem_filter, List.mem_map] at hx
      obtain ⟨⟨y, hy, e⟩, hne⟩ := hx
      have hne' : x ≠ m := by simpa using hne
      obtain ⟨j, h, _, ej⟩ := (cellsF_mem m N 0 z).1 hz
      have ej' : z = (j : Int) := by rw [ej]; simp
      have hn0 : N ≠ [] := by intro h0; rw [h0] at h; simp at h
      obtain ⟨hcov, hsz⟩ := hc hn0
      have hy' := hy
      rw [ej'] at hy'
      obtain ⟨k, ek, hk, _⟩ := (beside_mem W H s hcov j (by omega) y).1 hy'
      exact ⟨(roots_mem (hreg hn0) x).2 ⟨k, hk, by rw [← ek, e]⟩, fun h => hne' h.symm, z, hz, y, hy, e⟩
  rw [e]
  exact this
end
section
variable (W H : Int) (s : ByteArray)
theorem implB_l1 (N : List Int) (hN : N.length ≤ 36) (m r : Int) (i : Nat) (hi : i < N.length) (t : List Int) (ht : ∀ y ∈ t, 0 ≤ y ∧ y < (N.length : Int)) (htl : t.length ≤ 4) (v : Int) (d : Nat) :
    ∀ j c : Nat, j + d = t.length → c + d ≤ 100000 → Ev (fun k => impl_Border.l0 k m r N ((c + rowI N r (t.drop j) : Nat) : Int) (N.length : Int) ((i + 1 : Nat) : Int) W H s) v →
      Ev (fun k => impl_Border.l1 k m r N (c : Int) (N.length : Int) (i : Int) t (t.length : Int) (j : Int) W H s) v := by
  induction d with
  | zero =>
    intro j c hj hcc h
    have e : t.drop j = [] := List.drop_of_length_le (by omega)
    rw [e] at h
    have e2 : c + rowI N r [] = c := by simp [rowI]
    rw [e2] at h
    refine Ev.step (fun k => ?_) h
    simp only [impl_Border.l1]
    rw [if_neg (by omega), w1 i (by omega)]
  | succ d ih =>
    intro j c hj hcc h
    have hl : j < t.length := by omega
    have e := List.drop_eq_getElem_cons hl
    obtain ⟨h1, h2⟩ := ht t[j] (List.getElem_mem hl)
    rw [e] at h
    by_cases hv : rd N t[j] = r
    · have e2 : c + rowI N r (t[j] :: t.drop (j + 1)) = c + 1 + rowI N r (t.drop (j + 1)) := by unfold rowI; rw [List.filter_cons_of_pos (by simpa using hv), List.length_cons]; omega
      rw [e2] at h
      have := ih (j + 1) (c + 1) (by omega) (by omega) h
      refine Ev.step (fun k => ?_) this
      simp only [impl_Border.l1]
      rw [if_pos (by omega), if_pos (by omega), if_pos (by omega), rd_at t j hl, if_pos h1, if_pos h2, if_pos hv, w1 c (by omega), w1 j (by omega)]
    · have e2 : c + rowI N r (t[j] :: t.drop (j + 1)) = c + rowI N r (t.drop (j + 1)) := by unfold rowI; rw [List.filter_cons_of_neg (by simpa using hv)]
      rw [e2] at h
      have := ih (j + 1) c (by omega) (by omega) h
      refine Ev.step (fun k => ?_) this
      simp only [impl_Border.l1]
      rw [if_pos (by omega), if_pos (by omega), if_pos (by omega), rd_at t j hl, if_pos h1, if_pos h2, if_neg hv, w1 j (by omega)]
theorem implB_l0 (N : List Int) (hN : N.length ≤ 36) (hc : N ≠ [] → Cov W H s ∧ N.length = s.size) (m r : Int) (d : Nat) :
    ∀ i c : Nat, i + d = N.length → c + 4 * d ≤ 90000 → Ev (fun k => impl_Border.l0 k m r N (c : Int) (N.length : Int) (i : Int) W H s) ((c + ((cellsF m (N.drop i) i).map (fun x => rowI N r (besideL W H x))).sum : Nat) : Int) := by
  induction d with
  | zero =>
    intro i c hi hcc
    have e : N.drop i = [] := List.drop_of_length_le (by omega)
    rw [e]
    refine Ev.step (f := fun _ => some (c : Int)) (fun k => ?_) (Ev.now _)
    simp only [impl_Border.l0]
    rw [if_neg (by omega)]
  | succ d ih =>
    intro i c hi hcc
    have hl : i < N.length := by omega
    have e := List.drop_eq_getElem_cons hl
    rw [e]
    by_cases hv : N[i] = m
    · obtain ⟨hcov, hsz⟩ := hc (by intro h0; rw [h0] at hl; simp at hl)
      have hb := beside_f W H s hcov (i : Int) (by omega) (by omega)
      have hrl := rowI_le W H N r (i : Int)
      have h := ih (i + 1) (c + rowI N r (besideL W H (i : Int))) (by omega) (by omega)
      have e2 : c + ((cellsF m (N[i] :: N.drop (i + 1)) i).map (fun x => rowI N r (besideL W H x))).sum = c + rowI N r (besideL W H (i : Int)) + ((cellsF m (N.drop (i + 1)) (i + 1)).map (fun x => rowI N r (besideL W H x))).sum := by rw [cellsF, if_pos hv, List.map_cons, List.sum_cons]; omega
      rw [e2]
      have hbl := beside_len W H (i : Int)
      have hl1 := implB_l1 W H s N hN m r i hl (besideL W H (i : Int)) (by
        intro y hy
        obtain ⟨k, e3, hk, _⟩ := (beside_mem W H s hcov i (by omega) y).1 hy
        omega) hbl _ (besideL W H (i : Int)).length 0 c (by omega) (by omega) (by rw [List.drop_zero]; exact h)
      refine Ev.step (f := fun k => (impl_beside.f k W H s (i : Int)).bind fun t => impl_Border.l1 k m r N (c : Int) (N.length : Int) (i : Int) t (t.length : Int) ((0 : Nat) : Int) W H s) (fun k => ?_) (Ev.bind hb hl1)
      simp only [impl_Border.l0]
      rw [if_pos (by omega), if_pos (by omega), if_pos (by omega), rd_at N i hl, if_pos hv]
      rfl
    · have h := ih (i + 1) c (by omega) (by omega)
      have e2 : cellsF m (N[i] :: N.drop (i + 1)) i = cellsF m (N.drop (i + 1)) (i + 1) := by rw [cellsF, if_neg hv]
      rw [e2]
      refine Ev.step (fun k => ?_) h
      simp only [impl_Border.l0]
      rw [if_pos (by omega), if_pos (by omega), if_pos (by omega), rd_at N i hl, if_neg hv, w1 i (by omega)]
theorem implB_f (N : List Int) (hN : N.length ≤ 36) (hc : N ≠ [] → Cov W H s ∧ N.length = s.size) (h1 : Ev (fun k => impl_regions.f k W H s) N) (m r : Int) : Ev (fun k => impl_Border.f k W H s m r) (brd W H N m r : Int) := by
  unfold impl_Border.f brd
  by_cases h : m = r
  · simp only [if_pos h]
    exact Ev.now _
  · simp only [if_neg h]
    refine Ev.bind h1 ?_
    have := implB_l0 W H s N hN hc m r N.length 0 0 (by omega) (by omega)
    rwa [List.drop_zero, Nat.zero_add] at this
end
theorem nbr_lenI (W H : Int) (N R : List Int) (m : Int) : (nbr W H N R m).length ≤ R.length := List.length_filter_le _ _
theorem tk_nums (s : ByteArray) : strOfNums (tlNums s) = s := by
  apply ByteArray.ext
  apply Array.ext'
  rw [strOfNums_data]
  unfold tlNums
  rw [List.map_map]
  have h : ∀ l : List UInt8, l.map ((fun n : Int => UInt8.ofNat n.toNat) ∘ fun b : UInt8 => (b.toNat : Int)) = l := by
    intro l
    induction l with
    | nil => rfl
    | cons b l ih => rw [List.map_cons, ih]; simp
  exact h _
def tkV (W H : Int) (s : ByteArray) (C : List Int) (lt : ByteArray) : Int × Int × ByteArray × Bool :=
  if C = [] ∨ lt.size ≠ 1 ∨ bt lt 0 < 97 ∨ bt lt 0 > 122 then (W, H, s, false) else (W, H, strOfNums (tlPut (tlNums s) C (bt lt 0)), true)
section
variable (W H : Int) (s : ByteArray) (m : Int) (C : List Int) (lt : ByteArray)
theorem take_i (hC : C.length ≤ 36) (hn : C ≠ [] → s.size ≤ 36) (hin : ∀ x ∈ C, 0 ≤ x ∧ x < (s.size : Int)) (h1 : Ev (fun k => impl_RegionCells.f k W H s m) C) : Ev (fun k => impl_TakeLabel.f k W H s m lt) (tkV W H s C lt) := by
  unfold impl_TakeLabel.f tkV
  refine Ev.bind h1 ?_
  by_cases h0 : C = []
  · simp only [if_pos h0, if_pos (show C = [] ∨ _ from .inl h0)]
    exact Ev.now _
  · simp only [if_neg h0]
    by_cases hl : lt.size ≠ 1
    · simp only [if_pos hl, if_pos (show C = [] ∨ lt.size ≠ 1 ∨ bt lt 0 < 97 ∨ bt lt 0 > 122 from .inr (.inl hl))]
      exact Ev.now _
    · simp only [if_neg hl]
      by_cases h2 : bt lt 0 < 97
      · simp only [if_pos h2, if_pos (show C = [] ∨ lt.size ≠ 1 ∨ bt lt 0 < 97 ∨ bt lt 0 > 122 from .inr (.inr (.inl h2)))]
        exact Ev.now _
      · simp only [if_neg h2]
        by_cases h3 : bt lt 0 > 122
        · simp only [if_pos h3, if_pos (show C = [] ∨ lt.size ≠ 1 ∨ bt lt 0 < 97 ∨ bt lt 0 > 122 from .inr (.inr (.inr h3)))]
          exact Ev.now _
        · simp only [if_neg h3]
          have := hn h0
          simp only [if_pos (show (∀ i ∈ C, 0 ≤ i ∧ i < (s.size : Int)) ∧ s.size ≤ 9223372036854775807 ∧ C.length ≤ 1000000 from ⟨hin, by omega, by omega⟩)]
          rw [if_neg (by intro h; rcases h with h | h | h | h; exact h0 h; exact hl h; exact h2 h; exact h3 h)]
          exact Ev.now _
end
theorem nodup_le {a b : List Int} (ha : a.Nodup) (h : ∀ x ∈ a, x ∈ b) : a.length ≤ b.length := by
  induction a generalizing b with
  | nil => simp
  | cons x a ih =>
    have hx := h x (by simp)
    rw [List.nodup_cons] at ha
    have h2 : a.length ≤ (b.erase x).length := ih ha.2 (fun y hy => by
      have hne : y ≠ x := by rintro rfl; exact ha.1 hy
      exact (List.mem_erase_of_ne hne).2 (h y (by simp [hy])))
    rw [List.length_erase_of_mem hx] at h2
    have := List.length_pos_of_mem hx
    simp only [List.length_cons]
    omega
theorem nodup_lt {a b : List Int} (ha : a.Nodup) (h : ∀ x ∈ a, x ∈ b) (y : Int) (hy : y ∈ b) (hn : y ∉ a) : a.length < b.length := by
  have h2 : a.length ≤ (b.erase y).length := nodup_le ha (fun x hx => by
    have hne : x ≠ y := by rintro rfl; exact hn hx
    exact (List.mem_erase_of_ne hne).2 (h x hx))
  rw [List.length_erase_of_mem hy] at h2
  have := List.length_pos_of_mem hy
  omega
/-- The region r of s has come to the letter c. -/
def Taken (N : List Int) (s s' : ByteArray) (r c : Int) : Prop := s'.size = s.size ∧ ∀ j : Nat, j < s.size → bt s' (j : Int) = if rd N (j : Int) = r then c else bt s (j : Int)
theorem merge_conn {W : Int} {s s' : ByteArray} {N : List Int} (hN : IsReg W s N) {r c : Int} (ht : Taken N s s' r c) {a b : Nat} (h : Conn W s a b) : Conn W s' a b := by
  induction h with
  | refl => exact .refl
  | @step j k h1 e ih =>
    refine ih.step ⟨by rw [ht.1]; exact e.1, by rw [ht.1]; exact e.2.1, e.2.2.1, ?_⟩
    rw [ht.2 j e.1, ht.2 k e.2.1]
    obtain ⟨m, e1, r1⟩ := hN.2 j e.1
    obtain ⟨m', e1', r1'⟩ := hN.2 k e.2.1
    have hm : m = m' := (r1.conn (Conn.refl.step e)).uniq r1'
    rw [e1, e1', hm, e.2.2.2]
theorem merge_fewer {W H : Int} {s s' : ByteArray} {N N' : List Int} (hc : Cov W H s) (hN : IsReg W s N) (hN' : IsReg W s' N') {r n : Int} (hr : r ∈ rootsF N 0) (hn : n ∈ rootsF N 0) (hb : 0 < brd W H N r n) (ht : Taken N s s' r (bt s n)) : (rootsF N' 0).length < (rootsF N 0).length := by
  rw [brd_pos] at hb
  obtain ⟨hne, x, hx, y, hy, e⟩ := hb
  obtain ⟨j, hj, ej, exj⟩ := (cellsF_mem r N 0 x).1 hx
  have ex : x = (j : Int) := by rw [exj]; simp
  have hjs : j < s.size := by rw [← hN.1]; exact hj
  rw [ex] at hy
  obtain ⟨k, ek, hk, ha⟩ := (beside_mem W H s hc j hjs y).1 hy
  rw [ek] at e
  obtain ⟨m, e1, r1⟩ := hN.2 j hjs
  obtain ⟨m', e2, r2⟩ := hN.2 k hk
  have ejr : rd N (j : Int) = r := by rw [rd_at N j hj]; exact ej
  have hrm : r = (m : Int) := by rw [← ejr]; exact e1
  have hnm : n = (m' : Int) := by rw [← e]; exact e2
  have edge : Edge W s' j k := by
    refine ⟨by rw [ht.1]; exact hjs, by rw [ht.1]; exact hk, ha, ?_⟩
    rw [ht.2 j hjs, ht.2 k hk, if_pos ejr, e, if_neg (fun h => hne h.symm), hnm]
    exact r2.1.letter
  have cmm : Conn W s' m m' := ((merge_conn hN ht r1.1).step edge).trans (merge_conn hN ht r2.1).symm
  have hsub : ∀ z ∈ rootsF N' 0, z ∈ rootsF N 0 := by
    intro z hz
    obtain ⟨i, hi, ei, ez⟩ := (rootsF_mem N' 0 z).1 hz
    rw [Nat.zero_add] at ei ez
    have his : i < s.size := by rw [← ht.1, ← hN'.1]; exact hi
    obtain ⟨p, e3, r3⟩ := hN'.2 i (by rw [ht.1]; exact his)
    have hp : p = i := by rw [rd_at N' i hi, ei] at e3; omega
    rw [hp] at r3
    obtain ⟨q, e4, r4⟩ := hN.2 i his
    have h1 := r3.2 q (merge_conn hN ht r4.1)
    have h2 := r4.le
    have hq : q = i := Nat.le_antisymm h2 h1
    have hiN : i < N.length := by rw [hN.1]; exact his
    refine (rootsF_mem N 0 z).2 ⟨i, hiN, ?_, by rw [Nat.zero_add]; exact ez⟩
    rw [Nat.zero_add, ← rd_at N i hiN, e4, hq]
  have root' : ∀ p : Nat, (p : Int) ∈ rootsF N' 0 → Root W s' p p := by
    intro p hp
    obtain ⟨i, hi, ei, ez⟩ := (rootsF_mem N' 0 _).1 hp
    rw [Nat.zero_add] at ei ez
    have hpi : p = i := by omega
    subst hpi
    obtain ⟨q, e3, r3⟩ := hN'.2 p (by rw [← hN'.1]; exact hi)
    rw [rd_at N' p hi, ei] at e3
    have : q = p := by omega
    rw [this] at r3
    exact r3
  by_cases hm : r ∈ rootsF N' 0
  · refine nodup_lt (asc_nodup (rootsF_asc N' 0)) hsub n hn (fun h => hne ?_)
    have u := (root' m (by rw [← hrm]; exact hm)).conn cmm
    have v := root' m' (by rw [← hnm]; exact h)
    rw [hrm, hnm, u.uniq v]
  · exact nodup_lt (asc_nodup (rootsF_asc N' 0)) hsub r hr hm
theorem ev_one {α : Type} {g : Nat → Option α} {a b : α} (h : Ev g a) (h' : Ev g b) : a = b := by
  obtain ⟨K, h⟩ := h
  obtain ⟨K', h'⟩ := h'
  have e := (h (max K K') (Nat.le_max_left _ _)).symm.trans (h' (max K K') (Nat.le_max_right _ _))
  exact Option.some.inj e
theorem tlPut_get (c : Int) (t : List Int) : ∀ (l : List Int) (j : Nat), j < l.length → (∀ x ∈ t, 0 ≤ x) → (tlPut l t c).getD j 0 = if (j : Int) ∈ t then c else l.getD j 0 := by
  induction t with
  | nil => intro l j hj _; simp [tlPut]
  | cons x t ih =>
    intro l j hj h0
    have hx := h0 x (by simp)
    have e : tlPut l (x :: t) c = tlPut (l.set x.toNat c) t c := rfl
    rw [e, ih _ j (by rw [List.length_set]; exact hj) (fun y hy => h0 y (by simp [hy]))]
    by_cases h : (j : Int) ∈ t
    · rw [if_pos h, if_pos (by simp [h])]
    · rw [if_neg h]
      by_cases h2 : x.toNat = j
      · rw [if_pos (by have : (j : Int) = x := by omega
                       simp [this])]
        rw [List.getD_eq_getElem?_getD, List.getElem?_set, if_pos h2, if_pos (by omega)]; rfl
      · rw [if_neg (by simp only [List.mem_cons, not_or]; exact ⟨by omega, h⟩), List.getD_eq_getElem?_getD, List.getElem?_set, if_neg h2, ← List.getD_eq_getElem?_getD]
theorem bt_str (L : List Int) (j : Nat) (hj : j < L.length) (h : 0 ≤ L.getD j 0 ∧ L.getD j 0 ≤ 255) : bt (strOfNums L) (j : Int) = L.getD j 0 := by
  unfold bt
  rw [dif_pos (by rw [Int.toNat_natCast, strOfNums_size]; exact hj)]
  rw [List.getD_eq_getElem?_getD, List.getElem?_eq_getElem hj] at h ⊢
  simp only [Option.getD_some] at h ⊢
  have e : (strOfNums L)[(j : Int).toNat]'(by rw [Int.toNat_natCast, strOfNums_size]; exact hj) = UInt8.ofNat (L[j]).toNat := by
    simp [strOfNums, ByteArray.getElem_eq_getElem_data]
  rw [e, UInt8.toNat_ofNat']
  omega
theorem nums_get (s : ByteArray) (j : Nat) (hj : j < s.size) : (tlNums s).getD j 0 = bt s (j : Int) := by
  unfold tlNums bt
  rw [dif_pos (by rw [Int.toNat_natCast]; exact hj), List.getD_eq_getElem?_getD, List.getElem?_map, List.getElem?_eq_getElem (show j < s.data.toList.length by rw [Array.length_toList]; exact hj)]
  simp [ByteArray.getElem_eq_getElem_data]
theorem taken (W : Int) (s : ByteArray) (N : List Int) (hN : IsReg W s N) (r c : Int) (h : 0 ≤ c ∧ c ≤ 255) : Taken N s (strOfNums (tlPut (tlNums s) (cellsF r N 0) c)) r c := by
  have hlen : (tlPut (tlNums s) (cellsF r N 0) c).length = s.size := by rw [tlPut_len, tlNums_len]
  refine ⟨by rw [strOfNums_size]; exact hlen, fun j hj => ?_⟩
  have h0 : ∀ x ∈ cellsF r N 0, 0 ≤ x := by
    intro x hx
    obtain ⟨i, _, _, e⟩ := (cellsF_mem r N 0 x).1 hx
    omega
  have hg := tlPut_get c (cellsF r N 0) (tlNums s) j (by rw [tlNums_len]; exact hj) h0
  have hmem : (j : Int) ∈ cellsF r N 0 ↔ rd N (j : Int) = r := by
    rw [cellsF_mem]
    constructor
    · rintro ⟨i, hi, e1, e2⟩
      have : j = i := by omega
      subst this
      rw [rd_at N j hi]; exact e1
    · intro e
      have hi : j < N.length := by rw [hN.1]; exact hj
      exact ⟨j, hi, by rw [← rd_at N j hi]; exact e, by simp⟩
  have hb := bt_range s (j : Int)
  have hv : (tlPut (tlNums s) (cellsF r N 0) c).getD j 0 = if rd N (j : Int) = r then c else bt s (j : Int) := by
    rw [hg, nums_get s j hj]
    by_cases e : rd N (j : Int) = r
    · rw [if_pos (hmem.2 e), if_pos e]
    · rw [if_neg (fun q => e (hmem.1 q)), if_neg e]
  rw [bt_str _ j (by rw [hlen]; exact hj) (by rw [hv]; split <;> omega), hv]
theorem cut_one (s : ByteArray) (j : Nat) (hj : j < s.size) : (s.extract j (j + 1)).size = 1 ∧ bt (s.extract j (j + 1)) 0 = bt s (j : Int) := by
  have hs : (s.extract j (j + 1)).size = 1 := by rw [ByteArray.size_extract]; omega
  refine ⟨hs, ?_⟩
  unfold bt
  rw [dif_pos (show (0 : Int).toNat < (s.extract j (j + 1)).size by rw [hs]; decide), dif_pos (show (j : Int).toNat < s.size by rw [Int.toNat_natCast]; exact hj)]
  congr 2
  simp [ByteArray.getElem_extract]
theorem lone (W H : Int) (s : ByteArray) (N : List Int) (hcov : Cov W H s) (hr : IsReg W s N) (r : Int) (h : r ∈ rootsF N 0) (hn : nbr W H N (rootsF N 0) r = []) : (rootsF N 0).length = 1 := by
  have hW := hcov.1
  have close : ∀ i k : Nat, i < s.size → k < s.size → Adj W i k → rd N (i : Int) = r → rd N (k : Int) = r := by
    intro i k hi hk ha e
    by_cases hk' : rd N (k : Int) = r
    · exact hk'
    · exfalso
      have hiN : i < N.length := by rw [hr.1]; exact hi
      have hm : rd N (k : Int) ∈ nbr W H N (rootsF N 0) r := by
        unfold nbr
        rw [List.mem_filter, decide_eq_true_iff, brd_pos]
        refine ⟨(roots_mem hr _).2 ⟨k, hk, rfl⟩, fun e => hk' e.symm, (i : Int), (cellsF_mem r N 0 _).2 ⟨i, hiN, by rw [← rd_at N i hiN]; exact e, by simp⟩, (k : Int), (beside_mem W H s hcov i hi _).2 ⟨k, rfl, hk, ha⟩, rfl⟩
      rw [hn] at hm
      cases hm
  have all0 : ∀ j : Nat, j < s.size → (rd N (j : Int) = r ↔ rd N ((0 : Nat) : Int) = r) := by
    intro j
    induction j using Nat.strongRecOn with
    | _ j ih =>
      intro hj
      by_cases hz : j = 0
      · subst hz; exact Iff.rfl
      · have down : ∃ k : Nat, k < j ∧ Adj W j k := by
          by_cases hw : W ≤ (j : Int)
          · exact ⟨j - W.toNat, by omega, .inr (.inl (by omega))⟩
          · refine ⟨j - 1, by omega, .inr (.inr (.inr ⟨by omega, ?_⟩))⟩
            rw [Int.tmod_eq_of_lt (by omega) (by omega)]
            omega
        obtain ⟨k, hk, ha⟩ := down
        rw [← ih k hk (by omega)]
        exact ⟨close j k hj (by omega) ha, close k j (by omega) hj ha.symm⟩
  obtain ⟨j, hj, e1, e2⟩ := (rootsF_mem N 0 r).1 h
  have hjs : j < s.size := by rw [← hr.1]; exact hj
  have hj' : rd N (j : Int) = r := by rw [rd_at N j hj, e1, e2]
  have hall : ∀ x ∈ rootsF N 0, x = r := by
    intro x hx
    obtain ⟨i, hi, e⟩ := (roots_mem hr x).1 hx
    rw [e]
    exact (all0 i hi).2 ((all0 j hjs).1 hj')
  have hnd := asc_nodup (rootsF_asc N 0)
  cases hR : rootsF N 0 with
  | nil => rw [hR] at h; cases h
  | cons a t =>
    cases t with
    | nil => rfl
    | cons b t =>
      exfalso
      rw [hR] at hall hnd
      have h1 := hall a (by simp)
      have h2 := hall b (by simp)
      rw [h1, h2] at hnd
      simp at hnd
theorem long_i (W H : Int) (s : ByteArray) (b : Int → Int → Nat) (h2 : ∀ m r, Ev (fun k => impl_Border.f k W H s m r) (b m r : Int)) (m : Int) (R : List Int) (hR : R.length ≤ 36) (h0 : ∀ x ∈ R, 0 ≤ x ∧ 0 < b m x) (d : Nat) :
    ∀ (i : Nat) (x y : Int), i + d = R.length → (x = -1 ∧ y = 0 ∧ i = 0 ∨ x ∈ R ∧ y = (b m x : Int)) → (∀ z ∈ R.take i, (b m z : Int) ≤ y) → ∃ v, (v = -1 ∧ R = [] ∨ v ∈ R ∧ ∀ z ∈ R, b m z ≤ b m v) ∧ Ev (fun k => impl_LongestNeighbour.l0 k m x y R (R.length : Int) (i : Int) W H s) v := by
  induction d with
  | zero =>
    intro i x y hi hx hz
    refine ⟨x, ?_, Ev.step (f := fun _ => some x) (fun k => ?_) (Ev.now _)⟩
    · rcases hx with ⟨h1, _, h3⟩ | ⟨h1, h3⟩
      · exact .inl ⟨h1, List.eq_nil_of_length_eq_zero (by omega)⟩
      · refine .inr ⟨h1, fun z hzR => ?_⟩
        rw [List.take_of_length_le (by omega)] at hz
        have := hz z hzR
        omega
    · simp only [impl_LongestNeighbour.l0]
      rw [if_neg (by omega)]
  | succ d ih =>
    intro i x y hi hx hz
    have hl : i < R.length := by omega
    have htk : R.take (i + 1) = R.take i ++ [R[i]] := by rw [List.take_add_one, List.getElem?_eq_getElem hl]; rfl
    have step : ∀ v, (if (b m R[i] : Int) > y then Ev (fun k => impl_LongestNeighbour.l0 k m R[i] (b m R[i] : Int) R (R.length : Int) ((i + 1 : Nat) : Int) W H s) v else Ev (fun k => impl_LongestNeighbour.l0 k m x y R (R.length : Int) ((i + 1 : Nat) : Int) W H s) v) → Ev (fun k => impl_LongestNeighbour.l0 k m x y R (R.length : Int) (i : Int) W H s) v := by
      intro v hv
      refine Ev.step (f := fun k => (impl_Border.f k W H s m R[i]).bind fun t => if t > y then impl_LongestNeighbour.l0 k m R[i] t R (R.length : Int) ((i + 1 : Nat) : Int) W H s else impl_LongestNeighbour.l0 k m x y R (R.length : Int) ((i + 1 : Nat) : Int) W H s) (fun k => ?_) (Ev.bind (h2 m R[i]) ?_)
      · simp only [impl_LongestNeighbour.l0]
        rw [if_pos (by omega), if_pos (by omega), if_pos (by omega), rd_at R i hl, w1 i (by omega)]
      · by_cases hc : (b m R[i] : Int) > y
        · simp only [if_pos hc] at hv ⊢
          exact hv
        · simp only [if_neg hc] at hv ⊢
          exact hv
    have hg := (h0 R[i] (List.getElem_mem hl)).2
    by_cases hc : (b m R[i] : Int) > y
    · obtain ⟨v, hv, e⟩ := ih (i + 1) R[i] (b m R[i] : Int) (by omega) (.inr ⟨List.getElem_mem hl, rfl⟩) (by
        intro z hz'
        rw [htk] at hz'
        rcases List.mem_append.1 hz' with h | h
        · have := hz z h; omega
        · rw [List.mem_singleton] at h; rw [h]; omega)
      exact ⟨v, hv, step v (by rw [if_pos hc]; exact e)⟩
    · have hx' : x ∈ R ∧ y = (b m x : Int) := by
        rcases hx with ⟨_, h, _⟩ | h
        · omega
        · exact h
      obtain ⟨v, hv, e⟩ := ih (i + 1) x y (by omega) (.inr hx') (by
        intro z hz'
        rw [htk] at hz'
        rcases List.mem_append.1 hz' with h | h
        · exact hz z h
        · rw [List.mem_singleton] at h; rw [h]; omega)
      exact ⟨v, hv, step v (by rw [if_neg hc]; exact e)⟩
theorem small_i (W H : Int) (s : ByteArray) (R : List Int) (hR : R.length ≤ 36) (c : Int → List Int) (h2 : ∀ m, Ev (fun k => impl_RegionCells.f k W H s m) (c m)) (d : Nat) :
    ∀ (i : Nat) (x y : Int), i + d = R.length → (x = -1 ∨ x ∈ R) → ∃ v, (v = -1 ∨ v ∈ R) ∧ Ev (fun k => impl_SmallestRegion.l0 k x y R (R.length : Int) (i : Int) W H s) v := by
  induction d with
  | zero =>
    intro i x y hi hx
    refine ⟨x, hx, Ev.step (f := fun _ => some x) (fun k => ?_) (Ev.now _)⟩
    simp only [impl_SmallestRegion.l0]
    rw [if_neg (by omega)]
  | succ d ih =>
    intro i x y hi hx
    have hl : i < R.length := by omega
    have step : ∀ v, (if ((c R[i]).length : Int) < y then Ev (fun k => impl_SmallestRegion.l0 k R[i] ((c R[i]).length : Int) R (R.length : Int) ((i + 1 : Nat) : Int) W H s) v else Ev (fun k => impl_SmallestRegion.l0 k x y R (R.length : Int) ((i + 1 : Nat) : Int) W H s) v) → Ev (fun k => impl_SmallestRegion.l0 k x y R (R.length : Int) (i : Int) W H s) v := by
      intro v hv
      refine Ev.step (f := fun k => (impl_RegionCells.f k W H s R[i]).bind fun t => if (t.length : Int) < y then (impl_SmallestRegion.l0 k R[i] (t.length : Int) R (R.length : Int) ((i + 1 : Nat) : Int) W H s) else (impl_SmallestRegion.l0 k x y R (R.length : Int) ((i + 1 : Nat) : Int) W H s)) (fun k => ?_) (Ev.bind (h2 R[i]) ?_)
      · simp only [impl_SmallestRegion.l0]
        rw [if_pos (by omega), if_pos (by omega), if_pos (by omega), rd_at R i hl, w1 i (by omega)]
      · by_cases hc : ((c R[i]).length : Int) < y
        · simp only [if_pos hc] at hv ⊢
          exact hv
        · simp only [if_neg hc] at hv ⊢
          exact hv
    by_cases hc : ((c R[i]).length : Int) < y
    · obtain ⟨v, hv, e⟩ := ih (i + 1) R[i] ((c R[i]).length : Int) (by omega) (.inr (List.getElem_mem hl))
      exact ⟨v, hv, step v (by rw [if_pos hc]; exact e)⟩
    · obtain ⟨v, hv, e⟩ := ih (i + 1) x y (by omega) hx
      exact ⟨v, hv, step v (by rw [if_neg hc]; exact e)⟩
/-- What merging comes to. -/
structure Merged (W H a : Int) (s s' : ByteArray) : Prop where
  size : s'.size = s.size
  cov : Cov W H s'
  letter : ∀ j : Nat, j < s'.size → ∃ k : Nat, k < s.size ∧ bt s' (j : Int) = bt s (k : Int)
  fewer : ∀ N N', Ev (fun k => impl_regions.f k W H s) N → Ev (fun k => impl_regions.f k W H s') N' → (rootsF N' 0).length ≤ (rootsF N 0).length
  stop : ∀ N', Ev (fun k => impl_regions.f k W H s') N' → 1 < (rootsF N' 0).length → Ev (fun k => impl_SmallestRegion.f k W H s' a) (-1)
theorem merge_i (W H a : Int) (n : Nat) : ∀ (s : ByteArray), s.size ≤ 1048576 → (∀ N, Ev (fun k => impl_regions.f k W H s) N → (rootsF N 0).length ≤ n) → ∃ s', Ev (fun k => impl_MergeSmall.l0 k a W H s) (W, H, s') ∧ (Ev (fun k => impl_IsCover.f k W H s) false → s' = s) ∧ (Ev (fun k => impl_IsCover.f k W H s) true → Merged W H a s s') := by
  induction n using Nat.strongRecOn with
  | _ n ih =>
    intro s hs hle
    obtain ⟨r, N, _, c1, c2, hN, hf, ht, hc⟩ := regs W H s (by omega)
    have hle := hle N c2
    have hr : N ≠ [] → r = true := by intro h; cases r with | true => rfl | false => exact absurd (hf rfl) h
    have r2 := implOf_f W H s N hN c2
    have hRl := Nat.le_trans (rootsF_len N 0) hN
    have h0 := roots_nonneg N
    have cell2 := fun m => implCells_f m W H s N hN c2
    have hb2 := implB_f W H s N hN hc c2
    have n2 := fun m => implN_f W H s N hN hc (fun h => (ht (hr h)).2.1) c2 m
    obtain ⟨v, hv, v2⟩ := small_i W H s (rootsF N 0) hRl _ cell2 (rootsF N 0).length 0 (-1) a (by omega) (.inl rfl)
    have f2 : Ev (fun k => impl_SmallestRegion.f k W H s a) v := by unfold impl_SmallestRegion.f; exact Ev.bind r2 v2
    have opening : ∀ V, Ev (fun k => if v < 0 then some (W, H, s) else ((impl_LongestNeighbour.f k W H s v).bind fun t2 => (if t2 < 0 then some (W, H, s) else (if 0 ≤ t2 then (if t2 ≤ wrap64 (t2 + 1) then (if wrap64 (t2 + 1) ≤ (s.size : Int) then ((impl_TakeLabel.f k W H s v (s.extract (t2 : Int).toNat ((wrap64 (t2 + 1)) : Int).toNat)).bind fun bt224 => impl_MergeSmall.l0 k a bt224.1 bt224.2.1 bt224.2.2.1) else none) else none) else none)))) V → Ev (fun k => impl_MergeSmall.l0 k a W H s) V := fun V h =>
      Ev.step (f := fun k => (impl_SmallestRegion.f k W H s a).bind fun t1 => (if t1 < 0 then some (W, H, s) else ((impl_LongestNeighbour.f k W H s t1).bind fun t2 => (if t2 < 0 then some (W, H, s) else (if 0 ≤ t2 then (if t2 ≤ wrap64 (t2 + 1) then (if wrap64 (t2 + 1) ≤ (s.size : Int) then ((impl_TakeLabel.f k W H s t1 (s.extract (t2 : Int).toNat ((wrap64 (t2 + 1)) : Int).toNat)).bind fun bt224 => impl_MergeSmall.l0 k a bt224.1 bt224.2.1 bt224.2.2.1) else none) else none) else none))))) (fun k => by simp only [impl_MergeSmall.l0]) (Ev.bind f2 h)
    -- where it stops at once
    have halt : Ev (fun k => impl_MergeSmall.l0 k a W H s) (W, H, s) → (r = true → ∀ N', Ev (fun k => impl_regions.f k W H s) N' → 1 < (rootsF N' 0).length → Ev (fun k => impl_SmallestRegion.f k W H s a) (-1)) → ∃ s', Ev (fun k => impl_MergeSmall.l0 k a W H s) (W, H, s') ∧ (Ev (fun k => impl_IsCover.f k W H s) false → s' = s) ∧ (Ev (fun k => impl_IsCover.f k W H s) true → Merged W H a s s') := fun e hstop =>
      ⟨s, e, fun _ => rfl, fun hcv => by
        have hr1 : r = true := ev_one c1 hcv
        exact ⟨rfl, (ht hr1).1, fun j hj => ⟨j, hj, rfl⟩, fun N1 N2 h1 h2 => by rw [ev_one h1 h2]; exact Nat.le_refl _, hstop hr1⟩⟩
    by_cases hv0 : v < 0
    · have ev : v = -1 := by
        rcases hv with h | h
        · exact h
        · have := h0 v h; omega
      refine halt (opening _ ?_) (fun _ _ _ _ => by rw [← ev]; exact f2)
      simp only [if_pos hv0]; exact Ev.now _
    · have hvR : v ∈ rootsF N 0 := hv.resolve_left (by omega)
      have hn0 : N ≠ [] := by intro h; rw [h] at hvR; simp [rootsF] at hvR
      have hr1 := hr hn0
      obtain ⟨hcov, hreg, _⟩ := ht hr1
      have hs36 := cov_size hcov
      have hlen : N.length = s.size := hreg.1
      have hnb : ∀ x ∈ nbr W H N (rootsF N 0) v, 0 ≤ x ∧ 0 < brd W H N v x := by
        intro x hx
        unfold nbr at hx
        rw [List.mem_filter] at hx
        exact ⟨h0 x hx.1, by simpa using hx.2⟩
      obtain ⟨u, hu, u2⟩ := long_i W H s (brd W H N) hb2 v (nbr W H N (rootsF N 0) v) (Nat.le_trans (nbr_lenI W H N (rootsF N 0) v) hRl) hnb _ 0 (-1) 0 (Nat.zero_add _) (.inl ⟨rfl, rfl, rfl⟩) (fun z hz => by simp at hz)
      have g2 : Ev (fun k => impl_LongestNeighbour.f k W H s v) u := by unfold impl_LongestNeighbour.f; exact Ev.bind (n2 v) u2
      by_cases hu0 : u < 0
      · have hnil : nbr W H N (rootsF N 0) v = [] := by
          rcases hu with h | h
          · exact h.2
          · have := (hnb u h.1).1; omega
        refine halt (opening _ ?_) (fun _ N' hN' h1 => ?_)
        · simp only [if_neg hv0]
          refine Ev.bind g2 ?_
          simp only [if_pos hu0]; exact Ev.now _
        · have := lone W H s N hcov hreg v hvR hnil
          rw [ev_one hN' c2] at h1
          omega
      · have huN : u ∈ nbr W H N (rootsF N 0) v := by
          rcases hu with h | h
          · have := h.1; omega
          · exact h.1
        have huR : u ∈ rootsF N 0 ∧ 0 < brd W H N v u := by
          have h := huN
          unfold nbr at h
          rw [List.mem_filter] at h
          exact ⟨h.1, by simpa using h.2⟩
        obtain ⟨j, hj, ej, eu⟩ := (rootsF_mem N 0 u).1 huR.1
        rw [Nat.zero_add] at ej eu
        have hjs : j < s.size := by omega
        have hw : wrap64 (u + 1) = ((j + 1 : Nat) : Int) := by rw [eu]; unfold wrap64; omega
        obtain ⟨l1, l2⟩ := cut_one s j hjs
        have hbt := hcov.2.2.2.2.2 j hjs
        have hC0 : cellsF v N 0 ≠ [] := by
          obtain ⟨i, hi, ei, ev⟩ := (rootsF_mem N 0 v).1 hvR
          have hm : v ∈ cellsF v N 0 := (cellsF_mem v N 0 v).2 ⟨i, hi, by rw [ei, ev], ev⟩
          intro h; rw [h] at hm; simp at hm
        have hin : ∀ x ∈ cellsF v N 0, 0 ≤ x ∧ x < (s.size : Int) := by
          intro x hx
          obtain ⟨i, hi, _, e⟩ := (cellsF_mem v N 0 x).1 hx
          omega
        have hR : (cellsF v N 0).length ≤ 36 := by have := cellsF_len v N 0; omega
        have t2 := take_i W H s v (cellsF v N 0) (s.extract j (j + 1)) hR (fun _ => hs36) hin (cell2 v)
        have tv : tkV W H s (cellsF v N 0) (s.extract j (j + 1)) = (W, H, strOfNums (tlPut (tlNums s) (cellsF v N 0) (bt s (j : Int))), true) := by
          unfold tkV
          rw [l2, if_neg (by intro h; rcases h with h | h | h | h; exact hC0 h; exact h l1; omega; omega)]
        rw [tv] at t2
        have tk := taken W s N hreg v (bt s (j : Int)) (by omega)
        generalize strOfNums (tlPut (tlNums s) (cellsF v N 0) (bt s (j : Int))) = s1 at t2 tk
        have hs1 : s1.size ≤ 1048576 := by rw [tk.1]; exact hs
        have hpos := List.length_pos_of_mem hvR
        have hlet : ∀ i : Nat, i < s1.size → ∃ k : Nat, k < s.size ∧ bt s1 (i : Int) = bt s (k : Int) := by
          intro i hi
          rw [tk.1] at hi
          have := tk.2 i hi
          by_cases e : rd N (i : Int) = v
          · exact ⟨j, hjs, by rw [this, if_pos e]⟩
          · exact ⟨i, hi, by rw [this, if_neg e]⟩
        have hcov1 : Cov W H s1 := by
          obtain ⟨a1, a2, a3, a4, a5, a6⟩ := hcov
          refine ⟨a1, a2, a3, a4, by rw [tk.1]; exact a5, fun i hi => ?_⟩
          obtain ⟨k, hk, e⟩ := hlet i hi
          rw [e]; exact a6 k hk
        obtain ⟨r', N1, _, d1, d2, _, hf', ht', _⟩ := regs W H s1 (by omega)
        have hr' : r' = true := ev_one d1 (cover_t W H s1 hcov1)
        have hfew := merge_fewer hcov hreg (ht' hr').2.1 hvR huR.1 huR.2 (by rw [eu]; exact tk)
        obtain ⟨s', V2, _, hm⟩ := ih ((rootsF N 0).length - 1) (by omega) s1 hs1 (by
          intro N'' hN''
          rw [ev_one hN'' d2]
          omega)
        have hm := hm (by rw [← hr']; exact d1)
        refine ⟨s', opening _ ?_, fun hcv => ?_, fun _ => ?_⟩
        · simp only [if_neg hv0]
          refine Ev.bind g2 ?_
          simp only [if_neg hu0, hw, if_pos (show 0 ≤ u by omega), if_pos (show u ≤ ((j + 1 : Nat) : Int) by omega), if_pos (show ((j + 1 : Nat) : Int) ≤ (s.size : Int) by omega)]
          rw [eu]
          simp only [Int.toNat_natCast]
          exact Ev.bind t2 V2
        · have := ev_one c1 hcv
          rw [hr1] at this
          cases this
        · refine ⟨by rw [hm.size, tk.1], hm.cov, fun i hi => ?_, fun N1' N2' h1 h2 => ?_, hm.stop⟩
          · obtain ⟨k, hk, e⟩ := hm.letter i hi
            obtain ⟨k2, hk2, e2⟩ := hlet k hk
            exact ⟨k2, hk2, by rw [e, e2]⟩
          · have := hm.fewer N1 N2' d2 h2
            rw [ev_one h1 c2]
            omega
theorem and255 (x : Int) : 0 ≤ Go.bits .and .i64 x 255 ∧ Go.bits .and .i64 x 255 ≤ 255 := by
  unfold Go.bits
  have h : (BitVec.ofInt IntKind.i64.bits x &&& BitVec.ofInt IntKind.i64.bits 255).toNat ≤ 255 := by
    rw [BitVec.toNat_and]
    exact Nat.le_trans Nat.and_le_right (by decide)
  show 0 ≤ IntKind.i64.wrap ((BitVec.ofInt IntKind.i64.bits x &&& BitVec.ofInt IntKind.i64.bits 255).toNat : Int) ∧ IntKind.i64.wrap ((BitVec.ofInt IntKind.i64.bits x &&& BitVec.ofInt IntKind.i64.bits 255).toNat : Int) ≤ 255
  generalize (BitVec.ofInt IntKind.i64.bits x &&& BitVec.ofInt IntKind.i64.bits 255).toNat = n at h
  rw [IntKind.wrap_i64]
  omega
section
variable (l : List Int) (hl : l.length ≤ 9223372036854775807)
include hl
theorem byte_f (p q : Int) (h : 0 ≤ p) : ∃ v p' q' : Int, spec_l1Byte.f l p q = some (v, p', q') ∧ 0 ≤ v ∧ v ≤ 255 ∧ 0 ≤ p' := by
  unfold spec_l1Byte.f
  by_cases h1 : p < (l.length : Int)
  · rw [if_pos h1, if_pos h]
    exact ⟨_, _, _, rfl, (and255 _).1, (and255 _).2, by unfold wrap64; omega⟩
  · rw [if_neg h1]
    exact ⟨_, _, _, rfl, (and255 _).1, (and255 _).2, h⟩
theorem below_f (p q n : Int) (h : 0 ≤ p) (h1 : 0 < n) (h2 : n ≤ 256) : ∃ v p' q' : Int, spec_l1Below.f l p q n = some (v, p', q') ∧ 0 ≤ v ∧ v < n ∧ 0 ≤ p' := by
  obtain ⟨v, p', q', e, v0, _, hp⟩ := byte_f l hl p q h
  unfold spec_l1Below.f
  rw [if_neg (by omega), if_pos h2, e]
  simp only [Option.bind_some]
  rw [if_neg (by omega)]
  refine ⟨_, _, _, rfl, ?_, ?_, hp⟩
  · rw [Int.tmod_eq_emod_of_nonneg v0]; exact Int.emod_nonneg _ (by omega)
  · rw [Int.tmod_eq_emod_of_nonneg v0]; exact Int.emod_lt_of_pos _ h1
theorem once_f (p q n : Int) (h : 0 ≤ p) (h1 : 0 < n) (h2 : n ≤ 256) : ∃ (b : Bool) (p' q' : Int), spec_l1Once.f l p q n = some (b, p', q') ∧ 0 ≤ p' := by
  obtain ⟨v, p', q', e, _, _, hp⟩ := below_f l hl p q n h h1 h2
  unfold spec_l1Once.f
  rw [e]
  exact ⟨_, _, _, rfl, hp⟩
theorem int_f (p q : Int) (L : List Int) (h : 0 ≤ p) (h1 : 0 < L.length) (h2 : L.length ≤ 256) : ∃ (v p' q' : Int), spec_l1Int.f l p q L = some (v, p', q') ∧ v ∈ L ∧ 0 ≤ p' := by
  obtain ⟨v, p', q', e, v0, v1, hp⟩ := below_f l hl p q (L.length : Int) h (by omega) (by omega)
  unfold spec_l1Int.f
  rw [e]
  simp only [Option.bind_some]
  rw [if_pos v0, if_pos v1]
  refine ⟨_, _, _, rfl, ?_, hp⟩
  have hv : v.toNat < L.length := by omega
  have e2 : rd L v = L[v.toNat] := by unfold rd; rw [List.getD_eq_getElem?_getD, List.getElem?_eq_getElem hv]; rfl
  rw [e2]; exact List.getElem_mem hv
theorem str_f (p q : Int) (h : 0 ≤ p) : ∃ (s : ByteArray) (p' q' : Int), spec_l1Str.f l p q ([(⟨#[97]⟩ : ByteArray), (⟨#[98]⟩ : ByteArray), (⟨#[99]⟩ : ByteArray)] : List ByteArray) = some (s, p', q') ∧ s.size = 1 ∧ 97 ≤ bt s 0 ∧ bt s 0 ≤ 122 ∧ 0 ≤ p' := by
  obtain ⟨v, p', q', e, v0, v1, hp⟩ := below_f l hl p q 3 h (by omega) (by omega)
  unfold spec_l1Str.f
  have e3 : ((([(⟨#[97]⟩ : ByteArray), (⟨#[98]⟩ : ByteArray), (⟨#[99]⟩ : ByteArray)] : List ByteArray).length : Nat) : Int) = 3 := rfl
  rw [e3, e]
  simp only [Option.bind_some]
  rw [if_pos v0, if_pos v1]
  have hv : v = 0 ∨ v = 1 ∨ v = 2 := by omega
  rcases hv with rfl | rfl | rfl
  · exact ⟨_, _, _, rfl, rfl, by decide, by decide, hp⟩
  · exact ⟨_, _, _, rfl, rfl, by decide, by decide, hp⟩
  · exact ⟨_, _, _, rfl, rfl, by decide, by decide, hp⟩
omit hl in
theorem wr_m (i : Nat) (h0 : 0 < i) (h : i ≤ 1000) : wrap64 ((i : Int) - 1) = ((i - 1 : Nat) : Int) := by unfold wrap64; omega
omit hl in
theorem wr_p (i : Nat) (h : i ≤ 1000) : wrap64 ((i : Int) + 1) = ((i + 1 : Nat) : Int) := by unfold wrap64; omega
omit hl in
theorem ext1 (s : ByteArray) (i : Nat) (h0 : 0 < i) (h : i ≤ s.size) : (s.extract (i - 1) i).size = 1 := by rw [ByteArray.size_extract]; omega
theorem draw_l (W H : Int) (n : Nat) (hn20 : n ≤ 20) (hw : Unit → wrap64 (W * H) = (n : Int)) (d : Nat) : ∀ (i : Nat) (p q : Int) (s : ByteArray), i + d = n → s.size = i → 0 ≤ p → ∃ (s' : ByteArray) (p' q' : Int), Ev (fun k => spec_l15Draw.l0 k (i : Int) l p q W H s) (W, H, s', p', q') ∧ s'.size = n ∧ 0 ≤ p' := by
  induction d with
  | zero =>
    intro i p q s hi hs hp
    have hno : ¬ (i : Int) < (n : Int) := by omega
    refine ⟨s, p, q, Ev.step (f := fun _ => some (W, H, s, p, q)) (fun k => ?_) (Ev.now _), by omega, hp⟩
    simp only [spec_l15Draw.l0, hw ()]
    rw [if_neg hno]
  | succ d ih =>
    intro i p q s hi hs hp
    have h1000 : i ≤ 1000 := by omega
    have hlt : (i : Int) < (n : Int) := by omega
    have hnext : i + 1 + d = n := by omega
    obtain ⟨c, p1, q1, e1, c1, -, -, hp1⟩ := str_f l hl p q hp
    have hcs : (s ++ c).size = i + 1 := by rw [ByteArray.size_append, c1, hs]
    have hsz : s.size + c.size ≤ 9223372036854775807 := by rw [c1, hs]; omega
    have plain : ∀ (p2 q2 : Int), 0 ≤ p2 → ∃ (s' : ByteArray) (p' q' : Int), Ev (fun k => spec_l15Draw.l0 k ((i + 1 : Nat) : Int) l p2 q2 W H (s ++ c)) (W, H, s', p', q') ∧ s'.size = n ∧ 0 ≤ p' := fun p2 q2 h2 =>
      ih (i + 1) p2 q2 (s ++ c) hnext hcs h2
    by_cases h0 : (i : Int) > 0
    · have hi0 : 0 < i := by omega
      obtain ⟨b, p2, q2, e2, hp2⟩ := once_f l hl p1 q1 2 hp1 (by decide) (by decide)
      cases b with
      | true =>
        have hx := ext1 s i hi0 (by rw [hs]; exact Nat.le_refl _)
        have hxs : (s ++ s.extract (i - 1) i).size = i + 1 := by rw [ByteArray.size_append, hx, hs]
        have hxz : s.size + (s.extract (i - 1) i).size ≤ 9223372036854775807 := by rw [hx, hs]; omega
        have g1 : (0 : Int) ≤ ((i - 1 : Nat) : Int) := by omega
        have g2 : ((i - 1 : Nat) : Int) ≤ (i : Int) := by omega
        have g3 : (i : Int) ≤ (s.size : Int) := by rw [hs]; exact Int.le_refl _
        obtain ⟨s', p', q', e3, hs', hp'⟩ := ih (i + 1) p2 q2 (s ++ s.extract (i - 1) i) hnext hxs hp2
        refine ⟨s', p', q', Ev.step (fun k => ?_) e3, hs', hp'⟩
        simp only [spec_l15Draw.l0, hw (), e1, e2, Option.bind_some, wr_p i h1000, wr_m i hi0 h1000, Int.toNat_natCast]
        rw [if_pos hlt, if_pos h0]
        simp only [if_true]
        rw [if_pos g1, if_pos g2, if_pos g3, if_pos hxz]
      | false =>
        obtain ⟨s', p', q', e3, hs', hp'⟩ := plain p2 q2 hp2
        refine ⟨s', p', q', Ev.step (fun k => ?_) e3, hs', hp'⟩
        simp only [spec_l15Draw.l0, hw (), e1, e2, Option.bind_some, wr_p i h1000]
        rw [if_pos hlt, if_pos h0]
        simp only [Bool.false_eq_true, if_false]
        rw [if_pos hsz]
    · obtain ⟨s', p', q', e3, hs', hp'⟩ := plain p1 q1 hp1
      refine ⟨s', p', q', Ev.step (fun k => ?_) e3, hs', hp'⟩
      simp only [spec_l15Draw.l0, hw (), e1, Option.bind_some, wr_p i h1000]
      rw [if_pos hlt, if_neg h0, if_pos hsz]
theorem draw_f (p q : Int) (h : 0 ≤ p) : ∃ (W H : Int) (s : ByteArray) (p' q' : Int), Ev (fun k => spec_l15Draw.f k l p q) (W, H, s, p', q') ∧ 1 ≤ s.size ∧ s.size ≤ 20 ∧ 0 ≤ p' := by
  obtain ⟨a, p1, q1, e1, a0, a1, hp1⟩ := below_f l hl p q 5 h (by omega) (by omega)
  obtain ⟨b, p2, q2, e2, b0, b1, hp2⟩ := below_f l hl p1 q1 4 hp1 (by omega) (by omega)
  have wa : wrap64 (1 + a) = 1 + a := by unfold wrap64; omega
  have wb : wrap64 (1 + b) = 1 + b := by unfold wrap64; omega
  obtain ⟨n, hn, hn1, hn2⟩ : ∃ n : Nat, (1 + a) * (1 + b) = (n : Int) ∧ 1 ≤ n ∧ n ≤ 20 := by
    have h4 : a = 0 ∨ a = 1 ∨ a = 2 ∨ a = 3 ∨ a = 4 := by omega
    have h5 : b = 0 ∨ b = 1 ∨ b = 2 ∨ b = 3 := by omega
    rcases h4 with rfl | rfl | rfl | rfl | rfl <;> rcases h5 with rfl | rfl | rfl | rfl <;> exact ⟨_, rfl, by decide, by decide⟩
  obtain ⟨s, p', q', e3, hs, hp'⟩ := draw_l l hl (1 + a) (1 + b) n hn2 (fun _ => by rw [hn]; unfold wrap64; omega) n 0 p2 q2 (⟨#[]⟩ : ByteArray) (by omega) rfl hp2
  refine ⟨1 + a, 1 + b, s, p', q', ?_, by omega, by omega, hp'⟩
  unfold spec_l15Draw.f
  simp only [e1, e2, Option.bind_some, wa, wb]
  exact e3
theorem any_f (p q : Int) (h : 0 ≤ p) : ∃ (W H : Int) (s : ByteArray) (p' q' : Int), Ev (fun k => spec_l15Any.f k l p q) (W, H, s, p', q') ∧ s.size ≤ 20 ∧ 0 ≤ p' := by
  obtain ⟨W, H, s, p1, q1, e1, s1, s2, hp1⟩ := draw_f l hl p q h
  obtain ⟨r, p2, q2, e2, _, _, hp2⟩ := below_f l hl p1 q1 10 hp1 (by omega) (by omega)
  unfold spec_l15Any.f
  by_cases r0 : r = 0
  · obtain ⟨v, p3, q3, e3, _, hp3⟩ := int_f l hl p2 q2 ([(-1), 0, 200, 201, 1000, 1001, 9223372036854775807, (-9223372036854775808)] : List Int) hp2 (by decide) (by decide)
    refine ⟨v, H, s, p3, q3, Ev.bind e1 ?_, s2, hp3⟩
    simp only [e2, Option.bind_some, if_pos r0, spec_l4Raw.f, e3]
    exact Ev.now _
  · by_cases r1 : r = 1
    · obtain ⟨v, p3, q3, e3, _, hp3⟩ := int_f l hl p2 q2 ([0, 6, 7] : List Int) hp2 (by decide) (by decide)
      refine ⟨W, v, s, p3, q3, Ev.bind e1 ?_, s2, hp3⟩
      simp only [e2, Option.bind_some, if_neg r0, if_pos r1, e3]
      exact Ev.now _
    · by_cases r2 : r = 2
      · have hx : (s.extract 1 s.size).size = s.size - 1 := by rw [ByteArray.size_extract]; omega
        refine ⟨W, H, (⟨#[65]⟩ : ByteArray) ++ s.extract 1 s.size, p2, q2, Ev.bind e1 ?_, ?_, hp2⟩
        · simp only [e2, Option.bind_some, if_neg r0, if_neg r1, if_pos r2, if_pos (show 1 ≤ (s.size : Int) by omega), if_pos (show 1 + (s.extract 1 s.size).size ≤ 9223372036854775807 by rw [hx]; omega)]
          exact Ev.now _
        · rw [ByteArray.size_append, hx]
          have : (⟨#[65]⟩ : ByteArray).size = 1 := rfl
          omega
      · refine ⟨W, H, s, p2, q2, Ev.bind e1 ?_, s2, hp2⟩
        simp only [e2, Option.bind_some, if_neg r0, if_neg r1, if_neg r2]
        exact Ev.now _
omit hl in
theorem new_l (d : Nat) : ∀ (i : Nat) (x : Int), i + d = l.length → ∃ q, Ev (fun k => spec_l1New.l0 k l x (i : Int)) (l, 0, q) := by
  induction d with
  | zero =>
    intro i x hi
    refine ⟨x, Ev.step (f := fun _ => some (l, 0, x)) (fun k => ?_) (Ev.now _)⟩
    simp only [spec_l1New.l0]
    rw [if_neg (by omega)]
  | succ d ih =>
    intro i x hi
    by_cases h : (i : Int) < 4000
    · have w1' : wrap64 ((i : Int) + 1) = ((i + 1 : Nat) : Int) := by unfold wrap64; omega
      obtain ⟨q, hq⟩ := ih (i + 1) (Go.bits .and .i64 (wrap64 ((wrap64 ((wrap64 (x * 137)) + (wrap64 (rd l (i : Int))))) + 11)) 1073741823) (by omega)
      refine ⟨q, Ev.step (fun k => ?_) hq⟩
      simp only [spec_l1New.l0]
      rw [if_pos (by omega), if_pos h, if_pos (by omega), w1']
    · refine ⟨x, Ev.step (f := fun _ => some (l, 0, x)) (fun k => ?_) (Ev.now _)⟩
      simp only [spec_l1New.l0]
      rw [if_pos (by omega), if_neg h]
omit hl in
theorem new_f : ∃ q, Ev (fun k => spec_l1New.f k l) (l, 0, q) := new_l l l.length 0 _ (by omega)
end
section
variable (l : List Int) (hl : l.length ≤ 9223372036854775807)
include hl
theorem drawRegion_f : ∃ (W H : Int) (s : ByteArray) (a : Int), Ev (fun k => spec_DrawRegionOf.f k l) (W, H, s, a) ∧ s.size ≤ 20 := by
  obtain ⟨q0, n0⟩ := new_f l
  obtain ⟨W, H, s, p1, q1, a1, hs, hp1⟩ := any_f l hl 0 q0 (Int.le_refl _)
  obtain ⟨c, p2, q2, b1, _, _, _⟩ := below_f l hl p1 q1 24 hp1 (by omega) (by omega)
  refine ⟨W, H, s, wrap64 (c - 1), ?_, hs⟩
  unfold spec_DrawRegionOf.f
  refine Ev.bind n0 (Ev.bind a1 ?_)
  simp only [b1, Option.bind_some]
  exact Ev.now _
theorem border_f : ∃ (W H : Int) (s : ByteArray) (a b : Int), Ev (fun k => spec_DrawBorder.f k l) (W, H, s, a, b) ∧ s.size ≤ 20 := by
  obtain ⟨W, H, s, a, d1, hs⟩ := drawRegion_f l hl
  obtain ⟨q0, n0⟩ := new_f l
  obtain ⟨r, N, c1, c1', c2, hN, hf, ht, hc⟩ := regs W H s (by omega)
  have r1 := specOf_f W H s r N hN c1 hf ht
  have hRl := Nat.le_trans (rootsF_len N 0) hN
  obtain ⟨b, p1, q1, b1, _, _, hp1⟩ := below_f l hl 0 q0 9 (Int.le_refl _) (by omega) (by omega)
  have plain : ∀ p q, Ev (fun k => spec_DrawBorder.j0 k a (rootsF N 0) b false W H s l p q) (W, H, s, a, b) := fun p q =>
    Ev.step (f := fun _ => some (W, H, s, a, b)) (fun k => by simp [spec_DrawBorder.j0]) (Ev.now _)
  by_cases h0 : ((rootsF N 0).length : Int) > 0
  · obtain ⟨o, p2, q2, b2, hp2⟩ := once_f l hl p1 q1 4 hp1 (by omega) (by omega)
    cases o with
    | true =>
      refine ⟨W, H, s, a, b, ?_, hs⟩
      unfold spec_DrawBorder.f
      refine Ev.bind d1 (Ev.bind n0 (Ev.bind r1 ?_))
      simp only [b1, Option.bind_some, if_pos h0, b2]
      exact plain p2 q2
    | false =>
      obtain ⟨x, p3, q3, b3, x0, x1, hp3⟩ := below_f l hl p2 q2 ((rootsF N 0).length : Int) hp2 (by omega) (by omega)
      obtain ⟨y, p4, q4, b4, y0, y1, hp4⟩ := below_f l hl p3 q3 ((rootsF N 0).length : Int) hp3 (by omega) (by omega)
      refine ⟨W, H, s, rd (rootsF N 0) x, rd (rootsF N 0) y, ?_, hs⟩
      unfold spec_DrawBorder.f
      refine Ev.bind d1 (Ev.bind n0 (Ev.bind r1 ?_))
      simp only [b1, Option.bind_some, if_pos h0, b2]
      refine Ev.step (f := fun _ => some (W, H, s, rd (rootsF N 0) x, rd (rootsF N 0) y)) (fun k => ?_) (Ev.now _)
      simp only [spec_DrawBorder.j0, Bool.not_false, if_true, b3, b4, Option.bind_some, if_pos x0, if_pos x1, if_pos y0, if_pos y1]
  · refine ⟨W, H, s, a, b, ?_, hs⟩
    unfold spec_DrawBorder.f
    refine Ev.bind d1 (Ev.bind n0 (Ev.bind r1 ?_))
    simp only [b1, Option.bind_some, if_neg h0]
    exact plain p1 q1
end
theorem same_l (W H : Int) (s s' : ByteArray) (hs : s.size ≤ 1000) (he : s'.size = s.size) (d : Nat) : ∀ (i c : Nat), i + d = s.size → c ≤ i → ∃ n : Nat, Ev (fun k => impl_SameLabels.l0 k (c : Int) (s.size : Int) (i : Int) W H s W H s') (n : Int) ∧ n ≤ s.size := by
  induction d with
  | zero =>
    intro i c hi hc
    refine ⟨c, Ev.step (f := fun _ => some (c : Int)) (fun k => ?_) (Ev.now _), by omega⟩
    simp only [impl_SameLabels.l0]
    rw [if_neg (by omega)]
  | succ d ih =>
    intro i c hi hc
    by_cases hv : bt s (i : Int) = bt s' (i : Int)
    · obtain ⟨n, e, h⟩ := ih (i + 1) (c + 1) (by omega) (by omega)
      refine ⟨n, Ev.step (fun k => ?_) e, h⟩
      simp only [impl_SameLabels.l0]
      rw [if_pos (by omega), if_pos (by omega), if_pos (by omega), if_pos (by omega), if_pos hv, w1 c (by omega), w1 i (by omega)]
    · obtain ⟨n, e, h⟩ := ih (i + 1) c (by omega) (by omega)
      refine ⟨n, Ev.step (fun k => ?_) e, h⟩
      simp only [impl_SameLabels.l0]
      rw [if_pos (by omega), if_pos (by omega), if_pos (by omega), if_pos (by omega), if_neg hv, w1 i (by omega)]
theorem same_f (W H : Int) (s s' : ByteArray) (h : Cov W H s) (h' : Cov W H s') (he : s'.size = s.size) : ∃ n : Nat, Ev (fun k => impl_SameLabels.f k W H s W H s') (n : Int) ∧ n ≤ s.size := by
  have h36 := cov_size h
  obtain ⟨n, e, hn⟩ := same_l W H s s' (by omega) he s.size 0 0 (by omega) (Nat.le_refl _)
  refine ⟨n, ?_, hn⟩
  unfold impl_SameLabels.f
  refine Ev.bind (cover_t W H s h) ?_
  simp only [if_true]
  refine Ev.bind (cover_t W H s' h') ?_
  simp only [if_true]
  refine Ev.step (fun k => ?_) e
  simp [impl_SameLabels.j0]
section
variable (l : List Int) (W H : Int) (s s' : ByteArray)
theorem some_l (hs : s.size ≤ 1000) (i : Nat) (hi : i < s'.size) (hs' : s'.size ≤ 1000) (next : Ev (fun k => laws_FnMerged.l0 k l ((i + 1 : Nat) : Int) W H s W H s') true) (d : Nat) :
    ∀ (j : Nat) (b : Bool), j + d = s.size → (b = true ∨ ∃ k : Nat, j ≤ k ∧ k < s.size ∧ bt s' (i : Int) = bt s (k : Int)) → Ev (fun k => laws_FnMerged.l1 k l (i : Int) b (j : Int) W H s W H s') true := by
  induction d with
  | zero =>
    intro j b hj hb
    have hb' : b = true := by
      rcases hb with h | ⟨k, h1, h2, _⟩
      · exact h
      · omega
    subst hb'
    refine Ev.step (fun k => ?_) next
    simp only [laws_FnMerged.l1]
    rw [if_neg (by omega), w1 i (by omega)]
    simp
  | succ d ih =>
    intro j b hj hb
    cases b with
    | true =>
      refine Ev.step (fun k => ?_) (ih (j + 1) true (by omega) (.inl rfl))
      simp only [laws_FnMerged.l1]
      rw [if_pos (by omega), w1 j (by omega)]
      simp
    | false =>
      refine Ev.step (fun k => ?_) (ih (j + 1) (bt s' (i : Int) == bt s (j : Int)) (by omega) ?_)
      · simp only [laws_FnMerged.l1, Bool.false_eq_true, if_false]
        rw [if_pos (by omega), if_pos (by omega), if_pos (by omega), if_pos (by omega), w1 j (by omega)]
      · rcases hb with h | ⟨k, h1, h2, h3⟩
        · cases h
        · by_cases e : k = j
          · subst e; exact .inl (by simpa using h3)
          · exact .inr ⟨k, by omega, h2, h3⟩
theorem letters_l (hs : s.size ≤ 1000) (hs' : s'.size ≤ 1000) (hl : ∀ j : Nat, j < s'.size → ∃ k : Nat, k < s.size ∧ bt s' (j : Int) = bt s (k : Int)) (last : Ev (fun k => laws_FnMerged.l0 k l (s'.size : Int) W H s W H s') true) (d : Nat) :
    ∀ i : Nat, i + d = s'.size → Ev (fun k => laws_FnMerged.l0 k l (i : Int) W H s W H s') true := by
  induction d with
  | zero =>
    intro i hi
    have : i = s'.size := by omega
    rw [this]
    exact last
  | succ d ih =>
    intro i hi
    obtain ⟨k, h1, h2⟩ := hl i (by omega)
    refine Ev.step (fun k => ?_) (some_l l W H s s' hs i (by omega) hs' (ih (i + 1) (by omega)) s.size 0 false (by omega) (.inr ⟨k, Nat.zero_le _, h1, h2⟩))
    simp only [laws_FnMerged.l0]
    rw [if_pos (by omega)]
    rfl
theorem long_end (W2 H2 : Int) (s2 : ByteArray) (a u : Int) (b : Int → Int → Nat) (hb : ∀ m r, Ev (fun k => impl_Border.f k W2 H2 s2 m r) (b m r : Int)) (R : List Int) (hR : R.length ≤ 36) (hu : u = -1 ∧ R = [] ∨ u ∈ R ∧ ∀ z ∈ R, b a z ≤ b a u) (h0 : ∀ x ∈ R, 0 ≤ x) (n : Nat) (hn : n ≤ s.size) (d : Nat) :
    ∀ i : Nat, i + d = R.length → Ev (fun k => laws_FnMerged.l2 k (n : Int) a u R (i : Int) W H s W2 H2 s2) true := by
  induction d with
  | zero =>
    intro i hi
    have e : (((R.length : Int) == 0) == (u == (-1))) = true := by
      rcases hu with ⟨h1, h2⟩ | ⟨h1, _⟩
      · simp [h1, h2]
      · have hp := List.length_pos_of_mem h1
        have h2 := h0 u h1
        have e1 : ((R.length : Int) == 0) = false := by simp; intro h; rw [h] at hp; simp at hp
        have e2 : (u == (-1)) = false := by simp; omega
        rw [e1, e2]; rfl
    refine Ev.step (f := fun _ => some true) (fun k => ?_) (Ev.now _)
    simp only [laws_FnMerged.l2]
    rw [if_neg (by omega), if_pos (by omega), if_pos (by omega), e]
  | succ d ih =>
    intro i hi
    have hl : i < R.length := by omega
    have hle : b a R[i] ≤ b a u := by
      rcases hu with ⟨_, h2⟩ | ⟨_, h2⟩
      · rw [h2] at hl; simp at hl
      · exact h2 _ (List.getElem_mem hl)
    refine Ev.step (f := fun k => (impl_Border.f k W2 H2 s2 a R[i]).bind fun t473 => (impl_Border.f k W2 H2 s2 a u).bind fun t474 => if t473 > t474 then some false else laws_FnMerged.l2 k (n : Int) a u R ((i + 1 : Nat) : Int) W H s W2 H2 s2) (fun k => ?_) (Ev.bind (hb a R[i]) (Ev.bind (hb a u) ?_))
    · simp only [laws_FnMerged.l2]
      rw [if_pos (by omega), if_pos (by omega), rd_at R i hl, w1 i (by omega)]
    · simp only [if_neg (show ¬ ((b a R[i] : Nat) : Int) > ((b a u : Nat) : Int) by omega)]
      exact ih (i + 1) (by omega)
end
theorem main : ∀ (l0 : List (Int)), (l0.length ≤ 9223372036854775807 ∧ ∀ x ∈ l0, (Lit.int .u8 x).wf = true) → ∃ k, laws_FnMerged.f k l0 = some true := by
  intro l h1
  refine Ev.rounds (r := true) ?_
  have hl : l.length ≤ 9223372036854775807 := h1.1
  unfold laws_FnMerged.f laws_big.f
  simp only [Option.bind_some]
  by_cases hb : (l.length : Int) > 1048576
  · simp only [decide_eq_true hb, if_true]; exact Ev.now _
  · simp only [decide_eq_false hb, Bool.false_eq_true, if_false]
    obtain ⟨q0, n0⟩ := new_f l
    obtain ⟨W, H, s, p1, q1, a1, hs, hp1⟩ := any_f l hl 0 q0 (Int.le_refl _)
    obtain ⟨a, p2, q2, i1, _, _⟩ := int_f l hl p1 q1 ([0, 1, 2, 3, 5, 99, (-1)] : List Int) hp1 (by decide) (by decide)
    have d1 : Ev (fun k => spec_DrawMergeSmall.f k l) (W, H, s, a) := by
      unfold spec_DrawMergeSmall.f
      refine Ev.bind (a := (W, H, s, a)) ?_ (Ev.now _)
      unfold spec_DrawSmallestRegion.f spec_l16Least.f
      refine Ev.bind n0 (Ev.bind a1 ?_)
      simp only [i1, Option.bind_some]
      exact Ev.now _
    obtain ⟨s', m1, mF, mT⟩ := merge_i W H a 1000 s (by omega) (by
      intro N hN
      obtain ⟨_, N', _, _, d2, hl2, _, _, _⟩ := regs W H s (by omega)
      rw [ev_one hN d2]
      have := rootsF_len N' 0
      omega)
    have m2 : Ev (fun k => impl_MergeSmall.f k W H s a) (W, H, s') := m1
    obtain ⟨r, N, _, c1, c2, hN, hf, ht, hc⟩ := regs W H s (by omega)
    refine Ev.bind d1 (Ev.bind m2 (Ev.bind c1 ?_))
    cases r with
    | false =>
      have e := mF c1
      subst e
      simp only [Bool.false_eq_true, if_false, beq_self_eq_true, Bool.and_self]
      exact Ev.now _
    | true =>
      simp only [if_true]
      obtain ⟨hcov, hreg, _⟩ := ht rfl
      have hm := mT c1
      have hs36 := cov_size hcov
      obtain ⟨r', N', _, c1', c2', hN', _, ht', _⟩ := regs W H s' (by have := hm.size; omega)
      have hr' : r' = true := ev_one c1' (cover_t W H s' hm.cov)
      subst hr'
      have r2 := implOf_f W H s N hN c2
      have r2' := implOf_f W H s' N' hN' c2'
      have hfew := hm.fewer N N' c2 c2'
      -- the end
      obtain ⟨W2, H2, s2, x, y, d2, hs2⟩ := border_f l hl
      have d3 : Ev (fun k => spec_DrawLongestNeighbour.f k l) (W2, H2, s2, x) := by
        unfold spec_DrawLongestNeighbour.f
        refine Ev.bind (a := (W2, H2, s2, x)) ?_ (Ev.now _)
        unfold spec_DrawNeighbours.f
        exact Ev.bind d2 (Ev.now _)
      obtain ⟨q, M, _, g1, g2, hM, gf, gt, gc⟩ := regs W2 H2 s2 (by omega)
      have hq : M ≠ [] → q = true := by intro h; cases q with | true => rfl | false => exact absurd (gf rfl) h
      have hMl := Nat.le_trans (rootsF_len M 0) hM
      have hb2 := implB_f W2 H2 s2 M hM gc g2
      have n2 := implN_f W2 H2 s2 M hM gc (fun h => (gt (hq h)).2.1) g2 x
      have hnb : ∀ z ∈ nbr W2 H2 M (rootsF M 0) x, 0 ≤ z ∧ 0 < brd W2 H2 M x z := by
        intro z hz
        unfold nbr at hz
        rw [List.mem_filter] at hz
        exact ⟨roots_nonneg M z hz.1, by simpa using hz.2⟩
      have hnl := Nat.le_trans (nbr_lenI W2 H2 M (rootsF M 0) x) hMl
      obtain ⟨u, hu, u2⟩ := long_i W2 H2 s2 (brd W2 H2 M) hb2 x (nbr W2 H2 M (rootsF M 0) x) hnl hnb _ 0 (-1) 0 (Nat.zero_add _) (.inl ⟨rfl, rfl, rfl⟩) (fun z hz => by simp at hz)
      have f2 : Ev (fun k => impl_LongestNeighbour.f k W2 H2 s2 x) u := by unfold impl_LongestNeighbour.f; exact Ev.bind n2 u2
      obtain ⟨n, e1, e2⟩ := same_f W H s s' hcov hm.cov hm.size
      have fin := long_end W H s W2 H2 s2 x u (brd W2 H2 M) hb2 _ hnl hu (fun z hz => (hnb z hz).1) n e2 _ 0 (Nat.zero_add _)
      have last : Ev (fun k => laws_FnMerged.l0 k l (s'.size : Int) W H s W H s') true := by
        refine Ev.step (f := fun k => ((impl_SameLabels.f k W H s W H s').bind fun t462 => ((spec_DrawLongestNeighbour.f k l).bind fun bt463 => ((impl_LongestNeighbour.f k bt463.1 bt463.2.1 bt463.2.2.1 bt463.2.2.2).bind fun t468 => ((impl_Neighbours.f k bt463.1 bt463.2.1 bt463.2.2.1 bt463.2.2.2).bind fun t469 => (laws_FnMerged.l2 k t462 bt463.2.2.2 t468 t469 ((0 : Nat) : Int) W H s bt463.1 bt463.2.1 bt463.2.2.1)))))) (fun k => ?_) (Ev.bind e1 (Ev.bind d3 (Ev.bind f2 (Ev.bind n2 fin))))
        simp only [laws_FnMerged.l0]
        rw [if_neg (by omega)]
        rfl
      have go := letters_l l W H s s' (by omega) (by have := hm.size; omega) hm.letter last s'.size 0 (by omega)
      have tail : Ev (fun k => laws_FnMerged.j0 k l false W H s W H s') true := by
        refine Ev.step (fun k => ?_) go
        simp [laws_FnMerged.j0]
      refine Ev.bind r2' (Ev.bind c1' ?_)
      simp only [if_true]
      refine Ev.bind r2 ?_
      simp only [if_neg (show ¬ ((rootsF N' 0).length : Int) > ((rootsF N 0).length : Int) by omega)]
      by_cases h1' : ((rootsF N' 0).length : Int) > 1
      · simp only [if_pos h1']
        refine Ev.bind (hm.stop N' c2' (by omega)) ?_
        simp only [bne_self_eq_false]
        exact tail
      · simp only [if_neg h1']
        exact tail
end Go.Proofs.Ythodhcalknelcaa.Pure.FnMerged
