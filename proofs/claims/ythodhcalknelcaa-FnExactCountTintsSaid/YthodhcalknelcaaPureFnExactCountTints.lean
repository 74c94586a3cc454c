/- The program counts a list's different elements by sorting and striking repeats, the reference by putting each into an ascending list: the numbers are the same. No condition. -/
import Derived.Test.YthodhcalknelcaaPFnExactCountTintsx
namespace Go.Proofs.Ythodhcalknelcaa.Pure.FnExactCountTints
open Go Go.RowKit Go.Proofs.Ythodhcalknelcaa.PFnExactCountTints Go.Proofs.YthodhcalknelcaaW.PrintWords Go.Proofs.YthodhcalknelcaaW.PrintLast Go.Proofs.YthodhcalknelcaaW.PrintMore Go.Proofs.YthodhcalknelcaaGeo
set_option linter.unusedVariables false
set_option linter.unusedSimpArgs false
theorem w1 (i : Nat) (h : i < 9223372036854775807) : wrap64 ((i : Int) + 1) = ((i + 1 : Nat) : Int) := by unfold wrap64; omega
theorem rd_at (l : List Int) (i : Nat) (h : i < l.length) : rd l (i : Int) = l[i] := by
  unfold rd
  rw [Int.toNat_natCast, List.getD_eq_getElem?_getD, List.getElem?_eq_getElem h]
  rfl
theorem eqInts_l (a b : List Int) (hl : a.length = b.length) (hb : a.length < 9223372036854775807) (d : Nat) : ∀ i : Nat, i + d = a.length → Ev (fun k => laws_eqIntS.l0 k a b (i : Int)) (decide (a.drop i = b.drop i)) := by
  induction d with
  | zero =>
    intro i hi
    refine Ev.step (f := fun _ => some (decide (a.drop i = b.drop i))) (fun k => ?_) (Ev.now _)
    simp only [laws_eqIntS.l0]
    rw [if_neg (by omega), List.drop_of_length_le (by omega), List.drop_of_length_le (by omega)]
    simp
  | succ d ih =>
    intro i hi
    have h1 : i < a.length := by omega
    have h2 : i < b.length := by omega
    have ea := List.drop_eq_getElem_cons h1
    have eb := List.drop_eq_getElem_cons h2
    by_cases he : a[i] = b[i]
    · have := ih (i + 1) (by omega)
      have e : decide (a.drop i = b.drop i) = decide (a.drop (i + 1) = b.drop (i + 1)) := decide_eq_decide.2 (by rw [ea, eb, List.cons.injEq]; exact ⟨fun h => h.2, fun h => ⟨he, h⟩⟩)
      rw [e]
      refine Ev.step (fun k => ?_) this
      simp only [laws_eqIntS.l0]
      rw [if_pos (by omega), if_pos (by omega), if_pos (by omega), rd_at a i h1, rd_at b i h2, if_pos he, w1 i (by omega)]
    · have e : decide (a.drop i = b.drop i) = false := decide_eq_false (by rw [ea, eb, List.cons.injEq]; exact fun h => he h.1)
      rw [e]
      refine Ev.step (f := fun _ => some false) (fun k => ?_) (Ev.now _)
      simp only [laws_eqIntS.l0]
      rw [if_pos (by omega), if_pos (by omega), if_pos (by omega), rd_at a i h1, rd_at b i h2, if_neg he]
theorem eqInts (a b : List Int) (hb : a.length < 9223372036854775807) : Ev (fun k => laws_eqIntS.f k a b) (decide (a = b)) := by
  unfold laws_eqIntS.f
  by_cases hl : a.length = b.length
  · simp only [if_pos (show (a.length : Int) = (b.length : Int) by omega)]
    have := eqInts_l a b hl hb a.length 0 (by omega)
    simpa using this
  · simp only [if_neg (show ¬ (a.length : Int) = (b.length : Int) by omega)]
    have e : decide (a = b) = false := by simp; intro h; exact hl (by rw [h])
    rw [e]
    exact Ev.now _
theorem toInts_l (l : List Int) (hb : l.length < 9223372036854775807) (d : Nat) : ∀ i : Nat, i + d = l.length → Ev (fun k => laws_toIntS.l0 k l (l.take i ++ List.replicate d 0) (i : Int)) l := by
  induction d with
  | zero =>
    intro i hi
    refine Ev.step (f := fun _ => some l) (fun k => ?_) (Ev.now _)
    simp only [laws_toIntS.l0]
    rw [if_neg (by omega), List.take_of_length_le (by omega)]
    simp
  | succ d ih =>
    intro i hi
    have h1 : i < l.length := by omega
    refine Ev.step (fun k => ?_) (ih (i + 1) (by omega))
    simp only [laws_toIntS.l0]
    rw [if_pos (by omega), if_pos (by omega), if_pos (by simp; omega), rd_at l i h1, w1 i (by omega)]
    congr 1
    rw [Int.toNat_natCast, List.set_append_right _ _ (by simp; omega), List.take_succ_eq_append_getElem h1, List.append_assoc]
    congr 1
    have : i - (l.take i).length = 0 := by simp; omega
    rw [this, List.replicate_succ]
    rfl
theorem toInts (l : List Int) (hb : l.length ≤ 35184372088832) : Ev (fun k => laws_toIntS.f k l) l := by
  unfold laws_toIntS.f
  simp only [if_pos (show 0 ≤ (l.length : Int) by omega), Int.toNat_natCast, if_pos hb]
  exact toInts_l l (by omega) l.length 0 (by omega)
def Asc (l : List Int) : Prop := l.Pairwise (· < ·)
theorem asc_eq : ∀ {a b : List Int}, Asc a → Asc b → (∀ x, x ∈ a ↔ x ∈ b) → a = b
  | [], [], _, _, _ => rfl
  | [], y :: b, _, _, h => absurd ((h y).2 (List.mem_cons_self ..)) (by simp)
  | x :: a, [], _, _, h => absurd ((h x).1 (List.mem_cons_self ..)) (by simp)
  | x :: a, y :: b, ha, hb, h => by
    have ha' := List.pairwise_cons.1 ha
    have hb' := List.pairwise_cons.1 hb
    have e : x = y := by
      rcases List.mem_cons.1 ((h x).1 (List.mem_cons_self ..)) with e | h1
      · exact e
      · rcases List.mem_cons.1 ((h y).2 (List.mem_cons_self ..)) with e | h2
        · exact e.symm
        · have := ha'.1 y h2
          have := hb'.1 x h1
          omega
    subst e
    rw [asc_eq ha'.2 hb'.2 (fun z => ⟨fun hz => ?_, fun hz => ?_⟩)]
    · rcases List.mem_cons.1 ((h z).1 (List.mem_cons_of_mem _ hz)) with e | h1
      · subst e; have := ha'.1 z hz; omega
      · exact h1
    · rcases List.mem_cons.1 ((h z).2 (List.mem_cons_of_mem _ hz)) with e | h1
      · subst e; have := hb'.1 z hz; omega
      · exact h1
def putL : List Int → Int → List Int
  | [], n => [n]
  | x :: t, n => if x < n then x :: putL t n else if x = n then x :: t else n :: x :: t
theorem putL_mem (l : List Int) (n x : Int) : x ∈ putL l n ↔ x = n ∨ x ∈ l := by
  induction l with
  | nil => simp [putL]
  | cons y t ih =>
    unfold putL
    split
    · rw [List.mem_cons, ih, List.mem_cons]
      constructor
      · rintro (h | h | h) <;> simp [h]
      · rintro (h | h | h) <;> simp [h]
    · split
      · rename_i h
        subst h
        simp
      · simp
theorem putL_asc {l : List Int} (h : Asc l) (n : Int) : Asc (putL l n) := by
  induction l with
  | nil => exact List.pairwise_singleton _ _
  | cons y t ih =>
    have h' := List.pairwise_cons.1 h
    unfold putL
    split
    · rename_i hy
      refine List.pairwise_cons.2 ⟨fun z hz => ?_, ih h'.2⟩
      rcases (putL_mem t n z).1 hz with e | hz
      · subst e; exact hy
      · exact h'.1 z hz
    · split
      · exact h
      · rename_i h1 h2
        refine List.pairwise_cons.2 ⟨fun z hz => ?_, h⟩
        rcases List.mem_cons.1 hz with e | hz
        · subst e; omega
        · have := h'.1 z hz; omega
theorem putL_len (l : List Int) (n : Int) : (putL l n).length ≤ l.length + 1 := by
  induction l with
  | nil => simp [putL]
  | cons y t ih =>
    unfold putL
    split
    · simp; omega
    · split <;> simp
theorem put_l (l : List Int) (n : Int) (hb : l.length < 1000000000) (d : Nat) : ∀ i : Nat, i + d = l.length → Ev (fun k => spec_l14Put.l0 k l n (i : Int)) (l.take i ++ putL (l.drop i) n) := by
  induction d with
  | zero =>
    intro i hi
    refine Ev.step (f := fun _ => some (l.take i ++ putL (l.drop i) n)) (fun k => ?_) (Ev.now _)
    simp only [spec_l14Put.l0]
    rw [if_neg (by omega)]
    have e1 : l.take i = l := List.take_of_length_le (by omega)
    have e2 : l.drop i = [] := List.drop_of_length_le (by omega)
    simp only [Option.bind_some, Int.toNat_natCast, e1, e2, List.nil_append, List.length_nil, List.length_append, List.length_cons, putL, List.append_nil]
    rw [if_pos (by omega), if_pos (by omega), if_pos (by omega), if_pos (by omega), if_pos (by omega)]
  | succ d ih =>
    intro i hi
    have h1 : i < l.length := by omega
    have e := List.drop_eq_getElem_cons h1
    by_cases hc : l[i] < n
    · have := ih (i + 1) (by omega)
      have e' : l.take (i + 1) ++ putL (l.drop (i + 1)) n = l.take i ++ putL (l.drop i) n := by
        rw [e, List.take_succ_eq_append_getElem h1, List.append_assoc]
        simp [putL, hc]
      rw [e'] at this
      refine Ev.step (fun k => ?_) this
      simp only [spec_l14Put.l0]
      rw [if_pos (by omega), if_pos (by omega), rd_at l i h1, if_pos hc, w1 i (by omega)]
    · by_cases hn : l[i] = n
      · have e' : l.take i ++ putL (l.drop i) n = l := by
          rw [e]
          simp only [putL, if_neg hc, if_pos hn]
          rw [← e, List.take_append_drop]
        rw [e']
        refine Ev.step (f := fun _ => some l) (fun k => ?_) (Ev.now _)
        simp only [spec_l14Put.l0]
        rw [if_pos (by omega), if_pos (by omega), rd_at l i h1, if_neg hc, if_pos hn]
        simp only [Option.bind_some, List.nil_append, List.length_nil]
        rw [if_pos (by omega)]
      · have e' : putL (l.drop i) n = n :: l.drop i := by
          rw [e]
          simp only [putL, if_neg hc, if_neg hn]
        rw [e']
        refine Ev.step (f := fun _ => some (l.take i ++ n :: l.drop i)) (fun k => ?_) (Ev.now _)
        simp only [spec_l14Put.l0]
        rw [if_pos (by omega), if_pos (by omega), rd_at l i h1, if_neg hc, if_neg hn]
        simp only [Option.bind_some, Int.toNat_natCast, List.nil_append, List.length_nil, List.length_append, List.length_cons, List.length_take, List.length_drop]
        rw [if_pos (by omega), if_pos (by omega), if_pos (by omega), if_pos (by omega)]
        simp
theorem put (l : List Int) (n : Int) (hb : l.length < 1000000000) : Ev (fun k => spec_l14Put.f k l n) (putL l n) := by
  have := put_l l n hb l.length 0 (by omega)
  simpa [spec_l14Put.f] using this
theorem compact_mem (l : List Int) (x : Int) : x ∈ Go.Lib.compact l ↔ x ∈ l := by
  unfold Go.Lib.compact Go.Lib.compactUpTo
  simp only [List.mem_map, List.mem_filter, List.mem_range]
  constructor
  · rintro ⟨j, ⟨hj, _⟩, rfl⟩
    have : l.toArray[j]! = l[j] := by simp [hj]
    rw [this]
    exact List.getElem_mem _
  · intro hx
    -- the first place that holds x
    have ex : ∃ j, j < l.length ∧ l.toArray[j]! = x ∧ ∀ i, i < j → l.toArray[i]! ≠ x := by
      obtain ⟨m, hm, e⟩ := List.getElem_of_mem hx
      have main : ∀ n, (∃ j, j < n ∧ j < l.length ∧ l.toArray[j]! = x) → ∃ j, j < l.length ∧ l.toArray[j]! = x ∧ ∀ i, i < j → l.toArray[i]! ≠ x := by
        intro n
        induction n with
        | zero => rintro ⟨j, hj, _⟩; omega
        | succ n ih =>
          rintro ⟨j, hj, hl, e⟩
          by_cases h : ∃ i, i < n ∧ i < l.length ∧ l.toArray[i]! = x
          · exact ih h
          · have : j = n := by
              rcases Nat.lt_or_ge j n with h' | h'
              · exact absurd ⟨j, h', hl, e⟩ h
              · omega
            subst this
            exact ⟨j, hl, e, fun i hi he => h ⟨i, hi, by omega, he⟩⟩
      exact main (m + 1) ⟨m, by omega, hm, by simp [hm, e]⟩
    obtain ⟨j, hj, e, hf⟩ := ex
    refine ⟨j, ⟨hj, ?_⟩, e⟩
    by_cases h0 : j = 0
    · subst h0; simp [Go.Lib.keeps]
    · exact Go.Lib.keeps_pos (by rw [e]; exact fun h => hf (j - 1) (by omega) h.symm)
theorem compact_asc {l : List Int} (h : l.Pairwise (· ≤ ·)) : Asc (Go.Lib.compact l) := by
  unfold Go.Lib.compact Go.Lib.compactUpTo Asc
  rw [List.pairwise_map]
  have hp : ((List.range l.length).filter (Go.Lib.keeps l.toArray)).Pairwise (· < ·) := List.Pairwise.filter _ List.pairwise_lt_range
  refine hp.imp_of_mem ?_
  intro a b ha hb hab
  have ha' := List.mem_filter.1 ha
  have hb' := List.mem_filter.1 hb
  have la := List.mem_range.1 ha'.1
  have lb := List.mem_range.1 hb'.1
  have ea : l.toArray[a]! = l[a] := by simp [la]
  have eb : l.toArray[b]! = l[b] := by simp [lb]
  have eb' : l.toArray[b - 1]! = l[b - 1] := by simp [show b - 1 < l.length by omega]
  have hne : l[b] ≠ l[b - 1] := by
    intro he
    have := Go.Lib.keeps_neg (d := l.toArray) (m := b) (by omega) (by rw [eb, eb', he])
    rw [this] at hb'
    exact absurd hb'.2 (by simp)
  have h1 : l[b - 1] ≤ l[b] := List.pairwise_iff_getElem.1 h (b - 1) b (by omega) lb (by omega)
  have h2 : l[a] ≤ l[b - 1] := by
    by_cases e : a = b - 1
    · subst e; exact Int.le_refl _
    · exact List.pairwise_iff_getElem.1 h a (b - 1) la (by omega) (by omega)
  rw [ea, eb]
  omega
theorem sorted_int (l : List Int) : (l.mergeSort fun x y => decide (x ≤ y)).Pairwise (· ≤ ·) := by
  have := List.pairwise_mergeSort (le := fun x y : Int => decide (x ≤ y)) (fun a b c h1 h2 => by simp at *; omega) (fun a b => by simp; omega) l
  exact this.imp (fun h => by simpa using h)
/-- Sorted and struck: the ascending list of the same elements. -/
theorem uniq_asc (l : List Int) : Asc (Go.Lib.compact (l.mergeSort fun x y => decide (x ≤ y))) := compact_asc (sorted_int l)
theorem uniq_mem (l : List Int) (x : Int) : x ∈ Go.Lib.compact (l.mergeSort fun x y => decide (x ≤ y)) ↔ x ∈ l := by rw [compact_mem]; exact List.mem_mergeSort
def putAll (s : List Int) (l : List Int) : List Int := l.foldl putL s
theorem putAll_asc (l : List Int) : ∀ s, Asc s → Asc (putAll s l) := by
  induction l with
  | nil => intro s h; exact h
  | cons x t ih => intro s h; exact ih _ (putL_asc h x)
theorem putAll_mem (l : List Int) : ∀ s x, x ∈ putAll s l ↔ x ∈ s ∨ x ∈ l := by
  induction l with
  | nil => intro s x; simp [putAll]
  | cons y t ih =>
    intro s x
    have := ih (putL s y) x
    rw [putL_mem] at this
    show x ∈ putAll (putL s y) t ↔ _
    rw [this, List.mem_cons]
    constructor
    · rintro ((h | h) | h) <;> simp [h]
    · rintro (h | h | h) <;> simp [h]
theorem putAll_len (l : List Int) : ∀ s, (putAll s l).length ≤ s.length + l.length := by
  induction l with
  | nil => intro s; simp [putAll]
  | cons y t ih =>
    intro s
    have h1 := ih (putL s y)
    have h2 := putL_len s y
    show (putAll (putL s y) t).length ≤ _
    simp only [List.length_cons]
    omega
theorem count_l (l : List Int) (hl : l.length ≤ 1048576) (d : Nat) : ∀ (i : Nat) (s : List Int), i + d = l.length → s.length ≤ i → Ev (fun k => spec_CountTints.l0 k l s (i : Int)) ((putAll s (l.drop i)).length : Int) := by
  induction d with
  | zero =>
    intro i s hi hs
    have e : l.drop i = [] := List.drop_of_length_le (by omega)
    rw [e]
    refine Ev.step (f := fun _ => some (s.length : Int)) (fun k => ?_) (Ev.now _)
    simp only [spec_CountTints.l0]
    rw [if_neg (by omega)]
  | succ d ih =>
    intro i s hi hs
    have h1 : i < l.length := by omega
    have e := List.drop_eq_getElem_cons h1
    have h2 := putL_len s l[i]
    have := ih (i + 1) (putL s l[i]) (by omega) (by omega)
    rw [e]
    refine Ev.step (f := fun k => (spec_l14Put.f k s l[i]).bind fun t => spec_CountTints.l0 k l t ((i + 1 : Nat) : Int)) (fun k => ?_) (Ev.bind (put s l[i] (by omega)) this)
    simp only [spec_CountTints.l0]
    rw [if_pos (by omega), if_pos (by omega), rd_at l i h1, w1 i (by omega)]
theorem main : ∀ (l0 : List (Int)), (l0.length ≤ 9223372036854775807 ∧ ∀ x ∈ l0, (Lit.int .i64 x).wf = true) → ∃ k, laws_FnExactCountTints.f k l0 = some true := by
  intro l h
  refine Ev.rounds (r := true) ?_
  unfold laws_FnExactCountTints.f
  by_cases hb : (l.length : Int) > 1048576
  · simp only [if_pos hb]; exact Ev.now _
  · simp only [if_neg hb]
    have ht := toInts l (by omega)
    have hc := count_l l (by omega) l.length 0 [] (by omega) (by simp)
    rw [List.drop_zero] at hc
    have hi : impl_CountTints.f l = some ((putAll [] l).length : Int) := by
      unfold impl_CountTints.f slices_Clone_int_int.f slices_Sort_int_int.f slices_Compact_int_int.f
      rw [if_pos (by omega)]
      simp only [Option.bind_some]
      rw [if_pos (by omega)]
      simp only [Option.bind_some, List.length_mergeSort]
      rw [if_pos (by omega)]
      simp only [Option.bind_some]
      rw [asc_eq (uniq_asc l) (putAll_asc l [] List.Pairwise.nil) (fun x => by rw [uniq_mem, putAll_mem]; simp)]
    refine Ev.bind ht (Ev.bind hc (Ev.bind ht ?_))
    simp only [hi, Option.bind_some, if_true]
    refine Ev.bind ht (Ev.bind (eqInts l l (by omega)) ?_)
    simp only [decide_true, if_true]
    exact Ev.now _
end Go.Proofs.Ythodhcalknelcaa.Pure.FnExactCountTints
