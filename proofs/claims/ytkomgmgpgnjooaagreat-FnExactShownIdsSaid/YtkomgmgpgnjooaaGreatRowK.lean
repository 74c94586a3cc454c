/-
  A row of the call's own whose elements' cells are a function of what they are: the words of the print (Kd.R) and the words of the library's sort (HoldsK, sortWorldK), one into the other. No condition.
-/
import Derived.Test.YtkomgmgpgnjooaaGreatWWords
import Derived.Shelf.GgSortFunc.InsertionK
import Derived.Sort.Grow
namespace Go.Proofs.YtkomgmgpgnjooaaGreatRowK
open Go Go.Sort Go.Lib Go.RowKit Go.Proofs Go.Proofs.YtkomgmgpgnjooaaGreatW.PrintWords
variable {α : Type} [Inhabited α]
/-- The kind's cells are enc of what they are. -/
structure Flat (d : Kd α) (enc : α → List Value) : Prop where
  pos : 0 < d.sz
  len : ∀ x, (enc x).length = d.sz
  one : ∀ x, ∀ v ∈ enc x, v.oneCell' = true
  of : ∀ {w base ok x cs}, d.M w base ok x cs → cs = enc x
  put : ∀ w base ok x, d.M w base ok x (enc x)
theorem reps_get {R : α → List Value → Prop} {enc : α → List Value} {k : Nat} (hR : ∀ x c, R x c → c = enc x) (hk : 0 < k) {ps : List α} {cs : List Value} (h : Reps R k ps cs) {t : Nat} (ht : t < ps.length * k) : cs[t]? = some ((enc ps.toArray[t / k]!)[t % k]!) := by
  have hj : t / k < ps.length := Nat.div_lt_of_lt_mul (by rw [Nat.mul_comm]; exact ht)
  have h1 := hR _ _ (h.2 (t / k) _ (List.getElem?_eq_getElem hj))
  have hm := Nat.mod_lt t hk
  have e : t / k * k + t % k = t := by rw [Nat.mul_comm]; exact Nat.div_add_mod t k
  have h2 : ((cs.drop (t / k * k)).take k)[t % k]? = cs[t]? := by rw [List.getElem?_take_of_lt hm, List.getElem?_drop, e]
  have hl : t < cs.length := by rw [h.1]; exact ht
  rw [h1, List.getElem?_eq_getElem hl] at h2
  rw [List.getElem?_eq_getElem hl, ← h2, show ps.toArray[t / k]! = ps[t / k] by simp [hj]]
  obtain ⟨hi, _⟩ := List.getElem?_eq_some_iff.1 h2
  rw [List.getElem?_eq_getElem hi, getElem!_pos (enc ps[t / k]) (t % k) hi]
theorem reps_flat {R : α → List Value → Prop} {enc : α → List Value} {k : Nat} (hR : ∀ x, R x (enc x)) (hk : ∀ x, (enc x).length = k) {ps : List α} {cs : List Value} (hl : cs.length = ps.length * k) (h : ∀ t, t < ps.length * k → cs[t]? = some ((enc ps.toArray[t / k]!)[t % k]!)) : Reps R k ps cs := by
  refine ⟨hl, fun j p hj => ?_⟩
  obtain ⟨hp, rfl⟩ := List.getElem?_eq_some_iff.1 hj
  have : (cs.drop (j * k)).take k = enc ps[j] := by
    have hb : j * k + k ≤ ps.length * k := by rw [← Nat.succ_mul]; exact Nat.mul_le_mul_right k hp
    apply List.ext_getElem?
    intro i
    rcases Nat.lt_or_ge i k with hi | hi
    · rw [List.getElem?_take_of_lt hi, List.getElem?_drop, h (j * k + i) (by omega)]
      have e1 : (j * k + i) / k = j := by rw [Nat.mul_comm, Nat.mul_add_div (by omega), Nat.div_eq_of_lt hi, Nat.add_zero]
      have e2 : (j * k + i) % k = i := by rw [Nat.mul_comm, Nat.mul_add_mod, Nat.mod_eq_of_lt hi]
      rw [e1, e2, show ps.toArray[j]! = ps[j] by simp [hp]]
      rw [List.getElem?_eq_getElem (by rw [hk]; exact hi), getElem!_pos _ _ (by rw [hk]; exact hi)]
    · rw [List.getElem?_eq_none (by rw [List.length_take, List.length_drop]; omega), List.getElem?_eq_none (by rw [hk]; exact hi)]
  rw [this]
  exact hR _
section
variable {d : Kd α} {enc : α → List Value} {e : Nat} {w : World} {base : Nat} {ok : Nat → Prop} {v : Value} {xs : List α}
/-- What a row holds, in the sort's words. -/
theorem Flat.holds (F : Flat d enc) (h : d.R e w base ok v xs) : (v = .slice none 0 0 ∧ xs = []) ∨ ∃ g cap cur, v = .slice (some ⟨g, 0, none⟩) xs.length cap ∧ base ≤ g ∧ ok g ∧ w.heap[g]? = some (.cells cur e (0, 0)) ∧ xs.length ≤ cap ∧ cap ≤ maxLen ∧ cur.size = cap * d.sz ∧ HoldsK enc d.sz w g 0 xs.toArray := by
  obtain ⟨h0, inner, ho, hr⟩ := h
  rcases ho.2 with ⟨rfl, hn⟩ | ⟨g, cap, cur, rfl, hg, hb, h1, h2, h3, h4⟩
  · exact .inl ⟨rfl, List.eq_nil_of_length_eq_zero hn⟩
  · refine .inr ⟨g, cap, cur, rfl, hg, h0 g rfl, hb, h1, h2, h3, fun t ht => ⟨?_, by simp [World.frozen?, hb]⟩⟩
    have ht' : t < xs.length * d.sz := by simpa using ht
    have hc := reps_get (fun x c hx => F.of hx) F.pos hr ht'
    rw [← h4, List.getElem?_take_of_lt ht', Array.getElem?_toList] at hc
    simp only [World.cell?, hb, Nat.zero_add, Option.isSome_none, Bool.false_eq_true, if_false]
    rw [hc, get_flatK _ _ _ _ (by simpa using ht')]
    rfl
theorem heap_put {g n : Nat} {os : Array Obj} {cur : Array Value} {fr : Nat × Nat} (F : Array Value) (hb : w.heap[g]? = some (.cells cur e fr)) :
    (grow (putRow id (Sort.ahead w n) g 0 F) os).heap[g]? = some (.cells (putCells id 0 F cur) e fr) := by
  have hg : g < w.heap.size := (Array.getElem?_eq_some_iff.1 hb).1
  rw [heap_grow_old _ _ (by simpa using hg)]
  simp [putRow, mapBlock, Sort.ahead, Array.getElem?_modify, hb, onCells]
theorem grownBy_put {g n : Nat} {os : Array Obj} (F : Array Value) : w.grownBy (grow (putRow id (Sort.ahead w n) g 0 F) os) (some g) := by
  refine ⟨rfl, rfl, rfl, by simp, fun k hk hne => ?_⟩
  rw [heap_grow_old _ _ (by simpa using hk)]
  have : g ≠ k := fun e => hne (by rw [e])
  simp [putRow, mapBlock, Sort.ahead, Array.getElem?_modify, this]
/-- A row that was written: of its cells those of ts are read. -/
theorem Flat.R (F : Flat d enc) {g cap n : Nat} {os : Array Obj} {cur A : Array Value} {ts : List α} (hg : base ≤ g) (hok : ok g) (hb : w.heap[g]? = some (.cells cur e (0, 0))) (h1 : ts.length ≤ cap) (h2 : cap ≤ maxLen) (h3 : cur.size = cap * d.sz) (hA : ts.length * d.sz ≤ A.size)
    (hc : ∀ t, t < ts.length * d.sz → A[t]! = (enc ts.toArray[t / d.sz]!)[t % d.sz]!) : d.R e (grow (putRow id (Sort.ahead w n) g 0 A) os) base ok (.slice (some ⟨g, 0, none⟩) ts.length cap) ts := by
  have hle : ts.length * d.sz ≤ cap * d.sz := Nat.mul_le_mul_right _ h1
  have hl : ((putCells id 0 A cur).toList.take (ts.length * d.sz)).length = ts.length * d.sz := by rw [List.length_take]; simp [putCells]; omega
  refine ⟨fun k hk => by cases hk; exact hok, (putCells id 0 A cur).toList.take (ts.length * d.sz), ⟨hl, .inr ⟨g, cap, _, rfl, hg, heap_put A hb, h1, h2, by simp [putCells, h3], rfl⟩⟩, reps_flat (fun x => F.put _ _ _ x) F.len hl fun t ht => ?_⟩
  rw [List.getElem?_take_of_lt ht, Array.getElem?_toList]
  simp only [putCells, Array.getElem?_mapIdx]
  rw [Array.getElem?_eq_getElem (by omega), Option.map_some, if_pos (by omega), Nat.sub_zero, ← hc t ht]
  rfl
/-- .. and all of it at once. -/
theorem Flat.sorted (F : Flat d enc) {g cap n : Nat} {os : Array Obj} {cur : Array Value} {ts : List α} (hg : base ≤ g) (hok : ok g) (hb : w.heap[g]? = some (.cells cur e (0, 0))) (h1 : ts.length ≤ cap) (h2 : cap ≤ maxLen) (h3 : cur.size = cap * d.sz) :
    d.R e (sortWorldK enc d.sz w g 0 n ts.toArray os) base ok (.slice (some ⟨g, 0, none⟩) ts.length cap) ts :=
  F.R hg hok hb h1 h2 h3 (by simp) (fun t ht => get_flatK _ _ _ _ (by simpa using ht))
end
/-- A store of an element. -/
theorem setMany_flatK (enc : α → List Value) (k : Nat) (hk : ∀ x, (enc x).length = k) (d : Array α) (i : Nat) (x : α) (hi : i < d.size) : setMany (flatK enc k d) (i * k) (enc x) = flatK enc k (d.setIfInBounds i x) := by
  refine ext_get! (by simp) fun t ht => ?_
  have ht' : t < d.size * k := by simpa using ht
  have k0 : 0 < k := by
    rcases Nat.eq_zero_or_pos k with h | h
    · subst h; simp at ht'
    · exact h
  have hj : t / k < d.size := Nat.div_lt_of_lt_mul (by rw [Nat.mul_comm]; exact ht')
  rw [get_setMany _ _ _ t (by simpa using ht'), get_flatK _ _ _ t ht', get_flatK _ _ _ t (by simpa using ht'), hk]
  by_cases a : t / k = i
  · rw [if_pos ((blk_iff k i t k0).2 a)]
    have m : t - i * k = t % k := by subst a; rw [Nat.mod_eq_sub_div_mul]
    rw [m, ← a, getElem!_set_same d _ _ hj]
  · rw [if_neg (fun h => a ((blk_iff k i t k0).1 h)), getElem!_set_other d _ _ _ a]
end Go.Proofs.YtkomgmgpgnjooaaGreatRowK
