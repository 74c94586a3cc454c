-- Written by a program of this session's: the kit's print, turned (turnprint.py): functions, and that Go comes to just their answers.
import Derived.Test.YthodhcalknelcaaZ
import Derived.Test.YthodhcalknelcaaPFnMergedx0
import Derived.Test.YthodhcalknelcaaPFnMergedx5
import Derived.Test.YthodhcalknelcaaPFnMergedx6
namespace Go.Proofs.Ythodhcalknelcaa.PFnMerged
open Go.RowKit Go.Proofs.YthodhcalknelcaaW.PrintWords Go.Proofs.YthodhcalknelcaaW.PrintLast Go.Proofs.YthodhcalknelcaaW.PrintMore Go.Proofs.YthodhcalknelcaaGeo Go.Proofs.YthodhcalknelcaaHand Go.Proofs.YthodhcalknelcaaZ
attribute [local go_sem] max2_int min2_int max_two min_two max_three min_three max_four min_four   -- for this text's walks alone
set_option linter.unusedVariables false
set_option linter.unusedSimpArgs false

/-- A state of type 26 at block g of W; what its slices lead to came in by w0. -/
def IsS26 (w0 W : World) (g : Nat) (f0 : Int) (f1 : Int) (f2 : ByteArray) : Prop := W.heap[g]? = some (.cells #[.int .i64 f0, .int .i64 f1, .string f2] 26 (0, 0)) ∧ w0.heap.size ≤ g
theorem IsS26.grown {w0 W : World} {g : Nat} {f0 : Int} {f1 : Int} {f2 : ByteArray} {W1 : World} {row : Option Nat} (h : IsS26 w0 W g f0 f1 f2) (hw : W.grownBy W1 row) (hne : some g ≠ row) : IsS26 w0 W1 g f0 f1 f2 := by
  obtain ⟨hb, hg⟩ := h
  exact ⟨blk_grown hb hw hne, hg⟩
theorem IsS26.own_neN {w0 W : World} {g : Nat} {f0 : Int} {f1 : Int} {f2 : ByteArray} {α : Type} {d : Kd α} {e : Nat} {base : Nat} {ok : Nat → Prop} {v : Value} {xs : List α} (h : IsS26 w0 W g f0 f1 f2) (ho : Kd.N d e W base ok v xs) (ht : e ≠ 26) : some g ≠ v.ownBlock := by
  obtain ⟨hb, hg⟩ := h
  exact Kd.N_ne ho hb ht
theorem IsS26.fresh {w0 W : World} {g : Nat} {f0 : Int} {f1 : Int} {f2 : ByteArray} (h : IsS26 w0 W g f0 f1 f2) : ∀ k, W.heap.size ≤ k → k ≠ g := by
  obtain ⟨hb, hg⟩ := h
  exact Kd.freshB hb
theorem IsS26.kept {w0 W : World} {g : Nat} {f0 : Int} {f1 : Int} {f2 : ByteArray} {W1 : World} {S : Nat → Prop} (h : IsS26 w0 W g f0 f1 f2) (hk : Kept W W1 S) (hne : ¬ S g) : IsS26 w0 W1 g f0 f1 f2 := by
  obtain ⟨hb, hg⟩ := h
  exact ⟨blk_kept hb hk hne, hg⟩
theorem IsS26.below {w0 W : World} {g : Nat} {f0 : Int} {f1 : Int} {f2 : ByteArray} {W1 : World} (h : IsS26 w0 W g f0 f1 f2) (hw : Below W.heap.size W W1) : IsS26 w0 W1 g f0 f1 f2 := h.grown (grown_of_below hw none) (by simp)
theorem IsS26.alloc {w0 W : World} {g : Nat} {f0 : Int} {f1 : Int} {f2 : ByteArray} (h : IsS26 w0 W g f0 f1 f2) (o : Obj) : IsS26 w0 (W.alloc o) g f0 f1 f2 := h.below (below_alloc (Below.refl _ _) o)
theorem IsS26.drewN {w0 W : World} {g : Nat} {f0 : Int} {f1 : Int} {f2 : ByteArray} (h : IsS26 w0 W g f0 f1 f2) (m : Nat) : IsS26 w0 (W.drewN m) g f0 f1 f2 := h
theorem IsS26.drew {w0 W : World} {g : Nat} {f0 : Int} {f1 : Int} {f2 : ByteArray} (h : IsS26 w0 W g f0 f1 f2) : IsS26 w0 W.drew g f0 f1 f2 := h
theorem IsS26.at_ {w0 W : World} {g : Nat} {f0 : Int} {f1 : Int} {f2 : ByteArray} {w' : World} {m : Nat} (hq : W.drewN m = w') (h : IsS26 w0 W g f0 f1 f2) : IsS26 w0 w' g f0 f1 f2 := by subst hq; exact IsS26.drewN h m
theorem IsS26.apart {w0 W : World} {g : Nat} {f0 : Int} {f1 : Int} {f2 : ByteArray} {α : Type} {d : Kd α} {e : Nat} {base : Nat} {ok : Nat → Prop} {v : Value} {xs : List α} (h : IsS26 w0 W g f0 f1 f2) (ho : d.R e W base ok v xs) (ht : ∀ q, q ∈ e :: d.E → q ≠ 26) : d.R e W base (fun k => ok k ∧ k ≠ g) v xs := by
  obtain ⟨hb, hg⟩ := h
  exact Kd.R_types ho hb ht
theorem IsS26.own_ne {w0 W : World} {g : Nat} {f0 : Int} {f1 : Int} {f2 : ByteArray} {α : Type} {d : Kd α} {e : Nat} {base : Nat} {ok : Nat → Prop} {v : Value} {xs : List α} (h : IsS26 w0 W g f0 f1 f2) (ho : d.R e W base ok v xs) (ht : e ≠ 26) : some g ≠ v.ownBlock := by
  obtain ⟨hb, hg⟩ := h
  exact Kd.R_ne ho hb ht
theorem IsS26.apartQ {w0 W : World} {g : Nat} {f0 : Int} {f1 : Int} {f2 : ByteArray} {α : Type} {d : Kd α} {e : Nat} {base : Nat} {ok : Nat → Prop} {v : Value} {xs : List α} (h : IsS26 w0 W g f0 f1 f2) (ho : d.Q e W base ok v xs) (ht : ∀ q, q ∈ e :: d.E → q ≠ 26) : d.Q e W base (fun k => ok k ∧ k ≠ g) v xs := by
  obtain ⟨hb, hg⟩ := h
  exact Kd.Q_types ho hb ht
theorem IsS26.own_neQ {w0 W : World} {g : Nat} {f0 : Int} {f1 : Int} {f2 : ByteArray} {α : Type} {d : Kd α} {e : Nat} {base : Nat} {ok : Nat → Prop} {v : Value} {xs : List α} (h : IsS26 w0 W g f0 f1 f2) (ho : d.Q e W base ok v xs) (ht : e ≠ 26) : some g ≠ v.ownBlock := by
  obtain ⟨hb, hg⟩ := h
  exact Kd.Q_ne ho hb ht
theorem IsS26.apartS {w0 W : World} {g : Nat} {f0 : Int} {f1 : Int} {f2 : ByteArray} {α : Type} {d : Kd α} {e : Nat} {base : Nat} {ok : Nat → Prop} {v : Value} {xs : List α} (h : IsS26 w0 W g f0 f1 f2) (ho : d.S e W base ok v xs) (ht : ∀ q, q ∈ e :: d.E → q ≠ 26) : d.S e W base (fun k => ok k ∧ k ≠ g) v xs := by
  obtain ⟨hb, hg⟩ := h
  exact Kd.S_types ho hb ht
theorem IsS26.own_neS {w0 W : World} {g : Nat} {f0 : Int} {f1 : Int} {f2 : ByteArray} {α : Type} {d : Kd α} {e : Nat} {base : Nat} {ok : Nat → Prop} {v : Value} {xs : List α} (h : IsS26 w0 W g f0 f1 f2) (ho : d.S e W base ok v xs) (ht : e ≠ 26) : some g ≠ v.ownBlock := by
  obtain ⟨hb, hg⟩ := h
  exact Kd.S_ne ho hb ht
theorem IsS26.lt {w0 W : World} {g : Nat} {f0 : Int} {f1 : Int} {f2 : ByteArray} (h : IsS26 w0 W g f0 f1 f2) : g < W.heap.size := by
  obtain ⟨hb, hg⟩ := h
  exact blk_lt hb
theorem IsS26.ge {w0 W : World} {g : Nat} {f0 : Int} {f1 : Int} {f2 : ByteArray} (h : IsS26 w0 W g f0 f1 f2) : w0.heap.size ≤ g := by
  obtain ⟨hb, hg⟩ := h
  exact hg
theorem IsS26.ne_blk {w0 W : World} {g : Nat} {f0 : Int} {f1 : Int} {f2 : ByteArray} {a : Nat} {cs : Array Value} {t : TypeId} {fr : Nat × Nat} (h : IsS26 w0 W g f0 f1 f2) (hb2 : W.heap[a]? = some (.cells cs t fr)) (ht : t ≠ 26) : g ≠ a := by
  obtain ⟨hb, hg⟩ := h; rintro rfl; rw [hb] at hb2
  injection hb2 with hb2
  injection hb2 with _ ht2
  exact ht ht2.symm
theorem IsS26.far {w0 W : World} {g : Nat} {f0 : Int} {f1 : Int} {f2 : ByteArray} {p : Addr} (h : IsS26 w0 W g f0 f1 f2) (hne : g ≠ p.block) (u : Value) : IsS26 w0 (W.setCell p u) g f0 f1 f2 := by
  obtain ⟨hb, hg⟩ := h
  exact ⟨blk_far hb hne u, hg⟩
theorem cellS26_0 {W : World} {g : Nat} {f0 : Int} {f1 : Int} {f2 : ByteArray} (h : W.heap[g]? = some (.cells #[.int .i64 f0, .int .i64 f1, .string f2] 26 (0, 0))) : W.cell? ⟨g, 0, none⟩ = some (.int .i64 f0) := (blk_cell h 0).trans rfl
theorem IsS26.set_0 {w0 W : World} {g : Nat} {f0 : Int} {f1 : Int} {f2 : ByteArray} (h : IsS26 w0 W g f0 f1 f2) (x : Int) : IsS26 w0 (W.setCell ⟨g, 0, none⟩ (.int .i64 x)) g x f1 f2 := by
  obtain ⟨hb, hg⟩ := h
  exact ⟨by simpa using blk_set hb 0 (.int .i64 x), hg⟩
theorem cellS26_1 {W : World} {g : Nat} {f0 : Int} {f1 : Int} {f2 : ByteArray} (h : W.heap[g]? = some (.cells #[.int .i64 f0, .int .i64 f1, .string f2] 26 (0, 0))) : W.cell? ⟨g, 1, none⟩ = some (.int .i64 f1) := (blk_cell h 1).trans rfl
theorem IsS26.set_1 {w0 W : World} {g : Nat} {f0 : Int} {f1 : Int} {f2 : ByteArray} (h : IsS26 w0 W g f0 f1 f2) (x : Int) : IsS26 w0 (W.setCell ⟨g, 1, none⟩ (.int .i64 x)) g f0 x f2 := by
  obtain ⟨hb, hg⟩ := h
  exact ⟨by simpa using blk_set hb 1 (.int .i64 x), hg⟩
theorem cellS26_2 {W : World} {g : Nat} {f0 : Int} {f1 : Int} {f2 : ByteArray} (h : W.heap[g]? = some (.cells #[.int .i64 f0, .int .i64 f1, .string f2] 26 (0, 0))) : W.cell? ⟨g, 2, none⟩ = some (.string f2) := (blk_cell h 2).trans rfl
theorem IsS26.set_2 {w0 W : World} {g : Nat} {f0 : Int} {f1 : Int} {f2 : ByteArray} (h : IsS26 w0 W g f0 f1 f2) (x : ByteArray) : IsS26 w0 (W.setCell ⟨g, 2, none⟩ (.string x)) g f0 f1 x := by
  obtain ⟨hb, hg⟩ := h
  exact ⟨by simpa using blk_set hb 2 (.string x), hg⟩
theorem IsS26.new (w0 W : World) (f0 : Int) (f1 : Int) (f2 : ByteArray) (hB : Below w0.heap.size w0 W) : IsS26 w0 (W.alloc (.cells #[.int .i64 f0, .int .i64 f1, .string f2] 26)) W.heap.size f0 f1 f2 := ⟨by simpa using heap_alloc_new W _, hB.size⟩

/-! ### impl_TakeLabel: function 31 -/
/-- Cells put into a row of bytes. -/
def tlPut (l : List Int) (t : List Int) (c : Int) : List Int := t.foldl (fun l i => l.set i.toNat c) l
def tlNums (s : ByteArray) : List Int := s.data.toList.map fun b => (b.toNat : Int)
theorem tl_two1 (w : World) (o o' : Obj) : ((w.alloc o).alloc o').heap[w.heap.size]? = some o := blk_alloc (blk_new w o) o'
theorem tl_two2 (w : World) (o o' : Obj) : ((w.alloc o).alloc o').heap[w.heap.size + 1]? = some o' := by have := blk_new (w.alloc o) o'; simpa using this
theorem tl_c3 {w : World} {g : Nat} {t : TypeId} {v0 v1 v2 : Value} (h : w.heap[g]? = some (.cells #[v0, v1, v2] t (0, 0))) : w.cell? ⟨g, 0, none⟩ = some v0 ∧ w.cell? ⟨g, 1, none⟩ = some v1 ∧ w.cell? ⟨g, 2, none⟩ = some v2 := ⟨blk_cell h 0, blk_cell h 1, blk_cell h 2⟩
theorem tl_pred {n i k : Nat} (h : n - i ≤ k) (h' : i < n) : ∃ k1, k = k1 + 1 ∧ n - (i + 1) ≤ k1 := ⟨k - 1, by omega, by omega⟩
theorem tl_set {w : World} {g : Nat} {t : TypeId} {cs : Array Value} {fr : Nat × Nat} (h : w.heap[g]? = some (.cells cs t fr)) (i : Nat) (u : Value) : (w.setCell ⟨g, i, none⟩ u).heap[g]? = some (.cells (cs.setIfInBounds i u) t fr) := by
  simp [World.setCell, Array.getElem?_modify, h]
theorem tl_far {w : World} {g : Nat} {o : Obj} (h : w.heap[g]? = some o) {p : Addr} (hp : g ≠ p.block) (u : Value) : (w.setCell p u).heap[g]? = some o := (Below.heap_setCell w p u g hp).trans h
theorem tl_frozen {w : World} {g n j : Nat} {t : TypeId} {cs : Array Value} (h : w.heap[g]? = some (.cells cs t (n, n + 1))) (hj : j < n) : w.frozen? ⟨g, j, none⟩ = false := by
  simp [World.frozen?, h]; omega
theorem tl_cell {cur : Array Value} {t : List Int} {n : Nat} (h : cur.toList.take n = encs (Value.int .i64) t) (j : Nat) (hj : j < t.length) : cur[j]? = some (.int .i64 (t.getD j 0)) := by
  have h1 := congrArg (fun l => l[j]?) h; have hn : j < n := by
    have h2 := congrArg List.length h; simp [encs] at h2; omega
  simp only [List.getElem?_take, if_pos hn, encs, List.getElem?_map, List.getElem?_eq_getElem hj, Option.map_some] at h1; rw [← Array.getElem?_toList, h1, List.getD_eq_getElem?_getD, List.getElem?_eq_getElem hj]; rfl
/-- A row of bytes. -/
def tlRow (l : List Int) (p : Nat) : Array Value := (l.map (Value.int .u8)).toArray ++ Array.replicate p (.int .u8 0)
theorem tlRow_get (l : List Int) (p j : Nat) : (tlRow l p)[j]? = if j < l.length then some (.int .u8 (l.getD j 0)) else (Array.replicate p (Value.int .u8 0))[j - l.length]? := by
  unfold tlRow
  rw [Array.getElem?_append]; simp only [List.size_toArray, List.length_map]
  by_cases h : j < l.length
  · rw [if_pos h, if_pos h, List.getElem?_toArray, List.getElem?_map, List.getElem?_eq_getElem h, List.getD_eq_getElem?_getD, List.getElem?_eq_getElem h]; rfl
  · rw [if_neg h, if_neg h]
theorem tlRow_size (l : List Int) (p : Nat) : (tlRow l p).size = l.length + p := by unfold tlRow; rw [Array.size_append]; simp
theorem tlRow_set (l : List Int) (p i : Nat) (hi : i < l.length) (c : Int) : (tlRow l p).setIfInBounds i (.int .u8 c) = tlRow (l.set i c) p := by
  apply Array.ext_getElem?
  intro j; rw [Array.getElem?_setIfInBounds, tlRow_get, tlRow_get, List.length_set]
  by_cases h : i = j
  · subst h; rw [if_pos rfl, if_pos hi, tlRow_size, if_pos (by omega), List.getD_eq_getElem?_getD, List.getElem?_set, if_pos rfl, if_pos hi]; rfl
  · rw [if_neg h, List.getD_eq_getElem?_getD, List.getD_eq_getElem?_getD, List.getElem?_set, if_neg h]
theorem tlPut_len (l t : List Int) (c : Int) : (tlPut l t c).length = l.length := by
  unfold tlPut
  induction t generalizing l with
  | nil => rfl
  | cons x t ih => rw [List.foldl_cons, ih]; simp
theorem tlPut_take (l t : List Int) (c : Int) (i : Nat) (h : i < t.length) : tlPut l (t.take (i + 1)) c = (tlPut l (t.take i) c).set (t.getD i 0).toNat c := by
  unfold tlPut
  rw [List.take_succ_eq_append_getElem h, List.foldl_append, List.getD_eq_getElem?_getD, List.getElem?_eq_getElem h]; rfl
theorem tlNums_len (s : ByteArray) : (tlNums s).length = s.size := by unfold tlNums; rw [List.length_map]; rfl
theorem tlNums_row (s : ByteArray) (cap : Nat) : bytesRow s cap = tlRow (tlNums s) (cap - s.size) := by
  unfold bytesRow tlRow tlNums
  congr 1
  apply Array.ext'
  rw [Array.toList_map]; simp only [List.map_map]
  rfl
set_option maxHeartbeats 8000000 in
set_option maxRecDepth 100000 in
theorem impl_TakeLabel.no1 (a b : Int) (s : ByteArray) (m : Int) (lt : ByteArray) (t : List Int) (k : Nat) (hk : impl_RegionCells.f k a b s m = some t) (w : World) (ht : t = []) :
    Calls Try.prog 31 #[.agg #[.int .i64 a, .int .i64 b, .string s], .int .i64 m, .string lt] w fun e w' => e = .returned (.tuple #[.agg #[.int .i64 a, .int .i64 b, .string s], .bool false]) ∧ Below w.heap.size w w' := by
  subst ht; have HB := Aside0.mk (Below.refl w.heap.size w)
  go_enter Try.func31, Try.ntmps31; go_wp2_with (first
    | (go_at_call 24; refine (impl_RegionCells.calls k _ _ _ _ _ _ hk).mono ?_; rintro e w1 ⟨v0, rfl, hr, hb⟩; obtain ⟨A, c, rfl⟩ := Kd.R_slice hr; have hS := blk_below (tl_two1 w _ _) hb; have hT := blk_below (tl_two2 w _ _) hb; have n0 := Aside0.mk (below_step (by repeat (first | (with_reducible first | exact HB.out | apply below_alloc | apply below_drew1 | apply pw_below_drewN) | exact HB.out)) hb); clear HB; have HB := n0; clear n0; obtain ⟨k0, k1, k2⟩ := tl_c3 hS; obtain ⟨j0, j1, j2⟩ := tl_c3 hT; have f0 := blk_frozen hT 0; have f1 := blk_frozen hT 1; have f2 := blk_frozen hT 2; have GT : w.heap.size ≤ w.heap.size + 1 := Nat.le_succ _; clear hb))
  refine bodyPost_ret (results_ct rfl _ _ (w.heap.size + 1) 26 #[.int .i64 a, .int .i64 b, .string s] (0, 0) _ rfl (by refine blk_put (cs := #[.int .i64 a, .int .i64 b, .string (⟨#[]⟩ : ByteArray)]) ?_ 2 _ rfl; refine blk_put (cs := #[.int .i64 a, .int .i64 0, .string (⟨#[]⟩ : ByteArray)]) ?_ 1 _ rfl; refine blk_put (cs := #[.int .i64 0, .int .i64 0, .string (⟨#[]⟩ : ByteArray)]) ?_ 0 _ rfl; exact hT) Try.underlying26 rfl (by kernel_rfl)) rfl ?_
  exact ⟨rfl, below_set (below_set (below_set HB.out GT) GT) GT⟩
set_option maxHeartbeats 8000000 in
set_option maxRecDepth 100000 in
theorem impl_TakeLabel.no2 (a b : Int) (s : ByteArray) (m : Int) (lt : ByteArray) (t : List Int) (k : Nat) (hk : impl_RegionCells.f k a b s m = some t) (w : World) (ht : t ≠ []) (hl : lt.size ≠ 1) :
    Calls Try.prog 31 #[.agg #[.int .i64 a, .int .i64 b, .string s], .int .i64 m, .string lt] w fun e w' => e = .returned (.tuple #[.agg #[.int .i64 a, .int .i64 b, .string s], .bool false]) ∧ Below w.heap.size w w' := by
  have q0 : (t = []) = False := eq_false ht; have q1 : (lt.size = 1) = False := eq_false hl; have HB := Aside0.mk (Below.refl w.heap.size w)
  go_enter Try.func31, Try.ntmps31; go_wp2_with (first
    | (go_at_call 24; refine (impl_RegionCells.calls k _ _ _ _ _ _ hk).mono ?_; rintro e w1 ⟨v0, rfl, hr, hb⟩; obtain ⟨A, c, rfl⟩ := Kd.R_slice hr; have hS := blk_below (tl_two1 w _ _) hb; have hT := blk_below (tl_two2 w _ _) hb; have n0 := Aside0.mk (below_step (by repeat (first | (with_reducible first | exact HB.out | apply below_alloc | apply below_drew1 | apply pw_below_drewN) | exact HB.out)) hb); clear HB; have HB := n0; clear n0; obtain ⟨k0, k1, k2⟩ := tl_c3 hS; obtain ⟨j0, j1, j2⟩ := tl_c3 hT; have f0 := blk_frozen hT 0; have f1 := blk_frozen hT 1; have f2 := blk_frozen hT 2; have GT : w.heap.size ≤ w.heap.size + 1 := Nat.le_succ _; clear hb))
  refine bodyPost_ret (results_ct rfl _ _ (w.heap.size + 1) 26 #[.int .i64 a, .int .i64 b, .string s] (0, 0) _ rfl (by refine blk_put (cs := #[.int .i64 a, .int .i64 b, .string (⟨#[]⟩ : ByteArray)]) ?_ 2 _ rfl; refine blk_put (cs := #[.int .i64 a, .int .i64 0, .string (⟨#[]⟩ : ByteArray)]) ?_ 1 _ rfl; refine blk_put (cs := #[.int .i64 0, .int .i64 0, .string (⟨#[]⟩ : ByteArray)]) ?_ 0 _ rfl; exact hT) Try.underlying26 rfl (by kernel_rfl)) rfl ?_
  exact ⟨rfl, below_set (below_set (below_set HB.out GT) GT) GT⟩
set_option maxHeartbeats 8000000 in
set_option maxRecDepth 100000 in
theorem impl_TakeLabel.no3 (a b : Int) (s : ByteArray) (m : Int) (lt : ByteArray) (t : List Int) (k : Nat) (hk : impl_RegionCells.f k a b s m = some t) (w : World) (ht : t ≠ []) (hl : lt.size = 1) (h3 : bt lt 0 < 97) :
    Calls Try.prog 31 #[.agg #[.int .i64 a, .int .i64 b, .string s], .int .i64 m, .string lt] w fun e w' => e = .returned (.tuple #[.agg #[.int .i64 a, .int .i64 b, .string s], .bool false]) ∧ Below w.heap.size w w' := by
  have q0 : (t = []) = False := eq_false ht; have e0 : ∀ h : 0 < lt.size, ((lt[0]'h).toNat : Int) = bt lt 0 := fun h => bt_at lt 0 h
  have b0 : ((t.length : Int) == 0) = false := by have := List.length_pos_iff.2 ht; simp; omega
  generalize hx : bt lt 0 = x at *; have q1 : (x < 97) = True := eq_true h3; have q2 : (97 ≤ x) = False := eq_false (by omega); have HB := Aside0.mk (Below.refl w.heap.size w)
  go_enter Try.func31, Try.ntmps31; go_wp2_with (first
    | (go_at_call 24; refine (impl_RegionCells.calls k _ _ _ _ _ _ hk).mono ?_; rintro e w1 ⟨v0, rfl, hr, hb⟩; obtain ⟨A, c, rfl⟩ := Kd.R_slice hr; have hS := blk_below (tl_two1 w _ _) hb; have hT := blk_below (tl_two2 w _ _) hb; have n0 := Aside0.mk (below_step (by repeat (first | (with_reducible first | exact HB.out | apply below_alloc | apply below_drew1 | apply pw_below_drewN) | exact HB.out)) hb); clear HB; have HB := n0; clear n0; obtain ⟨k0, k1, k2⟩ := tl_c3 hS; obtain ⟨j0, j1, j2⟩ := tl_c3 hT; have f0 := blk_frozen hT 0; have f1 := blk_frozen hT 1; have f2 := blk_frozen hT 2; have GT : w.heap.size ≤ w.heap.size + 1 := Nat.le_succ _; clear hb))
  refine bodyPost_ret (results_ct rfl _ _ (w.heap.size + 1) 26 #[.int .i64 a, .int .i64 b, .string s] (0, 0) _ rfl (by refine blk_put (cs := #[.int .i64 a, .int .i64 b, .string (⟨#[]⟩ : ByteArray)]) ?_ 2 _ rfl; refine blk_put (cs := #[.int .i64 a, .int .i64 0, .string (⟨#[]⟩ : ByteArray)]) ?_ 1 _ rfl; refine blk_put (cs := #[.int .i64 0, .int .i64 0, .string (⟨#[]⟩ : ByteArray)]) ?_ 0 _ rfl; exact hT) Try.underlying26 rfl (by kernel_rfl)) rfl ?_
  exact ⟨rfl, below_set (below_set (below_set HB.out GT) GT) GT⟩
set_option maxHeartbeats 8000000 in
set_option maxRecDepth 100000 in
theorem impl_TakeLabel.no4 (a b : Int) (s : ByteArray) (m : Int) (lt : ByteArray) (t : List Int) (k : Nat) (hk : impl_RegionCells.f k a b s m = some t) (w : World) (ht : t ≠ []) (hl : lt.size = 1) (h3 : bt lt 0 > 122) :
    Calls Try.prog 31 #[.agg #[.int .i64 a, .int .i64 b, .string s], .int .i64 m, .string lt] w fun e w' => e = .returned (.tuple #[.agg #[.int .i64 a, .int .i64 b, .string s], .bool false]) ∧ Below w.heap.size w w' := by
  have q0 : (t = []) = False := eq_false ht; have e0 : ∀ h : 0 < lt.size, ((lt[0]'h).toNat : Int) = bt lt 0 := fun h => bt_at lt 0 h
  have b0 : ((t.length : Int) == 0) = false := by have := List.length_pos_iff.2 ht; simp; omega
  generalize hx : bt lt 0 = x at *; have q1 : (x < 97) = False := eq_false (by omega); have q2 : (97 ≤ x) = True := eq_true (by omega); have q3 : (x ≤ 122) = False := eq_false (by omega); have q4 : (122 < x) = True := eq_true h3; have HB := Aside0.mk (Below.refl w.heap.size w)
  go_enter Try.func31, Try.ntmps31; go_wp2_with (first
    | (go_at_call 24; refine (impl_RegionCells.calls k _ _ _ _ _ _ hk).mono ?_; rintro e w1 ⟨v0, rfl, hr, hb⟩; obtain ⟨A, c, rfl⟩ := Kd.R_slice hr; have hS := blk_below (tl_two1 w _ _) hb; have hT := blk_below (tl_two2 w _ _) hb; have n0 := Aside0.mk (below_step (by repeat (first | (with_reducible first | exact HB.out | apply below_alloc | apply below_drew1 | apply pw_below_drewN) | exact HB.out)) hb); clear HB; have HB := n0; clear n0; obtain ⟨k0, k1, k2⟩ := tl_c3 hS; obtain ⟨j0, j1, j2⟩ := tl_c3 hT; have f0 := blk_frozen hT 0; have f1 := blk_frozen hT 1; have f2 := blk_frozen hT 2; have GT : w.heap.size ≤ w.heap.size + 1 := Nat.le_succ _; clear hb))
  refine bodyPost_ret (results_ct rfl _ _ (w.heap.size + 1) 26 #[.int .i64 a, .int .i64 b, .string s] (0, 0) _ rfl (by refine blk_put (cs := #[.int .i64 a, .int .i64 b, .string (⟨#[]⟩ : ByteArray)]) ?_ 2 _ rfl; refine blk_put (cs := #[.int .i64 a, .int .i64 0, .string (⟨#[]⟩ : ByteArray)]) ?_ 1 _ rfl; refine blk_put (cs := #[.int .i64 0, .int .i64 0, .string (⟨#[]⟩ : ByteArray)]) ?_ 0 _ rfl; exact hT) Try.underlying26 rfl (by kernel_rfl)) rfl ?_
  exact ⟨rfl, below_set (below_set (below_set HB.out GT) GT) GT⟩
set_option maxHeartbeats 8000000 in
set_option maxRecDepth 100000 in
theorem impl_TakeLabel.yes (a b : Int) (s : ByteArray) (m : Int) (lt : ByteArray) (t : List Int) (k : Nat) (hk : impl_RegionCells.f k a b s m = some t) (w : World) (ht : t ≠ []) (hl : lt.size = 1) (h3 : 97 ≤ bt lt 0) (h4 : bt lt 0 ≤ 122) (hin : ∀ i ∈ t, 0 ≤ i ∧ i < (s.size : Int)) (hs : s.size ≤ 9223372036854775807) (hln : t.length ≤ 1000000) :
    Calls Try.prog 31 #[.agg #[.int .i64 a, .int .i64 b, .string s], .int .i64 m, .string lt] w fun e w' => e = .returned (.tuple #[.agg #[.int .i64 a, .int .i64 b, .string (strOfNums (tlPut (tlNums s) t (bt lt 0)))], .bool true]) ∧ Below w.heap.size w w' := by
  have q0 : (t = []) = False := eq_false ht; have e0 : ∀ h : 0 < lt.size, ((lt[0]'h).toNat : Int) = bt lt 0 := fun h => bt_at lt 0 h
  have b0 : ((t.length : Int) == 0) = false := by have := List.length_pos_iff.2 ht; simp; omega
  generalize hx : bt lt 0 = x at *; have q1 : (x < 97) = False := eq_false (by omega); have q2 : (97 ≤ x) = True := eq_true (by omega); have q3 : (x ≤ 122) = True := eq_true (by omega); have q4 : (122 < x) = False := eq_false (by omega); have HB := Aside0.mk (Below.refl w.heap.size w)
  go_enter Try.func31, Try.ntmps31; go_wp2_with (first
    | (go_at_call 24; refine (impl_RegionCells.calls k _ _ _ _ _ _ hk).mono ?_; rintro e w1 ⟨v0, rfl, hr, hb⟩; obtain ⟨A, c, rfl⟩ := Kd.R_slice hr; have hS := blk_below (tl_two1 w _ _) hb; have hT := blk_below (tl_two2 w _ _) hb; have n0 := Aside0.mk (below_step (by repeat (first | (with_reducible first | exact HB.out | apply below_alloc | apply below_drew1 | apply pw_below_drewN) | exact HB.out)) hb); clear HB; have HB := n0; clear n0; obtain ⟨k0, k1, k2⟩ := tl_c3 hS; obtain ⟨j0, j1, j2⟩ := tl_c3 hT; have f0 := blk_frozen hT 0; have f1 := blk_frozen hT 1; have f2 := blk_frozen hT 2; have GT : w.heap.size ≤ w.heap.size + 1 := Nat.le_succ _; clear hb; have hcv := run_bytes_of_string (P := Try.prog) w1 9 45 5 s Try.underlying9 Try.underlying45 Try.underlying5))
  obtain ⟨g, cur, hA, hg, hRC, hcur⟩ : ∃ g cur, A = some ⟨g, 0, none⟩ ∧ w.heap.size + 2 ≤ g ∧ w1.heap[g]? = some (.cells cur 3 (0, 0)) ∧ cur.toList.take t.length = encs (Value.int .i64) t := by
    rcases (Kd.own_of_R hr).2 with ⟨e, h0⟩ | ⟨g, cap, cur, e, hg, hb, h1, h2, h3, h4⟩
    · exact absurd (List.eq_nil_of_length_eq_zero h0) ht
    · cases e
      exact ⟨g, cur, rfl, by simpa using hg, hb, by simpa using h4⟩
  subst hA; have hcl := tl_cell hcur; have hgl := blk_lt hRC; have hWS := blk_drew (blk_alloc hS (.cells (bytesRow s (grownCap w1 s.size 0 5)) 5 ((bytesRow s (grownCap w1 s.size 0 5)).size, (bytesRow s (grownCap w1 s.size 0 5)).size + 1))); have hWT := blk_drew (blk_alloc hT (.cells (bytesRow s (grownCap w1 s.size 0 5)) 5 ((bytesRow s (grownCap w1 s.size 0 5)).size, (bytesRow s (grownCap w1 s.size 0 5)).size + 1))); have hWC := blk_drew (blk_alloc hRC (.cells (bytesRow s (grownCap w1 s.size 0 5)) 5 ((bytesRow s (grownCap w1 s.size 0 5)).size, (bytesRow s (grownCap w1 s.size 0 5)).size + 1))); have hWB := blk_drew (heap_alloc_new w1 (.cells (bytesRow s (grownCap w1 s.size 0 5)) 5 ((bytesRow s (grownCap w1 s.size 0 5)).size, (bytesRow s (grownCap w1 s.size 0 5)).size + 1))); have hW0 := below_drew (below_alloc HB.out (.cells (bytesRow s (grownCap w1 s.size 0 5)) 5 ((bytesRow s (grownCap w1 s.size 0 5)).size, (bytesRow s (grownCap w1 s.size 0 5)).size + 1))); have hgb := HB.out.size; generalize hWW : (w1.alloc (.cells (bytesRow s (grownCap w1 s.size 0 5)) 5 ((bytesRow s (grownCap w1 s.size 0 5)).size, (bytesRow s (grownCap w1 s.size 0 5)).size + 1))).drew = W at *; clear hWW; have hne1 : w.heap.size ≠ w1.heap.size := by have := blk_lt hS; omega
  have hne2 : w.heap.size + 1 ≠ w1.heap.size := by have := blk_lt hT; omega
  have hne3 : g ≠ w1.heap.size := by omega
  rw [tlNums_row] at hWB; have hsz : (tlRow (tlNums s) (grownCap w1 s.size 0 5 - s.size)).size = s.size + (grownCap w1 s.size 0 5 - s.size) := by rw [tlRow_size, tlNums_len]
  rw [hsz] at hWB; generalize grownCap w1 s.size 0 5 - s.size = pd at *; generalize grownCap w1 s.size 0 5 = cb at *; clear hcv hS hT hRC HB k0 k1 k2 j0 j1 j2 f0 f1 f2 hr; generalize w1.heap.size = gb at *; have HS := Aside0.mk hWS; have HT := Aside0.mk hWT; have HC := Aside0.mk hWC; have HG := Aside0.mk hWB; have HB := Aside0.mk hW0; clear hWS hWT hWC hWB hW0; (try simp only [Act.put, List.setIfInBounds_toArray, List.set_cons_zero, List.set_cons_succ])
  go_loopg [11, 39] t.length (fun gk v11 v39 wr => ∃ i : Nat, i ≤ t.length ∧ t.length - i ≤ gk ∧ v39 = .int .i64 (i : Int) ∧ Aside0 (wr.heap[w.heap.size]? = some (.cells #[.int .i64 a, .int .i64 b, .string s] 26 (0, 0))) ∧ Aside0 (wr.heap[w.heap.size + 1]? = some (.cells #[.int .i64 0, .int .i64 0, .string (⟨#[]⟩ : ByteArray)] 26 (0, 0))) ∧ Aside0 (wr.heap[g]? = some (.cells cur 3 (0, 0))) ∧ Aside0 (wr.heap[gb]? = some (.cells (tlRow (tlPut (tlNums s) (t.take i) x) pd) 5 (s.size + pd, s.size + pd + 1))) ∧ Aside0 (Below w.heap.size w wr))
  case atStart => exact ⟨0, Nat.zero_le _, Nat.le_refl _, rfl, HS, HT, HC, (by rw [List.take_zero]; exact HG), HB⟩
  case round =>
    obtain ⟨i, hi, hgk, rfl, HS, HT, HC, HG, HB⟩ := hrel
    by_cases hlt : i < t.length
    · have d1 : decide ((i : Int) < (t.length : Int)) = true := decide_eq_true (by omega); have p0 : (0 ≤ (i : Int)) = True := eq_true (by omega); have p1 : ((i : Int) < (t.length : Int)) = True := eq_true (by omega); have p2 : (i < t.length) = True := eq_true hlt; have hx1 := (blk_cell HC.out i).trans (hcl i hlt); have hf1 := blk_frozen HC.out i; obtain ⟨hy0, hy1⟩ := hin (t.getD i 0) (by rw [List.getD_eq_getElem?_getD, List.getElem?_eq_getElem hlt]; exact List.getElem_mem hlt); obtain ⟨y, hy⟩ : ∃ y : Nat, t.getD i 0 = (y : Int) := ⟨(t.getD i 0).toNat, by omega⟩
      have hput := tlPut_take (tlNums s) t x i hlt; rw [hy] at hx1 hy0 hy1 hput; rw [Int.toNat_natCast] at hput; have hyl : y < (tlPut (tlNums s) (t.take i) x).length := by rw [tlPut_len, tlNums_len]; omega
      have hx2 : wr.cell? ⟨gb, y, none⟩ = some (.int .u8 ((tlPut (tlNums s) (t.take i) x).getD y 0)) := (cell_of_row wr gb y _ _ _ HG.out).trans (by rw [tlRow_get, if_pos hyl]); have hf2 := tl_frozen HG.out (j := y) (by omega); have p3 : (0 ≤ (y : Int)) = True := eq_true (by omega); have p4 : ((y : Int) < (s.size : Int)) = True := eq_true (by omega); have p5 : (y < s.size) = True := eq_true (by omega); have hw : wrap64 ((i : Int) + 1) = ((i + 1 : Nat) : Int) := by unfold wrap64; omega
      have hw' : IntKind.i64.wrap ((i : Int) + 1) = ((i + 1 : Nat) : Int) := (i64_w _).trans hw; obtain ⟨k1, rfl, hk1⟩ := tl_pred hgk hlt; have hi1 : i + 1 ≤ t.length := hlt; have hgb1 : w.heap.size ≤ gb := hgb; clear hgk hi; go_wp2
      go_roundg k1
      case measure => omega
      case rel => exact ⟨i + 1, hi1, hk1, rfl, ⟨tl_far HS.out hne1 _⟩, ⟨tl_far HT.out hne2 _⟩, ⟨tl_far HC.out hne3 _⟩, ⟨by rw [hput, ← tlRow_set _ _ _ hyl]; exact tl_set HG.out y _⟩, ⟨below_set HB.out hgb1⟩⟩
    · have hin' : i = t.length := Nat.le_antisymm hi (Nat.le_of_not_lt hlt); subst hin'; have d1 : decide ((t.length : Int) < (t.length : Int)) = false := decide_eq_false (Int.lt_irrefl _); rw [List.take_of_length_le (Nat.le_refl _)] at HG; have hlen : (tlPut (tlNums s) t x).length = s.size := by rw [tlPut_len, tlNums_len]
      have hcell : ∀ j, j < s.size → wr.cell? ⟨gb, 0 + j, none⟩ = some (.int .u8 ((tlPut (tlNums s) t x).getD j 0)) := fun j hj => by
        rw [Nat.zero_add, cell_of_row wr gb j _ _ _ HG.out, tlRow_get, if_pos (by rw [hlen]; exact hj)]
      have hcv := run_convert_bytes_arg (P := Try.prog) wr 45 5 Try.underlying45 Try.underlying5 gb 0 s.size cb _ hlen hcell 9 Try.underlying9; obtain ⟨k0, k1, k2⟩ := tl_c3 HS.out; obtain ⟨j0, j1, j2⟩ := tl_c3 HT.out; have fS := blk_frozen HS.out 2; have f0 := blk_frozen HT.out 0; have f1 := blk_frozen HT.out 1; have f2 := blk_frozen HT.out 2; have hTT := HT.out; have hne : w.heap.size + 1 ≠ w.heap.size := Nat.succ_ne_self _; have hBB := below_set (g := w.heap.size) (j := 2) (v := .string (strOfNums (tlPut (tlNums s) t x))) HB.out (Nat.le_refl _); clear hcell hlen hin hcl hcur; go_wp2; refine bodyPost_ret (results_ct rfl _ _ (w.heap.size + 1) 26 #[.int .i64 a, .int .i64 b, .string (strOfNums (tlPut (tlNums s) t x))] (0, 0) _ rfl (by refine blk_put (cs := #[.int .i64 a, .int .i64 b, .string (⟨#[]⟩ : ByteArray)]) ?_ 2 _ rfl; refine blk_put (cs := #[.int .i64 a, .int .i64 0, .string (⟨#[]⟩ : ByteArray)]) ?_ 1 _ rfl; refine blk_put (cs := #[.int .i64 0, .int .i64 0, .string (⟨#[]⟩ : ByteArray)]) ?_ 0 _ rfl; exact tl_far hTT hne _) Try.underlying26 rfl (by kernel_rfl)) rfl ?_
      exact ⟨rfl, below_set (below_set (below_set hBB GT) GT) GT⟩
def impl_TakeLabel.f (k : Nat) (a0_0 : Int) (a0_1 : Int) (a0_2 : ByteArray) (a1 : Int) (a2 : ByteArray) : Option (Int × Int × ByteArray × Bool) := (impl_RegionCells.f k a0_0 a0_1 a0_2 a1).bind fun t =>
  if t = [] then some (a0_0, a0_1, a0_2, false) else if a2.size ≠ 1 then some (a0_0, a0_1, a0_2, false) else if bt a2 0 < 97 then some (a0_0, a0_1, a0_2, false) else if bt a2 0 > 122 then some (a0_0, a0_1, a0_2, false) else
  if (∀ i ∈ t, 0 ≤ i ∧ i < (a0_2.size : Int)) ∧ a0_2.size ≤ 9223372036854775807 ∧ t.length ≤ 1000000 then some (a0_0, a0_1, strOfNums (tlPut (tlNums a0_2) t (bt a2 0)), true) else none
theorem impl_TakeLabel.mono : ∀ a0 a1 a2 a3 a4 k, LeO (impl_TakeLabel.f k a0 a1 a2 a3 a4) (impl_TakeLabel.f (k + 1) a0 a1 a2 a3 a4) := by
  intro a0 a1 a2 a3 a4 k
  unfold impl_TakeLabel.f
  exact LeO.bind (impl_RegionCells.mono _ _ _ _ _) (fun _ => LeO.refl _)
theorem impl_TakeLabel.calls (k : Nat) (a0_0 : Int) (a0_1 : Int) (a0_2 : ByteArray) (a1 : Int) (a2 : ByteArray) (r1 : Int) (r2 : Int) (r3 : ByteArray) (r4 : Bool) (w : World) (h : impl_TakeLabel.f k a0_0 a0_1 a0_2 a1 a2 = some (r1, r2, r3, r4)) :
    Calls Try.prog 31 #[.agg #[.int .i64 a0_0, .int .i64 a0_1, .string a0_2], .int .i64 a1, .string a2] w fun e w' => e = .returned (.tuple #[.agg #[.int .i64 r1, .int .i64 r2, .string r3], .bool r4]) ∧ Below w.heap.size w w' := by
  unfold impl_TakeLabel.f at h
  obtain ⟨t, hk, h⟩ := Option.bind_eq_some_iff.mp h
  by_cases h0 : t = []
  · rw [if_pos h0] at h; cases h; exact impl_TakeLabel.no1 _ _ _ _ _ t k hk w h0
  · rw [if_neg h0] at h
    by_cases h1 : a2.size ≠ 1
    · rw [if_pos h1] at h; cases h; exact impl_TakeLabel.no2 _ _ _ _ _ t k hk w h0 h1
    · rw [if_neg h1] at h; have h1 : a2.size = 1 := Decidable.not_not.mp h1
      by_cases h2 : bt a2 0 < 97
      · rw [if_pos h2] at h; cases h; exact impl_TakeLabel.no3 _ _ _ _ _ t k hk w h0 h1 h2
      · rw [if_neg h2] at h
        by_cases h3 : bt a2 0 > 122
        · rw [if_pos h3] at h; cases h; exact impl_TakeLabel.no4 _ _ _ _ _ t k hk w h0 h1 h3
        · rw [if_neg h3] at h
          split at h
          · rename_i hc; cases h; exact impl_TakeLabel.yes _ _ _ _ _ t k hk w h0 h1 (by omega) (by omega) hc.1 hc.2.1 hc.2.2
          · cases h
/-! ### impl_MergeSmall: function 61 -/
def impl_MergeSmall.l0 : Nat → Int → Int → Int → ByteArray → Option (Int × Int × ByteArray)
 | 0, _, _, _, _ => none
 | k + 1, x1, x313000, x313001, x313002 => (impl_SmallestRegion.f k x313000 x313001 x313002 x1).bind fun t314 => (if t314 < 0 then (some (x313000, x313001, x313002)) else ((impl_LongestNeighbour.f k x313000 x313001 x313002 t314).bind fun t315 => (if t315 < 0 then (some (x313000, x313001, x313002)) else (if 0 ≤ t315 then (if t315 ≤ (wrap64 (t315 + 1)) then (if (wrap64 (t315 + 1)) ≤ (x313002.size : Int) then ((impl_TakeLabel.f k x313000 x313001 x313002 t314 (x313002.extract (t315 : Int).toNat ((wrap64 (t315 + 1)) : Int).toNat)).bind fun bt316 => (impl_MergeSmall.l0 k x1 bt316.1 bt316.2.1 bt316.2.2.1)) else (none)) else (none)) else (none)))))
def impl_MergeSmall.f (k : Nat) (a0_0 : Int) (a0_1 : Int) (a0_2 : ByteArray) (a1 : Int) : Option (Int × Int × ByteArray) := impl_MergeSmall.l0 k a1 a0_0 a0_1 a0_2
theorem impl_MergeSmall.mono_l : ∀ k, (∀ y0 y1 y2 y3, LeO (impl_MergeSmall.l0 k y0 y1 y2 y3) (impl_MergeSmall.l0 (k + 1) y0 y1 y2 y3))
 | 0 => fun _ _ _ _ r h => by simp [impl_MergeSmall.l0] at h
 | k + 1 => by
  have ih0 := impl_MergeSmall.mono_l k
  ·intro y0 y1 y2 y3
   unfold impl_MergeSmall.l0
   repeat' first | (with_reducible first | exact ih0 _ _ _ _ | exact impl_LongestNeighbour.mono _ _ _ _ _ | exact impl_SmallestRegion.mono _ _ _ _ _ | exact impl_TakeLabel.mono _ _ _ _ _ _ | exact LeO.refl _ | exact LeO.none _ | refine LeO.ite ?_ ?_ | refine LeO.bind ?_ (fun _ => ?_)) | exact ih0 _ _ _ _ | exact impl_LongestNeighbour.mono _ _ _ _ _ | exact impl_SmallestRegion.mono _ _ _ _ _ | exact impl_TakeLabel.mono _ _ _ _ _ _ | exact LeO.none _ | refine LeO.ite ?_ ?_ | refine LeO.bind ?_ (fun _ => ?_)
theorem impl_MergeSmall.mono : ∀ a0 a1 a2 a3 k, LeO (impl_MergeSmall.f k a0 a1 a2 a3) (impl_MergeSmall.f (k + 1) a0 a1 a2 a3) := by
 intro a0 a1 a2 a3 k; have ih0 := impl_MergeSmall.mono_l k
 unfold impl_MergeSmall.f
 repeat' first | (with_reducible first | exact ih0 _ _ _ _ | exact impl_LongestNeighbour.mono _ _ _ _ _ | exact impl_SmallestRegion.mono _ _ _ _ _ | exact impl_TakeLabel.mono _ _ _ _ _ _ | exact LeO.refl _ | exact LeO.none _ | refine LeO.ite ?_ ?_ | refine LeO.bind ?_ (fun _ => ?_)) | exact ih0 _ _ _ _ | exact impl_LongestNeighbour.mono _ _ _ _ _ | exact impl_SmallestRegion.mono _ _ _ _ _ | exact impl_TakeLabel.mono _ _ _ _ _ _ | exact LeO.none _ | refine LeO.ite ?_ ?_ | refine LeO.bind ?_ (fun _ => ?_)
def impl_MergeSmall.T7 : Bool × List (List Nat × List Nat) := (true, [([], []), ([], []), ([], []), ([2], [2]), ([], []), ([], []), ([5], [5]), ([3, 4, 6], [3, 4, 6]), ([0, 1, 7], [0, 1, 7]), ([8], [8]), ([9], [9]), ([9], [9]), ([10, 8, 0, 1, 2, 3, 4, 5, 6, 7, 8, 9, 10], [10])])
def impl_MergeSmall.B7 : List Nat := [0, 0, 0, 4, 0, 0, 32, 124, 255, 511, 1023, 1023, 2047]
theorem impl_MergeSmall.tab7 : rtab .any (opsOf Try.f61 7) = impl_MergeSmall.T7 := by kernel_rfl
theorem impl_MergeSmall.bits7 : waitsOk impl_MergeSmall.T7.2 impl_MergeSmall.B7 = true := by kernel_rfl
set_option maxHeartbeats 8000000 in
set_option maxRecDepth 100000 in
theorem impl_MergeSmall.calls (k : Nat) (a0_0 : Int) (a0_1 : Int) (a0_2 : ByteArray) (a1 : Int) (r1 : Int) (r2 : Int) (r3 : ByteArray) (w : World) (h : impl_MergeSmall.f k a0_0 a0_1 a0_2 a1 = some (r1, r2, r3)) :
  Calls Try.prog 61 #[.agg #[.int .i64 a0_0, .int .i64 a0_1, .string a0_2], .int .i64 a1] w fun e w' => e = .returned (.agg #[.int .i64 r1, .int .i64 r2, .string r3]) ∧ Below w.heap.size w w' := by
 have hu26 := Try.underlying26; have HB := Aside0.mk (Below.refl w.heap.size w); have H : (impl_MergeSmall.l0 k a1 a0_0 a0_1 a0_2) = some (r1, r2, r3) := h; clear h; have H' := Aside0.mk H; clear H
 go_enter Try.func61, Try.ntmps61; go_wp2_with (first | ((with_reducible refine gt (some 2) rfl ?_); refine bx #[.int .i64 a0_0, .int .i64 a0_1, .string a0_2] 26 ?_; intro gb312 hg w3 hbox hb; have BK312 := Aside0.mk (hbox); have GW312 := Aside0.mk (gez HB hg); have GE312 := Aside0.mk (gez HB hg); replace HB := Aside0.mk (below_step bz hb); clear hb hbox hg) | ((with_reducible refine gt (some 4) rfl ?_); refine bx #[.int .i64 0, .int .i64 0, .string (⟨#[]⟩ : ByteArray)] 26 ?_; intro gb313 hg w4 hbox hb; have BK313 := Aside0.mk (hbox); have GW313 := Aside0.mk (gez HB hg); have GE313 := Aside0.mk (gez HB hg); replace HB := Aside0.mk (below_step bzs hb); have NB312_313 := Aside0.mk ((by rw [hg]; exact Nat.ne_of_lt (blk_lt (g := gb312) (o := .cells #[.int .i64 a0_0, .int .i64 a0_1, .string a0_2] 26 (0, 0)) (kz BK312)) : gb312 ≠ gb313)); have NB313_312 := Aside0.mk ((by rw [hg]; exact Nat.ne_of_gt (blk_lt (g := gb312) (o := .cells #[.int .i64 a0_0, .int .i64 a0_1, .string a0_2] 26 (0, 0)) (kz BK312)) : gb313 ≠ gb312)); replace BK312 := Aside0.mk (bbz BK312 hb); clear hb hbox hg)); (try simp only [Act.put, List.setIfInBounds_toArray, List.set_cons_zero, List.set_cons_succ])
 go_loopg [] k (fun kq w' => ∃ (x313000_1 : Int) (x313001_1 : Int) (x313002_1 : ByteArray) (x314000_1 : Int) (x314001_1 : Int) (x314002_1 : ByteArray), Aside0 (impl_MergeSmall.l0 kq a1 x313000_1 x313001_1 x313002_1 = some (r1, r2, r3)) ∧ Aside0 (kq ≤ k) ∧ Aside0 (w'.heap[gb312]? = some (.cells #[.int .i64 x313000_1, .int .i64 x313001_1, .string x313002_1] 26 (0, 0))) ∧ Aside0 (w'.heap[gb313]? = some (.cells #[.int .i64 x314000_1, .int .i64 x314001_1, .string x314002_1] 26 (0, 0))) ∧ Aside0 (Below w.heap.size w w'))
 case atStart => exact ⟨(a0_0), (a0_1), (a0_2), (0), (0), ((⟨#[]⟩ : ByteArray)), H', ⟨Nat.le_refl _⟩, ⟨kz BK312⟩, ⟨kz BK313⟩, ⟨bzs⟩⟩
 case round =>
  clear H'; (try clear p2); obtain ⟨x313000_1, x313001_1, x313002_1, x314000_1, x314001_1, x314002_1, HA, HK1, BK312, BK313, HB⟩ := hrel
  cases gk with
  | zero => exact absurd HA.out (by simp [impl_MergeSmall.l0])
  | succ k1 =>
   have H := HA.out; clear HA; simp only [impl_MergeSmall.l0] at H; replace H := Option.bind_eq_some_iff.mp H; obtain ⟨t314, A50, H⟩ := H; have A5 := Aside0.mk A50; clear A50
   by_cases c6 : t314 < 0
   ·rw [if_pos c6] at H; have c6b0 := decide_eq_true c6; clear c6; simp only [Option.some.injEq, Prod.mk.injEq] at H; obtain ⟨rfl, rfl, rfl⟩ := H; have hnb7 := NB312_313.out; have hnc7 := NB313_312.out; obtain ⟨hcz8_0, hcz8_1, hcz8_2, hfz8_0, hfz8_1, hfz8_2⟩ := cells3 BK312; go_wp2_with (first | ((with_reducible refine gt (some 9) rfl ?_); refine gc Try.func34 (impl_SmallestRegion.calls k1 x313000_1 x313001_1 x313002_1 a1 t314 _ A5.out) ?_; rintro e w9 ⟨rfl, hb⟩; refine ⟨_, rfl, ?_⟩; replace BK312 := Aside0.mk (bbz BK312 hb); replace BK313 := Aside0.mk (bbz BK313 hb); replace HB := Aside0.mk (below_step bzs hb); (try clear hb); obtain ⟨hcz10_0, hcz10_1, hcz10_2, hfz10_0, hfz10_1, hfz10_2⟩ := cells3 BK312; obtain ⟨hcz11_0, hcz11_1, hcz11_2, hfz11_0, hfz11_1, hfz11_2⟩ := cells3 BK313)); refine bodyPost_ret (results_cell_row rfl _ _ gb313 26 #[.int .i64 x313000_1, .int .i64 x313001_1, .string x313002_1] (0, 0) _ rfl (by (with_reducible repeat (first | refine blk_drewN ?_ _ | refine blk_drew ?_ | refine blk_alloc ?_ _)); refine blk_put (cs := #[.int .i64 x313000_1, .int .i64 x313001_1, .string x314002_1]) ?_ 2 _ rfl; (with_reducible repeat (first | refine blk_drewN ?_ _ | refine blk_drew ?_ | refine blk_alloc ?_ _)); refine blk_put (cs := #[.int .i64 x313000_1, .int .i64 x314001_1, .string x314002_1]) ?_ 1 _ rfl; (with_reducible repeat (first | refine blk_drewN ?_ _ | refine blk_drew ?_ | refine blk_alloc ?_ _)); refine blk_put (cs := #[.int .i64 x314000_1, .int .i64 x314001_1, .string x314002_1]) ?_ 0 _ rfl; (with_reducible repeat (first | refine blk_drewN ?_ _ | refine blk_drew ?_ | refine blk_alloc ?_ _)); exact BK313.out) Try.underlying26 rfl (by kernel_rfl)) rfl ?_
    exact ⟨ez, bzs⟩
   ·rw [if_neg c6] at H; have c6b0 := decide_eq_false c6; clear c6; replace H := Option.bind_eq_some_iff.mp H; obtain ⟨t315, A120, H⟩ := H; have A12 := Aside0.mk A120; clear A120
    by_cases c13 : t315 < 0
    ·rw [if_pos c13] at H; have c13b0 := decide_eq_true c13; clear c13; simp only [Option.some.injEq, Prod.mk.injEq] at H; obtain ⟨rfl, rfl, rfl⟩ := H; have hnb14 := NB312_313.out; have hnc14 := NB313_312.out; obtain ⟨hcz15_0, hcz15_1, hcz15_2, hfz15_0, hfz15_1, hfz15_2⟩ := cells3 BK312; go_wp2_with (first | ((with_reducible refine gt (some 9) rfl ?_); refine gc Try.func34 (impl_SmallestRegion.calls k1 x313000_1 x313001_1 x313002_1 a1 t314 _ A5.out) ?_; rintro e w16 ⟨rfl, hb⟩; refine ⟨_, rfl, ?_⟩; replace BK312 := Aside0.mk (bbz BK312 hb); replace BK313 := Aside0.mk (bbz BK313 hb); replace HB := Aside0.mk (below_step bzs hb); (try clear hb); obtain ⟨hcz17_0, hcz17_1, hcz17_2, hfz17_0, hfz17_1, hfz17_2⟩ := cells3 BK312) | ((with_reducible refine gt (some 15) rfl ?_); refine gc Try.func43 (impl_LongestNeighbour.calls k1 x313000_1 x313001_1 x313002_1 t314 t315 _ A12.out) ?_; rintro e w18 ⟨rfl, hb⟩; refine ⟨_, rfl, ?_⟩; replace BK312 := Aside0.mk (bbz BK312 hb); replace BK313 := Aside0.mk (bbz BK313 hb); replace HB := Aside0.mk (below_step bzs hb); (try clear hb); obtain ⟨hcz19_0, hcz19_1, hcz19_2, hfz19_0, hfz19_1, hfz19_2⟩ := cells3 BK312; obtain ⟨hcz20_0, hcz20_1, hcz20_2, hfz20_0, hfz20_1, hfz20_2⟩ := cells3 BK313)); refine bodyPost_ret (results_cell_row rfl _ _ gb313 26 #[.int .i64 x313000_1, .int .i64 x313001_1, .string x313002_1] (0, 0) _ rfl (by (with_reducible repeat (first | refine blk_drewN ?_ _ | refine blk_drew ?_ | refine blk_alloc ?_ _)); refine blk_put (cs := #[.int .i64 x313000_1, .int .i64 x313001_1, .string x314002_1]) ?_ 2 _ rfl; (with_reducible repeat (first | refine blk_drewN ?_ _ | refine blk_drew ?_ | refine blk_alloc ?_ _)); refine blk_put (cs := #[.int .i64 x313000_1, .int .i64 x314001_1, .string x314002_1]) ?_ 1 _ rfl; (with_reducible repeat (first | refine blk_drewN ?_ _ | refine blk_drew ?_ | refine blk_alloc ?_ _)); refine blk_put (cs := #[.int .i64 x314000_1, .int .i64 x314001_1, .string x314002_1]) ?_ 0 _ rfl; (with_reducible repeat (first | refine blk_drewN ?_ _ | refine blk_drew ?_ | refine blk_alloc ?_ _)); exact BK313.out) Try.underlying26 rfl (by kernel_rfl)) rfl ?_
     exact ⟨ez, bzs⟩
    ·rw [if_neg c13] at H; have c13b0 := decide_eq_false c13; clear c13
     by_cases c21 : 0 ≤ t315
     ·rw [if_pos c21] at H; have c21b0 := eq_true c21; have c21b1 := decide_eq_true c21; clear c21
      by_cases c22 : t315 ≤ (wrap64 (t315 + 1))
      ·rw [if_pos c22] at H; have c22b0 := eq_true c22; have c22b1 := decide_eq_true c22
       by_cases c23 : (wrap64 (t315 + 1)) ≤ (x313002_1.size : Int)
       ·rw [if_pos c23] at H; have c23b0 := eq_true c23; have c23b1 := decide_eq_true c23; replace H := Option.bind_eq_some_iff.mp H; obtain ⟨⟨t316, t317, t318, t319⟩, A240, H⟩ := H; replace H : (impl_MergeSmall.l0 k1 a1 t316 t317 t318) = some (r1, r2, r3) := H; have A24 := Aside0.mk A240; clear A240; have H' := Aside0.mk H; clear H; have hnb25 := NB312_313.out; have hnc25 := NB313_312.out; obtain ⟨hcz26_0, hcz26_1, hcz26_2, hfz26_0, hfz26_1, hfz26_2⟩ := cells3 BK312; (try go_wp2_with (first | ((with_reducible refine gt (some 9) rfl ?_); refine gc Try.func34 (impl_SmallestRegion.calls k1 x313000_1 x313001_1 x313002_1 a1 t314 _ A5.out) ?_; rintro e w27 ⟨rfl, hb⟩; refine ⟨_, rfl, ?_⟩; replace BK312 := Aside0.mk (bbz BK312 hb); replace BK313 := Aside0.mk (bbz BK313 hb); replace HB := Aside0.mk (below_step bzs hb); (try clear hb); obtain ⟨hcz28_0, hcz28_1, hcz28_2, hfz28_0, hfz28_1, hfz28_2⟩ := cells3 BK312) | ((with_reducible refine gt (some 15) rfl ?_); refine gc Try.func43 (impl_LongestNeighbour.calls k1 x313000_1 x313001_1 x313002_1 t314 t315 _ A12.out) ?_; rintro e w29 ⟨rfl, hb⟩; refine ⟨_, rfl, ?_⟩; replace BK312 := Aside0.mk (bbz BK312 hb); replace BK313 := Aside0.mk (bbz BK313 hb); replace HB := Aside0.mk (below_step bzs hb); (try clear hb)))); replace BK312 := Aside0.mk (blk_drew BK312.out); replace BK313 := Aside0.mk (blk_drew BK313.out); replace HB := Aside0.mk (below_drew1 HB.out); refine start_ (n := 13) (S := fun w' => w'.cell? ⟨gb312, 0, none⟩ = some (.int .i64 x313000_1) ∧ w'.cell? ⟨gb312, 1, none⟩ = some (.int .i64 x313001_1) ∧ w'.cell? ⟨gb312, 2, none⟩ = some (.string x313002_1)) (ds := [12]) #[F,F,F,F,F,F,F,F,F,F,F,F,F] (by kernel_rfl) rfl rfl ⟨bc BK312 0, bc BK312 1, bc BK312 2⟩ (fun hHeld => ?_); refine with_tabW impl_MergeSmall.tab7 impl_MergeSmall.bits7 (fun HT_ HW_ => ?_)
        generalize w29.drew = w30 at BK312 BK313 HB hHeld ⊢; refine pz HT_ 1 21 ?_; refine pz HT_ 2 22 ?_; refine pz HT_ 4 24 ?_; refine pz HT_ 5 25 ?_; refine pz HT_ 6 26 ?_; refine tz3 HT_ HW_ hHeld 0 20 ?_; refine tz3 HT_ HW_ hHeld 3 23 ?_; refine pz HT_ 7 27 ?_; refine oz HT_ 8 (some 28) (fun K hK => ?_); refine gz Try.func31 #[.agg #[.int .i64 x313000_1, .int .i64 x313001_1, .string x313002_1], .int .i64 t314, .string (x313002_1.extract (t315 : Int).toNat ((wrap64 (t315 + 1)) : Int).toNat)] ?_
        with_reducible refine (impl_TakeLabel.calls k1 x313000_1 x313001_1 x313002_1 t314 (x313002_1.extract (t315 : Int).toNat ((wrap64 (t315 + 1)) : Int).toNat) t316 t317 t318 t319 _ A24.out).mono ?_
        rintro e w31 ⟨rfl, hb⟩; refine ⟨_, rfl, ?_⟩; replace BK312 := Aside0.mk (bbz BK312 hb); replace BK313 := Aside0.mk (bbz BK313 hb); replace HB := Aside0.mk (below_step bzs hb); (try clear hb); (try clear hb2); (try clear hk); (try clear hi); refine hK.out _ _ ⟨bc BK312 0, bc BK312 1, bc BK312 2⟩ (fun hHeld => ?_); clear hK K; refine nz 28 ?_; refine pz HT_ 9 19 ?_; refine pz HT_ 10 29 ?_; refine pz HT_ 11 30 ?_; refine lz HT_ 12 none (fun K hK => ?_); have hs32 : w31.cell? ⟨gb312, 0, none⟩ = some (.int .i64 x313000_1) := bc BK312 0; have hfs32 := blk_frozen BK312.out 0; have hns32_1 := NB313_312.out; have hms32_1 := NB312_313.out; have hs33 : w31.cell? ⟨gb312, 1, none⟩ = some (.int .i64 x313001_1) := bc BK312 1; have hfs33 := blk_frozen BK312.out 1; have hns33_1 := NB313_312.out; have hms33_1 := NB312_313.out; have hs34 : w31.cell? ⟨gb312, 2, none⟩ = some (.string x313002_1) := bc BK312 2; have hfs34 := blk_frozen BK312.out 2; have hns34_1 := NB313_312.out; have hms34_1 := NB312_313.out; refine skip_ (w1 := ?_) (by rfl) rfl ?_ ?_; rotate_left
        ·go_simp
         rfl
        refine hK.out _ _ ?_; clear hK K; refine dz HT_ ?_; (try go_wp2)
        go_roundg k1
        case measure => have := HK1.out; omega
        case rel => exact ⟨(t316), (t317), (t318), (x314000_1), (x314001_1), (x314002_1), H', ⟨by have := HK1.out; omega⟩, ⟨by (with_reducible repeat (first | refine blk_drewN ?_ _ | refine blk_drew ?_ | refine blk_alloc ?_ _)); refine blk_put (cs := #[.int .i64 t316, .int .i64 t317, .string x313002_1]) ?_ 2 _ rfl; (with_reducible repeat (first | refine blk_drewN ?_ _ | refine blk_drew ?_ | refine blk_alloc ?_ _)); refine blk_put (cs := #[.int .i64 t316, .int .i64 x313001_1, .string x313002_1]) ?_ 1 _ rfl; (with_reducible repeat (first | refine blk_drewN ?_ _ | refine blk_drew ?_ | refine blk_alloc ?_ _)); refine blk_put (cs := #[.int .i64 x313000_1, .int .i64 x313001_1, .string x313002_1]) ?_ 0 _ rfl; (with_reducible repeat (first | refine blk_drewN ?_ _ | refine blk_drew ?_ | refine blk_alloc ?_ _)); exact BK312.out⟩, ⟨kz BK313⟩, ⟨bzs⟩⟩
       ·rw [if_neg c23] at H
        exact absurd H (by simp)
      ·rw [if_neg c22] at H
       exact absurd H (by simp)
     ·rw [if_neg c21] at H
      exact absurd H (by simp)

/-! ### spec_l1In: function 87 -/
theorem spec_l1In.any (a0 : Int) (a1 : Int) (a2 : Int) (w : World) :
    Calls Try.prog 87 #[.int .i64 a0, .int .i64 a1, .int .i64 a2] w fun e w' => e = .returned (.bool (inR a0 a1 a2)) ∧ w = w' := by
  go_enter Try.func87, Try.ntmps87; go_wp2
  all_goals (go_ret; refine ⟨?_, rfl⟩; congr 2; first | (simp [inR, *]; done) | (simp [inR, *] <;> omega) | (unfold inR; repeat' split <;> first | rfl | omega))
def spec_l1In.f (a0 : Int) (a1 : Int) (a2 : Int) : Option (Bool) := some (inR a0 a1 a2)
theorem spec_l1In.calls (a0 : Int) (a1 : Int) (a2 : Int) (r : Bool) (w : World) (h : spec_l1In.f a0 a1 a2 = some r) :
    Calls Try.prog 87 #[.int .i64 a0, .int .i64 a1, .int .i64 a2] w fun e w' => e = .returned (.bool (r)) ∧ ∃ nd_ : Nat, w = w' := by
  obtain rfl := Option.some.inj h
  exact (spec_l1In.any a0 a1 a2 w).mono fun e w' ⟨he, hw⟩ => ⟨he, 0, hw⟩
end Go.Proofs.Ythodhcalknelcaa.PFnMerged
