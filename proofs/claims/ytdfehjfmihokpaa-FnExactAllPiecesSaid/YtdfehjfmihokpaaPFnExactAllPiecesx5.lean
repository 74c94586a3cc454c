-- Written by a program of this session's: the kit's print, turned (turnprint.py): functions, and that Go comes to just their answers.
import Derived.Test.YtdfehjfmihokpaaZ
import Derived.Test.YtdfehjfmihokpaaPFnExactAllPiecesx0
import Derived.Test.YtdfehjfmihokpaaPFnExactAllPiecesx4
namespace Go.Proofs.Ytdfehjfmihokpaa.PFnExactAllPieces
open Go.RowKit Go.Proofs.YtdfehjfmihokpaaW.PrintWords Go.Proofs.YtdfehjfmihokpaaW.PrintLast Go.Proofs.YtdfehjfmihokpaaW.PrintMore Go.Proofs.YtdfehjfmihokpaaGeo Go.Proofs.YtdfehjfmihokpaaHand Go.Proofs.YtdfehjfmihokpaaMeet Go.Proofs.YtdfehjfmihokpaaQuiet Go.Proofs.YtdfehjfmihokpaaZ
attribute [local go_sem] max2_int min2_int max_two min_two max_three min_three max_four min_four   -- for this text's walks alone
set_option linter.unusedVariables false
set_option linter.unusedSimpArgs false

/-- A state of type 29 at block g of W; what its slices lead to came in by w0. -/
def IsS29 (w0 W : World) (g : Nat) (f0 : Int) (f1 : Int) (f2 : Int) (f3 : ByteArray) (f4 : List (S82)) : Prop := ∃ A4 c4, W.heap[g]? = some (.cells #[.int .i64 f0, .int .i64 f1, .int .i64 f2, .string f3, .slice A4 f4.length c4] 29 (0, 0)) ∧ w0.heap.size ≤ g ∧ Kd.C k82 w0 A4 f4.length f4
theorem IsS29.grown {w0 W : World} {g : Nat} {f0 : Int} {f1 : Int} {f2 : Int} {f3 : ByteArray} {f4 : List (S82)} {W1 : World} {row : Option Nat} (h : IsS29 w0 W g f0 f1 f2 f3 f4) (hw : W.grownBy W1 row) (hne : some g ≠ row) : IsS29 w0 W1 g f0 f1 f2 f3 f4 := by
  obtain ⟨A4, c4, hb, hg, hr4⟩ := h
  exact ⟨A4, c4, blk_grown hb hw hne, hg, hr4⟩
theorem IsS29.own_neN {w0 W : World} {g : Nat} {f0 : Int} {f1 : Int} {f2 : Int} {f3 : ByteArray} {f4 : List (S82)} {α : Type} {d : Kd α} {e : Nat} {base : Nat} {ok : Nat → Prop} {v : Value} {xs : List α} (h : IsS29 w0 W g f0 f1 f2 f3 f4) (ho : Kd.N d e W base ok v xs) (ht : e ≠ 29) : some g ≠ v.ownBlock := by
  obtain ⟨A4, c4, hb, hg, hr4⟩ := h
  exact Kd.N_ne ho hb ht
theorem IsS29.fresh {w0 W : World} {g : Nat} {f0 : Int} {f1 : Int} {f2 : Int} {f3 : ByteArray} {f4 : List (S82)} (h : IsS29 w0 W g f0 f1 f2 f3 f4) : ∀ k, W.heap.size ≤ k → k ≠ g := by
  obtain ⟨A4, c4, hb, hg, hr4⟩ := h
  exact Kd.freshB hb
theorem IsS29.kept {w0 W : World} {g : Nat} {f0 : Int} {f1 : Int} {f2 : Int} {f3 : ByteArray} {f4 : List (S82)} {W1 : World} {S : Nat → Prop} (h : IsS29 w0 W g f0 f1 f2 f3 f4) (hk : Kept W W1 S) (hne : ¬ S g) : IsS29 w0 W1 g f0 f1 f2 f3 f4 := by
  obtain ⟨A4, c4, hb, hg, hr4⟩ := h
  exact ⟨A4, c4, blk_kept hb hk hne, hg, hr4⟩
theorem IsS29.below {w0 W : World} {g : Nat} {f0 : Int} {f1 : Int} {f2 : Int} {f3 : ByteArray} {f4 : List (S82)} {W1 : World} (h : IsS29 w0 W g f0 f1 f2 f3 f4) (hw : Below W.heap.size W W1) : IsS29 w0 W1 g f0 f1 f2 f3 f4 := h.grown (grown_of_below hw none) (by simp)
theorem IsS29.alloc {w0 W : World} {g : Nat} {f0 : Int} {f1 : Int} {f2 : Int} {f3 : ByteArray} {f4 : List (S82)} (h : IsS29 w0 W g f0 f1 f2 f3 f4) (o : Obj) : IsS29 w0 (W.alloc o) g f0 f1 f2 f3 f4 := h.below (below_alloc (Below.refl _ _) o)
theorem IsS29.drewN {w0 W : World} {g : Nat} {f0 : Int} {f1 : Int} {f2 : Int} {f3 : ByteArray} {f4 : List (S82)} (h : IsS29 w0 W g f0 f1 f2 f3 f4) (m : Nat) : IsS29 w0 (W.drewN m) g f0 f1 f2 f3 f4 := h
theorem IsS29.drew {w0 W : World} {g : Nat} {f0 : Int} {f1 : Int} {f2 : Int} {f3 : ByteArray} {f4 : List (S82)} (h : IsS29 w0 W g f0 f1 f2 f3 f4) : IsS29 w0 W.drew g f0 f1 f2 f3 f4 := h
theorem IsS29.at_ {w0 W : World} {g : Nat} {f0 : Int} {f1 : Int} {f2 : Int} {f3 : ByteArray} {f4 : List (S82)} {w' : World} {m : Nat} (hq : W.drewN m = w') (h : IsS29 w0 W g f0 f1 f2 f3 f4) : IsS29 w0 w' g f0 f1 f2 f3 f4 := by subst hq; exact IsS29.drewN h m
theorem IsS29.apart {w0 W : World} {g : Nat} {f0 : Int} {f1 : Int} {f2 : Int} {f3 : ByteArray} {f4 : List (S82)} {α : Type} {d : Kd α} {e : Nat} {base : Nat} {ok : Nat → Prop} {v : Value} {xs : List α} (h : IsS29 w0 W g f0 f1 f2 f3 f4) (ho : d.R e W base ok v xs) (ht : ∀ q, q ∈ e :: d.E → q ≠ 29) : d.R e W base (fun k => ok k ∧ k ≠ g) v xs := by
  obtain ⟨A4, c4, hb, hg, hr4⟩ := h
  exact Kd.R_types ho hb ht
theorem IsS29.own_ne {w0 W : World} {g : Nat} {f0 : Int} {f1 : Int} {f2 : Int} {f3 : ByteArray} {f4 : List (S82)} {α : Type} {d : Kd α} {e : Nat} {base : Nat} {ok : Nat → Prop} {v : Value} {xs : List α} (h : IsS29 w0 W g f0 f1 f2 f3 f4) (ho : d.R e W base ok v xs) (ht : e ≠ 29) : some g ≠ v.ownBlock := by
  obtain ⟨A4, c4, hb, hg, hr4⟩ := h
  exact Kd.R_ne ho hb ht
theorem IsS29.apartQ {w0 W : World} {g : Nat} {f0 : Int} {f1 : Int} {f2 : Int} {f3 : ByteArray} {f4 : List (S82)} {α : Type} {d : Kd α} {e : Nat} {base : Nat} {ok : Nat → Prop} {v : Value} {xs : List α} (h : IsS29 w0 W g f0 f1 f2 f3 f4) (ho : d.Q e W base ok v xs) (ht : ∀ q, q ∈ e :: d.E → q ≠ 29) : d.Q e W base (fun k => ok k ∧ k ≠ g) v xs := by
  obtain ⟨A4, c4, hb, hg, hr4⟩ := h
  exact Kd.Q_types ho hb ht
theorem IsS29.own_neQ {w0 W : World} {g : Nat} {f0 : Int} {f1 : Int} {f2 : Int} {f3 : ByteArray} {f4 : List (S82)} {α : Type} {d : Kd α} {e : Nat} {base : Nat} {ok : Nat → Prop} {v : Value} {xs : List α} (h : IsS29 w0 W g f0 f1 f2 f3 f4) (ho : d.Q e W base ok v xs) (ht : e ≠ 29) : some g ≠ v.ownBlock := by
  obtain ⟨A4, c4, hb, hg, hr4⟩ := h
  exact Kd.Q_ne ho hb ht
theorem IsS29.apartS {w0 W : World} {g : Nat} {f0 : Int} {f1 : Int} {f2 : Int} {f3 : ByteArray} {f4 : List (S82)} {α : Type} {d : Kd α} {e : Nat} {base : Nat} {ok : Nat → Prop} {v : Value} {xs : List α} (h : IsS29 w0 W g f0 f1 f2 f3 f4) (ho : d.S e W base ok v xs) (ht : ∀ q, q ∈ e :: d.E → q ≠ 29) : d.S e W base (fun k => ok k ∧ k ≠ g) v xs := by
  obtain ⟨A4, c4, hb, hg, hr4⟩ := h
  exact Kd.S_types ho hb ht
theorem IsS29.own_neS {w0 W : World} {g : Nat} {f0 : Int} {f1 : Int} {f2 : Int} {f3 : ByteArray} {f4 : List (S82)} {α : Type} {d : Kd α} {e : Nat} {base : Nat} {ok : Nat → Prop} {v : Value} {xs : List α} (h : IsS29 w0 W g f0 f1 f2 f3 f4) (ho : d.S e W base ok v xs) (ht : e ≠ 29) : some g ≠ v.ownBlock := by
  obtain ⟨A4, c4, hb, hg, hr4⟩ := h
  exact Kd.S_ne ho hb ht
theorem IsS29.lt {w0 W : World} {g : Nat} {f0 : Int} {f1 : Int} {f2 : Int} {f3 : ByteArray} {f4 : List (S82)} (h : IsS29 w0 W g f0 f1 f2 f3 f4) : g < W.heap.size := by
  obtain ⟨A4, c4, hb, hg, hr4⟩ := h
  exact blk_lt hb
theorem IsS29.ge {w0 W : World} {g : Nat} {f0 : Int} {f1 : Int} {f2 : Int} {f3 : ByteArray} {f4 : List (S82)} (h : IsS29 w0 W g f0 f1 f2 f3 f4) : w0.heap.size ≤ g := by
  obtain ⟨A4, c4, hb, hg, hr4⟩ := h
  exact hg
theorem IsS29.ne_blk {w0 W : World} {g : Nat} {f0 : Int} {f1 : Int} {f2 : Int} {f3 : ByteArray} {f4 : List (S82)} {a : Nat} {cs : Array Value} {t : TypeId} {fr : Nat × Nat} (h : IsS29 w0 W g f0 f1 f2 f3 f4) (hb2 : W.heap[a]? = some (.cells cs t fr)) (ht : t ≠ 29) : g ≠ a := by
  obtain ⟨A4, c4, hb, hg, hr4⟩ := h; rintro rfl; rw [hb] at hb2
  injection hb2 with hb2
  injection hb2 with _ ht2
  exact ht ht2.symm
theorem IsS29.far {w0 W : World} {g : Nat} {f0 : Int} {f1 : Int} {f2 : Int} {f3 : ByteArray} {f4 : List (S82)} {p : Addr} (h : IsS29 w0 W g f0 f1 f2 f3 f4) (hne : g ≠ p.block) (u : Value) : IsS29 w0 (W.setCell p u) g f0 f1 f2 f3 f4 := by
  obtain ⟨A4, c4, hb, hg, hr4⟩ := h
  exact ⟨A4, c4, blk_far hb hne u, hg, hr4⟩
theorem cellS29_0 {W : World} {g : Nat} {A4 : Option Addr} {c4 : Nat} {f0 : Int} {f1 : Int} {f2 : Int} {f3 : ByteArray} {f4 : List (S82)} (h : W.heap[g]? = some (.cells #[.int .i64 f0, .int .i64 f1, .int .i64 f2, .string f3, .slice A4 f4.length c4] 29 (0, 0))) : W.cell? ⟨g, 0, none⟩ = some (.int .i64 f0) := (blk_cell h 0).trans rfl
theorem IsS29.set_0 {w0 W : World} {g : Nat} {f0 : Int} {f1 : Int} {f2 : Int} {f3 : ByteArray} {f4 : List (S82)} (h : IsS29 w0 W g f0 f1 f2 f3 f4) (x : Int) : IsS29 w0 (W.setCell ⟨g, 0, none⟩ (.int .i64 x)) g x f1 f2 f3 f4 := by
  obtain ⟨A4, c4, hb, hg, hr4⟩ := h
  exact ⟨A4, c4, by simpa using blk_set hb 0 (.int .i64 x), hg, hr4⟩
theorem cellS29_1 {W : World} {g : Nat} {A4 : Option Addr} {c4 : Nat} {f0 : Int} {f1 : Int} {f2 : Int} {f3 : ByteArray} {f4 : List (S82)} (h : W.heap[g]? = some (.cells #[.int .i64 f0, .int .i64 f1, .int .i64 f2, .string f3, .slice A4 f4.length c4] 29 (0, 0))) : W.cell? ⟨g, 1, none⟩ = some (.int .i64 f1) := (blk_cell h 1).trans rfl
theorem IsS29.set_1 {w0 W : World} {g : Nat} {f0 : Int} {f1 : Int} {f2 : Int} {f3 : ByteArray} {f4 : List (S82)} (h : IsS29 w0 W g f0 f1 f2 f3 f4) (x : Int) : IsS29 w0 (W.setCell ⟨g, 1, none⟩ (.int .i64 x)) g f0 x f2 f3 f4 := by
  obtain ⟨A4, c4, hb, hg, hr4⟩ := h
  exact ⟨A4, c4, by simpa using blk_set hb 1 (.int .i64 x), hg, hr4⟩
theorem cellS29_2 {W : World} {g : Nat} {A4 : Option Addr} {c4 : Nat} {f0 : Int} {f1 : Int} {f2 : Int} {f3 : ByteArray} {f4 : List (S82)} (h : W.heap[g]? = some (.cells #[.int .i64 f0, .int .i64 f1, .int .i64 f2, .string f3, .slice A4 f4.length c4] 29 (0, 0))) : W.cell? ⟨g, 2, none⟩ = some (.int .i64 f2) := (blk_cell h 2).trans rfl
theorem IsS29.set_2 {w0 W : World} {g : Nat} {f0 : Int} {f1 : Int} {f2 : Int} {f3 : ByteArray} {f4 : List (S82)} (h : IsS29 w0 W g f0 f1 f2 f3 f4) (x : Int) : IsS29 w0 (W.setCell ⟨g, 2, none⟩ (.int .i64 x)) g f0 f1 x f3 f4 := by
  obtain ⟨A4, c4, hb, hg, hr4⟩ := h
  exact ⟨A4, c4, by simpa using blk_set hb 2 (.int .i64 x), hg, hr4⟩
theorem cellS29_3 {W : World} {g : Nat} {A4 : Option Addr} {c4 : Nat} {f0 : Int} {f1 : Int} {f2 : Int} {f3 : ByteArray} {f4 : List (S82)} (h : W.heap[g]? = some (.cells #[.int .i64 f0, .int .i64 f1, .int .i64 f2, .string f3, .slice A4 f4.length c4] 29 (0, 0))) : W.cell? ⟨g, 3, none⟩ = some (.string f3) := (blk_cell h 3).trans rfl
theorem IsS29.set_3 {w0 W : World} {g : Nat} {f0 : Int} {f1 : Int} {f2 : Int} {f3 : ByteArray} {f4 : List (S82)} (h : IsS29 w0 W g f0 f1 f2 f3 f4) (x : ByteArray) : IsS29 w0 (W.setCell ⟨g, 3, none⟩ (.string x)) g f0 f1 f2 x f4 := by
  obtain ⟨A4, c4, hb, hg, hr4⟩ := h
  exact ⟨A4, c4, by simpa using blk_set hb 3 (.string x), hg, hr4⟩
theorem cellS29_4 {W : World} {g : Nat} {A4 : Option Addr} {c4 : Nat} {f0 : Int} {f1 : Int} {f2 : Int} {f3 : ByteArray} {f4 : List (S82)} (h : W.heap[g]? = some (.cells #[.int .i64 f0, .int .i64 f1, .int .i64 f2, .string f3, .slice A4 f4.length c4] 29 (0, 0))) : W.cell? ⟨g, 4, none⟩ = some (.slice A4 f4.length c4) := (blk_cell h 4).trans rfl
theorem IsS29.new (w0 W : World) (A4 : Option Addr) (c4 : Nat) (f0 : Int) (f1 : Int) (f2 : Int) (f3 : ByteArray) (f4 : List (S82)) (hB : Below w0.heap.size w0 W) (hr4 : Kd.C k82 w0 A4 f4.length f4) : IsS29 w0 (W.alloc (.cells #[.int .i64 f0, .int .i64 f1, .int .i64 f2, .string f3, .slice A4 f4.length c4] 29)) W.heap.size f0 f1 f2 f3 f4 := ⟨A4, c4, by simpa using heap_alloc_new W _, hB.size, hr4⟩

/-- A state of type 82 at block g of W; what its slices lead to came in by w0. -/
def IsS82 (w0 W : World) (g : Nat) (f0 : Int) (f1 : Int) : Prop := W.heap[g]? = some (.cells #[.int .i64 f0, .int .i64 f1] 82 (0, 0)) ∧ w0.heap.size ≤ g
theorem IsS82.grown {w0 W : World} {g : Nat} {f0 : Int} {f1 : Int} {W1 : World} {row : Option Nat} (h : IsS82 w0 W g f0 f1) (hw : W.grownBy W1 row) (hne : some g ≠ row) : IsS82 w0 W1 g f0 f1 := by
  obtain ⟨hb, hg⟩ := h
  exact ⟨blk_grown hb hw hne, hg⟩
theorem IsS82.own_neN {w0 W : World} {g : Nat} {f0 : Int} {f1 : Int} {α : Type} {d : Kd α} {e : Nat} {base : Nat} {ok : Nat → Prop} {v : Value} {xs : List α} (h : IsS82 w0 W g f0 f1) (ho : Kd.N d e W base ok v xs) (ht : e ≠ 82) : some g ≠ v.ownBlock := by
  obtain ⟨hb, hg⟩ := h
  exact Kd.N_ne ho hb ht
theorem IsS82.fresh {w0 W : World} {g : Nat} {f0 : Int} {f1 : Int} (h : IsS82 w0 W g f0 f1) : ∀ k, W.heap.size ≤ k → k ≠ g := by
  obtain ⟨hb, hg⟩ := h
  exact Kd.freshB hb
theorem IsS82.kept {w0 W : World} {g : Nat} {f0 : Int} {f1 : Int} {W1 : World} {S : Nat → Prop} (h : IsS82 w0 W g f0 f1) (hk : Kept W W1 S) (hne : ¬ S g) : IsS82 w0 W1 g f0 f1 := by
  obtain ⟨hb, hg⟩ := h
  exact ⟨blk_kept hb hk hne, hg⟩
theorem IsS82.below {w0 W : World} {g : Nat} {f0 : Int} {f1 : Int} {W1 : World} (h : IsS82 w0 W g f0 f1) (hw : Below W.heap.size W W1) : IsS82 w0 W1 g f0 f1 := h.grown (grown_of_below hw none) (by simp)
theorem IsS82.alloc {w0 W : World} {g : Nat} {f0 : Int} {f1 : Int} (h : IsS82 w0 W g f0 f1) (o : Obj) : IsS82 w0 (W.alloc o) g f0 f1 := h.below (below_alloc (Below.refl _ _) o)
theorem IsS82.drewN {w0 W : World} {g : Nat} {f0 : Int} {f1 : Int} (h : IsS82 w0 W g f0 f1) (m : Nat) : IsS82 w0 (W.drewN m) g f0 f1 := h
theorem IsS82.drew {w0 W : World} {g : Nat} {f0 : Int} {f1 : Int} (h : IsS82 w0 W g f0 f1) : IsS82 w0 W.drew g f0 f1 := h
theorem IsS82.at_ {w0 W : World} {g : Nat} {f0 : Int} {f1 : Int} {w' : World} {m : Nat} (hq : W.drewN m = w') (h : IsS82 w0 W g f0 f1) : IsS82 w0 w' g f0 f1 := by subst hq; exact IsS82.drewN h m
theorem IsS82.apart {w0 W : World} {g : Nat} {f0 : Int} {f1 : Int} {α : Type} {d : Kd α} {e : Nat} {base : Nat} {ok : Nat → Prop} {v : Value} {xs : List α} (h : IsS82 w0 W g f0 f1) (ho : d.R e W base ok v xs) (ht : ∀ q, q ∈ e :: d.E → q ≠ 82) : d.R e W base (fun k => ok k ∧ k ≠ g) v xs := by
  obtain ⟨hb, hg⟩ := h
  exact Kd.R_types ho hb ht
theorem IsS82.own_ne {w0 W : World} {g : Nat} {f0 : Int} {f1 : Int} {α : Type} {d : Kd α} {e : Nat} {base : Nat} {ok : Nat → Prop} {v : Value} {xs : List α} (h : IsS82 w0 W g f0 f1) (ho : d.R e W base ok v xs) (ht : e ≠ 82) : some g ≠ v.ownBlock := by
  obtain ⟨hb, hg⟩ := h
  exact Kd.R_ne ho hb ht
theorem IsS82.apartQ {w0 W : World} {g : Nat} {f0 : Int} {f1 : Int} {α : Type} {d : Kd α} {e : Nat} {base : Nat} {ok : Nat → Prop} {v : Value} {xs : List α} (h : IsS82 w0 W g f0 f1) (ho : d.Q e W base ok v xs) (ht : ∀ q, q ∈ e :: d.E → q ≠ 82) : d.Q e W base (fun k => ok k ∧ k ≠ g) v xs := by
  obtain ⟨hb, hg⟩ := h
  exact Kd.Q_types ho hb ht
theorem IsS82.own_neQ {w0 W : World} {g : Nat} {f0 : Int} {f1 : Int} {α : Type} {d : Kd α} {e : Nat} {base : Nat} {ok : Nat → Prop} {v : Value} {xs : List α} (h : IsS82 w0 W g f0 f1) (ho : d.Q e W base ok v xs) (ht : e ≠ 82) : some g ≠ v.ownBlock := by
  obtain ⟨hb, hg⟩ := h
  exact Kd.Q_ne ho hb ht
theorem IsS82.apartS {w0 W : World} {g : Nat} {f0 : Int} {f1 : Int} {α : Type} {d : Kd α} {e : Nat} {base : Nat} {ok : Nat → Prop} {v : Value} {xs : List α} (h : IsS82 w0 W g f0 f1) (ho : d.S e W base ok v xs) (ht : ∀ q, q ∈ e :: d.E → q ≠ 82) : d.S e W base (fun k => ok k ∧ k ≠ g) v xs := by
  obtain ⟨hb, hg⟩ := h
  exact Kd.S_types ho hb ht
theorem IsS82.own_neS {w0 W : World} {g : Nat} {f0 : Int} {f1 : Int} {α : Type} {d : Kd α} {e : Nat} {base : Nat} {ok : Nat → Prop} {v : Value} {xs : List α} (h : IsS82 w0 W g f0 f1) (ho : d.S e W base ok v xs) (ht : e ≠ 82) : some g ≠ v.ownBlock := by
  obtain ⟨hb, hg⟩ := h
  exact Kd.S_ne ho hb ht
theorem IsS82.lt {w0 W : World} {g : Nat} {f0 : Int} {f1 : Int} (h : IsS82 w0 W g f0 f1) : g < W.heap.size := by
  obtain ⟨hb, hg⟩ := h
  exact blk_lt hb
theorem IsS82.ge {w0 W : World} {g : Nat} {f0 : Int} {f1 : Int} (h : IsS82 w0 W g f0 f1) : w0.heap.size ≤ g := by
  obtain ⟨hb, hg⟩ := h
  exact hg
theorem IsS82.ne_blk {w0 W : World} {g : Nat} {f0 : Int} {f1 : Int} {a : Nat} {cs : Array Value} {t : TypeId} {fr : Nat × Nat} (h : IsS82 w0 W g f0 f1) (hb2 : W.heap[a]? = some (.cells cs t fr)) (ht : t ≠ 82) : g ≠ a := by
  obtain ⟨hb, hg⟩ := h; rintro rfl; rw [hb] at hb2
  injection hb2 with hb2
  injection hb2 with _ ht2
  exact ht ht2.symm
theorem IsS82.far {w0 W : World} {g : Nat} {f0 : Int} {f1 : Int} {p : Addr} (h : IsS82 w0 W g f0 f1) (hne : g ≠ p.block) (u : Value) : IsS82 w0 (W.setCell p u) g f0 f1 := by
  obtain ⟨hb, hg⟩ := h
  exact ⟨blk_far hb hne u, hg⟩
theorem cellS82_0 {W : World} {g : Nat} {f0 : Int} {f1 : Int} (h : W.heap[g]? = some (.cells #[.int .i64 f0, .int .i64 f1] 82 (0, 0))) : W.cell? ⟨g, 0, none⟩ = some (.int .i64 f0) := (blk_cell h 0).trans rfl
theorem IsS82.set_0 {w0 W : World} {g : Nat} {f0 : Int} {f1 : Int} (h : IsS82 w0 W g f0 f1) (x : Int) : IsS82 w0 (W.setCell ⟨g, 0, none⟩ (.int .i64 x)) g x f1 := by
  obtain ⟨hb, hg⟩ := h
  exact ⟨by simpa using blk_set hb 0 (.int .i64 x), hg⟩
theorem cellS82_1 {W : World} {g : Nat} {f0 : Int} {f1 : Int} (h : W.heap[g]? = some (.cells #[.int .i64 f0, .int .i64 f1] 82 (0, 0))) : W.cell? ⟨g, 1, none⟩ = some (.int .i64 f1) := (blk_cell h 1).trans rfl
theorem IsS82.set_1 {w0 W : World} {g : Nat} {f0 : Int} {f1 : Int} (h : IsS82 w0 W g f0 f1) (x : Int) : IsS82 w0 (W.setCell ⟨g, 1, none⟩ (.int .i64 x)) g f0 x := by
  obtain ⟨hb, hg⟩ := h
  exact ⟨by simpa using blk_set hb 1 (.int .i64 x), hg⟩
theorem IsS82.new (w0 W : World) (f0 : Int) (f1 : Int) (hB : Below w0.heap.size w0 W) : IsS82 w0 (W.alloc (.cells #[.int .i64 f0, .int .i64 f1] 82)) W.heap.size f0 f1 := ⟨by simpa using heap_alloc_new W _, hB.size⟩

/-! ### laws_markFeatureS: function 32 -/
/-- A block of so many cells. -/
def Blk (w : World) (g m t : Nat) : Prop := ∃ c : Array Value, w.heap[g]? = some (.cells c t (0, 0)) ∧ c.size = m
theorem Blk.cell {w : World} {g m t : Nat} (h : Blk w g m t) {j : Nat} (hj : j < m) : ∃ v, w.cell? ⟨g, j, none⟩ = some v := by
  obtain ⟨c, h, rfl⟩ := h
  exact ⟨c[j], (blk_cell h j).trans (Array.getElem?_eq_getElem hj)⟩
theorem Blk.frozen {w : World} {g m t : Nat} (h : Blk w g m t) (j : Nat) : w.frozen? ⟨g, j, none⟩ = false := by
  obtain ⟨c, h, rfl⟩ := h
  exact blk_frozen h j
theorem Blk.set {w : World} {g m t : Nat} (h : Blk w g m t) (j : Nat) (u : Value) : Blk (w.setCell ⟨g, j, none⟩ u) g m t := by
  obtain ⟨c, h, rfl⟩ := h
  exact ⟨_, blk_set h j u, by simp⟩
theorem Blk.far {w : World} {g g' m t : Nat} (h : Blk w g m t) (hn : g ≠ g') (j : Nat) (u : Value) : Blk (w.setCell ⟨g', j, none⟩ u) g m t := by
  obtain ⟨c, h, rfl⟩ := h
  exact ⟨c, blk_far h hn u, rfl⟩
theorem grown_set {w W : World} {g : Nat} (h : w.grownBy W (some g)) (j : Nat) (u : Value) : w.grownBy (W.setCell ⟨g, j, none⟩ u) (some g) := by
  refine ⟨h.os, h.tape, h.output, ?_, ?_⟩
  · have := h.size; rw [World.size_setCell]; exact this
  · intro i hi hne; rw [Below.heap_setCell W ⟨g, j, none⟩ u i (fun e => hne (by rw [e]))]
    exact h.block i hi hne

set_option maxHeartbeats 4000000 in
theorem mp_weak (g cap n m : Nat) (x : Int) (w : World) (hg : Blk w g m 82) (hn : 2 * n ≤ m) (hx : 0 ≤ x) (hb : x + 2 * (n : Int) < 4611686018427387904) :
    Calls Try.prog 81 #[.slice (some ⟨g, 0, none⟩) n cap, .int .i64 x] w fun e w' => e = .returned (.int .i64 (x + 2 * (n : Int))) ∧ w.grownBy w' (some g) ∧ Blk w' g m 82 := by
  have HG := Aside0.mk hg; have HW := Aside0.mk (World.grownBy.refl w (some g)); clear hg
  go_enter Try.func81, Try.ntmps81; go_wp2
  go_loopg [1, 5] n (fun gk v1 v5 wr => ∃ i : Nat, i ≤ n ∧ n - i ≤ gk ∧ v1 = .int .i64 (x + 2 * (i : Int)) ∧ v5 = .int .i64 (i : Int) ∧ Aside0 (w.grownBy wr (some g)) ∧ Aside0 (Blk wr g m 82))
  case atStart => exact ⟨0, Nat.zero_le _, Nat.le_refl _, by simp, rfl, HW, HG⟩
  case round =>
    obtain ⟨i, hi, hgk, rfl, rfl, HW, HG⟩ := hrel
    by_cases hlt : i < n
    · have d1 : decide ((i : Int) < (n : Int)) = true := decide_eq_true (by omega); have d2 : decide (0 ≤ (i : Int)) = true := decide_eq_true (by omega); have q0 : (0 ≤ (i : Int)) = True := eq_true (by omega); have q1 : ((i : Int) < (n : Int)) = True := eq_true (by omega); have q2 : (i < n) = True := eq_true hlt; obtain ⟨u0, hx0⟩ := HG.out.cell (j := i * 2) (by omega); have hf0 := HG.out.frozen (i * 2); obtain ⟨u1, hx1⟩ := HG.out.cell (j := i * 2 + 1) (by omega); have hf1 := HG.out.frozen (i * 2 + 1); have e1 : wrap64 (x + 2 * (i : Int) + 1) = x + 2 * (i : Int) + 1 := by unfold wrap64; omega
      have e2 : wrap64 (x + 2 * (i : Int) + 1 + 1) = x + 2 * ((i + 1 : Nat) : Int) := by unfold wrap64; omega
      have e3 : wrap64 ((i : Int) + 1) = ((i + 1 : Nat) : Int) := by unfold wrap64; omega
      obtain ⟨k1, rfl⟩ : ∃ k1, gk = k1 + 1 := ⟨gk - 1, by omega⟩
      go_wp2
      go_roundg k1
      case measure => omega
      case rel => exact ⟨i + 1, by omega, by omega, by congr 1; omega, rfl, ⟨grown_set (grown_set HW.out _ _) _ _⟩, ⟨(HG.out.set _ _).set _ _⟩⟩
    · have hin : i = n := by omega
      subst hin; have d1 : decide ((i : Int) < (i : Int)) = false := decide_eq_false (by omega); go_wp2; go_ret
      exact ⟨rfl, HW.out, HG.out⟩
theorem mp_none (cap : Nat) (x : Int) (w : World) : Calls Try.prog 81 #[.slice none 0 cap, .int .i64 x] w fun e w' => e = .returned (.int .i64 x) ∧ w' = w := by
  go_enter Try.func81, Try.ntmps81; go_wp2
  go_loopg [1, 5] 0 (fun gk v1 v5 wr => v1 = .int .i64 x ∧ v5 = .int .i64 0 ∧ wr = w)
  case atStart => exact ⟨rfl, rfl, rfl⟩
  case round =>
    obtain ⟨rfl, rfl, rfl⟩ := hrel; go_wp2; go_ret
    exact ⟨rfl, rfl⟩


/-- A feature's row, as far as marking it asks: so many cells, and where each feature's points lie. -/
def OutC (w : World) (g m n : Nat) (vs : Nat → Value) : Prop := ∃ c : Array Value, w.heap[g]? = some (.cells c 29 (0, 0)) ∧ c.size = m ∧ ∀ j, j < n → c[j * 5 + 4]? = some (vs j)
theorem OutC.blk {w : World} {g m n : Nat} {vs : Nat → Value} (h : OutC w g m n vs) : Blk w g m 29 := by
  obtain ⟨c, h, h', _⟩ := h; exact ⟨c, h, h'⟩
theorem OutC.at_ {w : World} {g m n : Nat} {vs : Nat → Value} (h : OutC w g m n vs) {j : Nat} (hj : j < n) : w.cell? ⟨g, j * 5 + 4, none⟩ = some (vs j) := by
  obtain ⟨c, h, _, h'⟩ := h; exact (blk_cell h _).trans (h' j hj)
theorem OutC.set {w : World} {g m n : Nat} {vs : Nat → Value} (h : OutC w g m n vs) (i d : Nat) (hd : d < 4) (u : Value) : OutC (w.setCell ⟨g, i * 5 + d, none⟩ u) g m n vs := by
  obtain ⟨c, h, h1, h2⟩ := h
  exact ⟨_, blk_set h _ u, by simpa using h1, fun j hj => by rw [Array.getElem?_setIfInBounds_ne (by omega)]; exact h2 j hj⟩
theorem OutC.below {w W : World} {g m n : Nat} {vs : Nat → Value} (h : OutC w g m n vs) (hb : Below w.heap.size w W) : OutC W g m n vs := by
  obtain ⟨c, h, h1, h2⟩ := h; exact ⟨c, blk_below h hb, h1, h2⟩
theorem OutC.grown {w W : World} {g m n : Nat} {vs : Nat → Value} (h : OutC w g m n vs) {g' : Nat} (hg : w.grownBy W (some g')) (hn : g ≠ g') : OutC W g m n vs := by
  obtain ⟨c, h, h1, h2⟩ := h; exact ⟨c, blk_grown h hg (fun e => hn (by injection e)), h1, h2⟩
/-- A row of points that is the call's own: nothing, or a block with room. -/
def Nst (w : World) (P : Nat → Prop) (base : Nat) (v : Value) (n : Nat) : Prop := (v = .slice none 0 0 ∧ n = 0) ∨ ∃ g cap m, v = .slice (some ⟨g, 0, none⟩) n cap ∧ P g ∧ base ≤ g ∧ 2 * n ≤ m ∧ Blk w g m 82
theorem Nst.move {w W : World} {P : Nat → Prop} {base n : Nat} {v : Value} (h : Nst w P base v n) (hm : ∀ g m, P g → Blk w g m 82 → Blk W g m 82) : Nst W P base v n := by
  rcases h with h | ⟨g, cap, m, h1, h2, h3, h4, h5⟩
  · exact .inl h
  · exact .inr ⟨g, cap, m, h1, h2, h3, h4, hm g m h2 h5⟩
theorem Blk.below {w W : World} {g m t : Nat} (h : Blk w g m t) (hb : Below w.heap.size w W) : Blk W g m t := by
  obtain ⟨c, h, rfl⟩ := h; exact ⟨c, blk_below h hb, rfl⟩
theorem Blk.grown {w W : World} {g g' m m' t : Nat} (h : Blk w g m t) (hg : w.grownBy W (some g')) (h0 : Blk w g' m' t) (h1 : Blk W g' m' t) : Blk W g m t := by
  by_cases e : g = g'
  · subst e; obtain ⟨c, h, rfl⟩ := h; obtain ⟨c', h', rfl⟩ := h0; rw [h] at h'; injection h' with h'; injection h' with h'; subst h'; exact h1
  · obtain ⟨c, h, rfl⟩ := h
    exact ⟨c, blk_grown h hg (fun q => e (by injection q)), rfl⟩
def mfT : List S29 → Nat
  | [] => 0
  | x :: r => 4 + 2 * x.f4.length + mfT r
theorem mfT_app (a b : List S29) : mfT (a ++ b) = mfT a + mfT b := by
  induction a with
  | nil => simp [mfT]
  | cons x a ih => simp [mfT, ih]; omega
theorem mfT_take (l : List S29) (i : Nat) (h : i < l.length) : mfT (l.take (i + 1)) = mfT (l.take i) + (4 + 2 * (l.getD i z29).f4.length) := by
  rw [List.take_succ_eq_append_getElem h, mfT_app, List.getD_eq_getElem?_getD, List.getElem?_eq_getElem h]; simp [mfT]
theorem mfT_le (l : List S29) (i : Nat) : mfT (l.take i) ≤ mfT l := by
  have := mfT_app (l.take i) (l.drop i); rw [List.take_append_drop] at this; omega
theorem nst_of {w : World} {base : Nat} {P : Nat → Prop} {v : Value} {xs : List S82} (h : Kd.R k82 82 w base P v xs) : Nst w P base v xs.length := by
  obtain ⟨hok, inner, ho, _⟩ := h; obtain ⟨hl, ho⟩ := ho; have hs : k82.sz = 2 := rfl; rw [hs] at hl ho
  rcases ho with ⟨rfl, h0⟩ | ⟨g, cap, cur, rfl, h1, h2, h3, h4, h5, h6⟩
  · exact .inl ⟨rfl, h0⟩
  · refine .inr ⟨g, cap, cur.size, rfl, hok g rfl, h1, by omega, cur, h2, rfl⟩
/-- What is known of a row of features that is the call's own. -/
theorem out_of {w : World} {base : Nat} {P : Nat → Prop} {u : Value} {l : List S29} (h : Kd.R k29 29 w base P u l) (hl : 0 < l.length) :
    ∃ g cap m, ∃ vs : Nat → Value, u = .slice (some ⟨g, 0, none⟩) l.length cap ∧ P g ∧ base ≤ g ∧ l.length * 5 ≤ m ∧ OutC w g m l.length vs ∧ ∀ j, j < l.length → Nst w (fun k => P k ∧ k ≠ g) base (vs j) (l.getD j z29).f4.length := by
  obtain ⟨g, cap, rfl, h1, h2, cells, h3⟩ := Kd.R_form h hl; have hok := h.1 g rfl; have hc : ∀ j : Nat, j < l.length → ∃ v, cells[j * 5 + 4]? = some v ∧ Nst w (fun k => P k ∧ k ≠ g) base v (l.getD j z29).f4.length := by
    intro j hj; obtain ⟨c, hcl, hM, hcc, _⟩ := Kd.R_elem h z29 (j : Int) (by omega) (by omega); obtain ⟨v4, rfl, g4⟩ := k29_openM hM; have := hcc 4 v4 rfl; rw [blk_cell h3] at this; rw [Int.toNat_natCast] at this g4
    exact ⟨v4, this, nst_of g4⟩
  have hm : l.length * 5 ≤ cells.size := by
    obtain ⟨v, hv, _⟩ := hc (l.length - 1) (by omega); have := (Array.getElem?_eq_some_iff.1 hv).1
    omega
  refine ⟨g, cap, cells.size, fun j => (cells[j * 5 + 4]?).getD undef, rfl, hok, h1, hm, ⟨cells, h3, rfl, fun j hj => ?_⟩, fun j hj => ?_⟩
  · obtain ⟨v, hv, _⟩ := hc j hj; simp only [hv]; rfl
  · obtain ⟨v, hv, hn⟩ := hc j hj; simp only [hv]; exact hn
theorem markText_l (n : Nat) : ∀ (x : Int) (b : ByteArray), 0 ≤ x → x ≤ 9223372036854775807 → x < (10 : Int) ^ n → b.size + n ≤ 1000 → ∃ r, Ev (fun k => laws_markText.l0 k x b) r := by
  induction n with
  | zero =>
    intro x b h0 hm h1 h2; have hx : x = 0 := by simp at h1; omega
    subst hx; refine ⟨(⟨#[109]⟩ : ByteArray) ++ b, Ev.step (f := fun _ => some ((⟨#[109]⟩ : ByteArray) ++ b)) (fun k => ?_) (Ev.now _)⟩; simp only [laws_markText.l0]; rw [if_neg (by omega), if_pos (by omega)]
  | succ n ih =>
    intro x b h0 hm h1 h2
    by_cases hx : x > 0
    · have hd : Int.tdiv x 10 = x / 10 := Int.tdiv_eq_ediv_of_nonneg h0; have hlt : x / 10 < (10 : Int) ^ n := by
        rw [Int.pow_succ] at h1
        omega
      have hs : (strOfNums [(wrap64 (48 + (Int.tmod x 10))) % 256]).size = 1 := by rw [strOfNums_size]; rfl
      have hw : wrap64 (x / 10) = x / 10 := by unfold wrap64; omega
      obtain ⟨r, hr⟩ := ih (x / 10) (strOfNums [(wrap64 (48 + (Int.tmod x 10))) % 256] ++ b) (by omega) (by omega) hlt (by rw [ByteArray.size_append, hs]; omega); refine ⟨r, Ev.step (fun k => ?_) hr⟩; simp only [laws_markText.l0, Option.bind_some]; rw [if_pos hx, if_pos (by rw [hs]; omega), hd, hw]
    · have hx0 : x = 0 := by omega
      subst hx0; refine ⟨(⟨#[109]⟩ : ByteArray) ++ b, Ev.step (f := fun _ => some ((⟨#[109]⟩ : ByteArray) ++ b)) (fun k => ?_) (Ev.now _)⟩; simp only [laws_markText.l0]; rw [if_neg (by omega), if_pos (by omega)]
theorem mtx (x : Int) (h0 : 0 ≤ x) (h1 : x ≤ 4611686018427387904) (w : World) : Calls Try.prog 88 #[.int .i64 x] w fun e w' => ∃ s, e = .returned (.string s) ∧ Below w.heap.size w w' := by
  have hx : ∃ r, Ev (fun k => laws_markText.f k x) r := by
    unfold laws_markText.f
    by_cases h : x ≤ 0
    · exact ⟨_, by simp only [if_pos h]; exact Ev.now _⟩
    · simp only [if_neg h]
      exact markText_l 19 x (⟨#[]⟩ : ByteArray) h0 (by omega) (by have : (10 : Int) ^ 19 = 10000000000000000000 := by decide
                                                                  omega) (by decide)
  obtain ⟨r, K, hK⟩ := hx; refine (laws_markText.calls K x r w (hK K (Nat.le_refl _))).mono ?_; rintro e w' ⟨rfl, hb⟩
  exact ⟨r, rfl, hb⟩
theorem mfT_ge (l : List S29) : l.length ≤ mfT l := by
  induction l with
  | nil => simp [mfT]
  | cons x l ih => simp [mfT]; omega
theorem mf_pred {n i k : Nat} (h : n - i ≤ k) (h' : i < n) : ∃ k1, k = k1 + 1 ∧ n - (i + 1) ≤ k1 := ⟨k - 1, by omega, by omega⟩
theorem mf_w {x : Int} (h0 : 0 ≤ x) (h1 : x ≤ 9223372036854775806) : wrap64 (x + 1) = x + 1 := by unfold wrap64; omega
theorem mf_ar {a1 : Int} {T M R len : Nat} (h0 : 0 ≤ a1) (hb : a1 + (M : Int) < 4611686018427387904) (ht : R = T + (4 + 2 * len)) (hle : R ≤ M) :
    0 ≤ a1 + (T : Int) ∧ a1 + (T : Int) + 4 ≤ 4611686018427387904 ∧ a1 + (T : Int) + 1 + 1 + 1 + 1 + 2 * (len : Int) = a1 + (R : Int) ∧ a1 + (T : Int) + 1 + 1 + 1 + 1 + 2 * (len : Int) < 4611686018427387904 := by omega
theorem mf_ar4 {x : Int} (h0 : 0 ≤ x) (h : x + 4 ≤ 4611686018427387904) : (0 ≤ x + 1 ∧ 0 ≤ x + 1 + 1 ∧ 0 ≤ x + 1 + 1 + 1 ∧ 0 ≤ x + 1 + 1 + 1 + 1) ∧ (x + 1 ≤ 4611686018427387904 ∧ x + 1 + 1 ≤ 4611686018427387904 ∧ x + 1 + 1 + 1 ≤ 4611686018427387904 ∧ x + 1 + 1 + 1 + 1 ≤ 4611686018427387904) ∧ wrap64 (x + 1) = x + 1 ∧ wrap64 (x + 1 + 1) = x + 1 + 1 ∧ wrap64 (x + 1 + 1 + 1) = x + 1 + 1 + 1 ∧ wrap64 (x + 1 + 1 + 1 + 1) = x + 1 + 1 + 1 + 1 := by
  refine ⟨by omega, by omega, mf_w (by omega) (by omega), mf_w (by omega) (by omega), mf_w (by omega) (by omega), mf_w (by omega) (by omega)⟩
theorem mf_ar5 {i n M : Nat} {a1 : Int} (h0 : 0 ≤ a1) (hb : a1 + (M : Int) < 4611686018427387904) (hge : n ≤ M) (h : i < n) : wrap64 ((i : Int) + 1) = ((i + 1 : Nat) : Int) := by unfold wrap64; omega
theorem mt_step {w0 w w3 w1 : World} {g m n i : Nat} {vs : Nat → Value} {P0_ : Nat → Prop} {q : Nat → Nat} {v : Value} (hO : OutC w3 g m n vs) (hN : ∀ j, j < n → Nst w3 (fun k => P0_ k ∧ k ≠ g) w0.heap.size (vs j) (q j)) (hB : Below w0.heap.size w0 w3) (hK : Kept w w3 (fun k_ => P0_ k_)) (hP : P0_ g) (hgb : w0.heap.size ≤ g) (hz : w.heap.size ≤ w3.heap.size) (hi : i < n) (hm : n * 5 ≤ m) (hv : vs i = v) (hb : Below w3.heap.size w3 w1) (s : ByteArray) :
    (∃ u3, w1.cell? ⟨g, i * 5 + 3, none⟩ = some u3) ∧ w1.frozen? ⟨g, i * 5 + 3, none⟩ = false ∧ (w1.setCell ⟨g, i * 5 + 3, none⟩ (.string s)).cell? ⟨g, i * 5 + 4, none⟩ = some v ∧ Aside0 (OutC (w1.setCell ⟨g, i * 5 + 3, none⟩ (.string s)) g m n vs) ∧ Aside0 (Below w0.heap.size w0 (w1.setCell ⟨g, i * 5 + 3, none⟩ (.string s))) ∧ Aside0 (Kept w (w1.setCell ⟨g, i * 5 + 3, none⟩ (.string s)) (fun k_ => P0_ k_)) ∧ Aside0 (∀ j, j < n → Nst (w1.setCell ⟨g, i * 5 + 3, none⟩ (.string s)) (fun k => P0_ k ∧ k ≠ g) w0.heap.size (vs j) (q j)) := by
  have HO4 := hO.below hb; refine ⟨HO4.blk.cell (by omega), HO4.blk.frozen _, ((HO4.set i 3 (by omega) _).at_ hi).trans (congrArg some hv), ⟨HO4.set i 3 (by omega) _⟩, ⟨below_set (below_step hB hb) hgb⟩, ⟨(hK.below hb).setCell (p := ⟨g, i * 5 + 3, none⟩) (.inl hP) _⟩, ⟨fun j hj => (hN j hj).move (fun g' m' hp hB => (hB.below hb).far hp.2 _ _)⟩⟩
set_option maxHeartbeats 8000000 in
set_option maxRecDepth 100000 in
theorem mf_any (P0_ : Nat → Prop) (u9000_ : Value) (l0 : List S29) (a1 : Int) (w0 w : World) (hB : Below w0.heap.size w0 w) (ho0 : Kd.R k29 29 w w0.heap.size P0_ u9000_ l0) (h0 : 0 ≤ a1) (hb : a1 + (mfT l0 : Int) < 4611686018427387904) :
    Calls Try.prog 32 #[u9000_, .int .i64 a1] w fun e w' => e = .returned (.int .i64 (a1 + (mfT l0 : Int))) ∧ Below w0.heap.size w0 w' ∧ Kept w w' (fun k_ => P0_ k_) := by
  by_cases hl : 0 < l0.length
  · obtain ⟨g, cap, m, vs, rfl, hPg, hgb, hm, hO, hN⟩ := out_of ho0 hl; have HO := Aside0.mk hO; have HN := Aside0.mk hN; have HB := Aside0.mk hB; have HK := Aside0.mk (Kept.refl w (fun k_ => P0_ k_)); clear hO hN hB ho0
    go_enter Try.func32, Try.ntmps32; go_wp2
    go_loopg [1, 5] l0.length (fun gk v1 v5 wr => ∃ i : Nat, i ≤ l0.length ∧ l0.length - i ≤ gk ∧ v1 = .int .i64 (a1 + (mfT (l0.take i) : Int)) ∧ v5 = .int .i64 (i : Int) ∧ Aside0 (OutC wr g m l0.length vs) ∧ Aside0 (∀ j, j < l0.length → Nst wr (fun k => P0_ k ∧ k ≠ g) w0.heap.size (vs j) (l0.getD j z29).f4.length) ∧ Aside0 (Below w0.heap.size w0 wr) ∧ Aside0 (Kept w wr (fun k_ => P0_ k_)))
    case atStart => exact ⟨0, Nat.zero_le _, Nat.le_refl _, by simp [mfT], rfl, HO, HN, HB, HK⟩
    case round =>
      obtain ⟨i, hi, hgk, rfl, rfl, HO, HN, HB, HK⟩ := hrel
      by_cases hlt : i < l0.length
      · have d1 : decide ((i : Int) < (l0.length : Int)) = true := decide_eq_true (by omega); have d2 : decide (0 ≤ (i : Int)) = true := decide_eq_true (by omega); have q0 : (0 ≤ (i : Int)) = True := eq_true (by omega); have q1 : ((i : Int) < (l0.length : Int)) = True := eq_true (by omega); have q2 : (i < l0.length) = True := eq_true hlt; have hb0 := HO.out.blk; obtain ⟨u0, hx0⟩ := hb0.cell (j := i * 5) (by omega); have hf0 := hb0.frozen (i * 5); obtain ⟨u1, hx1⟩ := hb0.cell (j := i * 5 + 1) (by omega); have hf1 := hb0.frozen (i * 5 + 1); obtain ⟨u2, hx2⟩ := hb0.cell (j := i * 5 + 2) (by omega); have hf2 := hb0.frozen (i * 5 + 2); obtain ⟨k1, rfl, hk1⟩ := mf_pred hgk hlt; have hi1 : i + 1 ≤ l0.length := hlt; have ht := mfT_take l0 i hlt; have hle := mfT_le l0 (i + 1); have hge := mfT_ge l0; generalize hT : mfT (l0.take i) = T at *; have hle0 := hle; clear hle; obtain ⟨y0, y1, y2, y3⟩ := mf_ar h0 hb ht hle0; obtain ⟨⟨z1, z2, z3, z4⟩, ⟨z5, z6, z7, z8⟩, e1, e2, e3, e4⟩ := mf_ar4 y0 y1; have e5 := mf_ar5 h0 hb hge hlt; have hz : w.heap.size ≤ wr.heap.size := HK.out.1; have HO3 : OutC (((wr.setCell ⟨g, i * 5, none⟩ (.int .i64 (a1 + (T : Int)))).setCell ⟨g, i * 5 + 1, none⟩ (.int .i64 (a1 + (T : Int) + 1))).setCell ⟨g, i * 5 + 2, none⟩ (.int .i64 (a1 + (T : Int) + 1 + 1))) g m l0.length vs := ((HO.out.set i 0 (by omega) _).set i 1 (by omega) _).set i 2 (by omega) _; have HB3 : Below w0.heap.size w0 (((wr.setCell ⟨g, i * 5, none⟩ (.int .i64 (a1 + (T : Int)))).setCell ⟨g, i * 5 + 1, none⟩ (.int .i64 (a1 + (T : Int) + 1))).setCell ⟨g, i * 5 + 2, none⟩ (.int .i64 (a1 + (T : Int) + 1 + 1))) := below_set (below_set (below_set HB.out hgb) hgb) hgb
        have HK3 : Kept w (((wr.setCell ⟨g, i * 5, none⟩ (.int .i64 (a1 + (T : Int)))).setCell ⟨g, i * 5 + 1, none⟩ (.int .i64 (a1 + (T : Int) + 1))).setCell ⟨g, i * 5 + 2, none⟩ (.int .i64 (a1 + (T : Int) + 1 + 1))) (fun k_ => P0_ k_) := ((HK.out.setCell (.inl hPg) _).setCell (.inl hPg) _).setCell (.inl hPg) _; have HN3 : ∀ j, j < l0.length → Nst (((wr.setCell ⟨g, i * 5, none⟩ (.int .i64 (a1 + (T : Int)))).setCell ⟨g, i * 5 + 1, none⟩ (.int .i64 (a1 + (T : Int) + 1))).setCell ⟨g, i * 5 + 2, none⟩ (.int .i64 (a1 + (T : Int) + 1 + 1))) (fun k => P0_ k ∧ k ≠ g) w0.heap.size (vs j) (l0.getD j z29).f4.length := fun j hj => (HN.out j hj).move (fun g' m' hp hB => ((hB.far hp.2 _ _).far hp.2 _ _).far hp.2 _ _)
        have hz3 := HK3.1; replace HO3 := Aside0.mk HO3; replace HB3 := Aside0.mk HB3; replace HK3 := Aside0.mk HK3; replace HN3 := Aside0.mk HN3; clear HO HB HK hb0
        rcases HN.out i hlt with ⟨hv, hlen⟩ | ⟨g4, cap4, m4, hv, hP4, hb4, hm4, hB4⟩
        · clear HN; go_wp2_with (first
            | (go_at_call 88; refine (mtx _ z3 z7 _).mono ?_; rintro e w1 ⟨s, rfl, hb⟩; obtain ⟨⟨u3, hx3⟩, hf3, hx4, HO5, HB5, HK5, HN5⟩ := mt_step HO3.out HN3.out HB3.out HK3.out hPg hgb hz3 hlt hm hv hb s; clear hb HO3 HB3 HN3 HK3))
          go_at_call 81; refine (mp_none _ _ _).mono ?_; rintro e w2 ⟨rfl, rfl⟩; clear hx0 hx1 hx2 hx3 hx4 hf0 hf1 hf2 hf3 hv e1 e2 e3 e4 ht hge hle0 y0 y1 y3 z1 z2 z3 z4 z5 z6 z7 z8; generalize w1.setCell _ _ = W at *; go_wp2
          go_roundg k1
          case measure => omega
          case rel => exact ⟨i + 1, hi1, hk1, by rw [← y2, hlen]; simp, by rw [e5], HO5, HN5, HB5, HK5⟩
        · clear HN; generalize hln : (l0.getD i z29).f4.length = len at hv hm4 y2 y3 ht; go_wp2_with (first
            | (go_at_call 88; refine (mtx _ z3 z7 _).mono ?_; rintro e w1 ⟨s, rfl, hb⟩; obtain ⟨⟨u3, hx3⟩, hf3, hx4, HO5, HB5, HK5, HN5⟩ := mt_step HO3.out HN3.out HB3.out HK3.out hPg hgb hz3 hlt hm hv hb s; have hB5 := Aside0.mk ((((((hB4.far hP4.2 (i * 5) (.int .i64 (a1 + (T : Int)))).far hP4.2 (i * 5 + 1) (.int .i64 (a1 + (T : Int) + 1))).far hP4.2 (i * 5 + 2) (.int .i64 (a1 + (T : Int) + 1 + 1))).below hb).far hP4.2 (i * 5 + 3) (.string s))); clear hb HO3 HB3 HN3 HK3))
          go_at_call 81; refine (mp_weak g4 cap4 _ m4 _ _ hB5.out hm4 z4 y3).mono ?_; rintro e w2 ⟨rfl, hg4, hB6⟩; have hg5 := Aside0.mk hg4; have hB7 := Aside0.mk hB6; clear hx0 hx1 hx2 hx3 hx4 hf0 hf1 hf2 hf3 hv e1 e2 e3 e4 ht hge hle0 y0 y1 y3 z1 z2 z3 z4 z5 z6 z7 z8 hg4 hB6; generalize w1.setCell _ _ = W at *; go_wp2
          go_roundg k1
          case measure => omega
          case rel => exact ⟨i + 1, hi1, hk1, by rw [← y2], by rw [e5], ⟨HO5.out.grown hg5.out (Ne.symm hP4.2)⟩, ⟨fun j hj => (HN5.out j hj).move (fun g' m' hp hB => hB.grown hg5.out hB5.out hB7.out)⟩, ⟨HB5.out.grown hg5.out HB5.out.size (fun k hk => by cases hk; exact hb4)⟩, ⟨Kept.of_grown hg5.out HK5.out (fun k hk => by cases hk; exact .inl hP4.1)⟩⟩
      · have hin : i = l0.length := by omega
        have d1 : decide ((i : Int) < (l0.length : Int)) = false := decide_eq_false (by omega); have d2 : (l0.length ≤ i) = True := eq_true (by omega); go_wp2; go_ret
        exact ⟨by rw [List.take_of_length_le (by omega)]; rfl, HB.out, HK.out⟩
  · have h1 : l0 = [] := List.eq_nil_of_length_eq_zero (by omega); subst h1; obtain ⟨A, c, rfl⟩ := Kd.R_slice ho0; have HB := Aside0.mk hB; have HK := Aside0.mk (Kept.refl w (fun k_ => P0_ k_)); clear hB ho0
    go_enter Try.func32, Try.ntmps32; go_wp2
    go_loopg [1, 5] 0 (fun gk v1 v5 wr => v1 = .int .i64 a1 ∧ v5 = .int .i64 0 ∧ wr = w)
    case atStart => exact ⟨rfl, rfl, rfl⟩
    case round =>
      obtain ⟨rfl, rfl, rfl⟩ := hrel; have d1 : decide ((0 : Int) < ((([] : List S29).length : Nat) : Int)) = false := decide_eq_false (by simp); go_wp2; go_ret
      exact ⟨by simp [mfT], HB.out, HK.out⟩
def laws_markFeatureS.f (l0 : List S29) (a1 : Int) : Option (Int) := if 0 ≤ a1 ∧ a1 + (mfT l0 : Int) < 4611686018427387904 then some (a1 + (mfT l0 : Int)) else none
theorem laws_markFeatureS.calls (P0_ : Nat → Prop) (u9000_ : Value) (l0 : List S29) (a1 : Int) (r : Int) (w0 w : World) (hB : Below w0.heap.size w0 w) (ho0 : Kd.R k29 29 w w0.heap.size P0_ u9000_ l0) (h : laws_markFeatureS.f l0 a1 = some r) :
    Calls Try.prog 32 #[u9000_, .int .i64 a1] w fun e w' => e = .returned (.int .i64 r) ∧ Below w0.heap.size w0 w' ∧ Kept w w' (fun k_ => P0_ k_) := by
  unfold laws_markFeatureS.f at h
  split at h
  · rename_i hc
    obtain rfl := Option.some.inj h
    exact mf_any P0_ u9000_ l0 a1 w0 w hB ho0 hc.1 hc.2
  · cases h
/-! ### spec_l1In: function 71 -/
theorem spec_l1In.any (a0 : Int) (a1 : Int) (a2 : Int) (w : World) :
    Calls Try.prog 71 #[.int .i64 a0, .int .i64 a1, .int .i64 a2] w fun e w' => e = .returned (.bool (inR a0 a1 a2)) ∧ w = w' := by
  go_enter Try.func71, Try.ntmps71; go_wp2
  all_goals (go_ret; refine ⟨?_, rfl⟩; congr 2; first | (simp [inR, *]; done) | (simp [inR, *] <;> omega) | (unfold inR; repeat' split <;> first | rfl | omega))
def spec_l1In.f (a0 : Int) (a1 : Int) (a2 : Int) : Option (Bool) := some (inR a0 a1 a2)
theorem spec_l1In.calls (a0 : Int) (a1 : Int) (a2 : Int) (r : Bool) (w : World) (h : spec_l1In.f a0 a1 a2 = some r) :
    Calls Try.prog 71 #[.int .i64 a0, .int .i64 a1, .int .i64 a2] w fun e w' => e = .returned (.bool (r)) ∧ ∃ nd_ : Nat, w = w' := by
  obtain rfl := Option.some.inj h
  exact (spec_l1In.any a0 a1 a2 w).mono fun e w' ⟨he, hw⟩ => ⟨he, 0, hw⟩
/-! ### spec_Max: function 108 -/
theorem spec_Max.any (a0 : Int) (a1 : Int) (w : World) :
    Calls Try.prog 108 #[.int .i64 a0, .int .i64 a1] w fun e w' => e = .returned (.int .i64 (mx a0 a1)) ∧ w = w' := by
  go_enter Try.func108, Try.ntmps108; go_wp2
  all_goals (go_ret; refine ⟨?_, rfl⟩; congr 2; unfold mx; repeat' split <;> first | rfl | omega)
def spec_Max.f (a0 : Int) (a1 : Int) : Option (Int) := some (mx a0 a1)
theorem spec_Max.calls (a0 : Int) (a1 : Int) (r : Int) (w : World) (h : spec_Max.f a0 a1 = some r) :
    Calls Try.prog 108 #[.int .i64 a0, .int .i64 a1] w fun e w' => e = .returned (.int .i64 (r)) ∧ ∃ nd_ : Nat, w = w' := by
  obtain rfl := Option.some.inj h
  exact (spec_Max.any a0 a1 w).mono fun e w' ⟨he, hw⟩ => ⟨he, 0, hw⟩
/-! ### spec_Min: function 140 -/
theorem spec_Min.any (a0 : Int) (a1 : Int) (w : World) :
    Calls Try.prog 140 #[.int .i64 a0, .int .i64 a1] w fun e w' => e = .returned (.int .i64 (mn a0 a1)) ∧ w = w' := by
  go_enter Try.func140, Try.ntmps140; go_wp2
  all_goals (go_ret; refine ⟨?_, rfl⟩; congr 2; unfold mn; repeat' split <;> first | rfl | omega)
def spec_Min.f (a0 : Int) (a1 : Int) : Option (Int) := some (mn a0 a1)
theorem spec_Min.calls (a0 : Int) (a1 : Int) (r : Int) (w : World) (h : spec_Min.f a0 a1 = some r) :
    Calls Try.prog 140 #[.int .i64 a0, .int .i64 a1] w fun e w' => e = .returned (.int .i64 (r)) ∧ ∃ nd_ : Nat, w = w' := by
  obtain rfl := Option.some.inj h
  exact (spec_Min.any a0 a1 w).mono fun e w' ⟨he, hw⟩ => ⟨he, 0, hw⟩
/-! ### spec_IsPoint: function 117 -/
theorem spec_IsPoint.any (a0_0 : Int) (a0_1 : Int) (w : World) :
    Calls Try.prog 117 #[.agg #[.int .i64 a0_0, .int .i64 a0_1]] w fun e w' => e = .returned (.bool (isPt a0_0 a0_1)) ∧ Below w.heap.size w w' := by
  have HB := Aside0.mk (Below.refl w.heap.size w)
  go_enter Try.func117, Try.ntmps117; go_wp2_with (first
    | (go_at_call 71; refine (spec_l1In.any _ _ _ _).mono ?_; rintro e w1 ⟨rfl, rfl⟩))
  all_goals (go_ret; refine ⟨?_, by repeat (first | (with_reducible first | exact HB.out | apply below_alloc | apply below_drew1 | apply pw_below_drewN) | exact HB.out)⟩; clear HB; congr 2; simp [isPt, *])
def spec_IsPoint.f (a0_0 : Int) (a0_1 : Int) : Option (Bool) := some (isPt a0_0 a0_1)
theorem spec_IsPoint.calls (a0_0 : Int) (a0_1 : Int) (r : Bool) (w : World) (h : spec_IsPoint.f a0_0 a0_1 = some r) :
    Calls Try.prog 117 #[.agg #[.int .i64 a0_0, .int .i64 a0_1]] w fun e w' => e = .returned (.bool (r)) ∧ Below w.heap.size w w' := by
  obtain rfl := Option.some.inj h
  exact (spec_IsPoint.any a0_0 a0_1 w).mono fun e w' ⟨he, hw⟩ => ⟨he, hw⟩
/-- A state of type 85 at block g of W; what its slices lead to came in by w0. -/
def IsS85 (w0 W : World) (g : Nat) (f0 : Int) (f1 : Int) (f2 : Int) (f3 : Int) : Prop := W.heap[g]? = some (.cells #[.int .i64 f0, .int .i64 f1, .int .i64 f2, .int .i64 f3] 85 (0, 0)) ∧ w0.heap.size ≤ g
theorem IsS85.grown {w0 W : World} {g : Nat} {f0 : Int} {f1 : Int} {f2 : Int} {f3 : Int} {W1 : World} {row : Option Nat} (h : IsS85 w0 W g f0 f1 f2 f3) (hw : W.grownBy W1 row) (hne : some g ≠ row) : IsS85 w0 W1 g f0 f1 f2 f3 := by
  obtain ⟨hb, hg⟩ := h
  exact ⟨blk_grown hb hw hne, hg⟩
theorem IsS85.own_neN {w0 W : World} {g : Nat} {f0 : Int} {f1 : Int} {f2 : Int} {f3 : Int} {α : Type} {d : Kd α} {e : Nat} {base : Nat} {ok : Nat → Prop} {v : Value} {xs : List α} (h : IsS85 w0 W g f0 f1 f2 f3) (ho : Kd.N d e W base ok v xs) (ht : e ≠ 85) : some g ≠ v.ownBlock := by
  obtain ⟨hb, hg⟩ := h
  exact Kd.N_ne ho hb ht
theorem IsS85.fresh {w0 W : World} {g : Nat} {f0 : Int} {f1 : Int} {f2 : Int} {f3 : Int} (h : IsS85 w0 W g f0 f1 f2 f3) : ∀ k, W.heap.size ≤ k → k ≠ g := by
  obtain ⟨hb, hg⟩ := h
  exact Kd.freshB hb
theorem IsS85.kept {w0 W : World} {g : Nat} {f0 : Int} {f1 : Int} {f2 : Int} {f3 : Int} {W1 : World} {S : Nat → Prop} (h : IsS85 w0 W g f0 f1 f2 f3) (hk : Kept W W1 S) (hne : ¬ S g) : IsS85 w0 W1 g f0 f1 f2 f3 := by
  obtain ⟨hb, hg⟩ := h
  exact ⟨blk_kept hb hk hne, hg⟩
theorem IsS85.below {w0 W : World} {g : Nat} {f0 : Int} {f1 : Int} {f2 : Int} {f3 : Int} {W1 : World} (h : IsS85 w0 W g f0 f1 f2 f3) (hw : Below W.heap.size W W1) : IsS85 w0 W1 g f0 f1 f2 f3 := h.grown (grown_of_below hw none) (by simp)
theorem IsS85.alloc {w0 W : World} {g : Nat} {f0 : Int} {f1 : Int} {f2 : Int} {f3 : Int} (h : IsS85 w0 W g f0 f1 f2 f3) (o : Obj) : IsS85 w0 (W.alloc o) g f0 f1 f2 f3 := h.below (below_alloc (Below.refl _ _) o)
theorem IsS85.drewN {w0 W : World} {g : Nat} {f0 : Int} {f1 : Int} {f2 : Int} {f3 : Int} (h : IsS85 w0 W g f0 f1 f2 f3) (m : Nat) : IsS85 w0 (W.drewN m) g f0 f1 f2 f3 := h
theorem IsS85.drew {w0 W : World} {g : Nat} {f0 : Int} {f1 : Int} {f2 : Int} {f3 : Int} (h : IsS85 w0 W g f0 f1 f2 f3) : IsS85 w0 W.drew g f0 f1 f2 f3 := h
theorem IsS85.at_ {w0 W : World} {g : Nat} {f0 : Int} {f1 : Int} {f2 : Int} {f3 : Int} {w' : World} {m : Nat} (hq : W.drewN m = w') (h : IsS85 w0 W g f0 f1 f2 f3) : IsS85 w0 w' g f0 f1 f2 f3 := by subst hq; exact IsS85.drewN h m
theorem IsS85.apart {w0 W : World} {g : Nat} {f0 : Int} {f1 : Int} {f2 : Int} {f3 : Int} {α : Type} {d : Kd α} {e : Nat} {base : Nat} {ok : Nat → Prop} {v : Value} {xs : List α} (h : IsS85 w0 W g f0 f1 f2 f3) (ho : d.R e W base ok v xs) (ht : ∀ q, q ∈ e :: d.E → q ≠ 85) : d.R e W base (fun k => ok k ∧ k ≠ g) v xs := by
  obtain ⟨hb, hg⟩ := h
  exact Kd.R_types ho hb ht
theorem IsS85.own_ne {w0 W : World} {g : Nat} {f0 : Int} {f1 : Int} {f2 : Int} {f3 : Int} {α : Type} {d : Kd α} {e : Nat} {base : Nat} {ok : Nat → Prop} {v : Value} {xs : List α} (h : IsS85 w0 W g f0 f1 f2 f3) (ho : d.R e W base ok v xs) (ht : e ≠ 85) : some g ≠ v.ownBlock := by
  obtain ⟨hb, hg⟩ := h
  exact Kd.R_ne ho hb ht
theorem IsS85.apartQ {w0 W : World} {g : Nat} {f0 : Int} {f1 : Int} {f2 : Int} {f3 : Int} {α : Type} {d : Kd α} {e : Nat} {base : Nat} {ok : Nat → Prop} {v : Value} {xs : List α} (h : IsS85 w0 W g f0 f1 f2 f3) (ho : d.Q e W base ok v xs) (ht : ∀ q, q ∈ e :: d.E → q ≠ 85) : d.Q e W base (fun k => ok k ∧ k ≠ g) v xs := by
  obtain ⟨hb, hg⟩ := h
  exact Kd.Q_types ho hb ht
theorem IsS85.own_neQ {w0 W : World} {g : Nat} {f0 : Int} {f1 : Int} {f2 : Int} {f3 : Int} {α : Type} {d : Kd α} {e : Nat} {base : Nat} {ok : Nat → Prop} {v : Value} {xs : List α} (h : IsS85 w0 W g f0 f1 f2 f3) (ho : d.Q e W base ok v xs) (ht : e ≠ 85) : some g ≠ v.ownBlock := by
  obtain ⟨hb, hg⟩ := h
  exact Kd.Q_ne ho hb ht
theorem IsS85.apartS {w0 W : World} {g : Nat} {f0 : Int} {f1 : Int} {f2 : Int} {f3 : Int} {α : Type} {d : Kd α} {e : Nat} {base : Nat} {ok : Nat → Prop} {v : Value} {xs : List α} (h : IsS85 w0 W g f0 f1 f2 f3) (ho : d.S e W base ok v xs) (ht : ∀ q, q ∈ e :: d.E → q ≠ 85) : d.S e W base (fun k => ok k ∧ k ≠ g) v xs := by
  obtain ⟨hb, hg⟩ := h
  exact Kd.S_types ho hb ht
theorem IsS85.own_neS {w0 W : World} {g : Nat} {f0 : Int} {f1 : Int} {f2 : Int} {f3 : Int} {α : Type} {d : Kd α} {e : Nat} {base : Nat} {ok : Nat → Prop} {v : Value} {xs : List α} (h : IsS85 w0 W g f0 f1 f2 f3) (ho : d.S e W base ok v xs) (ht : e ≠ 85) : some g ≠ v.ownBlock := by
  obtain ⟨hb, hg⟩ := h
  exact Kd.S_ne ho hb ht
theorem IsS85.lt {w0 W : World} {g : Nat} {f0 : Int} {f1 : Int} {f2 : Int} {f3 : Int} (h : IsS85 w0 W g f0 f1 f2 f3) : g < W.heap.size := by
  obtain ⟨hb, hg⟩ := h
  exact blk_lt hb
theorem IsS85.ge {w0 W : World} {g : Nat} {f0 : Int} {f1 : Int} {f2 : Int} {f3 : Int} (h : IsS85 w0 W g f0 f1 f2 f3) : w0.heap.size ≤ g := by
  obtain ⟨hb, hg⟩ := h
  exact hg
theorem IsS85.ne_blk {w0 W : World} {g : Nat} {f0 : Int} {f1 : Int} {f2 : Int} {f3 : Int} {a : Nat} {cs : Array Value} {t : TypeId} {fr : Nat × Nat} (h : IsS85 w0 W g f0 f1 f2 f3) (hb2 : W.heap[a]? = some (.cells cs t fr)) (ht : t ≠ 85) : g ≠ a := by
  obtain ⟨hb, hg⟩ := h; rintro rfl; rw [hb] at hb2
  injection hb2 with hb2
  injection hb2 with _ ht2
  exact ht ht2.symm
theorem IsS85.far {w0 W : World} {g : Nat} {f0 : Int} {f1 : Int} {f2 : Int} {f3 : Int} {p : Addr} (h : IsS85 w0 W g f0 f1 f2 f3) (hne : g ≠ p.block) (u : Value) : IsS85 w0 (W.setCell p u) g f0 f1 f2 f3 := by
  obtain ⟨hb, hg⟩ := h
  exact ⟨blk_far hb hne u, hg⟩
theorem cellS85_0 {W : World} {g : Nat} {f0 : Int} {f1 : Int} {f2 : Int} {f3 : Int} (h : W.heap[g]? = some (.cells #[.int .i64 f0, .int .i64 f1, .int .i64 f2, .int .i64 f3] 85 (0, 0))) : W.cell? ⟨g, 0, none⟩ = some (.int .i64 f0) := (blk_cell h 0).trans rfl
theorem IsS85.set_0 {w0 W : World} {g : Nat} {f0 : Int} {f1 : Int} {f2 : Int} {f3 : Int} (h : IsS85 w0 W g f0 f1 f2 f3) (x : Int) : IsS85 w0 (W.setCell ⟨g, 0, none⟩ (.int .i64 x)) g x f1 f2 f3 := by
  obtain ⟨hb, hg⟩ := h
  exact ⟨by simpa using blk_set hb 0 (.int .i64 x), hg⟩
theorem cellS85_1 {W : World} {g : Nat} {f0 : Int} {f1 : Int} {f2 : Int} {f3 : Int} (h : W.heap[g]? = some (.cells #[.int .i64 f0, .int .i64 f1, .int .i64 f2, .int .i64 f3] 85 (0, 0))) : W.cell? ⟨g, 1, none⟩ = some (.int .i64 f1) := (blk_cell h 1).trans rfl
theorem IsS85.set_1 {w0 W : World} {g : Nat} {f0 : Int} {f1 : Int} {f2 : Int} {f3 : Int} (h : IsS85 w0 W g f0 f1 f2 f3) (x : Int) : IsS85 w0 (W.setCell ⟨g, 1, none⟩ (.int .i64 x)) g f0 x f2 f3 := by
  obtain ⟨hb, hg⟩ := h
  exact ⟨by simpa using blk_set hb 1 (.int .i64 x), hg⟩
theorem cellS85_2 {W : World} {g : Nat} {f0 : Int} {f1 : Int} {f2 : Int} {f3 : Int} (h : W.heap[g]? = some (.cells #[.int .i64 f0, .int .i64 f1, .int .i64 f2, .int .i64 f3] 85 (0, 0))) : W.cell? ⟨g, 2, none⟩ = some (.int .i64 f2) := (blk_cell h 2).trans rfl
theorem IsS85.set_2 {w0 W : World} {g : Nat} {f0 : Int} {f1 : Int} {f2 : Int} {f3 : Int} (h : IsS85 w0 W g f0 f1 f2 f3) (x : Int) : IsS85 w0 (W.setCell ⟨g, 2, none⟩ (.int .i64 x)) g f0 f1 x f3 := by
  obtain ⟨hb, hg⟩ := h
  exact ⟨by simpa using blk_set hb 2 (.int .i64 x), hg⟩
theorem cellS85_3 {W : World} {g : Nat} {f0 : Int} {f1 : Int} {f2 : Int} {f3 : Int} (h : W.heap[g]? = some (.cells #[.int .i64 f0, .int .i64 f1, .int .i64 f2, .int .i64 f3] 85 (0, 0))) : W.cell? ⟨g, 3, none⟩ = some (.int .i64 f3) := (blk_cell h 3).trans rfl
theorem IsS85.set_3 {w0 W : World} {g : Nat} {f0 : Int} {f1 : Int} {f2 : Int} {f3 : Int} (h : IsS85 w0 W g f0 f1 f2 f3) (x : Int) : IsS85 w0 (W.setCell ⟨g, 3, none⟩ (.int .i64 x)) g f0 f1 f2 x := by
  obtain ⟨hb, hg⟩ := h
  exact ⟨by simpa using blk_set hb 3 (.int .i64 x), hg⟩
theorem IsS85.new (w0 W : World) (f0 : Int) (f1 : Int) (f2 : Int) (f3 : Int) (hB : Below w0.heap.size w0 W) : IsS85 w0 (W.alloc (.cells #[.int .i64 f0, .int .i64 f1, .int .i64 f2, .int .i64 f3] 85)) W.heap.size f0 f1 f2 f3 := ⟨by simpa using heap_alloc_new W _, hB.size⟩

/-! ### spec_IsSegment: function 148 -/
theorem spec_IsSegment.any (a0_0 : Int) (a0_1 : Int) (a0_2 : Int) (a0_3 : Int) (w : World) :
    Calls Try.prog 148 #[.agg #[.int .i64 a0_0, .int .i64 a0_1, .int .i64 a0_2, .int .i64 a0_3]] w fun e w' => e = .returned (.bool (isSeg a0_0 a0_1 a0_2 a0_3)) ∧ Below w.heap.size w w' := by
  have HB := Aside0.mk (Below.refl w.heap.size w)
  go_enter Try.func148, Try.ntmps148; go_wp2_with (first
    | (go_at_call 117; refine (spec_IsPoint.any _ _ _).mono ?_; rintro e w1 ⟨rfl, hb⟩; have n0 := Aside0.mk (below_step (by repeat (first | (with_reducible first | exact HB.out | apply below_alloc | apply below_drew1 | apply pw_below_drewN) | exact HB.out)) hb); clear HB; have HB := n0; clear n0; obtain ⟨hc, hf⟩ := bcell hb; have hz0 : w.heap.size < w1.heap.size := (by have := hb.size; (try simp at this); omega); clear hb))
  all_goals (go_ret; refine ⟨?_, by repeat (first | (with_reducible first | exact HB.out | apply below_alloc | apply below_drew1 | apply pw_below_drewN) | exact HB.out)⟩; clear HB; congr 2; unfold isSeg; simp_all)
def spec_IsSegment.f (a0_0 : Int) (a0_1 : Int) (a0_2 : Int) (a0_3 : Int) : Option (Bool) := some (isSeg a0_0 a0_1 a0_2 a0_3)
theorem spec_IsSegment.calls (a0_0 : Int) (a0_1 : Int) (a0_2 : Int) (a0_3 : Int) (r : Bool) (w : World) (h : spec_IsSegment.f a0_0 a0_1 a0_2 a0_3 = some r) :
    Calls Try.prog 148 #[.agg #[.int .i64 a0_0, .int .i64 a0_1, .int .i64 a0_2, .int .i64 a0_3]] w fun e w' => e = .returned (.bool (r)) ∧ Below w.heap.size w w' := by
  obtain rfl := Option.some.inj h
  exact (spec_IsSegment.any a0_0 a0_1 a0_2 a0_3 w).mono fun e w' ⟨he, hw⟩ => ⟨he, hw⟩
/-! ### spec_l4Cross: function 107 -/
theorem spec_l4Cross.any (a0_0 : Int) (a0_1 : Int) (a1_0 : Int) (a1_1 : Int) (a2_0 : Int) (a2_1 : Int) (w : World) :
    Calls Try.prog 107 #[.agg #[.int .i64 a0_0, .int .i64 a0_1], .agg #[.int .i64 a1_0, .int .i64 a1_1], .agg #[.int .i64 a2_0, .int .i64 a2_1]] w fun e w' => e = .returned (.int .i64 (crossI a0_0 a0_1 a1_0 a1_1 a2_0 a2_1)) ∧ Below w.heap.size w w' := by
  have HB := Aside0.mk (Below.refl w.heap.size w)
  go_enter Try.func107, Try.ntmps107; go_wp2
  all_goals (go_ret; refine ⟨?_, by repeat (first | (with_reducible first | exact HB.out | apply below_alloc | apply below_drew1 | apply pw_below_drewN) | exact HB.out)⟩; clear HB; rfl)
def spec_l4Cross.f (a0_0 : Int) (a0_1 : Int) (a1_0 : Int) (a1_1 : Int) (a2_0 : Int) (a2_1 : Int) : Option (Int) := some (crossI a0_0 a0_1 a1_0 a1_1 a2_0 a2_1)
theorem spec_l4Cross.calls (a0_0 : Int) (a0_1 : Int) (a1_0 : Int) (a1_1 : Int) (a2_0 : Int) (a2_1 : Int) (r : Int) (w : World) (h : spec_l4Cross.f a0_0 a0_1 a1_0 a1_1 a2_0 a2_1 = some r) :
    Calls Try.prog 107 #[.agg #[.int .i64 a0_0, .int .i64 a0_1], .agg #[.int .i64 a1_0, .int .i64 a1_1], .agg #[.int .i64 a2_0, .int .i64 a2_1]] w fun e w' => e = .returned (.int .i64 (r)) ∧ Below w.heap.size w w' := by
  obtain rfl := Option.some.inj h
  exact (spec_l4Cross.any a0_0 a0_1 a1_0 a1_1 a2_0 a2_1 w).mono fun e w' ⟨he, hw⟩ => ⟨he, hw⟩
/-! ### spec_SideOf: function 164 -/
set_option maxHeartbeats 4000000 in
theorem spec_SideOf.any (a0_0 : Int) (a0_1 : Int) (a1_0 : Int) (a1_1 : Int) (a2_0 : Int) (a2_1 : Int) (w : World) :
    Calls Try.prog 164 #[.agg #[.int .i64 a0_0, .int .i64 a0_1], .agg #[.int .i64 a1_0, .int .i64 a1_1], .agg #[.int .i64 a2_0, .int .i64 a2_1]] w fun e w' => e = .returned (.int .i64 (sideI a0_0 a0_1 a1_0 a1_1 a2_0 a2_1)) ∧ Below w.heap.size w w' := by
  have HB := Aside0.mk (Below.refl w.heap.size w)
  go_enter Try.func164, Try.ntmps164; go_wp2_with (first
    | (go_at_call 117; refine (spec_IsPoint.any _ _ _).mono ?_; rintro e w1 ⟨rfl, hb⟩; have n0 := Aside0.mk (below_step (by repeat (first | (with_reducible first | exact HB.out | apply below_alloc | apply below_drew1 | apply pw_below_drewN) | exact HB.out)) hb); clear HB; have HB := n0; clear n0; obtain ⟨hc, hf⟩ := bcell hb; have hz0 : w.heap.size < w1.heap.size := (by have := hb.size; (try simp at this); omega); have hz1 : w.heap.size + 1 < w1.heap.size := (by have := hb.size; (try simp at this); omega); have hz2 : w.heap.size + 1 + 1 < w1.heap.size := (by have := hb.size; (try simp at this); omega); clear hb)
    | (go_at_call 107; refine (spec_l4Cross.any _ _ _ _ _ _ _).mono ?_; rintro e w1 ⟨rfl, hb⟩; have n0 := Aside0.mk (below_step (by repeat (first | (with_reducible first | exact HB.out | apply below_alloc | apply below_drew1 | apply pw_below_drewN) | exact HB.out)) hb); clear HB; have HB := n0; clear n0; obtain ⟨hc, hf⟩ := bcell hb; have hz0 : w.heap.size < w1.heap.size := (by have := hb.size; (try simp at this); omega); have hz1 : w.heap.size + 1 < w1.heap.size := (by have := hb.size; (try simp at this); omega); have hz2 : w.heap.size + 1 + 1 < w1.heap.size := (by have := hb.size; (try simp at this); omega); clear hb))
  all_goals (go_ret; refine ⟨?_, by repeat (first | (with_reducible first | exact HB.out | apply below_alloc | apply below_drew1 | apply pw_below_drewN) | exact HB.out)⟩; clear HB; congr 2; unfold sideI cmpI; (repeat' split) <;> simp_all <;> omega)
def spec_SideOf.f (a0_0 : Int) (a0_1 : Int) (a1_0 : Int) (a1_1 : Int) (a2_0 : Int) (a2_1 : Int) : Option (Int) := some (sideI a0_0 a0_1 a1_0 a1_1 a2_0 a2_1)
theorem spec_SideOf.calls (a0_0 : Int) (a0_1 : Int) (a1_0 : Int) (a1_1 : Int) (a2_0 : Int) (a2_1 : Int) (r : Int) (w : World) (h : spec_SideOf.f a0_0 a0_1 a1_0 a1_1 a2_0 a2_1 = some r) :
    Calls Try.prog 164 #[.agg #[.int .i64 a0_0, .int .i64 a0_1], .agg #[.int .i64 a1_0, .int .i64 a1_1], .agg #[.int .i64 a2_0, .int .i64 a2_1]] w fun e w' => e = .returned (.int .i64 (r)) ∧ Below w.heap.size w w' := by
  obtain rfl := Option.some.inj h
  exact (spec_SideOf.any a0_0 a0_1 a1_0 a1_1 a2_0 a2_1 w).mono fun e w' ⟨he, hw⟩ => ⟨he, hw⟩
/-! ### spec_IsOn: function 173 -/
set_option maxHeartbeats 8000000 in
theorem spec_IsOn.wlk (a b c d e f x : Int) (s p i j : Bool) (hs : isSeg a b c d = s) (hp : isPt e f = p) (hx : crossI a b c d e f = x) (hi : inR e (mn a c) (mx a c) = i) (hj : inR f (mn b d) (mx b d) = j) (w : World) :
    Calls Try.prog 173 #[.agg #[.int .i64 a, .int .i64 b, .int .i64 c, .int .i64 d], .agg #[.int .i64 e, .int .i64 f]] w fun e w' => e = .returned (.bool (s && p && decide (x = 0) && i && j)) ∧ Below w.heap.size w w' := by
  have HB := Aside0.mk (Below.refl w.heap.size w); have hC : s = false ∨ (s = true ∧ p = false) ∨ (s = true ∧ p = true ∧ x ≠ 0) ∨ (s = true ∧ p = true ∧ x = 0 ∧ i = false) ∨ (s = true ∧ p = true ∧ x = 0 ∧ i = true) := by
    by_cases x = 0 <;> cases s <;> cases p <;> cases i <;> simp [*]
  go_enter Try.func173, Try.ntmps173; go_wp2; have hS := Aside0.mk (two1 w (.cells #[.int .i64 a, .int .i64 b, .int .i64 c, .int .i64 d] 85) (.cells #[.int .i64 e, .int .i64 f] 82)); have hT := Aside0.mk (two2 w (.cells #[.int .i64 a, .int .i64 b, .int .i64 c, .int .i64 d] 85) (.cells #[.int .i64 e, .int .i64 f] 82)); refine wq_region (by kernel_rfl) (by kernel_rfl) ?_; obtain ⟨m0, m1, m2, m3⟩ := q4 hS.out; obtain ⟨l0, l1⟩ := q2 hT.out
  rcases hC with rfl | ⟨rfl, rfl⟩ | ⟨rfl, rfl, hx0⟩ | ⟨rfl, rfl, rfl, rfl⟩ | ⟨rfl, rfl, rfl, rfl⟩
  case' inr.inr.inl =>
    have z1 : (x == 0) = false := by simpa using hx0
    have z2 : decide (x = 0) = false := by simpa using hx0
    have z3 : (x = 0) = False := eq_false hx0; clear hx0
  all_goals
    iterate 54 (refine wq_step (fun K hK => ?_); go_simp; first | (refine hK _ ?_; clear hK K) | (apply Exists.intro; refine ⟨fun _ => ?_, hK _ ?_⟩; (first | exact qc (fun W => spec_IsSegment.any _ _ _ _ W) _ _ | exact qc (fun W => spec_IsPoint.any _ _ W) _ _ | exact qc (fun W => spec_l4Cross.any _ _ _ _ _ _ W) _ _ | exact qs (fun W => spec_Min.any _ _ W) _ _ | exact qs (fun W => spec_Max.any _ _ W) _ _ | exact qs (fun W => spec_l1In.any _ _ _ W) _ _); clear hK K))
    refine wq_nil ?_; intro w1 hb; replace HB := Aside0.mk (below_step (below_alloc (below_alloc HB.out _) _) hb); clear m0 m1 m2 m3 l0 l1 hS hT hb; go_wp2; go_ret
    exact ⟨by first | rfl | (simp; done) | (simp [z2]; done), HB.out⟩
theorem spec_IsOn.any (a b c d e f : Int) (w : World) :
    Calls Try.prog 173 #[.agg #[.int .i64 a, .int .i64 b, .int .i64 c, .int .i64 d], .agg #[.int .i64 e, .int .i64 f]] w fun e_ w' => e_ = .returned (.bool (isOnI a b c d e f)) ∧ Below w.heap.size w w' := by
  refine (spec_IsOn.wlk a b c d e f _ _ _ _ _ rfl rfl rfl rfl rfl w).mono ?_; rintro e_ w' ⟨rfl, hb⟩; refine ⟨?_, hb⟩
  congr 2
  unfold isOnI
  cases h1 : isSeg a b c d
  · rfl
  · cases h2 : isPt e f
    · rfl
    · have h3 := h1
      unfold isSeg at h3
      simp only [Bool.and_eq_true] at h3; have e1 : sideI a b c d e f = cmpI (crossI a b c d e f) 0 := by unfold sideI; rw [h3.1.1, h3.1.2, h2]; rfl
      rw [e1, decide_eq_decide.mpr (by rw [cmp_zero] : cmpI (crossI a b c d e f) 0 = 0 ↔ crossI a b c d e f = 0)]
def spec_IsOn.f (a0_0 : Int) (a0_1 : Int) (a0_2 : Int) (a0_3 : Int) (a1_0 : Int) (a1_1 : Int) : Option (Bool) := some (isOnI a0_0 a0_1 a0_2 a0_3 a1_0 a1_1)
theorem spec_IsOn.calls (a0_0 : Int) (a0_1 : Int) (a0_2 : Int) (a0_3 : Int) (a1_0 : Int) (a1_1 : Int) (r : Bool) (w : World) (h : spec_IsOn.f a0_0 a0_1 a0_2 a0_3 a1_0 a1_1 = some r) :
    Calls Try.prog 173 #[.agg #[.int .i64 a0_0, .int .i64 a0_1, .int .i64 a0_2, .int .i64 a0_3], .agg #[.int .i64 a1_0, .int .i64 a1_1]] w fun e w' => e = .returned (.bool (r)) ∧ Below w.heap.size w w' := by
  obtain rfl := Option.some.inj h
  exact spec_IsOn.any a0_0 a0_1 a0_2 a0_3 a1_0 a1_1 w
end Go.Proofs.Ytdfehjfmihokpaa.PFnExactAllPieces
