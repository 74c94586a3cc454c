-- Written by a program of this session's: the kit's print, turned (turnprint.py): functions, and that Go comes to just their answers.
import Derived.Test.YtellpkihlbbnhaaZ
import Derived.Test.YtellpkihlbbnhaaPFnExactEqualChartsx0
import Derived.Test.YtellpkihlbbnhaaPFnExactEqualChartsx2
import Derived.Test.YtellpkihlbbnhaaPFnExactEqualChartsx5
namespace Go.Proofs.Ytellpkihlbbnhaa.PFnExactEqualCharts
open Go.RowKit Go.Proofs.YtellpkihlbbnhaaW.PrintWords Go.Proofs.YtellpkihlbbnhaaW.PrintLast Go.Proofs.YtellpkihlbbnhaaW.PrintMore Go.Proofs.YtellpkihlbbnhaaGeo Go.Proofs.YtellpkihlbbnhaaHand Go.Proofs.YtellpkihlbbnhaaZ
attribute [local go_sem] max2_int min2_int max_two min_two max_three min_three max_four min_four   -- for this text's walks alone
set_option linter.unusedVariables false
set_option linter.unusedSimpArgs false

attribute [local go_sem high] eqA42
/-- A state of type 59 at block g of W; what its slices lead to came in by w0. -/
def IsS59 (w0 W : World) (g : Nat) (f0 : Int) (f1 : Int) (f2 : Int) (f3 : ByteArray) (f4 : List (S38)) : Prop := ∃ A4 c4, W.heap[g]? = some (.cells #[.int .i64 f0, .int .i64 f1, .int .i64 f2, .string f3, .slice A4 f4.length c4] 59 (0, 0)) ∧ w0.heap.size ≤ g ∧ Kd.C k38 w0 A4 f4.length f4
theorem IsS59.grown {w0 W : World} {g : Nat} {f0 : Int} {f1 : Int} {f2 : Int} {f3 : ByteArray} {f4 : List (S38)} {W1 : World} {row : Option Nat} (h : IsS59 w0 W g f0 f1 f2 f3 f4) (hw : W.grownBy W1 row) (hne : some g ≠ row) : IsS59 w0 W1 g f0 f1 f2 f3 f4 := by
  obtain ⟨A4, c4, hb, hg, hr4⟩ := h
  exact ⟨A4, c4, blk_grown hb hw hne, hg, hr4⟩
theorem IsS59.own_neN {w0 W : World} {g : Nat} {f0 : Int} {f1 : Int} {f2 : Int} {f3 : ByteArray} {f4 : List (S38)} {α : Type} {d : Kd α} {e : Nat} {base : Nat} {ok : Nat → Prop} {v : Value} {xs : List α} (h : IsS59 w0 W g f0 f1 f2 f3 f4) (ho : Kd.N d e W base ok v xs) (ht : e ≠ 59) : some g ≠ v.ownBlock := by
  obtain ⟨A4, c4, hb, hg, hr4⟩ := h
  exact Kd.N_ne ho hb ht
theorem IsS59.fresh {w0 W : World} {g : Nat} {f0 : Int} {f1 : Int} {f2 : Int} {f3 : ByteArray} {f4 : List (S38)} (h : IsS59 w0 W g f0 f1 f2 f3 f4) : ∀ k, W.heap.size ≤ k → k ≠ g := by
  obtain ⟨A4, c4, hb, hg, hr4⟩ := h
  exact Kd.freshB hb
theorem IsS59.kept {w0 W : World} {g : Nat} {f0 : Int} {f1 : Int} {f2 : Int} {f3 : ByteArray} {f4 : List (S38)} {W1 : World} {S : Nat → Prop} (h : IsS59 w0 W g f0 f1 f2 f3 f4) (hk : Kept W W1 S) (hne : ¬ S g) : IsS59 w0 W1 g f0 f1 f2 f3 f4 := by
  obtain ⟨A4, c4, hb, hg, hr4⟩ := h
  exact ⟨A4, c4, blk_kept hb hk hne, hg, hr4⟩
theorem IsS59.below {w0 W : World} {g : Nat} {f0 : Int} {f1 : Int} {f2 : Int} {f3 : ByteArray} {f4 : List (S38)} {W1 : World} (h : IsS59 w0 W g f0 f1 f2 f3 f4) (hw : Below W.heap.size W W1) : IsS59 w0 W1 g f0 f1 f2 f3 f4 := h.grown (grown_of_below hw none) (by simp)
theorem IsS59.alloc {w0 W : World} {g : Nat} {f0 : Int} {f1 : Int} {f2 : Int} {f3 : ByteArray} {f4 : List (S38)} (h : IsS59 w0 W g f0 f1 f2 f3 f4) (o : Obj) : IsS59 w0 (W.alloc o) g f0 f1 f2 f3 f4 := h.below (below_alloc (Below.refl _ _) o)
theorem IsS59.drewN {w0 W : World} {g : Nat} {f0 : Int} {f1 : Int} {f2 : Int} {f3 : ByteArray} {f4 : List (S38)} (h : IsS59 w0 W g f0 f1 f2 f3 f4) (m : Nat) : IsS59 w0 (W.drewN m) g f0 f1 f2 f3 f4 := h
theorem IsS59.drew {w0 W : World} {g : Nat} {f0 : Int} {f1 : Int} {f2 : Int} {f3 : ByteArray} {f4 : List (S38)} (h : IsS59 w0 W g f0 f1 f2 f3 f4) : IsS59 w0 W.drew g f0 f1 f2 f3 f4 := h
theorem IsS59.at_ {w0 W : World} {g : Nat} {f0 : Int} {f1 : Int} {f2 : Int} {f3 : ByteArray} {f4 : List (S38)} {w' : World} {m : Nat} (hq : W.drewN m = w') (h : IsS59 w0 W g f0 f1 f2 f3 f4) : IsS59 w0 w' g f0 f1 f2 f3 f4 := by subst hq; exact IsS59.drewN h m
theorem IsS59.apart {w0 W : World} {g : Nat} {f0 : Int} {f1 : Int} {f2 : Int} {f3 : ByteArray} {f4 : List (S38)} {α : Type} {d : Kd α} {e : Nat} {base : Nat} {ok : Nat → Prop} {v : Value} {xs : List α} (h : IsS59 w0 W g f0 f1 f2 f3 f4) (ho : d.R e W base ok v xs) (ht : ∀ q, q ∈ e :: d.E → q ≠ 59) : d.R e W base (fun k => ok k ∧ k ≠ g) v xs := by
  obtain ⟨A4, c4, hb, hg, hr4⟩ := h
  exact Kd.R_types ho hb ht
theorem IsS59.own_ne {w0 W : World} {g : Nat} {f0 : Int} {f1 : Int} {f2 : Int} {f3 : ByteArray} {f4 : List (S38)} {α : Type} {d : Kd α} {e : Nat} {base : Nat} {ok : Nat → Prop} {v : Value} {xs : List α} (h : IsS59 w0 W g f0 f1 f2 f3 f4) (ho : d.R e W base ok v xs) (ht : e ≠ 59) : some g ≠ v.ownBlock := by
  obtain ⟨A4, c4, hb, hg, hr4⟩ := h
  exact Kd.R_ne ho hb ht
theorem IsS59.apartQ {w0 W : World} {g : Nat} {f0 : Int} {f1 : Int} {f2 : Int} {f3 : ByteArray} {f4 : List (S38)} {α : Type} {d : Kd α} {e : Nat} {base : Nat} {ok : Nat → Prop} {v : Value} {xs : List α} (h : IsS59 w0 W g f0 f1 f2 f3 f4) (ho : d.Q e W base ok v xs) (ht : ∀ q, q ∈ e :: d.E → q ≠ 59) : d.Q e W base (fun k => ok k ∧ k ≠ g) v xs := by
  obtain ⟨A4, c4, hb, hg, hr4⟩ := h
  exact Kd.Q_types ho hb ht
theorem IsS59.own_neQ {w0 W : World} {g : Nat} {f0 : Int} {f1 : Int} {f2 : Int} {f3 : ByteArray} {f4 : List (S38)} {α : Type} {d : Kd α} {e : Nat} {base : Nat} {ok : Nat → Prop} {v : Value} {xs : List α} (h : IsS59 w0 W g f0 f1 f2 f3 f4) (ho : d.Q e W base ok v xs) (ht : e ≠ 59) : some g ≠ v.ownBlock := by
  obtain ⟨A4, c4, hb, hg, hr4⟩ := h
  exact Kd.Q_ne ho hb ht
theorem IsS59.apartS {w0 W : World} {g : Nat} {f0 : Int} {f1 : Int} {f2 : Int} {f3 : ByteArray} {f4 : List (S38)} {α : Type} {d : Kd α} {e : Nat} {base : Nat} {ok : Nat → Prop} {v : Value} {xs : List α} (h : IsS59 w0 W g f0 f1 f2 f3 f4) (ho : d.S e W base ok v xs) (ht : ∀ q, q ∈ e :: d.E → q ≠ 59) : d.S e W base (fun k => ok k ∧ k ≠ g) v xs := by
  obtain ⟨A4, c4, hb, hg, hr4⟩ := h
  exact Kd.S_types ho hb ht
theorem IsS59.own_neS {w0 W : World} {g : Nat} {f0 : Int} {f1 : Int} {f2 : Int} {f3 : ByteArray} {f4 : List (S38)} {α : Type} {d : Kd α} {e : Nat} {base : Nat} {ok : Nat → Prop} {v : Value} {xs : List α} (h : IsS59 w0 W g f0 f1 f2 f3 f4) (ho : d.S e W base ok v xs) (ht : e ≠ 59) : some g ≠ v.ownBlock := by
  obtain ⟨A4, c4, hb, hg, hr4⟩ := h
  exact Kd.S_ne ho hb ht
theorem IsS59.lt {w0 W : World} {g : Nat} {f0 : Int} {f1 : Int} {f2 : Int} {f3 : ByteArray} {f4 : List (S38)} (h : IsS59 w0 W g f0 f1 f2 f3 f4) : g < W.heap.size := by
  obtain ⟨A4, c4, hb, hg, hr4⟩ := h
  exact blk_lt hb
theorem IsS59.ge {w0 W : World} {g : Nat} {f0 : Int} {f1 : Int} {f2 : Int} {f3 : ByteArray} {f4 : List (S38)} (h : IsS59 w0 W g f0 f1 f2 f3 f4) : w0.heap.size ≤ g := by
  obtain ⟨A4, c4, hb, hg, hr4⟩ := h
  exact hg
theorem IsS59.ne_blk {w0 W : World} {g : Nat} {f0 : Int} {f1 : Int} {f2 : Int} {f3 : ByteArray} {f4 : List (S38)} {a : Nat} {cs : Array Value} {t : TypeId} {fr : Nat × Nat} (h : IsS59 w0 W g f0 f1 f2 f3 f4) (hb2 : W.heap[a]? = some (.cells cs t fr)) (ht : t ≠ 59) : g ≠ a := by
  obtain ⟨A4, c4, hb, hg, hr4⟩ := h; rintro rfl; rw [hb] at hb2
  injection hb2 with hb2
  injection hb2 with _ ht2
  exact ht ht2.symm
theorem IsS59.far {w0 W : World} {g : Nat} {f0 : Int} {f1 : Int} {f2 : Int} {f3 : ByteArray} {f4 : List (S38)} {p : Addr} (h : IsS59 w0 W g f0 f1 f2 f3 f4) (hne : g ≠ p.block) (u : Value) : IsS59 w0 (W.setCell p u) g f0 f1 f2 f3 f4 := by
  obtain ⟨A4, c4, hb, hg, hr4⟩ := h
  exact ⟨A4, c4, blk_far hb hne u, hg, hr4⟩
theorem cellS59_0 {W : World} {g : Nat} {A4 : Option Addr} {c4 : Nat} {f0 : Int} {f1 : Int} {f2 : Int} {f3 : ByteArray} {f4 : List (S38)} (h : W.heap[g]? = some (.cells #[.int .i64 f0, .int .i64 f1, .int .i64 f2, .string f3, .slice A4 f4.length c4] 59 (0, 0))) : W.cell? ⟨g, 0, none⟩ = some (.int .i64 f0) := (blk_cell h 0).trans rfl
theorem IsS59.set_0 {w0 W : World} {g : Nat} {f0 : Int} {f1 : Int} {f2 : Int} {f3 : ByteArray} {f4 : List (S38)} (h : IsS59 w0 W g f0 f1 f2 f3 f4) (x : Int) : IsS59 w0 (W.setCell ⟨g, 0, none⟩ (.int .i64 x)) g x f1 f2 f3 f4 := by
  obtain ⟨A4, c4, hb, hg, hr4⟩ := h
  exact ⟨A4, c4, by simpa using blk_set hb 0 (.int .i64 x), hg, hr4⟩
theorem cellS59_1 {W : World} {g : Nat} {A4 : Option Addr} {c4 : Nat} {f0 : Int} {f1 : Int} {f2 : Int} {f3 : ByteArray} {f4 : List (S38)} (h : W.heap[g]? = some (.cells #[.int .i64 f0, .int .i64 f1, .int .i64 f2, .string f3, .slice A4 f4.length c4] 59 (0, 0))) : W.cell? ⟨g, 1, none⟩ = some (.int .i64 f1) := (blk_cell h 1).trans rfl
theorem IsS59.set_1 {w0 W : World} {g : Nat} {f0 : Int} {f1 : Int} {f2 : Int} {f3 : ByteArray} {f4 : List (S38)} (h : IsS59 w0 W g f0 f1 f2 f3 f4) (x : Int) : IsS59 w0 (W.setCell ⟨g, 1, none⟩ (.int .i64 x)) g f0 x f2 f3 f4 := by
  obtain ⟨A4, c4, hb, hg, hr4⟩ := h
  exact ⟨A4, c4, by simpa using blk_set hb 1 (.int .i64 x), hg, hr4⟩
theorem cellS59_2 {W : World} {g : Nat} {A4 : Option Addr} {c4 : Nat} {f0 : Int} {f1 : Int} {f2 : Int} {f3 : ByteArray} {f4 : List (S38)} (h : W.heap[g]? = some (.cells #[.int .i64 f0, .int .i64 f1, .int .i64 f2, .string f3, .slice A4 f4.length c4] 59 (0, 0))) : W.cell? ⟨g, 2, none⟩ = some (.int .i64 f2) := (blk_cell h 2).trans rfl
theorem IsS59.set_2 {w0 W : World} {g : Nat} {f0 : Int} {f1 : Int} {f2 : Int} {f3 : ByteArray} {f4 : List (S38)} (h : IsS59 w0 W g f0 f1 f2 f3 f4) (x : Int) : IsS59 w0 (W.setCell ⟨g, 2, none⟩ (.int .i64 x)) g f0 f1 x f3 f4 := by
  obtain ⟨A4, c4, hb, hg, hr4⟩ := h
  exact ⟨A4, c4, by simpa using blk_set hb 2 (.int .i64 x), hg, hr4⟩
theorem cellS59_3 {W : World} {g : Nat} {A4 : Option Addr} {c4 : Nat} {f0 : Int} {f1 : Int} {f2 : Int} {f3 : ByteArray} {f4 : List (S38)} (h : W.heap[g]? = some (.cells #[.int .i64 f0, .int .i64 f1, .int .i64 f2, .string f3, .slice A4 f4.length c4] 59 (0, 0))) : W.cell? ⟨g, 3, none⟩ = some (.string f3) := (blk_cell h 3).trans rfl
theorem IsS59.set_3 {w0 W : World} {g : Nat} {f0 : Int} {f1 : Int} {f2 : Int} {f3 : ByteArray} {f4 : List (S38)} (h : IsS59 w0 W g f0 f1 f2 f3 f4) (x : ByteArray) : IsS59 w0 (W.setCell ⟨g, 3, none⟩ (.string x)) g f0 f1 f2 x f4 := by
  obtain ⟨A4, c4, hb, hg, hr4⟩ := h
  exact ⟨A4, c4, by simpa using blk_set hb 3 (.string x), hg, hr4⟩
theorem cellS59_4 {W : World} {g : Nat} {A4 : Option Addr} {c4 : Nat} {f0 : Int} {f1 : Int} {f2 : Int} {f3 : ByteArray} {f4 : List (S38)} (h : W.heap[g]? = some (.cells #[.int .i64 f0, .int .i64 f1, .int .i64 f2, .string f3, .slice A4 f4.length c4] 59 (0, 0))) : W.cell? ⟨g, 4, none⟩ = some (.slice A4 f4.length c4) := (blk_cell h 4).trans rfl
theorem IsS59.new (w0 W : World) (A4 : Option Addr) (c4 : Nat) (f0 : Int) (f1 : Int) (f2 : Int) (f3 : ByteArray) (f4 : List (S38)) (hB : Below w0.heap.size w0 W) (hr4 : Kd.C k38 w0 A4 f4.length f4) : IsS59 w0 (W.alloc (.cells #[.int .i64 f0, .int .i64 f1, .int .i64 f2, .string f3, .slice A4 f4.length c4] 59)) W.heap.size f0 f1 f2 f3 f4 := ⟨A4, c4, by simpa using heap_alloc_new W _, hB.size, hr4⟩

/-- A state of type 38 at block g of W; what its slices lead to came in by w0. -/
def IsS38 (w0 W : World) (g : Nat) (f0 : Int) (f1 : Int) : Prop := W.heap[g]? = some (.cells #[.int .i64 f0, .int .i64 f1] 38 (0, 0)) ∧ w0.heap.size ≤ g
theorem IsS38.grown {w0 W : World} {g : Nat} {f0 : Int} {f1 : Int} {W1 : World} {row : Option Nat} (h : IsS38 w0 W g f0 f1) (hw : W.grownBy W1 row) (hne : some g ≠ row) : IsS38 w0 W1 g f0 f1 := by
  obtain ⟨hb, hg⟩ := h
  exact ⟨blk_grown hb hw hne, hg⟩
theorem IsS38.own_neN {w0 W : World} {g : Nat} {f0 : Int} {f1 : Int} {α : Type} {d : Kd α} {e : Nat} {base : Nat} {ok : Nat → Prop} {v : Value} {xs : List α} (h : IsS38 w0 W g f0 f1) (ho : Kd.N d e W base ok v xs) (ht : e ≠ 38) : some g ≠ v.ownBlock := by
  obtain ⟨hb, hg⟩ := h
  exact Kd.N_ne ho hb ht
theorem IsS38.fresh {w0 W : World} {g : Nat} {f0 : Int} {f1 : Int} (h : IsS38 w0 W g f0 f1) : ∀ k, W.heap.size ≤ k → k ≠ g := by
  obtain ⟨hb, hg⟩ := h
  exact Kd.freshB hb
theorem IsS38.kept {w0 W : World} {g : Nat} {f0 : Int} {f1 : Int} {W1 : World} {S : Nat → Prop} (h : IsS38 w0 W g f0 f1) (hk : Kept W W1 S) (hne : ¬ S g) : IsS38 w0 W1 g f0 f1 := by
  obtain ⟨hb, hg⟩ := h
  exact ⟨blk_kept hb hk hne, hg⟩
theorem IsS38.below {w0 W : World} {g : Nat} {f0 : Int} {f1 : Int} {W1 : World} (h : IsS38 w0 W g f0 f1) (hw : Below W.heap.size W W1) : IsS38 w0 W1 g f0 f1 := h.grown (grown_of_below hw none) (by simp)
theorem IsS38.alloc {w0 W : World} {g : Nat} {f0 : Int} {f1 : Int} (h : IsS38 w0 W g f0 f1) (o : Obj) : IsS38 w0 (W.alloc o) g f0 f1 := h.below (below_alloc (Below.refl _ _) o)
theorem IsS38.drewN {w0 W : World} {g : Nat} {f0 : Int} {f1 : Int} (h : IsS38 w0 W g f0 f1) (m : Nat) : IsS38 w0 (W.drewN m) g f0 f1 := h
theorem IsS38.drew {w0 W : World} {g : Nat} {f0 : Int} {f1 : Int} (h : IsS38 w0 W g f0 f1) : IsS38 w0 W.drew g f0 f1 := h
theorem IsS38.at_ {w0 W : World} {g : Nat} {f0 : Int} {f1 : Int} {w' : World} {m : Nat} (hq : W.drewN m = w') (h : IsS38 w0 W g f0 f1) : IsS38 w0 w' g f0 f1 := by subst hq; exact IsS38.drewN h m
theorem IsS38.apart {w0 W : World} {g : Nat} {f0 : Int} {f1 : Int} {α : Type} {d : Kd α} {e : Nat} {base : Nat} {ok : Nat → Prop} {v : Value} {xs : List α} (h : IsS38 w0 W g f0 f1) (ho : d.R e W base ok v xs) (ht : ∀ q, q ∈ e :: d.E → q ≠ 38) : d.R e W base (fun k => ok k ∧ k ≠ g) v xs := by
  obtain ⟨hb, hg⟩ := h
  exact Kd.R_types ho hb ht
theorem IsS38.own_ne {w0 W : World} {g : Nat} {f0 : Int} {f1 : Int} {α : Type} {d : Kd α} {e : Nat} {base : Nat} {ok : Nat → Prop} {v : Value} {xs : List α} (h : IsS38 w0 W g f0 f1) (ho : d.R e W base ok v xs) (ht : e ≠ 38) : some g ≠ v.ownBlock := by
  obtain ⟨hb, hg⟩ := h
  exact Kd.R_ne ho hb ht
theorem IsS38.apartQ {w0 W : World} {g : Nat} {f0 : Int} {f1 : Int} {α : Type} {d : Kd α} {e : Nat} {base : Nat} {ok : Nat → Prop} {v : Value} {xs : List α} (h : IsS38 w0 W g f0 f1) (ho : d.Q e W base ok v xs) (ht : ∀ q, q ∈ e :: d.E → q ≠ 38) : d.Q e W base (fun k => ok k ∧ k ≠ g) v xs := by
  obtain ⟨hb, hg⟩ := h
  exact Kd.Q_types ho hb ht
theorem IsS38.own_neQ {w0 W : World} {g : Nat} {f0 : Int} {f1 : Int} {α : Type} {d : Kd α} {e : Nat} {base : Nat} {ok : Nat → Prop} {v : Value} {xs : List α} (h : IsS38 w0 W g f0 f1) (ho : d.Q e W base ok v xs) (ht : e ≠ 38) : some g ≠ v.ownBlock := by
  obtain ⟨hb, hg⟩ := h
  exact Kd.Q_ne ho hb ht
theorem IsS38.apartS {w0 W : World} {g : Nat} {f0 : Int} {f1 : Int} {α : Type} {d : Kd α} {e : Nat} {base : Nat} {ok : Nat → Prop} {v : Value} {xs : List α} (h : IsS38 w0 W g f0 f1) (ho : d.S e W base ok v xs) (ht : ∀ q, q ∈ e :: d.E → q ≠ 38) : d.S e W base (fun k => ok k ∧ k ≠ g) v xs := by
  obtain ⟨hb, hg⟩ := h
  exact Kd.S_types ho hb ht
theorem IsS38.own_neS {w0 W : World} {g : Nat} {f0 : Int} {f1 : Int} {α : Type} {d : Kd α} {e : Nat} {base : Nat} {ok : Nat → Prop} {v : Value} {xs : List α} (h : IsS38 w0 W g f0 f1) (ho : d.S e W base ok v xs) (ht : e ≠ 38) : some g ≠ v.ownBlock := by
  obtain ⟨hb, hg⟩ := h
  exact Kd.S_ne ho hb ht
theorem IsS38.lt {w0 W : World} {g : Nat} {f0 : Int} {f1 : Int} (h : IsS38 w0 W g f0 f1) : g < W.heap.size := by
  obtain ⟨hb, hg⟩ := h
  exact blk_lt hb
theorem IsS38.ge {w0 W : World} {g : Nat} {f0 : Int} {f1 : Int} (h : IsS38 w0 W g f0 f1) : w0.heap.size ≤ g := by
  obtain ⟨hb, hg⟩ := h
  exact hg
theorem IsS38.ne_blk {w0 W : World} {g : Nat} {f0 : Int} {f1 : Int} {a : Nat} {cs : Array Value} {t : TypeId} {fr : Nat × Nat} (h : IsS38 w0 W g f0 f1) (hb2 : W.heap[a]? = some (.cells cs t fr)) (ht : t ≠ 38) : g ≠ a := by
  obtain ⟨hb, hg⟩ := h; rintro rfl; rw [hb] at hb2
  injection hb2 with hb2
  injection hb2 with _ ht2
  exact ht ht2.symm
theorem IsS38.far {w0 W : World} {g : Nat} {f0 : Int} {f1 : Int} {p : Addr} (h : IsS38 w0 W g f0 f1) (hne : g ≠ p.block) (u : Value) : IsS38 w0 (W.setCell p u) g f0 f1 := by
  obtain ⟨hb, hg⟩ := h
  exact ⟨blk_far hb hne u, hg⟩
theorem cellS38_0 {W : World} {g : Nat} {f0 : Int} {f1 : Int} (h : W.heap[g]? = some (.cells #[.int .i64 f0, .int .i64 f1] 38 (0, 0))) : W.cell? ⟨g, 0, none⟩ = some (.int .i64 f0) := (blk_cell h 0).trans rfl
theorem IsS38.set_0 {w0 W : World} {g : Nat} {f0 : Int} {f1 : Int} (h : IsS38 w0 W g f0 f1) (x : Int) : IsS38 w0 (W.setCell ⟨g, 0, none⟩ (.int .i64 x)) g x f1 := by
  obtain ⟨hb, hg⟩ := h
  exact ⟨by simpa using blk_set hb 0 (.int .i64 x), hg⟩
theorem cellS38_1 {W : World} {g : Nat} {f0 : Int} {f1 : Int} (h : W.heap[g]? = some (.cells #[.int .i64 f0, .int .i64 f1] 38 (0, 0))) : W.cell? ⟨g, 1, none⟩ = some (.int .i64 f1) := (blk_cell h 1).trans rfl
theorem IsS38.set_1 {w0 W : World} {g : Nat} {f0 : Int} {f1 : Int} (h : IsS38 w0 W g f0 f1) (x : Int) : IsS38 w0 (W.setCell ⟨g, 1, none⟩ (.int .i64 x)) g f0 x := by
  obtain ⟨hb, hg⟩ := h
  exact ⟨by simpa using blk_set hb 1 (.int .i64 x), hg⟩
theorem IsS38.new (w0 W : World) (f0 : Int) (f1 : Int) (hB : Below w0.heap.size w0 W) : IsS38 w0 (W.alloc (.cells #[.int .i64 f0, .int .i64 f1] 38)) W.heap.size f0 f1 := ⟨by simpa using heap_alloc_new W _, hB.size⟩

/-! ### impl_EqualSources: function 14 -/
def ptsB : List S38 → List S38 → Bool
  | [], [] => true
  | x :: r, y :: s => decide (x.f0 = y.f0) && (decide (x.f1 = y.f1) && ptsB r s)
  | _, _ => false
def efB (x y : S59) : Bool := decide (x.f0 = y.f0) && (decide (x.f1 = y.f1) && (decide (x.f2 = y.f2) && (decide (x.f3.toList = y.f3.toList) && ptsB x.f4 y.f4)))
def esB : List S59 → List S59 → Bool
  | [], [] => true
  | x :: r, y :: s => efB x y && esB r s
  | _, _ => false
theorem es_w (i : Nat) (h : i < 9223372036854775807) : wrap64 ((i : Int) + 1) = ((i + 1 : Nat) : Int) := by unfold wrap64; omega
theorem ptsB_len : ∀ a b : List S38, a.length ≠ b.length → ptsB a b = false
  | [], [], h => absurd rfl h
  | x :: r, y :: s, h => by rw [ptsB, ptsB_len r s (by simpa using h)]; simp
  | [], _ :: _, _ => rfl
  | _ :: _, [], _ => rfl
theorem esB_len : ∀ a b : List S59, a.length ≠ b.length → esB a b = false
  | [], [], h => absurd rfl h
  | x :: r, y :: s, h => by rw [esB, esB_len r s (by simpa using h)]; simp
  | [], _ :: _, _ => rfl
  | _ :: _, [], _ => rfl
theorem es_rd (l : List S38) (i : Nat) (h : i < l.length) : rd_T38 l (i : Int) = l[i] := by unfold rd_T38; rw [Int.toNat_natCast, List.getD_eq_getElem?_getD, List.getElem?_eq_getElem h]; rfl
theorem pts_l (a b : List S38) (hl : a.length = b.length) (hb : a.length < 9223372036854775807) (d : Nat) : ∀ i : Nat, i + d = a.length → Ev (fun k => impl_Point.l0 k a b (a.length : Int) (i : Int)) (ptsB (a.drop i) (b.drop i)) := by
  induction d with
  | zero =>
    intro i hi; rw [List.drop_of_length_le (by omega), List.drop_of_length_le (by omega)]; refine Ev.step (f := fun _ => some true) (fun k => ?_) (Ev.now _); simp only [impl_Point.l0]; rw [if_neg (by omega)]
  | succ d ih =>
    intro i hi; have h1 : i < a.length := by omega
    have h2 : i < b.length := by omega
    rw [List.drop_eq_getElem_cons h1, List.drop_eq_getElem_cons h2, ptsB]
    by_cases hc : a[i].f0 = b[i].f0 ∧ a[i].f1 = b[i].f1
    · rw [decide_eq_true hc.1, decide_eq_true hc.2, Bool.true_and, Bool.true_and]; refine Ev.step (fun k => ?_) (ih (i + 1) (by omega)); simp only [impl_Point.l0, es_rd a i h1, es_rd b i h2]; rw [if_pos (by omega), if_pos (by omega), if_pos (by omega), if_pos (by omega), if_neg (by simp [hc.1, hc.2]), es_w i (by omega)]
    · have : (decide (a[i].f0 = b[i].f0) && (decide (a[i].f1 = b[i].f1) && ptsB (a.drop (i + 1)) (b.drop (i + 1)))) = false := by
        by_cases q : a[i].f0 = b[i].f0
        · rw [decide_eq_false (fun h => hc ⟨q, h⟩)]; simp
        · rw [decide_eq_false q]; simp
      rw [this]; refine Ev.step (f := fun _ => some false) (fun k => ?_) (Ev.now _); simp only [impl_Point.l0, es_rd a i h1, es_rd b i h2]; rw [if_pos (by omega), if_pos (by omega), if_pos (by omega), if_pos (by omega), if_pos (by by_cases q : a[i].f0 = b[i].f0 <;> simp [q]; intro h; exact hc ⟨q, h⟩)]
theorem pts_f (a b : List S38) (hb : a.length < 9223372036854775807) : Ev (fun k => impl_Point.f k a b) (ptsB a b) := by
  unfold impl_Point.f
  by_cases hl : a.length = b.length
  · simp only [if_pos (show (a.length : Int) = (b.length : Int) by omega)]
    exact pts_l a b hl hb a.length 0 (by omega)
  · simp only [if_neg (show ¬ (a.length : Int) = (b.length : Int) by omega)]; rw [ptsB_len a b hl]
    exact Ev.now _
theorem ef_ev (x y : S59) (hb : x.f4.length < 9223372036854775807) : Ev (fun k => impl_EqualFeatures.f k x.f0 x.f1 x.f2 x.f3 x.f4 y.f0 y.f1 y.f2 y.f3 y.f4) (efB x y) := by
  unfold impl_EqualFeatures.f efB
  by_cases h0 : x.f0 = y.f0
  · by_cases h1 : x.f1 = y.f1
    · by_cases h2 : x.f2 = y.f2
      · by_cases h3 : x.f3.toList = y.f3.toList
        · simp only [if_pos h0, if_pos h1, if_pos h2, if_pos h3, decide_eq_true h0, decide_eq_true h1, decide_eq_true h2, decide_eq_true h3, Bool.true_and]
          exact Ev.bind (pts_f _ _ hb) (Ev.now _)
        · simp only [if_pos h0, if_pos h1, if_pos h2, if_neg h3, decide_eq_true h0, decide_eq_true h1, decide_eq_true h2, decide_eq_false h3, Bool.true_and, Bool.false_and]
          exact Ev.now _
      · simp only [if_pos h0, if_pos h1, if_neg h2, decide_eq_true h0, decide_eq_true h1, decide_eq_false h2, Bool.true_and, Bool.false_and]
        exact Ev.now _
    · simp only [if_pos h0, if_neg h1, decide_eq_true h0, decide_eq_false h1, Bool.true_and, Bool.false_and]
      exact Ev.now _
  · simp only [if_neg h0, decide_eq_false h0, Bool.false_and]
    exact Ev.now _
theorem es_cut (a b : List S59) (i : Nat) (h1 : i < a.length) (h2 : i < b.length) : esB (a.drop i) (b.drop i) = (efB (a.getD i z59) (b.getD i z59) && esB (a.drop (i + 1)) (b.drop (i + 1))) := by
  rw [List.drop_eq_getElem_cons h1, List.drop_eq_getElem_cons h2, esB, List.getD_eq_getElem?_getD, List.getD_eq_getElem?_getD, List.getElem?_eq_getElem h1, List.getElem?_eq_getElem h2]; rfl
set_option maxHeartbeats 4000000 in
theorem es_func (A0 A1 : Option Addr) (c0 c1 : Nat) (l0 l1 : List S59) (w : World) (hr0 : Kd.C k59 w A0 l0.length l0) (hc0 : l0.length ≤ c0) (hr1 : Kd.C k59 w A1 l1.length l1) (hc1 : l1.length ≤ c1) (hl : l0.length < 9223372036854775807) (hx : ∀ x ∈ l0, x.f4.length < 9223372036854775807) :
    Calls Try.prog 23 #[.slice A0 l0.length c0, .slice A1 l1.length c1, .func (.func 24) #[] #[]] w fun e w' => e = .returned (.bool (esB l0 l1)) ∧ Below w.heap.size w w' := by
  have HR := Aside0.mk hr0; have HS := Aside0.mk hr1; clear hr0 hr1
  by_cases hn : l0.length = l1.length
  · have HN : Aside0 (l0.length = l1.length) := ⟨hn⟩
    have d0 : ((l0.length : Int) != (l1.length : Int)) = false := by simp [hn]
    have d9 : decide ((l0.length : Int) = (l1.length : Int)) = true := by simp [hn]
    clear hn
    go_enter Try.func23, Try.ntmps23; go_wp2
    go_loopg [17] l0.length (fun gg s17 wr => ∃ kk : Nat, kk ≤ l0.length ∧ l0.length - kk ≤ gg ∧ s17 = .int .i64 kk ∧ Aside0 (Below w.heap.size w wr) ∧ Aside0 (esB l0 l1 = esB (l0.drop kk) (l1.drop kk)))
    case atStart => exact ⟨0, Nat.zero_le _, by omega, rfl, ⟨Below.refl _ w⟩, ⟨rfl⟩⟩
    case round =>
      obtain ⟨kk, hkk, hg, rfl, BW, A⟩ := hrel
      by_cases hlt : kk < l0.length
      · have hlt1 : kk < l1.length := by rw [← HN.out]; exact hlt
        have d1 : decide ((kk : Int) < (l0.length : Int)) = true := decide_eq_true (by omega); have q0 : (0 ≤ (kk : Int)) = True := eq_true (by omega); have q1 : ((kk : Int) < (l0.length : Int)) = True := eq_true (by omega); have q3 : ((kk : Int) < (l1.length : Int)) = True := eq_true (by omega); have q2 : (kk < l0.length) = True := eq_true hlt; have q4 : (kk < l1.length) = True := eq_true hlt1; obtain ⟨ad, A4, c4, e, hx0, hx1, hx2, hx3, hx4, hl4, hi4⟩ := at_T59 HR.out (kk : Int) (by omega) (by omega); subst e; obtain ⟨ad', B4, e4, e, hy0, hy1, hy2, hy3, hy4, hm4, hj4⟩ := at_T59 HS.out (kk : Int) (by omega) (by omega); subst e; simp only [Int.toNat_natCast] at hx0 hx1 hx2 hx3 hx4 hy0 hy1 hy2 hy3 hy4; replace hx0 := (BW.out.cell (World.block_lt_of_cell? w _ hx0)).trans hx0; replace hx1 := (BW.out.cell (World.block_lt_of_cell? w _ hx1)).trans hx1; replace hx2 := (BW.out.cell (World.block_lt_of_cell? w _ hx2)).trans hx2; replace hx3 := (BW.out.cell (World.block_lt_of_cell? w _ hx3)).trans hx3; replace hx4 := (BW.out.cell (World.block_lt_of_cell? w _ hx4)).trans hx4; replace hy0 := (BW.out.cell (World.block_lt_of_cell? w _ hy0)).trans hy0; replace hy1 := (BW.out.cell (World.block_lt_of_cell? w _ hy1)).trans hy1; replace hy2 := (BW.out.cell (World.block_lt_of_cell? w _ hy2)).trans hy2; replace hy3 := (BW.out.cell (World.block_lt_of_cell? w _ hy3)).trans hy3; replace hy4 := (BW.out.cell (World.block_lt_of_cell? w _ hy4)).trans hy4; have hz0 : ∀ o, (wr.alloc o).cell? (ad'.add (kk * 5)) = some (.int .i64 (rd_T59 l1 kk).f0) := fun o => ((below_alloc (Below.refl _ wr) o).cell (World.block_lt_of_cell? wr _ hy0)).trans hy0
        have hz1 : ∀ o, (wr.alloc o).cell? ⟨(ad'.add (kk * 5)).block, (ad'.add (kk * 5)).off + 1, none⟩ = some (.int .i64 (rd_T59 l1 kk).f1) := fun o => ((below_alloc (Below.refl _ wr) o).cell (World.block_lt_of_cell? wr _ hy1)).trans hy1
        have hz2 : ∀ o, (wr.alloc o).cell? ⟨(ad'.add (kk * 5)).block, (ad'.add (kk * 5)).off + 2, none⟩ = some (.int .i64 (rd_T59 l1 kk).f2) := fun o => ((below_alloc (Below.refl _ wr) o).cell (World.block_lt_of_cell? wr _ hy2)).trans hy2
        have hz3 : ∀ o, (wr.alloc o).cell? ⟨(ad'.add (kk * 5)).block, (ad'.add (kk * 5)).off + 3, none⟩ = some (.string (rd_T59 l1 kk).f3) := fun o => ((below_alloc (Below.refl _ wr) o).cell (World.block_lt_of_cell? wr _ hy3)).trans hy3
        have hz4 : ∀ o, (wr.alloc o).cell? ⟨(ad'.add (kk * 5)).block, (ad'.add (kk * 5)).off + 4, none⟩ = some (.slice B4 (rd_T59 l1 kk).f4.length e4) := fun o => ((below_alloc (Below.refl _ wr) o).cell (World.block_lt_of_cell? wr _ hy4)).trans hy4
        obtain ⟨K, hK⟩ := ef_ev (rd_T59 l0 kk) (rd_T59 l1 kk) (hx _ (by unfold rd_T59; rw [Int.toNat_natCast, List.getD_eq_getElem?_getD, List.getElem?_eq_getElem hlt]; exact List.getElem_mem hlt)); have hcall := fun W (hW : Below wr.heap.size wr W) => impl_EqualFeatures.calls K _ _ _ _ A4 c4 _ _ _ _ _ B4 e4 _ _ W (Kd.C_below (Kd.C_below hi4 BW.out) hW) hl4 (Kd.C_below (Kd.C_below hj4 BW.out) hW) hm4 (hK K (Nat.le_refl _))
        have hcut := es_cut l0 l1 kk hlt hlt1; have HT : Aside0 (efB (l0.getD kk z59) (l1.getD kk z59) = efB (rd_T59 l0 kk) (rd_T59 l1 kk)) := ⟨rfl⟩
        generalize rd_T59 l0 kk = x at *; generalize rd_T59 l1 kk = y at *; clear hK; have HU : Aside0 (∀ o o', Below w.heap.size w ((wr.alloc o).alloc o')) := ⟨fun o o' => below_alloc (below_alloc BW.out o) o'⟩
        have hW : ∀ o o', Below wr.heap.size wr ((wr.alloc o).alloc o') := fun o o' => below_alloc (below_alloc (Below.refl _ wr) o) o'
        cases hq : efB x y with
        | true =>
          rw [hq] at hcall; go_wp2_with (first | (go_at_call 24; refine (hcall _ (hW _ _)).mono ?_; rintro e w' ⟨rfl, hb'⟩))
          go_roundg (l0.length - (kk + 1))
          case measure => omega
          case rel =>
            refine ⟨kk + 1, by omega, by omega, by push_cast; rfl, ⟨below_then (HU.out _ _) (HU.out _ _).size hb'⟩, ⟨?_⟩⟩; rw [A.out, hcut, HT.out, hq, Bool.true_and]
        | false =>
          rw [hq] at hcall; go_wp2_with (first | (go_at_call 24; refine (hcall _ (hW _ _)).mono ?_; rintro e w' ⟨rfl, hb'⟩)); go_ret; refine ⟨?_, below_then (HU.out _ _) (HU.out _ _).size hb'⟩; rw [A.out, hcut, HT.out, hq, Bool.false_and]
          rfl
      · have hltz : decide ((kk : Int) < (l0.length : Int)) = false := decide_eq_false (by omega); have A2 : Aside0 (kk = l0.length) := ⟨by omega⟩
        go_wp2; go_ret; refine ⟨?_, BW.out⟩; rw [A.out, A2.out, List.drop_length, List.drop_of_length_le (by rw [HN.out]; exact Nat.le_refl _)]
        rfl
  · have d0 : ((l0.length : Int) != (l1.length : Int)) = true := by simp [Int.natCast_inj, hn]
    have HN : Aside0 (¬ l0.length = l1.length) := ⟨hn⟩
    clear hn
    go_enter Try.func23, Try.ntmps23; go_wp2; go_ret
    exact ⟨by rw [esB_len _ _ HN.out]; rfl, Below.refl _ _⟩
def impl_EqualSources.f (l0 : List S59) (l1 : List S59) : Option (Bool) := if l0.length < 9223372036854775807 ∧ ∀ x ∈ l0, x.f4.length < 9223372036854775807 then some (esB l0 l1) else none
theorem impl_EqualSources.calls (A0 : Option Addr) (c0 : Nat) (l0 : List S59) (A1 : Option Addr) (c1 : Nat) (l1 : List S59) (r : Bool) (w : World) (hr0 : Kd.C k59 w A0 l0.length l0) (hc0 : l0.length ≤ c0) (hr1 : Kd.C k59 w A1 l1.length l1) (hc1 : l1.length ≤ c1) (h : impl_EqualSources.f l0 l1 = some r) :
    Calls Try.prog 14 #[.slice A0 l0.length c0, .slice A1 l1.length c1] w fun e w' => e = .returned (.bool r) ∧ Below w.heap.size w w' := by
  unfold impl_EqualSources.f at h
  split at h
  · rename_i hl
    obtain rfl := Option.some.inj h; have hf := es_func A0 A1 c0 c1 l0 l1 w hr0 hc0 hr1 hc1 hl.1 hl.2; clear hr0 hr1
    go_enter Try.func14, Try.ntmps14; go_wp2_with (first | (go_at_call 23; refine hf.mono ?_; rintro e w' ⟨rfl, hb⟩)); go_ret
    exact ⟨rfl, hb⟩
  · cases h
/-! ### impl_Label: function 15 -/
def impl_Label.l0 : Nat → List (S42) → List (S42) → Int → Int → Option (Bool)
 | 0, _, _, _, _ => none
 | k + 1, x0, x1, x12, x13 => if x13 < x12 then (if 0 ≤ x13 then (if x13 < (x0.length : Int) then (if x13 < (x1.length : Int) then (if (!(((rd_T42 x0 x13).f0) == ((rd_T42 x1 x13).f0)) || (!((((rd_T42 x0 x13).f1).toList) == (((rd_T42 x1 x13).f1).toList)) || (((!(((rd_T42 x0 x13).f2.f0.f0) == ((rd_T42 x1 x13).f2.f0.f0)) || (!(((rd_T42 x0 x13).f2.f0.f1) == ((rd_T42 x1 x13).f2.f0.f1)))) || ((!(((rd_T42 x0 x13).f2.f1.f0) == ((rd_T42 x1 x13).f2.f1.f0)) || (!(((rd_T42 x0 x13).f2.f1.f1) == ((rd_T42 x1 x13).f2.f1.f1))))))))) = true then (some false) else (impl_Label.l0 k x0 x1 x12 (wrap64 (x13 + 1)))) else (none)) else (none)) else (none)) else (some true)
def impl_Label.f (k : Nat) (l0 : List (S42)) (l1 : List (S42)) : Option (Bool) := if (l0.length : Int) = (l1.length : Int) then (impl_Label.l0 k l0 l1 (l0.length : Int) 0) else (some false)
theorem impl_Label.mono_l : ∀ k, (∀ y0 y1 y2 y3, LeO (impl_Label.l0 k y0 y1 y2 y3) (impl_Label.l0 (k + 1) y0 y1 y2 y3))
 | 0 => fun _ _ _ _ r h => by simp [impl_Label.l0] at h
 | k + 1 => by
  have ih0 := impl_Label.mono_l k
  ·intro y0 y1 y2 y3
   unfold impl_Label.l0
   repeat' first | (with_reducible first | exact ih0 _ _ _ _ | exact LeO.refl _ | exact LeO.none _ | refine LeO.ite ?_ ?_ | refine LeO.bind ?_ (fun _ => ?_)) | exact ih0 _ _ _ _ | exact LeO.none _ | refine LeO.ite ?_ ?_ | refine LeO.bind ?_ (fun _ => ?_)
theorem impl_Label.mono : ∀ a0 a1 k, LeO (impl_Label.f k a0 a1) (impl_Label.f (k + 1) a0 a1) := by
 intro a0 a1 k; have ih0 := impl_Label.mono_l k
 unfold impl_Label.f
 repeat' first | (with_reducible first | exact ih0 _ _ _ _ | exact LeO.refl _ | exact LeO.none _ | refine LeO.ite ?_ ?_ | refine LeO.bind ?_ (fun _ => ?_)) | exact ih0 _ _ _ _ | exact LeO.none _ | refine LeO.ite ?_ ?_ | refine LeO.bind ?_ (fun _ => ?_)
set_option maxHeartbeats 8000000 in
set_option maxRecDepth 100000 in
theorem impl_Label.calls (k : Nat) (A0 : Option Addr) (c0 : Nat) (l0 : List (S42)) (A1 : Option Addr) (c1 : Nat) (l1 : List (S42)) (r : Bool) (w : World) (hr0 : Kd.C k42 w A0 l0.length l0) (hc0 : l0.length ≤ c0) (hr1 : Kd.C k42 w A1 l1.length l1) (hc1 : l1.length ≤ c1) (h : impl_Label.f k l0 l1 = some r) :
  Calls Try.prog 15 #[.slice A0 l0.length c0, .slice A1 l1.length c1] w fun e w' => e = .returned (.bool r) ∧ Drawn0 w w' := by
 have hu42 := Try.underlying42; have HR0 := Aside0.mk hr0; have HC0 := Aside0.mk hc0; clear hr0 hc0; have HR1 := Aside0.mk hr1; have HC1 := Aside0.mk hc1; clear hr1 hc1; have H : (if (l0.length : Int) = (l1.length : Int) then (impl_Label.l0 k l0 l1 (l0.length : Int) 0) else (some false)) = some r := h; clear h
 by_cases c3 : (l0.length : Int) = (l1.length : Int)
 ·rw [if_pos c3] at H; have c3b0 : ((l0.length : Int) == (l1.length : Int)) = true := beq_iff_eq.mpr c3; have c3b1 : ((l0.length : Int) != (l1.length : Int)) = false := bne_eq_false_iff_eq.mpr c3
  have c3b2 : (l0.length == l1.length) = true := by first | simpa using c3 | (simp at c3 ⊢; omega)
  clear c3; have H' := Aside0.mk H; clear H
  go_enter Try.func15, Try.ntmps15; go_wp2
  repeat (go_quiet (fail); try go_wp2)
  go_loopg [13] k (fun kq v13 w' => ∃ (x13_1 : Int), v13 = .int .i64 x13_1 ∧ Aside0 (impl_Label.l0 kq l0 l1 (l0.length : Int) x13_1 = some r) ∧ Aside0 (kq ≤ k) ∧ Drawn0 w w')
  case atStart => exact ⟨(0), rz, H', ⟨Nat.le_refl _⟩, by repeat (first | exact Drawn0.refl _ | apply Drawn0.step)⟩
  case round =>
   clear H'; (try clear c1); (try clear p2); (try clear c3); (try clear c3b0); (try clear c3b1); (try clear c3b2); obtain ⟨x13_1, rfl, HA, HK1, ⟨m1, rfl⟩⟩ := hrel
   cases gk with
   | zero => exact absurd HA.out (by simp [impl_Label.l0])
   | succ k1 =>
    have H := HA.out; clear HA; simp only [impl_Label.l0] at H
    by_cases c4 : x13_1 < (l0.length : Int)
    ·rw [if_pos c4] at H; have c4b0 := decide_eq_true c4; clear c4
     by_cases c5 : 0 ≤ x13_1
     ·rw [if_pos c5] at H; have c5b0 := decide_eq_true c5; clear c5
      by_cases c6 : x13_1 < (l0.length : Int)
      ·rw [if_pos c6] at H; have c6b0 := decide_eq_true c6; clear c6
       by_cases c7 : x13_1 < (l1.length : Int)
       ·rw [if_pos c7] at H; have c7b0 := decide_eq_true c7; clear c7
        by_cases c8 : (!(((rd_T42 l0 x13_1).f0) == ((rd_T42 l1 x13_1).f0)) || (!((((rd_T42 l0 x13_1).f1).toList) == (((rd_T42 l1 x13_1).f1).toList)) || (((!(((rd_T42 l0 x13_1).f2.f0.f0) == ((rd_T42 l1 x13_1).f2.f0.f0)) || (!(((rd_T42 l0 x13_1).f2.f0.f1) == ((rd_T42 l1 x13_1).f2.f0.f1)))) || ((!(((rd_T42 l0 x13_1).f2.f1.f0) == ((rd_T42 l1 x13_1).f2.f1.f0)) || (!(((rd_T42 l0 x13_1).f2.f1.f1) == ((rd_T42 l1 x13_1).f2.f1.f1))))))))) = true
        ·rw [if_pos c8] at H; have c8b0 : (!(((rd_T42 l0 x13_1).f0) == ((rd_T42 l1 x13_1).f0)) || (!((((rd_T42 l0 x13_1).f1).toList) == (((rd_T42 l1 x13_1).f1).toList)) || (((!(((rd_T42 l0 x13_1).f2.f0.f0) == ((rd_T42 l1 x13_1).f2.f0.f0)) || (!(((rd_T42 l0 x13_1).f2.f0.f1) == ((rd_T42 l1 x13_1).f2.f0.f1)))) || ((!(((rd_T42 l0 x13_1).f2.f1.f0) == ((rd_T42 l1 x13_1).f2.f1.f0)) || (!(((rd_T42 l0 x13_1).f2.f1.f1) == ((rd_T42 l1 x13_1).f2.f1.f1))))))))) = true := c8; clear c8; obtain rfl := Option.some.inj H; have p191 : 0 ≤ (x13_1 : Int) := of_decide_eq_true az; have q191 : x13_1 < (l0.length : Int) := of_decide_eq_true az; obtain ⟨ad191, e191, hx191_0, hx191_1, hx191_2, hx191_3, hx191_4, hx191_5⟩ := at_T42 HR0.out x13_1 p191 q191
         cases e191
         replace p191 := eq_true p191; replace q191 := eq_true q191; have p192 : 0 ≤ (x13_1 : Int) := of_decide_eq_true az; have q192 : x13_1 < (l1.length : Int) := of_decide_eq_true az; obtain ⟨ad192, e192, hx192_0, hx192_1, hx192_2, hx192_3, hx192_4, hx192_5⟩ := at_T42 HR1.out x13_1 p192 q192
         cases e192
         replace p192 := eq_true p192; replace q192 := eq_true q192; go_wp2
         repeat (go_quiet (fail); try go_wp2)
         go_ret
         exact ⟨by first | rfl | (simp; done) | (simp [*]; done), by repeat (first | exact Drawn0.refl _ | apply Drawn0.step)⟩
        ·rw [if_neg c8] at H; have c8b0 : (!(((rd_T42 l0 x13_1).f0) == ((rd_T42 l1 x13_1).f0)) || (!((((rd_T42 l0 x13_1).f1).toList) == (((rd_T42 l1 x13_1).f1).toList)) || (((!(((rd_T42 l0 x13_1).f2.f0.f0) == ((rd_T42 l1 x13_1).f2.f0.f0)) || (!(((rd_T42 l0 x13_1).f2.f0.f1) == ((rd_T42 l1 x13_1).f2.f0.f1)))) || ((!(((rd_T42 l0 x13_1).f2.f1.f0) == ((rd_T42 l1 x13_1).f2.f1.f0)) || (!(((rd_T42 l0 x13_1).f2.f1.f1) == ((rd_T42 l1 x13_1).f2.f1.f1))))))))) = false := by simpa using c8
         clear c8; have H' := Aside0.mk H; clear H; have p191 : 0 ≤ (x13_1 : Int) := of_decide_eq_true az; have q191 : x13_1 < (l0.length : Int) := of_decide_eq_true az; obtain ⟨ad191, e191, hx191_0, hx191_1, hx191_2, hx191_3, hx191_4, hx191_5⟩ := at_T42 HR0.out x13_1 p191 q191
         cases e191
         replace p191 := eq_true p191; replace q191 := eq_true q191; have p192 : 0 ≤ (x13_1 : Int) := of_decide_eq_true az; have q192 : x13_1 < (l1.length : Int) := of_decide_eq_true az; obtain ⟨ad192, e192, hx192_0, hx192_1, hx192_2, hx192_3, hx192_4, hx192_5⟩ := at_T42 HR1.out x13_1 p192 q192
         cases e192
         replace p192 := eq_true p192; replace q192 := eq_true q192; go_wp2
         repeat (go_quiet (fail); try go_wp2)
         go_roundg k1
         case measure => have := HK1.out; omega
         case rel => exact ⟨(wrap64 (x13_1 + 1)), rz, H', ⟨by have := HK1.out; omega⟩, by repeat (first | exact Drawn0.refl _ | apply Drawn0.step)⟩
       ·rw [if_neg c7] at H
        exact absurd H (by simp)
      ·rw [if_neg c6] at H
       exact absurd H (by simp)
     ·rw [if_neg c5] at H
      exact absurd H (by simp)
    ·rw [if_neg c4] at H; have c4b0 := decide_eq_false c4; clear c4; obtain rfl := Option.some.inj H; go_wp2
     repeat (go_quiet (fail); try go_wp2)
     go_ret
     exact ⟨by first | rfl | (simp; done) | (simp [*]; done), by repeat (first | exact Drawn0.refl _ | apply Drawn0.step)⟩
 ·rw [if_neg c3] at H; have c3b0 : ((l0.length : Int) == (l1.length : Int)) = false := beq_eq_false_iff_ne.mpr c3; have c3b1 : ((l0.length : Int) != (l1.length : Int)) = true := bne_iff_ne.mpr c3
  have c3b2 : (l0.length == l1.length) = false := by first | simpa using c3 | (simp at c3 ⊢; omega)
  obtain rfl := Option.some.inj H
  go_enter Try.func15, Try.ntmps15; go_wp2
  repeat (go_quiet (fail); try go_wp2)
  go_ret
  exact ⟨by first | rfl | (simp; done) | (simp [*]; done), by repeat (first | exact Drawn0.refl _ | apply Drawn0.step)⟩

/-! ### impl_EqualCharts: function 7 -/
def impl_EqualCharts.f (k : Nat) (l0_0 : List (S59)) (l0_1 : List (S42)) (l1_0 : List (S59)) (l1_1 : List (S42)) : Option (Bool) := (impl_EqualSources.f l0_0 l1_0).bind fun t195 => (if t195 = true then ((impl_Label.f k l0_1 l1_1).bind fun t196 => (some t196)) else (some false))
theorem impl_EqualCharts.mono : ∀ a0 a1 a2 a3 k, LeO (impl_EqualCharts.f k a0 a1 a2 a3) (impl_EqualCharts.f (k + 1) a0 a1 a2 a3) := by
 intro a0 a1 a2 a3 k
 unfold impl_EqualCharts.f
 repeat' first | (with_reducible first | exact impl_Label.mono _ _ _ | exact LeO.refl _ | exact LeO.none _ | refine LeO.ite ?_ ?_ | refine LeO.bind ?_ (fun _ => ?_)) | exact impl_Label.mono _ _ _ | exact LeO.none _ | refine LeO.ite ?_ ?_ | refine LeO.bind ?_ (fun _ => ?_)
set_option maxHeartbeats 8000000 in
set_option maxRecDepth 100000 in
theorem impl_EqualCharts.calls (k : Nat) (A0_0 : Option Addr) (c0_0 : Nat) (l0_0 : List (S59)) (A0_1 : Option Addr) (c0_1 : Nat) (l0_1 : List (S42)) (A1_0 : Option Addr) (c1_0 : Nat) (l1_0 : List (S59)) (A1_1 : Option Addr) (c1_1 : Nat) (l1_1 : List (S42)) (r : Bool) (w : World) (hr0_0 : Kd.C k59 w A0_0 l0_0.length l0_0) (hc0_0 : l0_0.length ≤ c0_0) (hr0_1 : Kd.C k42 w A0_1 l0_1.length l0_1) (hc0_1 : l0_1.length ≤ c0_1) (hr1_0 : Kd.C k59 w A1_0 l1_0.length l1_0) (hc1_0 : l1_0.length ≤ c1_0) (hr1_1 : Kd.C k42 w A1_1 l1_1.length l1_1) (hc1_1 : l1_1.length ≤ c1_1) (h : impl_EqualCharts.f k l0_0 l0_1 l1_0 l1_1 = some r) :
  Calls Try.prog 7 #[.agg #[.slice A0_0 l0_0.length c0_0, .slice A0_1 l0_1.length c0_1], .agg #[.slice A1_0 l1_0.length c1_0, .slice A1_1 l1_1.length c1_1]] w fun e w' => e = .returned (.bool r) ∧ Below w.heap.size w w' := by
 have hu31 := Try.underlying31; have HR0_0 := Aside0.mk hr0_0; have HC0_0 := Aside0.mk hc0_0; clear hr0_0 hc0_0; have HR0_1 := Aside0.mk hr0_1; have HC0_1 := Aside0.mk hc0_1; clear hr0_1 hc0_1; have HR1_0 := Aside0.mk hr1_0; have HC1_0 := Aside0.mk hc1_0; clear hr1_0 hc1_0; have HR1_1 := Aside0.mk hr1_1; have HC1_1 := Aside0.mk hc1_1; clear hr1_1 hc1_1; have HB := Aside0.mk (Below.refl w.heap.size w); have H : ((impl_EqualSources.f l0_0 l1_0).bind fun t195 => (if t195 = true then ((impl_Label.f k l0_1 l1_1).bind fun t196 => (some t196)) else (some false))) = some r := h; clear h; replace H := Option.bind_eq_some_iff.mp H; obtain ⟨t195, A30, H⟩ := H; have A3 := Aside0.mk A30; clear A30
 by_cases c4 : t195 = true
 ·subst c4; replace H := ift H; replace H := Option.bind_eq_some_iff.mp H; obtain ⟨t196, A50, H⟩ := H; have A5 := Aside0.mk A50; clear A50; obtain rfl := Option.some.inj H
  go_enter Try.func7, Try.ntmps7; go_wp2_with (first | ((with_reducible refine gt (some 2) rfl ?_); refine bx #[.slice A0_0 l0_0.length c0_0, .slice A0_1 l0_1.length c0_1] 31 ?_; intro gb193 hg w6 hbox hb; have BK193 := Aside0.mk (hbox); have GW193 := Aside0.mk (gez HB hg); have GE193 := Aside0.mk (gez HB hg); replace HB := Aside0.mk (below_step bz hb); clear hb hbox hg) | ((with_reducible refine gt (some 3) rfl ?_); refine bx #[.slice A1_0 l1_0.length c1_0, .slice A1_1 l1_1.length c1_1] 31 ?_; intro gb194 hg w7 hbox hb; have BK194 := Aside0.mk (hbox); have GW194 := Aside0.mk (gez HB hg); have GE194 := Aside0.mk (gez HB hg); replace HB := Aside0.mk (below_step bzs hb); have NB193_194 := Aside0.mk ((by rw [hg]; exact Nat.ne_of_lt (blk_lt (g := gb193) (o := .cells #[.slice A0_0 l0_0.length c0_0, .slice A0_1 l0_1.length c0_1] 31 (0, 0)) (kz BK193)) : gb193 ≠ gb194)); have NB194_193 := Aside0.mk ((by rw [hg]; exact Nat.ne_of_gt (blk_lt (g := gb193) (o := .cells #[.slice A0_0 l0_0.length c0_0, .slice A0_1 l0_1.length c0_1] 31 (0, 0)) (kz BK193)) : gb194 ≠ gb193)); replace BK193 := Aside0.mk (bbz BK193 hb); clear hb hbox hg; have hnb8 := NB193_194.out; have hnc8 := NB194_193.out; obtain ⟨hcz9_0, hcz9_1, hfz9_0, hfz9_1⟩ := cells2 BK193; obtain ⟨hcz10_0, hcz10_1, hfz10_0, hfz10_1⟩ := cells2 BK194) | ((with_reducible refine gt (some 9) rfl ?_); refine gc Try.func14 (impl_EqualSources.calls A0_0 c0_0 l0_0 _ _ l1_0 true _ (cz (Kd.C_below HR0_0.out HB.out)) HC0_0.out (cz (Kd.C_below HR1_0.out HB.out)) HC1_0.out A3.out) ?_; rintro e w11 ⟨rfl, hb⟩; refine ⟨_, rfl, ?_⟩; replace BK193 := Aside0.mk (bbz BK193 hb); replace BK194 := Aside0.mk (bbz BK194 hb); replace HB := Aside0.mk (below_step bzs hb); (try clear hb); obtain ⟨hcz12_0, hcz12_1, hfz12_0, hfz12_1⟩ := cells2 BK193; obtain ⟨hcz13_0, hcz13_1, hfz13_0, hfz13_1⟩ := cells2 BK194) | (go_at_call 15; (with_reducible refine (impl_Label.calls k _ _ l0_1 _ _ l1_1 t196 _ ?side1 ?side2 ?side3 ?side4 A5.out).mono ?_); (case side1 => repeat (first | exact (Kd.C_below HR0_1.out HB.out) | (with_reducible refine Kd.C_alloc ?_ _) | (with_reducible refine Kd.C_drewN ?_ _) | (with_reducible refine Kd.C_drew ?_))); (case side2 => exact HC0_1.out); (case side3 => repeat (first | exact (Kd.C_below HR1_1.out HB.out) | (with_reducible refine Kd.C_alloc ?_ _) | (with_reducible refine Kd.C_drewN ?_ _) | (with_reducible refine Kd.C_drew ?_))); (case side4 => exact HC1_1.out); rintro e w' ⟨rfl, ⟨nd, rfl⟩⟩))
  go_ret
  exact ⟨ez, bzs⟩
 ·replace c4 := Bool.eq_false_iff.mpr c4; subst c4; replace H := iff_ H; obtain rfl := Option.some.inj H
  go_enter Try.func7, Try.ntmps7; go_wp2_with (first | ((with_reducible refine gt (some 2) rfl ?_); refine bx #[.slice A0_0 l0_0.length c0_0, .slice A0_1 l0_1.length c0_1] 31 ?_; intro gb193 hg w14 hbox hb; have BK193 := Aside0.mk (hbox); have GW193 := Aside0.mk (gez HB hg); have GE193 := Aside0.mk (gez HB hg); replace HB := Aside0.mk (below_step bz hb); clear hb hbox hg) | ((with_reducible refine gt (some 3) rfl ?_); refine bx #[.slice A1_0 l1_0.length c1_0, .slice A1_1 l1_1.length c1_1] 31 ?_; intro gb194 hg w15 hbox hb; have BK194 := Aside0.mk (hbox); have GW194 := Aside0.mk (gez HB hg); have GE194 := Aside0.mk (gez HB hg); replace HB := Aside0.mk (below_step bzs hb); have NB193_194 := Aside0.mk ((by rw [hg]; exact Nat.ne_of_lt (blk_lt (g := gb193) (o := .cells #[.slice A0_0 l0_0.length c0_0, .slice A0_1 l0_1.length c0_1] 31 (0, 0)) (kz BK193)) : gb193 ≠ gb194)); have NB194_193 := Aside0.mk ((by rw [hg]; exact Nat.ne_of_gt (blk_lt (g := gb193) (o := .cells #[.slice A0_0 l0_0.length c0_0, .slice A0_1 l0_1.length c0_1] 31 (0, 0)) (kz BK193)) : gb194 ≠ gb193)); replace BK193 := Aside0.mk (bbz BK193 hb); clear hb hbox hg; have hnb16 := NB193_194.out; have hnc16 := NB194_193.out; obtain ⟨hcz17_0, hcz17_1, hfz17_0, hfz17_1⟩ := cells2 BK193; obtain ⟨hcz18_0, hcz18_1, hfz18_0, hfz18_1⟩ := cells2 BK194) | ((with_reducible refine gt (some 9) rfl ?_); refine gc Try.func14 (impl_EqualSources.calls A0_0 c0_0 l0_0 _ _ l1_0 false _ (cz (Kd.C_below HR0_0.out HB.out)) HC0_0.out (cz (Kd.C_below HR1_0.out HB.out)) HC1_0.out A3.out) ?_; rintro e w19 ⟨rfl, hb⟩; refine ⟨_, rfl, ?_⟩; replace BK193 := Aside0.mk (bbz BK193 hb); replace BK194 := Aside0.mk (bbz BK194 hb); replace HB := Aside0.mk (below_step bzs hb); (try clear hb)))
  go_ret
  exact ⟨ez, bzs⟩

/-! ### laws_eqPoint: function 35 -/
def laws_eqPoint.f (a0_0 : Int) (a0_1 : Int) (a1_0 : Int) (a1_1 : Int) : Option (Bool) := if a0_0 = a1_0 then (if a0_1 = a1_1 then (some true) else (some false)) else (some false)
set_option maxHeartbeats 8000000 in
set_option maxRecDepth 100000 in
theorem laws_eqPoint.calls (a0_0 : Int) (a0_1 : Int) (a1_0 : Int) (a1_1 : Int) (r : Bool) (w : World) (h : laws_eqPoint.f a0_0 a0_1 a1_0 a1_1 = some r) :
  Calls Try.prog 35 #[.agg #[.int .i64 a0_0, .int .i64 a0_1], .agg #[.int .i64 a1_0, .int .i64 a1_1]] w fun e w' => e = .returned (.bool r) ∧ Below w.heap.size w w' := by
 have hu38 := Try.underlying38; have HB := Aside0.mk (Below.refl w.heap.size w); have H : (if a0_0 = a1_0 then (if a0_1 = a1_1 then (some true) else (some false)) else (some false)) = some r := h; clear h
 by_cases c3 : a0_0 = a1_0
 ·rw [if_pos c3] at H; have c3b0 : (a0_0 == a1_0) = true := beq_iff_eq.mpr c3; have c3b1 : (a0_0 != a1_0) = false := bne_eq_false_iff_eq.mpr c3; clear c3
  by_cases c4 : a0_1 = a1_1
  ·rw [if_pos c4] at H; have c4b0 : (a0_1 == a1_1) = true := beq_iff_eq.mpr c4; have c4b1 : (a0_1 != a1_1) = false := bne_eq_false_iff_eq.mpr c4; clear c4; obtain rfl := Option.some.inj H
   go_enter Try.func35, Try.ntmps35; go_wp2_with (first | ((with_reducible refine gt (some 2) rfl ?_); refine bx #[.int .i64 a0_0, .int .i64 a0_1] 38 ?_; intro gb197 hg w5 hbox hb; have BK197 := Aside0.mk (hbox); have GW197 := Aside0.mk (gez HB hg); have GE197 := Aside0.mk (gez HB hg); replace HB := Aside0.mk (below_step bz hb); clear hb hbox hg) | ((with_reducible refine gt (some 3) rfl ?_); refine bx #[.int .i64 a1_0, .int .i64 a1_1] 38 ?_; intro gb198 hg w6 hbox hb; have BK198 := Aside0.mk (hbox); have GW198 := Aside0.mk (gez HB hg); have GE198 := Aside0.mk (gez HB hg); replace HB := Aside0.mk (below_step bzs hb); have NB197_198 := Aside0.mk ((by rw [hg]; exact Nat.ne_of_lt (blk_lt (g := gb197) (o := .cells #[.int .i64 a0_0, .int .i64 a0_1] 38 (0, 0)) (kz BK197)) : gb197 ≠ gb198)); have NB198_197 := Aside0.mk ((by rw [hg]; exact Nat.ne_of_gt (blk_lt (g := gb197) (o := .cells #[.int .i64 a0_0, .int .i64 a0_1] 38 (0, 0)) (kz BK197)) : gb198 ≠ gb197)); replace BK197 := Aside0.mk (bbz BK197 hb); clear hb hbox hg; have hnb7 := NB197_198.out; have hnc7 := NB198_197.out; obtain ⟨hcz8_0, hcz8_1, hfz8_0, hfz8_1⟩ := cells2 BK197; obtain ⟨hcz9_0, hcz9_1, hfz9_0, hfz9_1⟩ := cells2 BK198)); go_ret
   exact ⟨ez, bzs⟩
  ·rw [if_neg c4] at H; have c4b0 : (a0_1 == a1_1) = false := beq_eq_false_iff_ne.mpr c4; have c4b1 : (a0_1 != a1_1) = true := bne_iff_ne.mpr c4; obtain rfl := Option.some.inj H
   go_enter Try.func35, Try.ntmps35; go_wp2_with (first | ((with_reducible refine gt (some 2) rfl ?_); refine bx #[.int .i64 a0_0, .int .i64 a0_1] 38 ?_; intro gb197 hg w10 hbox hb; have BK197 := Aside0.mk (hbox); have GW197 := Aside0.mk (gez HB hg); have GE197 := Aside0.mk (gez HB hg); replace HB := Aside0.mk (below_step bz hb); clear hb hbox hg) | ((with_reducible refine gt (some 3) rfl ?_); refine bx #[.int .i64 a1_0, .int .i64 a1_1] 38 ?_; intro gb198 hg w11 hbox hb; have BK198 := Aside0.mk (hbox); have GW198 := Aside0.mk (gez HB hg); have GE198 := Aside0.mk (gez HB hg); replace HB := Aside0.mk (below_step bzs hb); have NB197_198 := Aside0.mk ((by rw [hg]; exact Nat.ne_of_lt (blk_lt (g := gb197) (o := .cells #[.int .i64 a0_0, .int .i64 a0_1] 38 (0, 0)) (kz BK197)) : gb197 ≠ gb198)); have NB198_197 := Aside0.mk ((by rw [hg]; exact Nat.ne_of_gt (blk_lt (g := gb197) (o := .cells #[.int .i64 a0_0, .int .i64 a0_1] 38 (0, 0)) (kz BK197)) : gb198 ≠ gb197)); replace BK197 := Aside0.mk (bbz BK197 hb); clear hb hbox hg; have hnb12 := NB197_198.out; have hnc12 := NB198_197.out; obtain ⟨hcz13_0, hcz13_1, hfz13_0, hfz13_1⟩ := cells2 BK197; obtain ⟨hcz14_0, hcz14_1, hfz14_0, hfz14_1⟩ := cells2 BK198)); go_ret
   exact ⟨ez, bzs⟩
 ·rw [if_neg c3] at H; have c3b0 : (a0_0 == a1_0) = false := beq_eq_false_iff_ne.mpr c3; have c3b1 : (a0_0 != a1_0) = true := bne_iff_ne.mpr c3; obtain rfl := Option.some.inj H
  go_enter Try.func35, Try.ntmps35; go_wp2_with (first | ((with_reducible refine gt (some 2) rfl ?_); refine bx #[.int .i64 a0_0, .int .i64 a0_1] 38 ?_; intro gb197 hg w15 hbox hb; have BK197 := Aside0.mk (hbox); have GW197 := Aside0.mk (gez HB hg); have GE197 := Aside0.mk (gez HB hg); replace HB := Aside0.mk (below_step bz hb); clear hb hbox hg) | ((with_reducible refine gt (some 3) rfl ?_); refine bx #[.int .i64 a1_0, .int .i64 a1_1] 38 ?_; intro gb198 hg w16 hbox hb; have BK198 := Aside0.mk (hbox); have GW198 := Aside0.mk (gez HB hg); have GE198 := Aside0.mk (gez HB hg); replace HB := Aside0.mk (below_step bzs hb); have NB197_198 := Aside0.mk ((by rw [hg]; exact Nat.ne_of_lt (blk_lt (g := gb197) (o := .cells #[.int .i64 a0_0, .int .i64 a0_1] 38 (0, 0)) (kz BK197)) : gb197 ≠ gb198)); have NB198_197 := Aside0.mk ((by rw [hg]; exact Nat.ne_of_gt (blk_lt (g := gb197) (o := .cells #[.int .i64 a0_0, .int .i64 a0_1] 38 (0, 0)) (kz BK197)) : gb198 ≠ gb197)); replace BK197 := Aside0.mk (bbz BK197 hb); clear hb hbox hg; have hnb17 := NB197_198.out; have hnc17 := NB198_197.out; obtain ⟨hcz18_0, hcz18_1, hfz18_0, hfz18_1⟩ := cells2 BK197; obtain ⟨hcz19_0, hcz19_1, hfz19_0, hfz19_1⟩ := cells2 BK198)); go_ret
  exact ⟨ez, bzs⟩

end Go.Proofs.Ytellpkihlbbnhaa.PFnExactEqualCharts
