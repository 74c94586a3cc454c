-- Written by a program of this session's (evlaw.py).
import Derived.Test.YtkomgmgpgnjooaaGreatPFnExactShownIdsx1
import Derived.Test.YtkomgmgpgnjooaaGreatSShelf
namespace Go.Proofs.YtkomgmgpgnjooaaGreat.PFnExactShownIds
open Go.RowKit Go.Proofs.YtkomgmgpgnjooaaGreatW.PrintWords Go.Proofs.YtkomgmgpgnjooaaGreatW.PrintLast Go.Proofs.YtkomgmgpgnjooaaGreatW.PrintMore Go.Proofs.YtkomgmgpgnjooaaGreatGeo Go.Proofs.YtkomgmgpgnjooaaGreatHand Go.Proofs.YtkomgmgpgnjooaaGreatMeet Go.Proofs.YtkomgmgpgnjooaaGreatQuiet Go.Proofs.YtkomgmgpgnjooaaGreatZ
open Go Go.Proofs.YtkomgmgpgnjooaaGreatEv
attribute [local go_sem] max2_int min2_int max_two min_two max_three min_three max_four min_four   -- for this text's walks alone
set_option linter.unusedVariables false
set_option linter.unusedSimpArgs false



set_option linter.unusedSimpArgs false

attribute [local go_sem high] eqA75
set_option linter.unusedVariables false
set_option linter.unusedSimpArgs false
set_option maxRecDepth 100000
noncomputable section
theorem slices_Sort_int_int.calls (P0_ : Nat → Prop) (u9000_ : Value) (l0 : List Int) (r : List Int) (w0 w : World) (hB : Below w0.heap.size w0 w) (ho0 : Kd.R (Kd.int .i64) 3 w w0.heap.size P0_ u9000_ l0) (h : slices_Sort_int_int.f l0 = some r) :
    Calls Tryz.prog 71 #[u9000_] w fun e w' => e = .returned (.tuple #[]) ∧ Kd.R (Kd.int .i64) 3 w' w0.heap.size (fun k_ => (P0_ k_ ∨ w.heap.size ≤ k_)) u9000_ r ∧ Below w0.heap.size w0 w' ∧ Kept w w' (fun k_ => P0_ k_) := by
  unfold slices_Sort_int_int.f at h
  split at h
  · rename_i hlt
    obtain rfl := Option.some.inj h; have hown := Kd.own_of_R ho0
    rcases hown.2 with ⟨rfl, h0⟩ | ⟨g, cap, cur, rfl, hg, hb, h1, h2, h3, h4⟩
    · obtain rfl : l0 = [] := List.eq_nil_of_length_eq_zero h0; refine (Tryz.slices_Sort_int_none none 0 w).mono ?_; rintro e w' ⟨rfl, rfl⟩
      exact ⟨rfl, by simpa using Kd.R_mono ho0 (fun k hk => .inl hk), hB, Kept.refl _ _⟩
    · have hl : (l0.mergeSort fun x y => decide (x ≤ y)).length = l0.length := List.length_mergeSort _; refine (Tryz.slices_Sort_int g 0 cap l0 w (Go.holds_of_blockI hb (by simpa [encs] using h4)) (blk_lt hb) hlt).mono ?_; rintro e w' ⟨rfl, n, os, rfl⟩; have hgr := Go.grownBy_sortedI (w := w) (g := g) (n := n) (os := os) (l0.mergeSort fun x y => decide (x ≤ y)).toArray; refine ⟨rfl, Kd.R_of_own (enc := Value.int .i64) ?_ (fun k hk => .inl (ho0.1 k hk)), hB.grown hgr (Nat.le_trans hB.size (Nat.le_refl _)) (fun k hk => by cases hk; exact hg), hgr.size, fun i hi hP => hgr.block i hi (fun e => hP (ho0.1 i (by simpa [Value.ownBlock] using e.symm)))⟩; have := Go.ownsRow_sortedI (n := n) (os := os) hl hg hb h1 h2 h3; rw [hl]; simpa [encs] using this
  · cases h
def lw.T5 : Bool × List (List Nat × List Nat) := (true, [([], []), ([0], [0]), ([], []), ([2, 1], [2]), ([1, 3, 3], [1, 3]), ([4, 4, 0, 1, 2, 3, 4], [4])])
def lw.B5 : List Nat := [0, 1, 0, 7, 15, 31]
theorem lw.tab5 : rtab .any (opsOf Tryz.f6 5) = lw.T5 := by kernel_rfl
theorem lw.bits5 : waitsOk lw.T5.2 lw.B5 = true := by kernel_rfl
def lw.T24 : Bool × List (List Nat × List Nat) := (true, [([], []), ([0], [0]), ([], []), ([2, 1], [2]), ([1, 3, 3], [1, 3]), ([4, 4, 0, 1, 2, 3, 4], [4])])
def lw.B24 : List Nat := [0, 1, 0, 7, 15, 31]
theorem lw.tab24 : rtab .any (opsOf Tryz.f6 24) = lw.T24 := by kernel_rfl
theorem lw.bits24 : waitsOk lw.T24.2 lw.B24 = true := by kernel_rfl
end
end Go.Proofs.YtkomgmgpgnjooaaGreat.PFnExactShownIds
