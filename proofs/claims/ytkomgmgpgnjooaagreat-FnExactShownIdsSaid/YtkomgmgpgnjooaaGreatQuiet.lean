/-
  A region that draws its order, whose operations only read and whose callees only make memory: what the kit's walk of it asks, in short words. No condition.
-/
import Derived.Test.YtkomgmgpgnjooaaGreatWWords
import Derived.Lib.QuietBelow
namespace Go.Proofs.YtkomgmgpgnjooaaGreatQuiet
open Go Go.Sort Go.RowKit Go.Proofs.YtkomgmgpgnjooaaGreatW.PrintWords
/-- A block of the old world, in each world of the class. -/
theorem qb {w : World} {g : Nat} {t : TypeId} {cs : Array Value} (h : w.heap[g]? = some (.cells cs t (0, 0))) (d : Nat) (os : Array Obj) (i : Nat) : (grow (redrawn w d) os).cell? ⟨g, i, none⟩ = cs[i]? :=
  blk_cell (blk_below h (below_regrown w d os)) i
/-- A call that makes memory alone, in each world of the class. -/
theorem qc {P : Program} {f : FuncId} {args : Array Value} {w : World} {v : Value} (h : ∀ W : World, Calls P f args W fun e w' => e = .returned v ∧ Below W.heap.size W w') (d : Nat) (os : Array Obj) :
    Calls P f args (grow (redrawn w d) os) fun e w'' => e = .returned v ∧ ∃ p : Regrown, w'' = grow (redrawn w p.d) p.os := Calls.regrown_of (h _)
/-- .. and a call that leaves the world as it was. -/
theorem qs {P : Program} {f : FuncId} {args : Array Value} {w : World} {v : Value} (h : ∀ W : World, Calls P f args W fun e w' => e = .returned v ∧ W = w') (d : Nat) (os : Array Obj) :
    Calls P f args (grow (redrawn w d) os) fun e w'' => e = .returned v ∧ ∃ p : Regrown, w'' = grow (redrawn w p.d) p.os := qc (fun W => (h W).mono fun _ _ ⟨h1, h2⟩ => ⟨h1, h2 ▸ Below.refl _ _⟩) d os
theorem q4 {w : World} {g : Nat} {t : TypeId} {v0 v1 v2 v3 : Value} (h : w.heap[g]? = some (.cells #[v0, v1, v2, v3] t (0, 0))) :
    (∀ (d : Nat) (os : Array Obj), (grow (redrawn w d) os).cell? ⟨g, 0, none⟩ = some v0) ∧ (∀ (d : Nat) (os : Array Obj), (grow (redrawn w d) os).cell? ⟨g, 1, none⟩ = some v1) ∧
    (∀ (d : Nat) (os : Array Obj), (grow (redrawn w d) os).cell? ⟨g, 2, none⟩ = some v2) ∧ (∀ (d : Nat) (os : Array Obj), (grow (redrawn w d) os).cell? ⟨g, 3, none⟩ = some v3) :=
  ⟨fun d os => qb h d os 0, fun d os => qb h d os 1, fun d os => qb h d os 2, fun d os => qb h d os 3⟩
theorem q2 {w : World} {g : Nat} {t : TypeId} {v0 v1 : Value} (h : w.heap[g]? = some (.cells #[v0, v1] t (0, 0))) :
    (∀ (d : Nat) (os : Array Obj), (grow (redrawn w d) os).cell? ⟨g, 0, none⟩ = some v0) ∧ (∀ (d : Nat) (os : Array Obj), (grow (redrawn w d) os).cell? ⟨g, 1, none⟩ = some v1) :=
  ⟨fun d os => qb h d os 0, fun d os => qb h d os 1⟩
theorem c4 {w : World} {g : Nat} {t : TypeId} {v0 v1 v2 v3 : Value} (h : w.heap[g]? = some (.cells #[v0, v1, v2, v3] t (0, 0))) :
    w.cell? ⟨g, 0, none⟩ = some v0 ∧ w.cell? ⟨g, 1, none⟩ = some v1 ∧ w.cell? ⟨g, 2, none⟩ = some v2 ∧ w.cell? ⟨g, 3, none⟩ = some v3 :=
  ⟨blk_cell h 0, blk_cell h 1, blk_cell h 2, blk_cell h 3⟩
/-- Two blocks laid one after the other. -/
theorem two1 (w : World) (o o' : Obj) : ((w.alloc o).alloc o').heap[w.heap.size]? = some o := blk_alloc (blk_new w o) o'
theorem two2 (w : World) (o o' : Obj) : ((w.alloc o).alloc o').heap[w.heap.size + 1]? = some o' := by have := blk_new (w.alloc o) o'; simpa using this
/-- Blocks of other types are other blocks. -/
theorem typed_ne {w : World} {L M : List Nat} (h : ∀ q, q ∈ L → q ∉ M) {k : Nat} (a : ∃ q, q ∈ L ∧ ∃ cells, w.heap[k]? = some (.cells cells q (0, 0))) (b : ∃ q, q ∈ M ∧ ∃ cells, w.heap[k]? = some (.cells cells q (0, 0))) : False := by
  obtain ⟨q, h1, c, h2⟩ := a
  obtain ⟨q', h3, c', h4⟩ := b
  rw [h2] at h4
  injection h4 with h4
  injection h4 with _ h4 _
  exact h q h1 (h4 ▸ h3)
/-- The walk of such a region, shut: what stands behind is not looked into. -/
structure WQ (P : Program) (ops : Array Oper) (C : World → Prop) (Q : Act → Prop) (l : List Oper) (a : Act) : Prop where
  out : wpQuiet P ops C Q l a
theorem wq_step {P : Program} {ops : Array Oper} {C : World → Prop} {Q : Act → Prop} {a : Act} {o : Oper} {rest : List Oper}
    (h : ∀ K : Act → Prop, (∀ a, WQ P ops C Q rest a → K a) → if Region.wanted o (yielded ops a.tmps) then o.quiet P a C K else K (a.put o.dst undef)) : WQ P ops C Q (o :: rest) a :=
  ⟨wpQuiet_step (fun K hK => h K (fun a ha => hK a ha.out))⟩
theorem wq_nil {P : Program} {ops : Array Oper} {C : World → Prop} {Q : Act → Prop} {a : Act} (h : Q a) : WQ P ops C Q [] a := ⟨wpQuiet_nil h⟩
theorem wq_region {P : Program} {id : Nat} {Q : Exit → Act → World → Prop} {a : Act} {w : World} {l : List Oper} (hm : P.follows .mixedOrders = true) (hB : Region.lexB .any l.toArray = true)
    (h : WQ P l.toArray (fun w' => ∃ p : Regrown, w' = grow (redrawn w p.d) p.os) (fun a' => ∀ w', Below w.heap.size w w' → Q .normal a' w') l a) : (Code.region id l.toArray true).wp P Q a w :=
  wp_region_quiet_below hm hB (by
    have hh : ∀ (l : List Oper) (L : Array Oper) (a : Act), wpQuiet P L (fun w' => ∃ p : Regrown, w' = grow (redrawn w p.d) p.os) (fun a' => ∀ w', Below w.heap.size w w' → Q .normal a' w') l a → wpQuiet P L (fun w' => ∃ p : Regrown, w' = grow (redrawn w p.d) p.os) (fun a' => ∀ w', (∃ p : Regrown, w' = grow (redrawn w p.d) p.os) → Q .normal a' w') l a := by
      intro l L
      induction l with
      | nil => intro a h w' ⟨p, hp⟩; exact h w' (hp ▸ below_regrown w p.d p.os)
      | cons o rest ih =>
        intro a h
        unfold wpQuiet at h ⊢
        split
        · rename_i hc; rw [if_pos hc] at h; obtain ⟨v, h1, h2⟩ := h; exact ⟨v, h1, ih _ h2⟩
        · rename_i hc; rw [if_neg hc] at h; exact ih _ h
    exact hh _ _ _ h.out)
end Go.Proofs.YtkomgmgpgnjooaaGreatQuiet
