/-
  Opening what came in: what the reading of an argument (DataW.trod) tells, kind by kind, in the words of the print (Kd): numbers, bools, strings, slices, structs; and that the arguments read behind a call that only made memory as they did before it. No condition.
-/
import Derived.Test.YtkomgmgpgnjooaaGreatWWords
import Derived.WideKeyArgs
import Derived.ChangeArms
import Derived.DataReads
import Derived.Below
import Derived.RowKit
namespace Go.Proofs.YtkomgmgpgnjooaaGreatOpen
open Go Go.RowKit Go.Proofs.YtkomgmgpgnjooaaGreatW.PrintWords
variable {P : Program}

/-- A value of type t that is read as data is of kind k, and B holds of what it is. -/
def Opens {α : Type} (P : Program) (t : TypeId) (k : Kd α) (B : α → Prop) : Prop :=
  ∀ (H : Type) (enc : TypeId × Value → H) (W : World) (n : Nat) (cs : List Value) (x : DataW H × List MemPlace),
    DataW.trod enc P W 0 (fun _ => true) true n t cs = some x → ∃ a, k.K W a cs ∧ B a

theorem opens_int {t : TypeId} {k : IntKind} (ht : P.underlying t = some (.int k)) : Opens P t (Kd.int k) (fun n => (Lit.int k n).wf = true) := by
  intro H enc W n cs x h
  obtain ⟨m, rfl, _, hw⟩ := DataW.trod_int ht h
  exact ⟨m, rfl, hw⟩

theorem opens_bool {t : TypeId} (ht : P.underlying t = some .bool) : Opens P t Kd.bool (fun _ => True) := by
  intro H enc W n cs x h
  obtain ⟨m, rfl, _⟩ := DataW.trod_bool ht h
  exact ⟨m, rfl, trivial⟩

theorem opens_string {t : TypeId} (ht : P.underlying t = some .string) : Opens P t Kd.string (fun s => s.size ≤ 9223372036854775807) := by
  intro H enc W n cs x h
  obtain ⟨s, rfl, _, hs⟩ := DataW.trod_string ht h
  exact ⟨s, rfl, by simpa [maxLen] using hs⟩

theorem add_add (ad : Addr) (i j : Nat) : (ad.add i).add j = ad.add (i + j) := by
  unfold Addr.add
  by_cases h1 : i = 0 <;> by_cases h2 : j = 0 <;> simp [h1, h2, Nat.add_assoc]

/-- A choice at each place of a list's length. -/
theorem choose_list {α : Type} {Q : Nat → α → Prop} : ∀ (n : Nat), (∀ i, i < n → ∃ a, Q i a) → ∃ l : List α, l.length = n ∧ ∀ i a, l[i]? = some a → Q i a
  | 0, _ => ⟨[], rfl, fun i a h => by simp at h⟩
  | n + 1, h => by
    obtain ⟨l, hl, hq⟩ := choose_list n (fun i hi => h i (by omega))
    obtain ⟨a, ha⟩ := h n (by omega)
    refine ⟨l ++ [a], by simp [hl], fun i b hb => ?_⟩
    by_cases hi : i < n
    · rw [List.getElem?_append_left (by omega)] at hb
      exact hq i b hb
    · rw [List.getElem?_append_right (by omega), hl] at hb
      by_cases h0 : i = n
      · subst h0
        simp at hb
        subst hb
        exact ha
      · have : 0 < i - n := by omega
        obtain ⟨m, hm⟩ : ∃ m, i - n = m + 1 := ⟨i - n - 1, by omega⟩
        rw [hm] at hb
        simp at hb

theorem opens_slice {α : Type} {t e : TypeId} {k : Kd α} {B : α → Prop} (ht : P.underlying t = some (.slice e)) (hk : Opens P e k B) (hs : P.cellsOf e = k.sz) (eN : Nat) :
    Opens P t (Kd.slice eN k) (fun l => l.length ≤ 9223372036854775807 ∧ ∀ x ∈ l, B x) := by
  intro H enc W n cs x h
  rcases DataW.trod_slice ht h with ⟨rfl, _⟩ | ⟨a, len, cap, elems, rest, m, _, rfl, _, _, hlc, hcm, hel, hat, _⟩
  · refine ⟨[], ⟨none, 0, rfl, Nat.le_refl _, rfl, by simp, fun h0 => absurd h0 (by simp)⟩, by simp, fun y hy => by simp at hy⟩
  · have one : ∀ i, i < len → ∃ p : α × List Value, k.K W p.1 p.2 ∧ B p.1 ∧ W.cells? 0 (a.add (i * P.cellsOf e)) (P.cellsOf e) = some p.2 := by
      intro i hi
      have h1 := hat i hi
      rw [List.getElem?_eq_getElem (by omega)] at h1
      obtain ⟨c, hc, htr⟩ := Option.bind_eq_some_iff.1 h1
      obtain ⟨b, hb, hB⟩ := hk H enc W m c _ htr
      exact ⟨(b, c), hb, hB, hc⟩
    obtain ⟨l, hl, hq⟩ := choose_list len one
    unfold maxLen at hcm
    refine ⟨l.map (·.1), ⟨some a, cap, by simp [hl], by simpa [hl] using hlc, rfl, by simp [hl]; omega, fun _ => ⟨a, rfl, fun j p hp => ?_⟩⟩, by simp [hl]; omega, fun y hy => ?_⟩
    · rw [List.getElem?_map] at hp
      obtain ⟨q, hq1, rfl⟩ := Option.map_eq_some_iff.1 hp
      obtain ⟨hK, _, hc⟩ := hq j q hq1
      refine ⟨q.2, k.K_len hK, hK, fun i u hu => ?_⟩
      obtain ⟨_, hlen, hcell⟩ := World.cells?_some hc
      have hi : i < P.cellsOf e := by
        have := (List.getElem?_eq_some_iff.1 hu).1
        omega
      have := hcell i hi
      rw [add_add, hu, hs] at this
      exact this
    · obtain ⟨q, hq1, rfl⟩ := List.mem_map.1 hy
      obtain ⟨j, hj, rfl⟩ := List.getElem_of_mem hq1
      exact (hq j _ (List.getElem?_eq_getElem hj)).2.1

/-- The fields from place i on, the cells from off on. -/
def OpensFs {α : Type} (P : Program) (fs : List Field) (off : Nat) (k : Kd α) (B : α → Prop) : Prop :=
  ∀ (H : Type) (enc : TypeId × Value → H) (W : World) (n : Nat) (cs : List Value), cs.length = off + k.sz →
    (∀ f ∈ fs, ∃ x, DataW.trod enc P W 0 (fun _ => true) true n f.type ((cs.drop f.offset).take (P.cellsOf f.type)) = some x) → ∃ a, k.K W a (cs.drop off) ∧ B a

theorem opensFs_one {α : Type} {f : Field} {off : Nat} {k : Kd α} {B : α → Prop} (hk : Opens P f.type k B) (ho : f.offset = off) (hs : P.cellsOf f.type = k.sz) : OpensFs P [f] off k B := by
  intro H enc W n cs hl h
  obtain ⟨x, hx⟩ := h f (by simp)
  rw [ho, hs, List.take_of_length_le (by simp; omega)] at hx
  exact hk H enc W n _ x hx

theorem opensFs_cons {α β : Type} {f : Field} {fs : List Field} {off : Nat} {k : Kd α} {B : α → Prop} {k' : Kd β} {B' : β → Prop} (hk : Opens P f.type k B) (ho : f.offset = off) (hs : P.cellsOf f.type = k.sz)
    (hr : OpensFs P fs (off + k.sz) k' B') : OpensFs P (f :: fs) off (Kd.pair k k') (fun x => B x.1 ∧ B' x.2) := by
  intro H enc W n cs hl h
  obtain ⟨x, hx⟩ := h f (by simp)
  have hl' : cs.length = off + (k.sz + k'.sz) := hl
  rw [ho, hs] at hx
  obtain ⟨a, ha, hB⟩ := hk H enc W n _ x hx
  obtain ⟨b, hb, hB'⟩ := hr H enc W n cs (by omega) (fun g hg => h g (List.mem_cons_of_mem _ hg))
  refine ⟨(a, b), ⟨_, _, ?_, ha, hb⟩, hB, hB'⟩
  rw [← List.drop_drop, List.take_append_drop]

theorem opens_struct {α β : Type} {t : TypeId} {fs : Array Field} {k : Kd α} {B : α → Prop} (ht : P.underlying t = some (.struct fs)) (hk : OpensFs P fs.toList 0 k B) (hs : P.cellsOf t = k.sz)
    (f : β → α) (g : α → β) (hg : ∀ a, f (g a) = a) : Opens P t (Kd.iso k f) (fun x => B (f x)) := by
  intro H enc W n cs x h
  obtain ⟨xs, m, _, _, hlen, hxl, hat⟩ := DataW.trod_struct ht h
  obtain ⟨a, ha, hB⟩ := hk H enc W m cs (by omega) (fun fl hf => by
    obtain ⟨i, hi, rfl⟩ := List.getElem_of_mem hf
    have hi' : i < fs.size := by simpa using hi
    have := hat i fs[i] (by simp [hi'])
    rw [List.getElem?_eq_getElem (by omega)] at this
    exact ⟨_, by simpa using this⟩)
  refine ⟨g a, ?_, ?_⟩
  · show k.K W (f (g a)) cs
    rw [hg]
    simpa using ha
  · show B (f (g a))
    rw [hg]
    exact hB

theorem agg_of {t : TypeId} {fs : Array Field} {w : World} {r : Reach} {b : Nat} {v : Value} (ht : P.underlying t = some (.struct fs)) (h : Value.okWide P w r b t v) : ∃ cs, v = .agg cs := by
  unfold Value.okWide at h
  rw [ht] at h
  obtain ⟨cs, h, _⟩ := h
  exact ⟨cs, h⟩

theorem slice_of {α : Type} {t e eN : Nat} {k : Kd α} {w W : World} {r : Reach} {b : Nat} {v : Value} {l : List α} (ht : P.underlying t = some (.slice e)) (h : Value.okWide P w r b t v) (hK : (Kd.slice eN k).K W l v.cells.toList) :
    ∃ A c, v = .slice A l.length c ∧ l.length ≤ c ∧ k.C W A l.length l := by
  obtain ⟨a, n, c, rfl⟩ := WideShapes.okWide_slice ht h
  obtain ⟨A, c', he, hl, hC⟩ := hK
  simp only [Value.cells, List.cons.injEq, Value.slice.injEq, and_true] at he
  obtain ⟨rfl, rfl, rfl⟩ := he
  exact ⟨_, _, rfl, hl, hC⟩

theorem string_of {t : TypeId} {w : World} {r : Reach} {b : Nat} {v : Value} {s : ByteArray} (ht : P.underlying t = some .string) (h : Value.okWide P w r b t v) (hK : v.cells.toList = [.string s]) : v = .string s := by
  unfold Value.okWide at h
  rw [ht] at h
  simp only [Cell.okWide, ht] at h
  unfold Cell.ok at h
  rw [ht] at h
  cases v <;> simp_all [Value.cells]

/-- The arguments read behind a call that only made memory as they did before it. -/
theorem args_stay {H : Type} {enc : TypeId × Value → H} (hl : laidOutB P = true) {W W' : World} (hb : Below W.heap.size W W') :
    ∀ {ts : List TypeId} {vs : List Value} {ds : List (DataW H)} {ps : List MemPlace}, (∀ t ∈ ts, P.readableRec t = true ∧ t < P.types.size) → (∀ p ∈ ps, p.block < W.heap.size) →
      DataW.TrodAll enc P W 0 (fun _ => true) true ts vs ds ps → DataW.TrodAll enc P W' 0 (fun b => decide (b < W.heap.size)) true ts vs ds ps
  | [], [], [], _, _, _, h => h
  | t :: _, _ :: _, _ :: _, _, hT, hlt, ⟨p, q, h1, h2, e⟩ =>
    ⟨p, q, WideElems.Trod_stays hl (hT t (List.mem_cons_self ..)).1 (hT t (List.mem_cons_self ..)).2 h1 (fun x hx => hb.same (hlt x (by rw [e]; exact List.mem_append_left _ hx))) (fun x hx => by
        simpa using hlt x (by rw [e]; exact List.mem_append_left _ hx)),
      args_stay hl hb (fun t ht => hT t (List.mem_cons_of_mem _ ht)) (fun x hx => hlt x (by rw [e]; exact List.mem_append_right _ hx)) h2, e⟩
  | [], [], _ :: _, _, _, _, h => by cases h
  | [], _ :: _, _, _, _, _, h => by cases h
  | _ :: _, [], _, _, _, _, h => by cases h
  | _ :: _, _ :: _, [], _, _, _, h => by cases h
end Go.Proofs.YtkomgmgpgnjooaaGreatOpen
