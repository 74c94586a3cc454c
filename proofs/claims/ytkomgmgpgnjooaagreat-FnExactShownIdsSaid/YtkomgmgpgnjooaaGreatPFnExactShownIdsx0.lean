
-- Written by a program of this session's (evlaw.py).
import Derived.ArgAppend
import Derived.Below
import Derived.BigQuiet
import Derived.Deep.AppendLies
import Derived.Deep.CutBlock
import Derived.Deep.DeepCutAuto
import Derived.Deep.Draws
import Derived.Deep.LoopGhost
import Derived.Deep.OwnRows
import Derived.Deep.QuietTactic
import Derived.Deep.RegionHeld3
import Derived.KernelRfl
import Derived.Laws.BitsLemmas
import Derived.Laws.BytesArg
import Derived.Laws.IdiomCopy
import Derived.Laws.MakeOwn
import Derived.Laws.OwnMore
import Derived.Laws.Rows
import Derived.Laws.Slices
import Derived.Lib.AppendStr
import Derived.Lib.ConvBytes
import Derived.Maps.AppendAt
import Derived.OrdersHeld
import Derived.OwnWalk
import Derived.RowKit
import Derived.RowKit3
import Derived.Tactics
import Derived.Test.YtkomgmgpgnjooaaGreatGeo
import Derived.Test.YtkomgmgpgnjooaaGreatHand
import Derived.Test.YtkomgmgpgnjooaaGreatMeet
import Derived.Test.YtkomgmgpgnjooaaGreatProg
import Derived.Test.YtkomgmgpgnjooaaGreatQuiet
import Derived.Test.YtkomgmgpgnjooaaGreatRowK
import Derived.Test.YtkomgmgpgnjooaaGreatWApart
import Derived.Test.YtkomgmgpgnjooaaGreatWArr
import Derived.Test.YtkomgmgpgnjooaaGreatWAt
import Derived.Test.YtkomgmgpgnjooaaGreatWEqStruct
import Derived.Test.YtkomgmgpgnjooaaGreatWFoot
import Derived.Test.YtkomgmgpgnjooaaGreatWFootNe
import Derived.Test.YtkomgmgpgnjooaaGreatWFour
import Derived.Test.YtkomgmgpgnjooaaGreatWGuard
import Derived.Test.YtkomgmgpgnjooaaGreatWInv
import Derived.Test.YtkomgmgpgnjooaaGreatWInvWords
import Derived.Test.YtkomgmgpgnjooaaGreatWKept
import Derived.Test.YtkomgmgpgnjooaaGreatWLast
import Derived.Test.YtkomgmgpgnjooaaGreatWMore
import Derived.Test.YtkomgmgpgnjooaaGreatWN
import Derived.Test.YtkomgmgpgnjooaaGreatWNEv
import Derived.Test.YtkomgmgpgnjooaaGreatWQPut
import Derived.Test.YtkomgmgpgnjooaaGreatWRepsOne
import Derived.Test.YtkomgmgpgnjooaaGreatWShare
import Derived.Test.YtkomgmgpgnjooaaGreatWTab
import Derived.Test.YtkomgmgpgnjooaaGreatWWords
import Derived.Test.YtkomgmgpgnjooaaGreatWZeros
import Derived.Test.YtkomgmgpgnjooaaGreatZ
import Derived.WalkKit
import Derived.WideLaws
namespace Go.Proofs.YtkomgmgpgnjooaaGreat.PFnExactShownIds
open Go.RowKit Go.Proofs.YtkomgmgpgnjooaaGreatW.PrintWords Go.Proofs.YtkomgmgpgnjooaaGreatW.PrintLast Go.Proofs.YtkomgmgpgnjooaaGreatW.PrintMore Go.Proofs.YtkomgmgpgnjooaaGreatGeo Go.Proofs.YtkomgmgpgnjooaaGreatHand Go.Proofs.YtkomgmgpgnjooaaGreatMeet Go.Proofs.YtkomgmgpgnjooaaGreatQuiet Go.Proofs.YtkomgmgpgnjooaaGreatZ Go.Proofs.YtkomgmgpgnjooaaGreatZ
attribute [local go_sem] max2_int min2_int max_two min_two max_three min_three max_four min_four   -- for this text's walks alone
set_option linter.unusedVariables false
set_option linter.unusedSimpArgs false
theorem info3 : (Tryz.prog.info? 3).map (fun i => (i.zero, i.size, i.bytes)) = some (some (.int .i64 0), 1, 8) := by kernel_rfl
theorem info59 : (Tryz.prog.info? 59).map (fun i => (i.zero, i.size, i.bytes)) = some (some (.agg #[(.int .i64 0), (.int .i64 0), (.int .i64 0), (.string ⟨#[]⟩), (.slice none 0 0)]), 5, 64) := by kernel_rfl
theorem info77 : (Tryz.prog.info? 77).map (fun i => (i.zero, i.size, i.bytes)) = some (some (.agg #[(.int .i64 0), (.int .i64 0), (.int .i64 0), (.int .i64 0)]), 4, 32) := by kernel_rfl
-- the values' own types
structure S136 where
  f0 : Int
  f1 : Int
def z136 : S136 := ⟨(0 : Int), (0 : Int)⟩
def k136 : Kd S136 := Kd.iso (Kd.pair (Kd.int .i64) (Kd.int .i64)) (fun x : S136 => (x.f0, x.f1))
def rd_T136 (xs : List S136) (i : Int) : S136 := xs.getD i.toNat z136
structure S52 where
  f0 : Int
  f1 : Int
  f2 : Int
  f3 : ByteArray
  f4 : (List S136)
def z52 : S52 := ⟨(0 : Int), (0 : Int), (0 : Int), (⟨#[]⟩ : ByteArray), ([] : List S136)⟩
def k52 : Kd S52 := Kd.iso (Kd.pair (Kd.int .i64) (Kd.pair (Kd.int .i64) (Kd.pair (Kd.int .i64) (Kd.pair Kd.string (Kd.slice 136 k136))))) (fun x : S52 => (x.f0, x.f1, x.f2, x.f3, x.f4))
theorem k52_open {w : World} {x : S52} {cs : List Value} (h : k52.K w x cs) : ∃ A4 c4, cs = [.int .i64 x.f0, .int .i64 x.f1, .int .i64 x.f2, .string x.f3, .slice A4 x.f4.length c4] ∧ x.f4.length ≤ c4 ∧ k136.C w A4 x.f4.length x.f4 := by
  obtain ⟨_, _, rfl, rfl, ⟨_, _, rfl, rfl, ⟨_, _, rfl, rfl, ⟨_, _, rfl, rfl, ⟨A4, c4, rfl, l4, g4⟩⟩⟩⟩⟩ := h
  exact ⟨A4, c4, rfl, l4, g4⟩
def rd_T52 (xs : List S52) (i : Int) : S52 := xs.getD i.toNat z52
theorem at_T52 {w : World} {A : Option Addr} {n : Nat} {xs : List S52} (h : Kd.C k52 w A n xs) (i : Int) (h0 : 0 ≤ i) (h1 : i < n) : ∃ ad A4 c4, A = some ad ∧ w.cell? (ad.add (i.toNat * 5)) = some (.int .i64 (rd_T52 xs i).f0) ∧ w.cell? ⟨(ad.add (i.toNat * 5)).block, (ad.add (i.toNat * 5)).off + 1, none⟩ = some (.int .i64 (rd_T52 xs i).f1) ∧ w.cell? ⟨(ad.add (i.toNat * 5)).block, (ad.add (i.toNat * 5)).off + 2, none⟩ = some (.int .i64 (rd_T52 xs i).f2) ∧ w.cell? ⟨(ad.add (i.toNat * 5)).block, (ad.add (i.toNat * 5)).off + 3, none⟩ = some (.string (rd_T52 xs i).f3) ∧ w.cell? ⟨(ad.add (i.toNat * 5)).block, (ad.add (i.toNat * 5)).off + 4, none⟩ = some (.slice A4 (rd_T52 xs i).f4.length c4) ∧ (rd_T52 xs i).f4.length ≤ c4 ∧ k136.C w A4 (rd_T52 xs i).f4.length (rd_T52 xs i).f4 := by
  obtain ⟨ad, c, e, _, hK, hc0⟩ := Kd.C_get h z52 i h0 h1
  have hc : ∀ j u, c[j]? = some u → w.cell? (ad.add (i.toNat * 5 + j)) = some u := hc0
  obtain ⟨A4, c4, rfl, l4, g4⟩ := k52_open hK
  exact ⟨ad, A4, c4, e, hc 0 _ rfl, by rw [← add_field _ _ 1 (by omega)]; exact hc 1 _ rfl, by rw [← add_field _ _ 2 (by omega)]; exact hc 2 _ rfl, by rw [← add_field _ _ 3 (by omega)]; exact hc 3 _ rfl, by rw [← add_field _ _ 4 (by omega)]; exact hc 4 _ rfl, l4, g4⟩
structure S75 where
  f0 : Int
  f1 : Int
def z75 : S75 := ⟨(0 : Int), (0 : Int)⟩
def k75 : Kd S75 := Kd.iso (Kd.pair (Kd.int .i64) (Kd.int .i64)) (fun x : S75 => (x.f0, x.f1))
theorem k75_heap : Kd.Heap k75 := Kd.heap_iso _ (Kd.heap_pair (Kd.heap_int .i64) (Kd.heap_int .i64))
theorem k75_open {w : World} {x : S75} {cs : List Value} (h : k75.K w x cs) : cs = [.int .i64 x.f0, .int .i64 x.f1] := by
  obtain ⟨_, _, rfl, rfl, rfl⟩ := h
  exact rfl
theorem k75_openM {w : World} {base : Nat} {ok : Nat → Prop} {x : S75} {cs : List Value} (h : k75.M w base ok x cs) : cs = [.int .i64 x.f0, .int .i64 x.f1] := by
  obtain ⟨_, _, rfl, rfl, rfl⟩ := h
  exact rfl
theorem k75_mkM (w : World) (base : Nat) (ok : Nat → Prop) (x : S75)  : k75.M w base ok x [.int .i64 x.f0, .int .i64 x.f1] := ⟨[.int .i64 x.f0], [.int .i64 x.f1], rfl, rfl, rfl⟩
def rd_T75 (xs : List S75) (i : Int) : S75 := xs.getD i.toNat z75
structure S59 where
  f0 : Int
  f1 : Int
  f2 : Int
  f3 : ByteArray
  f4 : (List S75)
def z59 : S59 := ⟨(0 : Int), (0 : Int), (0 : Int), (⟨#[]⟩ : ByteArray), ([] : List S75)⟩
def k59 : Kd S59 := Kd.iso (Kd.pair (Kd.int .i64) (Kd.pair (Kd.int .i64) (Kd.pair (Kd.int .i64) (Kd.pair Kd.string (Kd.slice 75 k75))))) (fun x : S59 => (x.f0, x.f1, x.f2, x.f3, x.f4))
theorem k59_heap : Kd.Heap k59 := Kd.heap_iso _ (Kd.heap_pair (Kd.heap_int .i64) (Kd.heap_pair (Kd.heap_int .i64) (Kd.heap_pair (Kd.heap_int .i64) (Kd.heap_pair Kd.heap_string (Kd.heap_slice 75 k75_heap)))))
theorem k59_open {w : World} {x : S59} {cs : List Value} (h : k59.K w x cs) : ∃ A4 c4, cs = [.int .i64 x.f0, .int .i64 x.f1, .int .i64 x.f2, .string x.f3, .slice A4 x.f4.length c4] ∧ x.f4.length ≤ c4 ∧ k75.C w A4 x.f4.length x.f4 := by
  obtain ⟨_, _, rfl, rfl, ⟨_, _, rfl, rfl, ⟨_, _, rfl, rfl, ⟨_, _, rfl, rfl, ⟨A4, c4, rfl, l4, g4⟩⟩⟩⟩⟩ := h
  exact ⟨A4, c4, rfl, l4, g4⟩
theorem k59_openM {w : World} {base : Nat} {ok : Nat → Prop} {x : S59} {cs : List Value} (h : k59.M w base ok x cs) : ∃ v4, cs = [.int .i64 x.f0, .int .i64 x.f1, .int .i64 x.f2, .string x.f3, v4] ∧ k75.R 75 w base ok v4 x.f4 := by
  obtain ⟨_, _, rfl, rfl, ⟨_, _, rfl, rfl, ⟨_, _, rfl, rfl, ⟨_, _, rfl, rfl, ⟨v4, rfl, g4⟩⟩⟩⟩⟩ := h
  exact ⟨v4, rfl, g4⟩
theorem k59_mk (w : World) (x : S59) {A4 : Option Addr} {c4 : Nat} (l4 : x.f4.length ≤ c4) (g4 : k75.C w A4 x.f4.length x.f4) : k59.K w x [.int .i64 x.f0, .int .i64 x.f1, .int .i64 x.f2, .string x.f3, .slice A4 x.f4.length c4] := ⟨[.int .i64 x.f0], [.int .i64 x.f1, .int .i64 x.f2, .string x.f3, .slice A4 x.f4.length c4], rfl, rfl, ⟨[.int .i64 x.f1], [.int .i64 x.f2, .string x.f3, .slice A4 x.f4.length c4], rfl, rfl, ⟨[.int .i64 x.f2], [.string x.f3, .slice A4 x.f4.length c4], rfl, rfl, ⟨[.string x.f3], [.slice A4 x.f4.length c4], rfl, rfl, ⟨A4, c4, rfl, l4, g4⟩⟩⟩⟩⟩
theorem k59_mkM (w : World) (base : Nat) (ok : Nat → Prop) (x : S59) {v4 : Value} (g4 : k75.R 75 w base ok v4 x.f4) : k59.M w base ok x [.int .i64 x.f0, .int .i64 x.f1, .int .i64 x.f2, .string x.f3, v4] := ⟨[.int .i64 x.f0], [.int .i64 x.f1, .int .i64 x.f2, .string x.f3, v4], rfl, rfl, ⟨[.int .i64 x.f1], [.int .i64 x.f2, .string x.f3, v4], rfl, rfl, ⟨[.int .i64 x.f2], [.string x.f3, v4], rfl, rfl, ⟨[.string x.f3], [v4], rfl, rfl, ⟨v4, rfl, g4⟩⟩⟩⟩⟩
theorem k59_openF {W : World} {ok : Nat → Prop} {x : S59} {cs : List Value} (h : Kd.FK k59 W ok x cs) : ∃ A4 c4, cs = [.int .i64 x.f0, .int .i64 x.f1, .int .i64 x.f2, .string x.f3, .slice A4 x.f4.length c4] ∧ x.f4.length ≤ c4 ∧ Kd.F k75 W ok A4 x.f4.length x.f4 := by
  obtain ⟨A4, c4, rfl, l4, _⟩ := k59_open (Kd.FK_now h)
  exact ⟨A4, c4, rfl, l4, (fun W' hW => by obtain ⟨A4_, c4_, he, l4_, g4_⟩ := k59_open (h W' hW); injection (Option.some.inj (show some (Value.slice A4 x.f4.length c4) = some (Value.slice A4_ x.f4.length c4_) from congrArg (fun l => l[4]?) he)) with ha_ _ _; rw [ha_]; exact g4_)⟩
theorem k59_mkF (W : World) (ok : Nat → Prop) (x : S59) {A4 : Option Addr} {c4 : Nat} (l4 : x.f4.length ≤ c4) (g4 : Kd.F k75 W ok A4 x.f4.length x.f4) : Kd.FK k59 W ok x [.int .i64 x.f0, .int .i64 x.f1, .int .i64 x.f2, .string x.f3, .slice A4 x.f4.length c4] := fun W2 hW => k59_mk W2 x l4 (g4 W2 hW)
def rd_T59 (xs : List S59) (i : Int) : S59 := xs.getD i.toNat z59
theorem at_T59 {w : World} {A : Option Addr} {n : Nat} {xs : List S59} (h : Kd.C k59 w A n xs) (i : Int) (h0 : 0 ≤ i) (h1 : i < n) : ∃ ad A4 c4, A = some ad ∧ w.cell? (ad.add (i.toNat * 5)) = some (.int .i64 (rd_T59 xs i).f0) ∧ w.cell? ⟨(ad.add (i.toNat * 5)).block, (ad.add (i.toNat * 5)).off + 1, none⟩ = some (.int .i64 (rd_T59 xs i).f1) ∧ w.cell? ⟨(ad.add (i.toNat * 5)).block, (ad.add (i.toNat * 5)).off + 2, none⟩ = some (.int .i64 (rd_T59 xs i).f2) ∧ w.cell? ⟨(ad.add (i.toNat * 5)).block, (ad.add (i.toNat * 5)).off + 3, none⟩ = some (.string (rd_T59 xs i).f3) ∧ w.cell? ⟨(ad.add (i.toNat * 5)).block, (ad.add (i.toNat * 5)).off + 4, none⟩ = some (.slice A4 (rd_T59 xs i).f4.length c4) ∧ (rd_T59 xs i).f4.length ≤ c4 ∧ k75.C w A4 (rd_T59 xs i).f4.length (rd_T59 xs i).f4 := by
  obtain ⟨ad, c, e, _, hK, hc0⟩ := Kd.C_get h z59 i h0 h1
  have hc : ∀ j u, c[j]? = some u → w.cell? (ad.add (i.toNat * 5 + j)) = some u := hc0
  obtain ⟨A4, c4, rfl, l4, g4⟩ := k59_open hK
  exact ⟨ad, A4, c4, e, hc 0 _ rfl, by rw [← add_field _ _ 1 (by omega)]; exact hc 1 _ rfl, by rw [← add_field _ _ 2 (by omega)]; exact hc 2 _ rfl, by rw [← add_field _ _ 3 (by omega)]; exact hc 3 _ rfl, by rw [← add_field _ _ 4 (by omega)]; exact hc 4 _ rfl, l4, g4⟩
structure S133 where
  f0 : S75
  f1 : S75
def z133 : S133 := ⟨z75, z75⟩
def k133 : Kd S133 := Kd.iso (Kd.pair k75 k75) (fun x : S133 => (x.f0, x.f1))
def rd_T133 (xs : List S133) (i : Int) : S133 := xs.getD i.toNat z133
structure S77 where
  f0 : Int
  f1 : S75
  f2 : Int
def z77 : S77 := ⟨(0 : Int), z75, (0 : Int)⟩
def k77 : Kd S77 := Kd.iso (Kd.pair (Kd.int .i64) (Kd.pair k75 (Kd.int .i64))) (fun x : S77 => (x.f0, x.f1, x.f2))
theorem k77_open {w : World} {x : S77} {cs : List Value} (h : k77.K w x cs) : cs = [.int .i64 x.f0, .int .i64 x.f1.f0, .int .i64 x.f1.f1, .int .i64 x.f2] := by
  obtain ⟨_, _, rfl, rfl, ⟨_, _, rfl, s1, rfl⟩⟩ := h
  obtain rfl := k75_open s1
  exact rfl
theorem k77_openM {w : World} {base : Nat} {ok : Nat → Prop} {x : S77} {cs : List Value} (h : k77.M w base ok x cs) : cs = [.int .i64 x.f0, .int .i64 x.f1.f0, .int .i64 x.f1.f1, .int .i64 x.f2] := by
  obtain ⟨_, _, rfl, rfl, ⟨_, _, rfl, s1, rfl⟩⟩ := h
  obtain rfl := k75_openM s1
  exact rfl
theorem k77_mkM (w : World) (base : Nat) (ok : Nat → Prop) (x : S77)  : k77.M w base ok x [.int .i64 x.f0, .int .i64 x.f1.f0, .int .i64 x.f1.f1, .int .i64 x.f2] := ⟨[.int .i64 x.f0], [.int .i64 x.f1.f0, .int .i64 x.f1.f1, .int .i64 x.f2], rfl, rfl, ⟨[.int .i64 x.f1.f0, .int .i64 x.f1.f1], [.int .i64 x.f2], rfl, (k75_mkM w base ok x.f1 ), rfl⟩⟩
def rd_T77 (xs : List S77) (i : Int) : S77 := xs.getD i.toNat z77
theorem at_T77 {w : World} {A : Option Addr} {n : Nat} {xs : List S77} (h : Kd.C k77 w A n xs) (i : Int) (h0 : 0 ≤ i) (h1 : i < n) : ∃ ad , A = some ad ∧ w.cell? (ad.add (i.toNat * 4)) = some (.int .i64 (rd_T77 xs i).f0) ∧ w.cell? ⟨(ad.add (i.toNat * 4)).block, (ad.add (i.toNat * 4)).off + 1, none⟩ = some (.int .i64 (rd_T77 xs i).f1.f0) ∧ w.cell? ⟨(ad.add (i.toNat * 4)).block, (ad.add (i.toNat * 4)).off + 2, none⟩ = some (.int .i64 (rd_T77 xs i).f1.f1) ∧ w.cell? ⟨(ad.add (i.toNat * 4)).block, (ad.add (i.toNat * 4)).off + 3, none⟩ = some (.int .i64 (rd_T77 xs i).f2) := by
  obtain ⟨ad, c, e, _, hK, hc0⟩ := Kd.C_get h z77 i h0 h1
  have hc : ∀ j u, c[j]? = some u → w.cell? (ad.add (i.toNat * 4 + j)) = some u := hc0
  obtain rfl := k77_open hK
  exact ⟨ad, e, hc 0 _ rfl, by rw [← add_field _ _ 1 (by omega)]; exact hc 1 _ rfl, by rw [← add_field _ _ 2 (by omega)]; exact hc 2 _ rfl, by rw [← add_field _ _ 3 (by omega)]; exact hc 3 _ rfl⟩
theorem eqA75 (d : Nat) (w : World) (x0 y0 : Int) (x1 y1 : Int) :
    (Op.equalIn (d + 2) 75 (.agg #[.int .i64 x0, .int .i64 x1]) (.agg #[.int .i64 y0, .int .i64 y1])).run Tryz.prog w = .ok (x0 == y0 && (x1 == y1)) w := by
  refine eqA_of Tryz.underlying75 (by kernel_rfl) ?_; refine eqf_cons (by rfl) (by go_simp; rfl) (by go_simp; rfl) (by go_simp) ?_
  exact eqf_last (by rfl) (by go_simp; rfl) (by go_simp; rfl) (by go_simp)
def laws_szPointS.f (l0 : List (S136)) (a1 : Int) : Option (Int) := if (wrap64 (a1 - (l0.length : Int))) < 0 then (some (-1)) else (some (wrap64 (a1 - (l0.length : Int))))
def laws_szFeature.f (a0_0 : Int) (a0_1 : Int) (a0_2 : Int) (a0_3 : ByteArray) (l0_4 : List (S136)) (a1 : Int) : Option (Int) := if (wrap64 (a1 - (a0_3.size : Int))) < 0 then (some (-1)) else ((laws_szPointS.f l0_4 (wrap64 (a1 - (a0_3.size : Int)))).bind fun t102 => (if t102 < 0 then (some (-1)) else (some t102)))
def laws_szFeatureS.l0 : Nat → List (S52) → Int → Int → Option (Int)
 | 0, _, _, _ => none
 | k + 1, x0, x1, x5 => if x5 < (x0.length : Int) then (if 0 ≤ x5 then ((laws_szFeature.f ((rd_T52 x0 x5).f0) ((rd_T52 x0 x5).f1) ((rd_T52 x0 x5).f2) ((rd_T52 x0 x5).f3) ((rd_T52 x0 x5).f4) x1).bind fun t104 => (if t104 < 0 then (some (-1)) else (laws_szFeatureS.l0 k x0 t104 (wrap64 (x5 + 1))))) else (none)) else (some x1)
def laws_szFeatureS.f (k : Nat) (l0 : List (S52)) (a1 : Int) : Option (Int) := if (wrap64 (a1 - (l0.length : Int))) < 0 then (some (-1)) else (laws_szFeatureS.l0 k l0 (wrap64 (a1 - (l0.length : Int))) 0)
def laws_toPoint.f (a0_0 : Int) (a0_1 : Int) : Option (Int × Int) := some (a0_0, a0_1)
def laws_toPointS.l0 : Nat → List (S136) → List (S75) → Int → Option ((List (S75)))
 | 0, _, _, _ => none
 | k + 1, x0, x3, x4 => if x4 < (x0.length : Int) then (if 0 ≤ x4 then ((laws_toPoint.f ((rd_T136 x0 x4).f0) ((rd_T136 x0 x4).f1)).bind fun bt112 => (if x4 < (x3.length : Int) then (laws_toPointS.l0 k x0 (x3.set (x4 : Int).toNat (⟨bt112.1, bt112.2⟩ : S75)) (wrap64 (x4 + 1))) else (none))) else (none)) else (some x3)
def laws_toPointS.f (k : Nat) (l0 : List (S136)) : Option ((List (S75))) := if 0 ≤ (l0.length : Int) then (if ((l0.length : Int) : Int).toNat ≤ 17592186044416 then (laws_toPointS.l0 k l0 (List.replicate ((l0.length : Int) : Int).toNat z75) 0) else (none)) else (none)
def laws_toFeature.f (k : Nat) (a0_0 : Int) (a0_1 : Int) (a0_2 : Int) (a0_3 : ByteArray) (l0_4 : List (S136)) : Option (Int × Int × Int × ByteArray × (List (S75))) := (laws_toPointS.f k l0_4).bind fun t118 => (some (a0_0, a0_1, a0_2, a0_3, t118))
def laws_toFeatureS.l0 : Nat → List (S52) → List (S59) → Int → Option ((List (S59)))
 | 0, _, _, _ => none
 | k + 1, x0, x3, x4 => if x4 < (x0.length : Int) then (if 0 ≤ x4 then ((laws_toFeature.f k ((rd_T52 x0 x4).f0) ((rd_T52 x0 x4).f1) ((rd_T52 x0 x4).f2) ((rd_T52 x0 x4).f3) ((rd_T52 x0 x4).f4)).bind fun bt125 => (if x4 < (x3.length : Int) then (laws_toFeatureS.l0 k x0 (x3.set (x4 : Int).toNat (⟨bt125.1, bt125.2.1, bt125.2.2.1, bt125.2.2.2.1, bt125.2.2.2.2⟩ : S59)) (wrap64 (x4 + 1))) else (none))) else (none)) else (some x3)
def laws_toFeatureS.f (k : Nat) (l0 : List (S52)) : Option ((List (S59))) := if 0 ≤ (l0.length : Int) then (if ((l0.length : Int) : Int).toNat ≤ 4398046511104 then (laws_toFeatureS.l0 k l0 (List.replicate ((l0.length : Int) : Int).toNat z59) 0) else (none)) else (none)
def laws_eqPoint.f (a0_0 : Int) (a0_1 : Int) (a1_0 : Int) (a1_1 : Int) : Option (Bool) := if a0_0 = a1_0 then (if a0_1 = a1_1 then (some true) else (some false)) else (some false)
def laws_eqPointS.l0 : Nat → List (S75) → List (S75) → Int → Option (Bool)
 | 0, _, _, _ => none
 | k + 1, x0, x1, x5 => if x5 < (x0.length : Int) then (if 0 ≤ x5 then (if x5 < (x1.length : Int) then ((laws_eqPoint.f ((rd_T75 x0 x5).f0) ((rd_T75 x0 x5).f1) ((rd_T75 x1 x5).f0) ((rd_T75 x1 x5).f1)).bind fun t137 => (if t137 = true then (laws_eqPointS.l0 k x0 x1 (wrap64 (x5 + 1))) else (some false))) else (none)) else (none)) else (some true)
def laws_eqPointS.f (k : Nat) (l0 : List (S75)) (l1 : List (S75)) : Option (Bool) := if (l0.length : Int) = (l1.length : Int) then (laws_eqPointS.l0 k l0 l1 0) else (some false)
def laws_eqFeature.f (k : Nat) (a0_0 : Int) (a0_1 : Int) (a0_2 : Int) (a0_3 : ByteArray) (l0_4 : List (S75)) (a1_0 : Int) (a1_1 : Int) (a1_2 : Int) (a1_3 : ByteArray) (l1_4 : List (S75)) : Option (Bool) := if a0_0 = a1_0 then (if a0_1 = a1_1 then (if a0_2 = a1_2 then (if a0_3.toList = a1_3.toList then ((laws_eqPointS.f k l0_4 l1_4).bind fun t140 => (if t140 = true then (some true) else (some false))) else (some false)) else (some false)) else (some false)) else (some false)
def laws_eqFeatureS.l0 : Nat → List (S59) → List (S59) → Int → Option (Bool)
 | 0, _, _, _ => none
 | k + 1, x0, x1, x5 => if x5 < (x0.length : Int) then (if 0 ≤ x5 then (if x5 < (x1.length : Int) then ((laws_eqFeature.f k ((rd_T59 x0 x5).f0) ((rd_T59 x0 x5).f1) ((rd_T59 x0 x5).f2) ((rd_T59 x0 x5).f3) ((rd_T59 x0 x5).f4) ((rd_T59 x1 x5).f0) ((rd_T59 x1 x5).f1) ((rd_T59 x1 x5).f2) ((rd_T59 x1 x5).f3) ((rd_T59 x1 x5).f4)).bind fun t143 => (if t143 = true then (laws_eqFeatureS.l0 k x0 x1 (wrap64 (x5 + 1))) else (some false))) else (none)) else (none)) else (some true)
def laws_eqFeatureS.f (k : Nat) (l0 : List (S59)) (l1 : List (S59)) : Option (Bool) := if (l0.length : Int) = (l1.length : Int) then (laws_eqFeatureS.l0 k l0 l1 0) else (some false)
def laws_eqIntS.l0 : Nat → List Int → List Int → Int → Option (Bool)
 | 0, _, _, _ => none
 | k + 1, x0, x1, x5 => if x5 < (x0.length : Int) then (if 0 ≤ x5 then (if x5 < (x1.length : Int) then (if (rd x0 x5) = (rd x1 x5) then (laws_eqIntS.l0 k x0 x1 (wrap64 (x5 + 1))) else (some false)) else (none)) else (none)) else (some true)
def laws_eqIntS.f (k : Nat) (l0 : List Int) (l1 : List Int) : Option (Bool) := if (l0.length : Int) = (l1.length : Int) then (laws_eqIntS.l0 k l0 l1 0) else (some false)
def laws_markText.l0 : Nat → Int → ByteArray → Option (ByteArray)
 | 0, _, _ => none
 | k + 1, x0, x3 => if x0 > 0 then ((some (([(wrap64 (48 + (Int.tmod x0 10))) % 256] : List Int) : List Int)).bind fun y146 => (if (strOfNums y146).size + x3.size ≤ 9223372036854775807 then (laws_markText.l0 k (wrap64 (Int.tdiv x0 10)) ((strOfNums y146) ++ x3)) else (none))) else (if 1 + x3.size ≤ 9223372036854775807 then (some ((⟨#[109]⟩ : ByteArray) ++ x3)) else (none))
def laws_markText.f (k : Nat) (a0 : Int) : Option (ByteArray) := if a0 ≤ 0 then (some (⟨#[109, 48]⟩ : ByteArray)) else (laws_markText.l0 k a0 (⟨#[]⟩ : ByteArray))
/-- A block of so many cells. -/
def Blk (w : World) (g m t : Nat) : Prop := ∃ c : Array Value, w.heap[g]? = some (.cells c t (0, 0)) ∧ c.size = m
theorem Blk.cell {w : World} {g m t : Nat} (h : Blk w g m t) {j : Nat} (hj : j < m) : ∃ v, w.cell? ⟨g, j, none⟩ = some v := by
  obtain ⟨c, h, rfl⟩ := h
  exact ⟨c[j], (blk_cell h j).trans (Array.getElem?_eq_getElem hj)⟩
theorem Blk.frozen {w : World} {g m t : Nat} (h : Blk w g m t) (j : Nat) : w.frozen? ⟨g, j, none⟩ = false := by
  obtain ⟨c, h, rfl⟩ := h
  exact blk_frozen h j
theorem Blk.set {w : World} {g m t : Nat} (h : Blk w g m t) (j : Nat) (u : Value) : Blk (w.setCell ⟨g, j, none⟩ u) g m t := by
  obtain ⟨c, h, rfl⟩ := h
  exact ⟨_, blk_set h j u, by simp⟩
theorem Blk.far {w : World} {g g' m t : Nat} (h : Blk w g m t) (hn : g ≠ g') (j : Nat) (u : Value) : Blk (w.setCell ⟨g', j, none⟩ u) g m t := by
  obtain ⟨c, h, rfl⟩ := h
  exact ⟨c, blk_far h hn u, rfl⟩
theorem grown_set {w W : World} {g : Nat} (h : w.grownBy W (some g)) (j : Nat) (u : Value) : w.grownBy (W.setCell ⟨g, j, none⟩ u) (some g) := by
  refine ⟨h.os, h.tape, h.output, ?_, ?_⟩
  · have := h.size; rw [World.size_setCell]; exact this
  · intro i hi hne; rw [Below.heap_setCell W ⟨g, j, none⟩ u i (fun e => hne (by rw [e]))]
    exact h.block i hi hne
/-- A feature's row, as far as marking it asks: so many cells, and where each feature's points lie. -/
def OutC (w : World) (g m n : Nat) (vs : Nat → Value) : Prop := ∃ c : Array Value, w.heap[g]? = some (.cells c 59 (0, 0)) ∧ c.size = m ∧ ∀ j, j < n → c[j * 5 + 4]? = some (vs j)
theorem OutC.blk {w : World} {g m n : Nat} {vs : Nat → Value} (h : OutC w g m n vs) : Blk w g m 59 := by
  obtain ⟨c, h, h', _⟩ := h; exact ⟨c, h, h'⟩
theorem OutC.at_ {w : World} {g m n : Nat} {vs : Nat → Value} (h : OutC w g m n vs) {j : Nat} (hj : j < n) : w.cell? ⟨g, j * 5 + 4, none⟩ = some (vs j) := by
  obtain ⟨c, h, _, h'⟩ := h; exact (blk_cell h _).trans (h' j hj)
theorem OutC.set {w : World} {g m n : Nat} {vs : Nat → Value} (h : OutC w g m n vs) (i d : Nat) (hd : d < 4) (u : Value) : OutC (w.setCell ⟨g, i * 5 + d, none⟩ u) g m n vs := by
  obtain ⟨c, h, h1, h2⟩ := h
  exact ⟨_, blk_set h _ u, by simpa using h1, fun j hj => by rw [Array.getElem?_setIfInBounds_ne (by omega)]; exact h2 j hj⟩
theorem OutC.below {w W : World} {g m n : Nat} {vs : Nat → Value} (h : OutC w g m n vs) (hb : Below w.heap.size w W) : OutC W g m n vs := by
  obtain ⟨c, h, h1, h2⟩ := h; exact ⟨c, blk_below h hb, h1, h2⟩
theorem OutC.grown {w W : World} {g m n : Nat} {vs : Nat → Value} (h : OutC w g m n vs) {g' : Nat} (hg : w.grownBy W (some g')) (hn : g ≠ g') : OutC W g m n vs := by
  obtain ⟨c, h, h1, h2⟩ := h; exact ⟨c, blk_grown h hg (fun e => hn (by injection e)), h1, h2⟩
/-- A row of points that is the call's own: nothing, or a block with room. -/
def Nst (w : World) (P : Nat → Prop) (base : Nat) (v : Value) (n : Nat) : Prop := (v = .slice none 0 0 ∧ n = 0) ∨ ∃ g cap m, v = .slice (some ⟨g, 0, none⟩) n cap ∧ P g ∧ base ≤ g ∧ 2 * n ≤ m ∧ Blk w g m 75
theorem Nst.move {w W : World} {P : Nat → Prop} {base n : Nat} {v : Value} (h : Nst w P base v n) (hm : ∀ g m, P g → Blk w g m 75 → Blk W g m 75) : Nst W P base v n := by
  rcases h with h | ⟨g, cap, m, h1, h2, h3, h4, h5⟩
  · exact .inl h
  · exact .inr ⟨g, cap, m, h1, h2, h3, h4, hm g m h2 h5⟩
theorem Blk.below {w W : World} {g m t : Nat} (h : Blk w g m t) (hb : Below w.heap.size w W) : Blk W g m t := by
  obtain ⟨c, h, rfl⟩ := h; exact ⟨c, blk_below h hb, rfl⟩
theorem Blk.grown {w W : World} {g g' m m' t : Nat} (h : Blk w g m t) (hg : w.grownBy W (some g')) (h0 : Blk w g' m' t) (h1 : Blk W g' m' t) : Blk W g m t := by
  by_cases e : g = g'
  · subst e; obtain ⟨c, h, rfl⟩ := h; obtain ⟨c', h', rfl⟩ := h0; rw [h] at h'; injection h' with h'; injection h' with h'; subst h'; exact h1
  · obtain ⟨c, h, rfl⟩ := h
    exact ⟨c, blk_grown h hg (fun q => e (by injection q)), rfl⟩
def mfT : List S59 → Nat
  | [] => 0
  | x :: r => 4 + 2 * x.f4.length + mfT r
theorem mfT_app (a b : List S59) : mfT (a ++ b) = mfT a + mfT b := by
  induction a with
  | nil => simp [mfT]
  | cons x a ih => simp [mfT, ih]; omega
theorem mfT_take (l : List S59) (i : Nat) (h : i < l.length) : mfT (l.take (i + 1)) = mfT (l.take i) + (4 + 2 * (l.getD i z59).f4.length) := by
  rw [List.take_succ_eq_append_getElem h, mfT_app, List.getD_eq_getElem?_getD, List.getElem?_eq_getElem h]; simp [mfT]
theorem mfT_le (l : List S59) (i : Nat) : mfT (l.take i) ≤ mfT l := by
  have := mfT_app (l.take i) (l.drop i); rw [List.take_append_drop] at this; omega
theorem nst_of {w : World} {base : Nat} {P : Nat → Prop} {v : Value} {xs : List S75} (h : Kd.R k75 75 w base P v xs) : Nst w P base v xs.length := by
  obtain ⟨hok, inner, ho, _⟩ := h; obtain ⟨hl, ho⟩ := ho; have hs : k75.sz = 2 := rfl; rw [hs] at hl ho
  rcases ho with ⟨rfl, h0⟩ | ⟨g, cap, cur, rfl, h1, h2, h3, h4, h5, h6⟩
  · exact .inl ⟨rfl, h0⟩
  · refine .inr ⟨g, cap, cur.size, rfl, hok g rfl, h1, by omega, cur, h2, rfl⟩
/-- What is known of a row of features that is the call's own. -/
theorem out_of {w : World} {base : Nat} {P : Nat → Prop} {u : Value} {l : List S59} (h : Kd.R k59 59 w base P u l) (hl : 0 < l.length) :
    ∃ g cap m, ∃ vs : Nat → Value, u = .slice (some ⟨g, 0, none⟩) l.length cap ∧ P g ∧ base ≤ g ∧ l.length * 5 ≤ m ∧ OutC w g m l.length vs ∧ ∀ j, j < l.length → Nst w (fun k => P k ∧ k ≠ g) base (vs j) (l.getD j z59).f4.length := by
  obtain ⟨g, cap, rfl, h1, h2, cells, h3⟩ := Kd.R_form h hl; have hok := h.1 g rfl; have hc : ∀ j : Nat, j < l.length → ∃ v, cells[j * 5 + 4]? = some v ∧ Nst w (fun k => P k ∧ k ≠ g) base v (l.getD j z59).f4.length := by
    intro j hj; obtain ⟨c, hcl, hM, hcc, _⟩ := Kd.R_elem h z59 (j : Int) (by omega) (by omega); obtain ⟨v4, rfl, g4⟩ := k59_openM hM; have := hcc 4 v4 rfl; rw [blk_cell h3] at this; rw [Int.toNat_natCast] at this g4
    exact ⟨v4, this, nst_of g4⟩
  have hm : l.length * 5 ≤ cells.size := by
    obtain ⟨v, hv, _⟩ := hc (l.length - 1) (by omega); have := (Array.getElem?_eq_some_iff.1 hv).1
    omega
  refine ⟨g, cap, cells.size, fun j => (cells[j * 5 + 4]?).getD undef, rfl, hok, h1, hm, ⟨cells, h3, rfl, fun j hj => ?_⟩, fun j hj => ?_⟩
  · obtain ⟨v, hv, _⟩ := hc j hj; simp only [hv]; rfl
  · obtain ⟨v, hv, hn⟩ := hc j hj; simp only [hv]; exact hn
theorem markText_l (n : Nat) : ∀ (x : Int) (b : ByteArray), 0 ≤ x → x ≤ 9223372036854775807 → x < (10 : Int) ^ n → b.size + n ≤ 1000 → ∃ r, Ev (fun k => laws_markText.l0 k x b) r := by
  induction n with
  | zero =>
    intro x b h0 hm h1 h2; have hx : x = 0 := by simp at h1; omega
    subst hx; refine ⟨(⟨#[109]⟩ : ByteArray) ++ b, Ev.step (f := fun _ => some ((⟨#[109]⟩ : ByteArray) ++ b)) (fun k => ?_) (Ev.now _)⟩; simp only [laws_markText.l0]; rw [if_neg (by omega), if_pos (by omega)]
  | succ n ih =>
    intro x b h0 hm h1 h2
    by_cases hx : x > 0
    · have hd : Int.tdiv x 10 = x / 10 := Int.tdiv_eq_ediv_of_nonneg h0; have hlt : x / 10 < (10 : Int) ^ n := by
        rw [Int.pow_succ] at h1
        omega
      have hs : (strOfNums [(wrap64 (48 + (Int.tmod x 10))) % 256]).size = 1 := by rw [strOfNums_size]; rfl
      have hw : wrap64 (x / 10) = x / 10 := by unfold wrap64; omega
      obtain ⟨r, hr⟩ := ih (x / 10) (strOfNums [(wrap64 (48 + (Int.tmod x 10))) % 256] ++ b) (by omega) (by omega) hlt (by rw [ByteArray.size_append, hs]; omega); refine ⟨r, Ev.step (fun k => ?_) hr⟩; simp only [laws_markText.l0, Option.bind_some]; rw [if_pos hx, if_pos (by rw [hs]; omega), hd, hw]
    · have hx0 : x = 0 := by omega
      subst hx0; refine ⟨(⟨#[109]⟩ : ByteArray) ++ b, Ev.step (f := fun _ => some ((⟨#[109]⟩ : ByteArray) ++ b)) (fun k => ?_) (Ev.now _)⟩; simp only [laws_markText.l0]; rw [if_neg (by omega), if_pos (by omega)]
theorem mfT_ge (l : List S59) : l.length ≤ mfT l := by
  induction l with
  | nil => simp [mfT]
  | cons x l ih => simp [mfT]; omega
theorem mf_pred {n i k : Nat} (h : n - i ≤ k) (h' : i < n) : ∃ k1, k = k1 + 1 ∧ n - (i + 1) ≤ k1 := ⟨k - 1, by omega, by omega⟩
theorem mf_w {x : Int} (h0 : 0 ≤ x) (h1 : x ≤ 9223372036854775806) : wrap64 (x + 1) = x + 1 := by unfold wrap64; omega
theorem mf_ar {a1 : Int} {T M R len : Nat} (h0 : 0 ≤ a1) (hb : a1 + (M : Int) < 4611686018427387904) (ht : R = T + (4 + 2 * len)) (hle : R ≤ M) :
    0 ≤ a1 + (T : Int) ∧ a1 + (T : Int) + 4 ≤ 4611686018427387904 ∧ a1 + (T : Int) + 1 + 1 + 1 + 1 + 2 * (len : Int) = a1 + (R : Int) ∧ a1 + (T : Int) + 1 + 1 + 1 + 1 + 2 * (len : Int) < 4611686018427387904 := by omega
theorem mf_ar4 {x : Int} (h0 : 0 ≤ x) (h : x + 4 ≤ 4611686018427387904) : (0 ≤ x + 1 ∧ 0 ≤ x + 1 + 1 ∧ 0 ≤ x + 1 + 1 + 1 ∧ 0 ≤ x + 1 + 1 + 1 + 1) ∧ (x + 1 ≤ 4611686018427387904 ∧ x + 1 + 1 ≤ 4611686018427387904 ∧ x + 1 + 1 + 1 ≤ 4611686018427387904 ∧ x + 1 + 1 + 1 + 1 ≤ 4611686018427387904) ∧ wrap64 (x + 1) = x + 1 ∧ wrap64 (x + 1 + 1) = x + 1 + 1 ∧ wrap64 (x + 1 + 1 + 1) = x + 1 + 1 + 1 ∧ wrap64 (x + 1 + 1 + 1 + 1) = x + 1 + 1 + 1 + 1 := by
  refine ⟨by omega, by omega, mf_w (by omega) (by omega), mf_w (by omega) (by omega), mf_w (by omega) (by omega), mf_w (by omega) (by omega)⟩
theorem mf_ar5 {i n M : Nat} {a1 : Int} (h0 : 0 ≤ a1) (hb : a1 + (M : Int) < 4611686018427387904) (hge : n ≤ M) (h : i < n) : wrap64 ((i : Int) + 1) = ((i + 1 : Nat) : Int) := by unfold wrap64; omega
def laws_markFeatureS.f (l0 : List S59) (a1 : Int) : Option (Int) := if 0 ≤ a1 ∧ a1 + (mfT l0 : Int) < 4611686018427387904 then some (a1 + (mfT l0 : Int)) else none
def laws_markIntS.l0 : Nat → List Int → Int → Int → Option (Int × List Int)
 | 0, _, _, _ => none
 | k + 1, x0, x1, x5 => if x5 < (x0.length : Int) then (if 0 ≤ x5 then (laws_markIntS.l0 k (x0.set (x5 : Int).toNat x1) (wrap64 (x1 + 1)) (wrap64 (x5 + 1))) else (none)) else (some (x1, x0))
def laws_markIntS.f (k : Nat) (l0 : List Int) (a1 : Int) : Option (Int × List Int) := laws_markIntS.l0 k l0 a1 0
def laws_heldIntS.l0 : Nat → List Int → Int → Int → Option (Int)
 | 0, _, _, _ => none
 | k + 1, x0, x1, x5 => if x5 < (x0.length : Int) then (if 0 ≤ x5 then (if (rd x0 x5) = x1 then (laws_heldIntS.l0 k x0 (wrap64 (x1 + 1)) (wrap64 (x5 + 1))) else (some (-1))) else (none)) else (some x1)
def laws_heldIntS.f (k : Nat) (l0 : List Int) (a1 : Int) : Option (Int) := laws_heldIntS.l0 k l0 a1 0
def spec_l14Has.l0 : Nat → List Int → Int → Int → Option (Bool)
 | 0, _, _, _ => none
 | k + 1, x0, x1, x5 => if x5 < (x0.length : Int) then (if 0 ≤ x5 then (if (rd x0 x5) = x1 then (some true) else (spec_l14Has.l0 k x0 x1 (wrap64 (x5 + 1)))) else (none)) else (some false)
def spec_l14Has.f (k : Nat) (l0 : List Int) (a1 : Int) : Option (Bool) := spec_l14Has.l0 k l0 a1 0
def spec_l1In.f (a0 : Int) (a1 : Int) (a2 : Int) : Option (Bool) := some (inR a0 a1 a2)
def spec_IsPoint.f (a0_0 : Int) (a0_1 : Int) : Option (Bool) := some (isPt a0_0 a0_1)
def spec_IsName.l0 : Nat → ByteArray → Int → Option (Bool)
 | 0, _, _ => none
 | k + 1, x0, x3 => if x3 < (x0.size : Int) then (if 0 ≤ x3 then (if (bt x0 x3) < 97 then (some false) else (if (bt x0 x3) > 122 then (some false) else (spec_IsName.l0 k x0 (wrap64 (x3 + 1))))) else (none)) else ((spec_l1In.f (x0.size : Int) 1 8).bind fun t152 => (some t152))
def spec_IsName.f (k : Nat) (a0 : ByteArray) : Option (Bool) := spec_IsName.l0 k a0 0
def spec_IsSegment.f (a0_0 : Int) (a0_1 : Int) (a0_2 : Int) (a0_3 : Int) : Option (Bool) := some (isSeg a0_0 a0_1 a0_2 a0_3)
def spec_l7Segments.l0 : Nat → List (S75) → List (S133) → Int → Option ((List (S133)))
 | 0, _, _, _ => none
 | k + 1, x0, x3, x4 => if x4 < (x0.length : Int) then (if 0 ≤ x4 then (if (x0.length : Int) = 0 then (none) else (if 0 ≤ (Int.tmod (wrap64 (x4 + 1)) (x0.length : Int)) then (if (Int.tmod (wrap64 (x4 + 1)) (x0.length : Int)) < (x0.length : Int) then (if x3.length < 4398046511104 then (spec_l7Segments.l0 k x0 (x3 ++ [(⟨(⟨(rd_T75 x0 x4).f0, (rd_T75 x0 x4).f1⟩ : S75), (⟨(rd_T75 x0 (Int.tmod (wrap64 (x4 + 1)) (x0.length : Int))).f0, (rd_T75 x0 (Int.tmod (wrap64 (x4 + 1)) (x0.length : Int))).f1⟩ : S75)⟩ : S133)]) (wrap64 (x4 + 1))) else (none)) else (none)) else (none))) else (none)) else (some x3)
def spec_l7Segments.f (k : Nat) (l0 : List (S75)) : Option ((List (S133))) := spec_l7Segments.l0 k l0 (([] : List (S133))) 0
def spec_Min.f (a0 : Int) (a1 : Int) : Option (Int) := some (mn a0 a1)
def spec_Max.f (a0 : Int) (a1 : Int) : Option (Int) := some (mx a0 a1)
def spec_l4Cross.f (a0_0 : Int) (a0_1 : Int) (a1_0 : Int) (a1_1 : Int) (a2_0 : Int) (a2_1 : Int) : Option (Int) := some (crossI a0_0 a0_1 a1_0 a1_1 a2_0 a2_1)
def spec_SideOf.f (a0_0 : Int) (a0_1 : Int) (a1_0 : Int) (a1_1 : Int) (a2_0 : Int) (a2_1 : Int) : Option (Int) := some (sideI a0_0 a0_1 a1_0 a1_1 a2_0 a2_1)
def spec_IsOn.f (a0_0 : Int) (a0_1 : Int) (a0_2 : Int) (a0_3 : Int) (a1_0 : Int) (a1_1 : Int) : Option (Bool) := some (isOnI a0_0 a0_1 a0_2 a0_3 a1_0 a1_1)
attribute [local go_sem high] eqA75
mutual
def spec_l5Shared.l0 : Nat → List (S75) → List (S75) → Int → Int → Int → Int → Int → Int → Int → Int → Int → Option (Int)
 | 0, _, _, _, _, _, _, _, _, _, _, _ => none
 | k + 1, x5, x6, x7, x162000, x162001, x162002, x162003, x163000, x163001, x163002, x163003 => if x7 < 4 then (if x7 < 2 then (if 0 ≤ x7 then (if x7 < (x6.length : Int) then ((spec_IsOn.f x163000 x163001 x163002 x163003 ((rd_T75 x6 x7).f0) ((rd_T75 x6 x7).f1)).bind fun t170 => (if t170 = true then (spec_l5Shared.j1 k x5 x6 x7 true x162000 x162001 x162002 x162003 x163000 x163001 x163002 x163003) else (if x7 ≥ 2 then ((spec_IsOn.f x162000 x162001 x162002 x162003 ((rd_T75 x6 x7).f0) ((rd_T75 x6 x7).f1)).bind fun t172 => (spec_l5Shared.j1 k x5 x6 x7 t172 x162000 x162001 x162002 x162003 x163000 x163001 x163002 x163003)) else (spec_l5Shared.j1 k x5 x6 x7 false x162000 x162001 x162002 x162003 x163000 x163001 x163002 x163003)))) else (none)) else (none)) else (if x7 ≥ 2 then (if 0 ≤ x7 then (if x7 < (x6.length : Int) then ((spec_IsOn.f x162000 x162001 x162002 x162003 ((rd_T75 x6 x7).f0) ((rd_T75 x6 x7).f1)).bind fun t174 => (spec_l5Shared.j1 k x5 x6 x7 t174 x162000 x162001 x162002 x162003 x163000 x163001 x163002 x163003)) else (none)) else (none)) else (spec_l5Shared.j1 k x5 x6 x7 false x162000 x162001 x162002 x162003 x163000 x163001 x163002 x163003))) else (some (x5.length : Int))
def spec_l5Shared.j1 : Nat → List (S75) → List (S75) → Int → Bool → Int → Int → Int → Int → Int → Int → Int → Int → Option (Int)
 | 0, _, _, _, _, _, _, _, _, _, _, _, _ => none
 | k + 1, x5, x6, x7, x8, x162000, x162001, x162002, x162003, x163000, x163001, x163002, x163003 => spec_l5Shared.l1 k x5 x6 x7 x8 0 x162000 x162001 x162002 x162003 x163000 x163001 x163002 x163003
def spec_l5Shared.l1 : Nat → List (S75) → List (S75) → Int → Bool → Int → Int → Int → Int → Int → Int → Int → Int → Int → Option (Int)
 | 0, _, _, _, _, _, _, _, _, _, _, _, _, _ => none
 | k + 1, x5, x6, x7, x8, x9, x162000, x162001, x162002, x162003, x163000, x163001, x163002, x163003 => if x9 < (x5.length : Int) then (if x8 = true then (if 0 ≤ x9 then (if 0 ≤ x7 then (if x7 < (x6.length : Int) then (spec_l5Shared.l1 k x5 x6 x7 (!(((rd_T75 x5 x9).f0) == ((rd_T75 x6 x7).f0)) || (!(((rd_T75 x5 x9).f1) == ((rd_T75 x6 x7).f1)))) (wrap64 (x9 + 1)) x162000 x162001 x162002 x162003 x163000 x163001 x163002 x163003) else (none)) else (none)) else (none)) else (spec_l5Shared.l1 k x5 x6 x7 false (wrap64 (x9 + 1)) x162000 x162001 x162002 x162003 x163000 x163001 x163002 x163003)) else (if x8 = true then (if 0 ≤ x7 then (if x7 < (x6.length : Int) then (if x5.length < 8796093022208 then (spec_l5Shared.l0 k (x5 ++ [(⟨(rd_T75 x6 x7).f0, (rd_T75 x6 x7).f1⟩ : S75)]) x6 (wrap64 (x7 + 1)) x162000 x162001 x162002 x162003 x163000 x163001 x163002 x163003) else (none)) else (none)) else (none)) else (spec_l5Shared.l0 k x5 x6 (wrap64 (x7 + 1)) x162000 x162001 x162002 x162003 x163000 x163001 x163002 x163003))
end
def spec_l5Shared.f (k : Nat) (a0_0 : Int) (a0_1 : Int) (a0_2 : Int) (a0_3 : Int) (a1_0 : Int) (a1_1 : Int) (a1_2 : Int) (a1_3 : Int) : Option (Int) := spec_l5Shared.l0 k (([] : List (S75))) (([(⟨a0_0, a0_1⟩ : S75), (⟨a0_2, a0_3⟩ : S75), (⟨a1_0, a1_1⟩ : S75), (⟨a1_2, a1_3⟩ : S75)] : List (S75))) 0 a0_0 a0_1 a0_2 a0_3 a1_0 a1_1 a1_2 a1_3
theorem on_s (a b c d x y : Int) : spec_IsOn.f a b c d x y = some (isOnI a b c d x y) := rfl
def eqP (p q : S75) : Bool := decide (p.f0 = q.f0) && decide (p.f1 = q.f1)
theorem nep (p q : S75) : (!((p.f0) == (q.f0)) || (!((p.f1) == (q.f1)))) = !eqP p q := by
  unfold eqP
  by_cases h : p.f0 = q.f0 <;> by_cases h' : p.f1 = q.f1 <;> simp [h, h']
theorem rdPt (l : List S75) (i : Nat) (h : i < l.length) : rd_T75 l (i : Int) = l[i] := by
  unfold rd_T75
  rw [Int.toNat_natCast, List.getD_eq_getElem?_getD, List.getElem?_eq_getElem h]
  rfl
theorem w1' (i : Nat) (h : i < 9223372036854775807) : wrap64 ((i : Int) + 1) = ((i + 1 : Nat) : Int) := by unfold wrap64; omega
theorem all_if (x : Bool) (L : List S75) (y : S75) (q : S75 → Bool) : (if x = true then L ++ [y] else L).all q = (L.all q && (!x || q y)) := by cases x <;> simp
theorem len_if (x : Bool) (L : List S75) (y : S75) : (if x = true then L ++ [y] else L).length = L.length + (if x = true then 1 else 0) := by cases x <;> simp
section
variable (a b c d e f g h : Int)
theorem sh_l1 (xs es : List S75) (i : Nat) (hi : i < es.length) (hes : es.length ≤ 4) (hx : xs.length ≤ 4) (m : Nat) : ∀ (j : Nat) (on : Bool), j + m = xs.length → ∀ r,
    Ev (fun k => spec_l5Shared.l0 k (if on && (xs.drop j).all (fun p => !eqP p es[i]) then xs ++ [es[i]] else xs) es ((i + 1 : Nat) : Int) a b c d e f g h) r → Ev (fun k => spec_l5Shared.l1 k xs es (i : Int) on (j : Int) a b c d e f g h) r := by
  induction m with
  | zero =>
    intro j on hj r hr; rw [List.drop_of_length_le (by omega)] at hr; refine Ev.step (fun k => ?_) hr; simp only [spec_l5Shared.l1]; rw [if_neg (by omega)]; simp only [List.all_nil, Bool.and_true]
    cases on
    · simp only [Bool.false_eq_true, if_false, w1' i (by omega)]
    · simp only [if_true]; rw [if_pos (by omega), if_pos (by omega), if_pos (by omega), w1' i (by omega), rdPt es i hi]
  | succ m ih =>
    intro j on hj r hr; have hj1 : j < xs.length := by omega
    have hd := List.drop_eq_getElem_cons hj1; rw [hd, List.all_cons] at hr; refine Ev.step (fun k => ?_) (ih (j + 1) (on && !eqP xs[j] es[i]) (by omega) r (by rw [Bool.and_assoc]; exact hr)); simp only [spec_l5Shared.l1]; rw [if_pos (by omega)]
    cases on
    · simp only [Bool.false_eq_true, if_false, w1' j (by omega), Bool.false_and]
    · simp only [if_true]; rw [if_pos (by omega), if_pos (by omega), if_pos (by omega), w1' j (by omega), rdPt es i hi, rdPt xs j hj1, nep, Bool.true_and]
/-- Which segment an end is held against. -/
def onI (i : Nat) (p : S75) : Bool := if i < 2 then isOnI e f g h p.f0 p.f1 else isOnI a b c d p.f0 p.f1
theorem sh_l0 (xs es : List S75) (i : Nat) (hi : i < es.length) (hes : es.length = 4) (hx : xs.length ≤ 4) (r : Int)
    (hr : Ev (fun k => spec_l5Shared.l0 k (if onI a b c d e f g h i es[i] && xs.all (fun p => !eqP p es[i]) then xs ++ [es[i]] else xs) es ((i + 1 : Nat) : Int) a b c d e f g h) r) : Ev (fun k => spec_l5Shared.l0 k xs es (i : Int) a b c d e f g h) r := by
  have go : ∀ on : Bool, on = onI a b c d e f g h i es[i] → Ev (fun k => spec_l5Shared.j1 k xs es (i : Int) on a b c d e f g h) r := by
    intro on hon; refine Ev.step (f := fun k => spec_l5Shared.l1 k xs es (i : Int) on ((0 : Nat) : Int) a b c d e f g h) (fun k => by rw [spec_l5Shared.j1]; rfl) (sh_l1 a b c d e f g h xs es i hi (by omega) hx xs.length 0 on (by omega) r ?_); rw [hon, List.drop_zero]
    exact hr
  have step : ∀ k, spec_l5Shared.l0 (k + 1) xs es (i : Int) a b c d e f g h = spec_l5Shared.j1 k xs es (i : Int) (onI a b c d e f g h i es[i]) a b c d e f g h := by
    intro k; simp only [spec_l5Shared.l0]; rw [if_pos (by omega)]
    by_cases h2 : i < 2
    · rw [if_pos (by omega), if_pos (by omega), if_pos (by omega), rdPt es i hi, on_s, onI, if_pos h2]; simp only [Option.bind_some]
      cases isOnI e f g h es[i].f0 es[i].f1
      · rw [if_neg (by simp), if_neg (by omega)]
      · rw [if_pos rfl]
    · rw [if_neg (by omega), if_pos (by omega), if_pos (by omega), if_pos (by omega), rdPt es i hi, on_s, onI, if_neg h2]; simp only [Option.bind_some]
  exact Ev.step step (go _ rfl)
theorem share_s : Ev (fun k => spec_l5Shared.f k a b c d e f g h) (shareI a b c d e f g h) := by
  unfold spec_l5Shared.f
  generalize hes : ([(⟨a, b⟩ : S75), ⟨c, d⟩, ⟨e, f⟩, ⟨g, h⟩] : List S75) = es; have h4 : es.length = 4 := by subst hes; rfl
  have e0 : es[0]'(by omega) = ⟨a, b⟩ := by subst hes; rfl
  have e1 : es[1]'(by omega) = ⟨c, d⟩ := by subst hes; rfl
  have e2 : es[2]'(by omega) = ⟨e, f⟩ := by subst hes; rfl
  have e3 : es[3]'(by omega) = ⟨g, h⟩ := by subst hes; rfl
  refine sh_l0 a b c d e f g h [] es 0 (by omega) h4 (by simp) _ ?_; refine sh_l0 a b c d e f g h _ es 1 (by omega) h4 (by split <;> simp) _ ?_; refine sh_l0 a b c d e f g h _ es 2 (by omega) h4 (by split <;> split <;> simp) _ ?_; refine sh_l0 a b c d e f g h _ es 3 (by omega) h4 (by split <;> split <;> split <;> simp) _ ?_; rw [e0, e1, e2, e3]; have q0 : onI a b c d e f g h 0 ⟨a, b⟩ = isOnI e f g h a b := rfl; have q1 : onI a b c d e f g h 1 ⟨c, d⟩ = isOnI e f g h c d := rfl; have q2 : onI a b c d e f g h 2 ⟨e, f⟩ = isOnI a b c d e f := rfl; have q3 : onI a b c d e f g h 3 ⟨g, h⟩ = isOnI a b c d g h := rfl; rw [q0, q1, q2, q3]
  unfold shareI
  generalize isOnI e f g h a b = o0; generalize isOnI e f g h c d = o1; generalize isOnI a b c d e f = o2; generalize isOnI a b c d g h = o3; refine Ev.step (f := fun _ => some _) (fun k => ?_) (Ev.now _); simp only [spec_l5Shared.l0]; rw [if_neg (by omega)]
  congr 1
  have E : ∀ x y x' y' : Int, eqP ⟨x, y⟩ ⟨x', y'⟩ = (decide (x = x') && decide (y = y')) := fun _ _ _ _ => rfl
  generalize hA : (decide (a = c) && decide (b = d)) = eab; generalize hB : (decide (a = e) && decide (b = f)) = eac; generalize hC : (decide (c = e) && decide (d = f)) = ebc; generalize hD : (decide (a = g) && decide (b = h)) = ead; generalize hE : (decide (c = g) && decide (d = h)) = ebd; generalize hF : (decide (e = g) && decide (f = h)) = ecd; simp only [all_if, len_if, List.all_nil, List.length_nil, E, hA, hB, hC, hD, hE, hF]; have n1 : (o1 && (true && (!(o0 && true) || !eab))) = (o1 && !(o0 && eab)) := by cases o0 <;> cases eab <;> rfl
  rw [n1]; generalize (o1 && !(o0 && eab)) = p1; have n2 : (o2 && (true && (!(o0 && true) || !eac) && (!p1 || !ebc))) = (o2 && !(o0 && eac) && !(p1 && ebc)) := by cases o0 <;> cases eac <;> cases p1 <;> cases ebc <;> cases o2 <;> rfl
  rw [n2]; generalize (o2 && !(o0 && eac) && !(p1 && ebc)) = p2; have n3 : (o3 && (true && (!(o0 && true) || !ead) && (!p1 || !ebd) && (!p2 || !ecd))) = (o3 && !(o0 && ead) && !(p1 && ebd) && !(p2 && ecd)) := by cases o0 <;> cases ead <;> cases p1 <;> cases ebd <;> cases p2 <;> cases ecd <;> cases o3 <;> rfl
  rw [n3]; generalize (o3 && !(o0 && ead) && !(p1 && ebd) && !(p2 && ecd)) = p3
  cases o0 <;> cases p1 <;> cases p2 <;> cases p3 <;> rfl
end
theorem wrap_sd (x y : Int) (hx : -1 ≤ x ∧ x ≤ 1) (hy : -1 ≤ y ∧ y ≤ 1) : wrap64 (x * y) = x * y := by
  have : x = -1 ∨ x = 0 ∨ x = 1 := by omega
  rcases this with rfl | rfl | rfl <;> unfold wrap64 <;> omega
theorem sd_bd (a b c d e f : Int) : -1 ≤ sideI a b c d e f ∧ sideI a b c d e f ≤ 1 := by
  unfold sideI cmpI; (repeat' split) <;> omega
theorem wrap_three (x y : Int) (hx : -1 ≤ x ∧ x ≤ 1) (hy : -1 ≤ y ∧ y ≤ 1) : IntKind.i64.wrap (x * y) = x * y ∧ (IntKind.i64.wrap (x * y) = -1 ∨ IntKind.i64.wrap (x * y) = 0 ∨ IntKind.i64.wrap (x * y) = 1) := by
  rw [i64_w, wrap_sd x y hx hy]; refine ⟨rfl, ?_⟩; have h1 : x = -1 ∨ x = 0 ∨ x = 1 := by omega
  rcases h1 with rfl | rfl | rfl <;> omega
def spec_HowMeet.f (a0_0 a0_1 a0_2 a0_3 a1_0 a1_1 a1_2 a1_3 : Int) : Option (Int) := some (howS a0_0 a0_1 a0_2 a0_3 a1_0 a1_1 a1_2 a1_3)
mutual
def spec_IsRing.l0 : Nat → List (S133) → Int → Option (Bool)
 | 0, _, _ => none
 | k + 1, x3, x4 => if x4 < (x3.length : Int) then (if 0 ≤ x4 then ((spec_IsSegment.f ((rd_T133 x3 x4).f0.f0) ((rd_T133 x3 x4).f0.f1) ((rd_T133 x3 x4).f1.f0) ((rd_T133 x3 x4).f1.f1)).bind fun t186 => (if t186 = true then (spec_IsRing.l1 k x3 x4 0) else (some false))) else (none)) else (some true)
def spec_IsRing.l1 : Nat → List (S133) → Int → Int → Option (Bool)
 | 0, _, _, _ => none
 | k + 1, x3, x4, x5 => if x5 < x4 then (if (wrap64 (x5 + 1)) = x4 then (spec_IsRing.j2 k x3 x4 x5 0 true) else (if x5 = 0 then (spec_IsRing.j2 k x3 x4 x5 0 ((wrap64 (x4 + 1)) == (x3.length : Int))) else (spec_IsRing.j2 k x3 x4 x5 0 false))) else (spec_IsRing.l0 k x3 (wrap64 (x4 + 1)))
def spec_IsRing.j2 : Nat → List (S133) → Int → Int → Int → Bool → Option (Bool)
 | 0, _, _, _, _, _ => none
 | k + 1, x3, x4, x5, x6, x44 => if x44 = true then (if 0 ≤ x4 then (if x4 < (x3.length : Int) then (if 0 ≤ x5 then (if x5 < (x3.length : Int) then ((spec_HowMeet.f ((rd_T133 x3 x4).f0.f0) ((rd_T133 x3 x4).f0.f1) ((rd_T133 x3 x4).f1.f0) ((rd_T133 x3 x4).f1.f1) ((rd_T133 x3 x5).f0.f0) ((rd_T133 x3 x5).f0.f1) ((rd_T133 x3 x5).f1.f0) ((rd_T133 x3 x5).f1.f1)).bind fun t189 => (if t189 = 1 then (spec_IsRing.l1 k x3 x4 (wrap64 (x5 + 1))) else (some false))) else (none)) else (none)) else (none)) else (none)) else (if 0 ≤ x4 then (if x4 < (x3.length : Int) then (if 0 ≤ x5 then (if x5 < (x3.length : Int) then ((spec_HowMeet.f ((rd_T133 x3 x4).f0.f0) ((rd_T133 x3 x4).f0.f1) ((rd_T133 x3 x4).f1.f0) ((rd_T133 x3 x4).f1.f1) ((rd_T133 x3 x5).f0.f0) ((rd_T133 x3 x5).f0.f1) ((rd_T133 x3 x5).f1.f0) ((rd_T133 x3 x5).f1.f1)).bind fun t192 => (if t192 = x6 then (spec_IsRing.l1 k x3 x4 (wrap64 (x5 + 1))) else (some false))) else (none)) else (none)) else (none)) else (none))
end
def spec_IsRing.f (k : Nat) (l0 : List (S75)) : Option (Bool) := (spec_l1In.f (l0.length : Int) 3 10).bind fun t181 => (if t181 = true then ((spec_l7Segments.f k l0).bind fun t182 => (spec_IsRing.l0 k t182 0)) else (some false))
attribute [local go_sem high] eqA75
def spec_IsLine.l0 : Nat → List (S75) → Int → Option (Bool)
 | 0, _, _ => none
 | k + 1, x0, x3 => if x3 < (x0.length : Int) then (if 0 ≤ x3 then ((spec_IsPoint.f ((rd_T75 x0 x3).f0) ((rd_T75 x0 x3).f1)).bind fun t194 => (if t194 = true then (if x3 > 0 then (if 0 ≤ (wrap64 (x3 - 1)) then (if (wrap64 (x3 - 1)) < (x0.length : Int) then (if (((rd_T75 x0 (wrap64 (x3 - 1))).f0) == ((rd_T75 x0 x3).f0) && (((rd_T75 x0 (wrap64 (x3 - 1))).f1) == ((rd_T75 x0 x3).f1))) = true then (some false) else (spec_IsLine.l0 k x0 (wrap64 (x3 + 1)))) else (none)) else (none)) else (spec_IsLine.l0 k x0 (wrap64 (x3 + 1)))) else (some false))) else (none)) else ((spec_l1In.f (x0.length : Int) 2 10).bind fun t197 => (some t197))
def spec_IsLine.f (k : Nat) (l0 : List (S75)) : Option (Bool) := spec_IsLine.l0 k l0 0
def spec_SegmentsOf.l0 : Nat → List (S75) → List (S133) → Int → Option ((List (S133)))
 | 0, _, _, _ => none
 | k + 1, x0, x3, x4 => if x4 < (x0.length : Int) then ((spec_IsLine.f k x0).bind fun t201 => (if t201 = true then (if 0 ≤ (wrap64 (x4 - 1)) then (if (wrap64 (x4 - 1)) < (x0.length : Int) then (if 0 ≤ x4 then (if x3.length < 4398046511104 then (spec_SegmentsOf.l0 k x0 (x3 ++ [(⟨(⟨(rd_T75 x0 (wrap64 (x4 - 1))).f0, (rd_T75 x0 (wrap64 (x4 - 1))).f1⟩ : S75), (⟨(rd_T75 x0 x4).f0, (rd_T75 x0 x4).f1⟩ : S75)⟩ : S133)]) (wrap64 (x4 + 1))) else (none)) else (none)) else (none)) else (none)) else (some x3))) else (some x3)
def spec_SegmentsOf.f (k : Nat) (l0 : List (S75)) : Option ((List (S133))) := spec_SegmentsOf.l0 k l0 (([] : List (S133))) 1
mutual
def spec_IsSimple.l0 : Nat → List (S75) → List (S133) → Int → Option (Bool)
 | 0, _, _, _ => none
 | k + 1, x0, x3, x4 => if x4 < (x3.length : Int) then (spec_IsSimple.l1 k x0 x3 x4 0) else ((spec_IsLine.f k x0).bind fun t210 => (some t210))
def spec_IsSimple.l1 : Nat → List (S75) → List (S133) → Int → Int → Option (Bool)
 | 0, _, _, _, _ => none
 | k + 1, x0, x3, x4, x5 => if x5 < x4 then (if (wrap64 (x5 + 1)) = x4 then (if 0 ≤ x4 then (if x4 < (x3.length : Int) then (if 0 ≤ x5 then (if x5 < (x3.length : Int) then ((spec_HowMeet.f ((rd_T133 x3 x4).f0.f0) ((rd_T133 x3 x4).f0.f1) ((rd_T133 x3 x4).f1.f0) ((rd_T133 x3 x4).f1.f1) ((rd_T133 x3 x5).f0.f0) ((rd_T133 x3 x5).f0.f1) ((rd_T133 x3 x5).f1.f0) ((rd_T133 x3 x5).f1.f1)).bind fun t213 => (if t213 = 1 then (spec_IsSimple.l1 k x0 x3 x4 (wrap64 (x5 + 1))) else (some false))) else (none)) else (none)) else (none)) else (none)) else (if 0 ≤ x4 then (if x4 < (x3.length : Int) then (if 0 ≤ x5 then (if x5 < (x3.length : Int) then ((spec_HowMeet.f ((rd_T133 x3 x4).f0.f0) ((rd_T133 x3 x4).f0.f1) ((rd_T133 x3 x4).f1.f0) ((rd_T133 x3 x4).f1.f1) ((rd_T133 x3 x5).f0.f0) ((rd_T133 x3 x5).f0.f1) ((rd_T133 x3 x5).f1.f0) ((rd_T133 x3 x5).f1.f1)).bind fun t216 => (if t216 = 0 then (spec_IsSimple.l1 k x0 x3 x4 (wrap64 (x5 + 1))) else (some false))) else (none)) else (none)) else (none)) else (none))) else (spec_IsSimple.l0 k x0 x3 (wrap64 (x4 + 1)))
end
def spec_IsSimple.f (k : Nat) (l0 : List (S75)) : Option (Bool) := (spec_SegmentsOf.f k l0).bind fun t207 => (spec_IsSimple.l0 k l0 t207 0)
def spec_IsFeature.j0 : Nat → Bool → Int → Int → Int → ByteArray → List (S75) → Option (Bool)
 | 0, _, _, _, _, _, _ => none
 | k + 1, x23, x218000, x218001, x218002, x218003, x218004 => if x23 = true then (some false) else (if x218001 = 1 then (if (x218004.length : Int) = 1 then (if 0 < (x218004.length : Int) then ((spec_IsPoint.f ((rd_T75 x218004 0).f0) ((rd_T75 x218004 0).f1)).bind fun t222 => (some t222)) else (none)) else (some false)) else (if x218001 = 2 then ((spec_IsSimple.f k x218004).bind fun t223 => (some t223)) else (if x218001 = 3 then ((spec_IsRing.f k x218004).bind fun t224 => (some t224)) else (some false))))
def spec_IsFeature.f (k : Nat) (a0_0 : Int) (a0_1 : Int) (a0_2 : Int) (a0_3 : ByteArray) (l0_4 : List (S75)) : Option (Bool) := (spec_l1In.f a0_0 1 99).bind fun t218 => (if t218 = true then ((spec_l1In.f a0_2 0 9).bind fun t219 => (if t219 = true then (if a0_3.toList = ([] : List UInt8) then (spec_IsFeature.j0 k false a0_0 a0_1 a0_2 a0_3 l0_4) else ((spec_IsName.f k a0_3).bind fun t220 => (spec_IsFeature.j0 k (!t220) a0_0 a0_1 a0_2 a0_3 l0_4))) else (spec_IsFeature.j0 k true a0_0 a0_1 a0_2 a0_3 l0_4))) else (spec_IsFeature.j0 k true a0_0 a0_1 a0_2 a0_3 l0_4))
def spec_IsSource.l0 : Nat → List (S59) → Int → Option (Bool)
 | 0, _, _ => none
 | k + 1, x0, x3 => if x3 < (x0.length : Int) then (if 0 ≤ x3 then ((spec_IsFeature.f k ((rd_T59 x0 x3).f0) ((rd_T59 x0 x3).f1) ((rd_T59 x0 x3).f2) ((rd_T59 x0 x3).f3) ((rd_T59 x0 x3).f4)).bind fun t226 => (if t226 = true then (if x3 > 0 then (if 0 ≤ (wrap64 (x3 - 1)) then (if (wrap64 (x3 - 1)) < (x0.length : Int) then (if ((rd_T59 x0 (wrap64 (x3 - 1))).f0) ≥ ((rd_T59 x0 x3).f0) then (some false) else (spec_IsSource.l0 k x0 (wrap64 (x3 + 1)))) else (none)) else (none)) else (spec_IsSource.l0 k x0 (wrap64 (x3 + 1)))) else (some false))) else (none)) else (some (decide ((x0.length : Int) ≤ 16)))
def spec_IsSource.f (k : Nat) (l0 : List (S59)) : Option (Bool) := spec_IsSource.l0 k l0 0
def spec_IsLevel.f (a0_0 : Int) (a0_1 : Int) (a0_2 : Int) : Option (Bool) := (spec_l1In.f a0_0 0 9).bind fun t230 => (if t230 = true then ((spec_l1In.f a0_1 0 200).bind fun t231 => (if t231 = true then ((spec_l1In.f a0_2 0 100000).bind fun t232 => (some t232)) else (some false))) else (some false))
def spec_l9Feature.f (a0_0 : Int) (a0_1 : Int) (a0_2 : Int) (a0_3 : ByteArray) (l0_4 : List (S75)) : Option (Int × Int × Int × ByteArray × (List (S75))) := (some (([] : List (S75)) : List (S75))).bind fun y235 => (if y235.length + l0_4.length < 8796093022208 then (some (a0_0, a0_1, a0_2, a0_3, (y235 ++ l0_4))) else (none))
def spec_l23Ranked.l0 : Nat → List (S59) → Int → List (S59) → Int → Option ((List (S59)))
 | 0, _, _, _, _ => none
 | k + 1, x0, x1, x5, x6 => if x6 < (x0.length : Int) then (if 0 ≤ x6 then (if ((rd_T59 x0 x6).f2) ≥ x1 then ((spec_l9Feature.f ((rd_T59 x0 x6).f0) ((rd_T59 x0 x6).f1) ((rd_T59 x0 x6).f2) ((rd_T59 x0 x6).f3) ((rd_T59 x0 x6).f4)).bind fun bt246 => (if x5.length < 2199023255552 then (spec_l23Ranked.l0 k x0 x1 (x5 ++ [(⟨bt246.1, bt246.2.1, bt246.2.2.1, bt246.2.2.2.1, bt246.2.2.2.2⟩ : S59)]) (wrap64 (x6 + 1))) else (none))) else (spec_l23Ranked.l0 k x0 x1 x5 (wrap64 (x6 + 1)))) else (none)) else (some x5)
def spec_l23Ranked.f (k : Nat) (l0 : List (S59)) (a1 : Int) : Option ((List (S59))) := spec_l23Ranked.l0 k l0 a1 (([] : List (S59))) 0
def encL (x : S77) : List Value := [.int .i64 x.f0, .int .i64 x.f1.f0, .int .i64 x.f1.f1, .int .i64 x.f2]
theorem flatL : Go.Proofs.YtkomgmgpgnjooaaGreatRowK.Flat k77 encL where
  pos := by decide
  len := fun _ => rfl
  one := fun x v hv => by simp [encL] at hv; rcases hv with rfl | rfl | rfl | rfl <;> rfl
  of := fun h => k77_openM h
  put := fun w base ok x => k77_mkM w base ok x
instance inhL : Inhabited S77 := ⟨z77⟩
/-- One place stands above another. -/
def abL (x y : S77) : Bool := decide (y.f2 < x.f2 ∨ (x.f2 = y.f2 ∧ x.f0 < y.f0))
def cfL (x y : S77) : Int := if abL x y = true then -1 else if abL y x = true then 1 else 0
/-- Where a place belongs. -/
def posL (l : List S77) (x : S77) : Nat → Nat
  | 0 => 0
  | k + 1 => if abL x (l.getD k z77) = true then posL l x k else k + 1
def putL (l : List S77) (x : S77) : List S77 := (l.take (posL l x l.length) ++ [x]) ++ l.drop (posL l x l.length)
def sortL (l : List S77) : List S77 := l.foldl putL []
theorem posL_le (l : List S77) (x : S77) : ∀ k, posL l x k ≤ k
  | 0 => Nat.le_refl _
  | k + 1 => by unfold posL; split; exact Nat.le_succ_of_le (posL_le l x k); exact Nat.le_refl _
theorem putL_len (l : List S77) (x : S77) : (putL l x).length = l.length + 1 := by
  have := posL_le l x l.length
  unfold putL
  simp only [List.length_append, List.length_take, List.length_drop, List.length_singleton]; omega
theorem foldL_len (l : List S77) : ∀ m : List S77, (l.foldl putL m).length = m.length + l.length := by
  induction l with
  | nil => intro m; simp
  | cons x l ih => intro m; rw [List.foldl_cons, ih, putL_len, List.length_cons]; omega
theorem sortL_len (l : List S77) : (sortL l).length = l.length := by unfold sortL; rw [foldL_len]; simp
theorem posL_app (s : List S77) (y x : S77) : ∀ k, k ≤ s.length → posL (s ++ [y]) x k = posL s x k
  | 0, _ => rfl
  | k + 1, h => by
    unfold posL
    rw [posL_app s y x k (by omega), show (s ++ [y]).getD k z77 = s.getD k z77 by rw [List.getD_eq_getElem?_getD, List.getD_eq_getElem?_getD, List.getElem?_append_left (by omega)]]
theorem putL_snoc (s : List S77) (y x : S77) : putL (s ++ [y]) x = if abL x y = true then putL s x ++ [y] else (s ++ [y]) ++ [x] := by
  have hl : (s ++ [y]).length = s.length + 1 := by simp
  have hy : (s ++ [y]).getD s.length z77 = y := by simp
  unfold putL
  rw [hl]
  by_cases h : abL x y = true
  · rw [if_pos h]
    have e : posL (s ++ [y]) x (s.length + 1) = posL s x s.length := by rw [posL, hy, if_pos h, posL_app s y x _ (Nat.le_refl _)]
    have hle := posL_le s x s.length
    rw [e, List.take_append_of_le_length hle, List.drop_append_of_le_length hle]
    simp [List.append_assoc]
  · rw [if_neg h]
    have e : posL (s ++ [y]) x (s.length + 1) = s.length + 1 := by rw [posL, hy, if_neg h]
    rw [e, List.take_of_length_le (by omega), List.drop_of_length_le (by omega), List.append_nil]
/-- The inner loop of an insertion sort, told by lists. -/
theorem inner_list : ∀ (j : Nat) (s : List S77) (x : S77) (r : List S77), s.length = j → (Go.Sort.insInner abL 0 j (s ++ x :: r).toArray).toList = putL s x ++ r
  | 0, s, x, r, h => by
    obtain rfl := List.eq_nil_of_length_eq_zero h
    rfl
  | j + 1, s, x, r, h => by
    have hne : s ≠ [] := by intro e; subst e; simp at h
    obtain ⟨s', y, rfl⟩ : ∃ s' y, s = s' ++ [y] := ⟨s.dropLast, s.getLast hne, (List.dropLast_concat_getLast hne).symm⟩
    have hs' : s'.length = j := by simpa using h
    have e1 : (s' ++ [y] ++ x :: r).toArray[j + 1]! = x := by
      rw [Array.getElem!_eq_getD, Array.getD_eq_getD_getElem?, List.getElem?_toArray, List.getElem?_append_right (by simp; omega)]
      simp [hs']
    have e2 : (s' ++ [y] ++ x :: r).toArray[j]! = y := by
      rw [Array.getElem!_eq_getD, Array.getD_eq_getD_getElem?, List.getElem?_toArray, List.append_assoc, List.getElem?_append_right (by omega)]
      simp [hs']
    unfold Go.Sort.insInner
    rw [e1, e2, putL_snoc]
    by_cases hb : abL x y = true
    · rw [if_pos (by simp [hb]), if_pos hb]
      have e3 : Go.Sort.swp (s' ++ [y] ++ x :: r).toArray (j + 1) j = (s' ++ x :: (y :: r)).toArray := by
        unfold Go.Sort.swp
        rw [e1, e2]
        apply Array.ext'
        simp only [Array.toList_setIfInBounds, List.append_assoc, List.singleton_append, List.cons_append, List.nil_append]
        rw [List.set_append_right _ _ (by omega), List.set_append_right _ _ (by omega)]
        simp [hs']
      rw [e3, inner_list j s' x (y :: r) hs', List.append_assoc]
      rfl
    · rw [if_neg (by simp [hb]), if_neg hb]
      simp [List.append_assoc]
theorem outer_list : ∀ (n i : Nat) (s r : List S77), r.length = n → s.length = i → (Go.Sort.insOuter abL 0 (i + n) i (s ++ r).toArray).toList = r.foldl putL s
  | 0, i, s, r, h, hs => by
    obtain rfl := List.eq_nil_of_length_eq_zero h
    unfold Go.Sort.insOuter
    rw [if_neg (by omega)]
    simp
  | n + 1, i, s, r, h, hs => by
    cases r with
    | nil => simp at h
    | cons x r =>
      unfold Go.Sort.insOuter
      rw [if_pos (by omega), show Go.Sort.insInner abL 0 i (s ++ x :: r).toArray = (putL s x ++ r).toArray by rw [← inner_list i s x r hs], List.foldl_cons]
      have := outer_list n (i + 1) (putL s x) r (by simpa using h) (by rw [putL_len, hs])
      rw [show i + 1 + n = i + (n + 1) by omega] at this
      exact this
theorem ins_sortL (l : List S77) : (Go.Sort.insertionSort abL l.toArray 0 l.length).toList = sortL l := by
  unfold Go.Sort.insertionSort sortL
  cases l with
  | nil => unfold Go.Sort.insOuter; rw [if_neg (by simp)]; rfl
  | cons x r =>
    have := outer_list r.length 1 [x] r rfl rfl
    rw [show 1 + r.length = (x :: r).length by simp; omega] at this
    exact this
theorem eqnilL0 {P : Program} (w : World) (d : Nat) (t e : TypeId) (a : Option Addr) (n c n' c' : Nat) (h : P.underlying t = some (.slice e)) : (Op.equalIn (d + 1) t (.slice a n c) (.slice none n' c')).run P w = .ok a.isNone w := by cases a <;> simp [Op.equalIn, run_underlying h]
theorem eqnilL {P : Program} (w : World) (t e : TypeId) (a : Option Addr) (n c n' c' : Nat) (h : P.underlying t = some (.slice e)) : (binOp .eql t (.slice a n c) (.slice none n' c')).run P w = .ok (.bool a.isNone) w := by
  simp only [binOp]
  simp [Op.equal, Op.maxDepth, eqnilL0 w 9999 t e a n c n' c' h]
def impl_fromAbove.f (l0 : List S77) : Option (List S77) := if l0.length < 20 then some (sortL l0) else none
def spec_IsAbove.f (a0_0 : Int) (a0_1 : Int) (a0_2 : Int) (a0_3 : Int) (a1_0 : Int) (a1_1 : Int) (a1_2 : Int) (a1_3 : Int) : Option (Bool) := if a0_3 > a1_3 then (some true) else (if a0_3 = a1_3 then (some (decide (a0_0 < a1_0))) else (some false))
def spec_FarSquared.f (a0_0 : Int) (a0_1 : Int) (a1_0 : Int) (a1_1 : Int) : Option (Int) := (spec_IsPoint.f a0_0 a0_1).bind fun t260 => (if t260 = true then ((spec_IsPoint.f a1_0 a1_1).bind fun t261 => (if t261 = true then (some (wrap64 ((wrap64 ((wrap64 (a0_0 - a1_0)) * (wrap64 (a0_0 - a1_0)))) + (wrap64 ((wrap64 (a0_1 - a1_1)) * (wrap64 (a0_1 - a1_1))))))) else (some (-1)))) else (some (-1)))
def kpS (F : Int) (y : S77) : List S77 → Bool → Option Bool
  | [], b => some b
  | _ :: r, false => kpS F y r false
  | x :: r, true => (spec_FarSquared.f x.f1.f0 x.f1.f1 y.f1.f0 y.f1.f1).bind fun t => kpS F y r (decide (F ≤ t))
def keptS (F : Int) : List S77 → List S77 → Option (List S77)
  | [], out => some out
  | y :: r, out => (kpS F y out true).bind fun b => keptS F r (if b = true then out ++ [y] else out)
def spec_l14Kept.f (l0 : List S77) (a1 : Int) : Option (List S77) := if l0.length < 2199023255552 then keptS (wrap64 (a1 * a1)) (sortL l0) [] else none
theorem fl_drop {l : List S77} {j : Nat} {out : List S77} (h : j < l.length) : (l.drop j).foldl putL out = (l.drop (j + 1)).foldl putL (putL out (l.getD j z77)) := by
  rw [List.drop_eq_getElem_cons h, List.foldl_cons]
  simp [h]
theorem kept_drop {F : Int} {l : List S77} {j : Nat} {out : List S77} (h : j < l.length) : keptS F (l.drop j) out = (kpS F (l.getD j z77) out true).bind fun b => keptS F (l.drop (j + 1)) (if b = true then out ++ [l.getD j z77] else out) := by
  rw [List.drop_eq_getElem_cons h, keptS]
  simp [h]
theorem kp_drop {F : Int} {y : S77} {l : List S77} {j : Nat} {b : Bool} (h : j < l.length) : kpS F y (l.drop j) b = if b = true then (spec_FarSquared.f (l.getD j z77).f1.f0 (l.getD j z77).f1.f1 y.f1.f0 y.f1.f1).bind fun t => kpS F y (l.drop (j + 1)) (decide (F ≤ t)) else kpS F y (l.drop (j + 1)) false := by
  rw [List.drop_eq_getElem_cons h]
  cases b <;> simp [kpS, h]
theorem ab_s (x0 x1 x2 x3 y0 y1 y2 y3 : Int) : spec_IsAbove.f x0 x1 x2 x3 y0 y1 y2 y3 = some (abL ⟨x0, ⟨x1, x2⟩, x3⟩ ⟨y0, ⟨y1, y2⟩, y3⟩) := by
  unfold spec_IsAbove.f abL
  dsimp only
  by_cases h : x3 > y3
  · rw [if_pos h, decide_eq_true (.inl h)]
  · rw [if_neg h]
    by_cases h2 : x3 = y3
    · rw [if_pos h2]
      congr 1
      exact decide_eq_decide.mpr ⟨fun h3 => .inr ⟨h2, h3⟩, fun h3 => h3.elim (fun h4 => absurd h4 h) (fun h4 => h4.2)⟩
    · rw [if_neg h2, decide_eq_false (fun h3 => h3.elim (fun h4 => h h4) (fun h4 => h2 h4.1))]
theorem lkcell {w : World} {p : Addr} {v : Value} (h : w.cell? p = some v) (d : Nat) (os : Array Obj) : (Go.Sort.grow (redrawn w d) os).cell? p = some v := ((below_regrown w d os).cell (World.block_lt_of_cell? w p h)).trans h
theorem lk_sub (n : Nat) (h1 : 1 ≤ n) (h : n ≤ 9223372036854775807) : wrap64 ((n : Int) - 1) = ((n - 1 : Nat) : Int) := by unfold wrap64; omega
theorem lk_add (n : Nat) (h : n < 9223372036854775807) : wrap64 ((n : Int) + 1) = ((n + 1 : Nat) : Int) := by unfold wrap64; omega
def spec_ArePlaces.l0 : Nat → List (S77) → Int → Option (Bool)
 | 0, _, _ => none
 | k + 1, x0, x3 => if x3 < (x0.length : Int) then (if 0 ≤ x3 then ((spec_l1In.f ((rd_T77 x0 x3).f0) 1 99).bind fun t263 => (if t263 = true then ((spec_IsPoint.f ((rd_T77 x0 x3).f1.f0) ((rd_T77 x0 x3).f1.f1)).bind fun t265 => (if t265 = true then ((spec_l1In.f ((rd_T77 x0 x3).f2) 0 9).bind fun t267 => (if t267 = true then (if x3 > 0 then (if 0 ≤ (wrap64 (x3 - 1)) then (if (wrap64 (x3 - 1)) < (x0.length : Int) then (if ((rd_T77 x0 (wrap64 (x3 - 1))).f0) ≥ ((rd_T77 x0 x3).f0) then (some false) else (spec_ArePlaces.l0 k x0 (wrap64 (x3 + 1)))) else (none)) else (none)) else (spec_ArePlaces.l0 k x0 (wrap64 (x3 + 1)))) else (some false))) else (some false))) else (some false))) else (none)) else (some (decide ((x0.length : Int) ≤ 16)))
def spec_ArePlaces.f (k : Nat) (l0 : List (S77)) : Option (Bool) := spec_ArePlaces.l0 k l0 0
def spec_l14Put.l0 : Nat → List Int → Int → Int → Option (List Int)
 | 0, _, _, _ => none
 | k + 1, x0, x1, x5 => if x5 < (x0.length : Int) then (if 0 ≤ x5 then (if (rd x0 x5) < x1 then (spec_l14Put.l0 k x0 x1 (wrap64 (x5 + 1))) else (if (rd x0 x5) = x1 then ((some (([] : List Int) : List Int)).bind fun y272 => (if y272.length + x0.length < 17592186044416 then (some (y272 ++ x0)) else (none))) else ((some (([] : List Int) : List Int)).bind fun y278 => (if x5 ≤ (x0.length : Int) then (if y278.length + (x0.take (x5 : Int).toNat).length < 17592186044416 then ((some (y278 ++ (x0.take (x5 : Int).toNat) : List Int)).bind fun y282 => ((some (([x1] : List Int) : List Int)).bind fun y285 => (if y282.length + y285.length < 17592186044416 then ((some (y282 ++ y285 : List Int)).bind fun y288 => (if y288.length + (x0.drop (x5 : Int).toNat).length < 17592186044416 then (some (y288 ++ (x0.drop (x5 : Int).toNat))) else (none))) else (none)))) else (none)) else (none))))) else (none)) else ((some (([] : List Int) : List Int)).bind fun y295 => (if 0 ≤ x5 then (if x5 ≤ (x0.length : Int) then (if y295.length + (x0.take (x5 : Int).toNat).length < 17592186044416 then ((some (y295 ++ (x0.take (x5 : Int).toNat) : List Int)).bind fun y299 => ((some (([x1] : List Int) : List Int)).bind fun y302 => (if y299.length + y302.length < 17592186044416 then ((some (y299 ++ y302 : List Int)).bind fun y305 => (if y305.length + (x0.drop (x5 : Int).toNat).length < 17592186044416 then (some (y305 ++ (x0.drop (x5 : Int).toNat))) else (none))) else (none)))) else (none)) else (none)) else (none)))
def spec_l14Put.f (k : Nat) (l0 : List Int) (a1 : Int) : Option (List Int) := spec_l14Put.l0 k l0 a1 0
mutual
def spec_ThinPlaces.j0 : Nat → List (S77) → Int → List Int → Bool → Option (List Int)
 | 0, _, _, _, _ => none
 | k + 1, x0, x1, x5, x16 => if x16 = true then (some x5) else ((spec_l14Kept.f x0 x1).bind fun t317 => (spec_ThinPlaces.l0 k x5 t317 0))
def spec_ThinPlaces.l0 : Nat → List Int → List (S77) → Int → Option (List Int)
 | 0, _, _, _ => none
 | k + 1, x5, x6, x7 => if x7 < (x6.length : Int) then (if 0 ≤ x7 then ((spec_l14Put.f k x5 ((rd_T77 x6 x7).f0)).bind fun t321 => (spec_ThinPlaces.l0 k t321 x6 (wrap64 (x7 + 1)))) else (none)) else (some x5)
end
def spec_ThinPlaces.f (k : Nat) (l0 : List (S77)) (a1 : Int) : Option (List Int) := (some (([] : List Int) : List Int)).bind fun y312 => ((spec_ArePlaces.f k l0).bind fun t315 => (if t315 = true then ((spec_l1In.f a1 0 200).bind fun t316 => (spec_ThinPlaces.j0 k l0 a1 y312 (!t316))) else (spec_ThinPlaces.j0 k l0 a1 y312 true)))
mutual
def spec_PlacesOf.l0 : Nat → List (S59) → List (S77) → Int → Option ((List (S77)))
 | 0, _, _, _ => none
 | k + 1, x0, x3, x4 => if x4 < (x0.length : Int) then ((spec_IsSource.f k x0).bind fun t327 => (spec_PlacesOf.j1 k x0 x3 x4 t327)) else (spec_PlacesOf.j1 k x0 x3 x4 false)
def spec_PlacesOf.j1 : Nat → List (S59) → List (S77) → Int → Bool → Option ((List (S77)))
 | 0, _, _, _, _ => none
 | k + 1, x0, x3, x4, x13 => if x13 = true then (if 0 ≤ x4 then (if x4 < (x0.length : Int) then (if ((rd_T59 x0 x4).f1) = 1 then (if 0 < (((rd_T59 x0 x4).f4).length : Int) then (if x3.length < 4398046511104 then (spec_PlacesOf.l0 k x0 (x3 ++ [(⟨(rd_T59 x0 x4).f0, (⟨(rd_T75 ((rd_T59 x0 x4).f4) 0).f0, (rd_T75 ((rd_T59 x0 x4).f4) 0).f1⟩ : S75), (rd_T59 x0 x4).f2⟩ : S77)]) (wrap64 (x4 + 1))) else (none)) else (none)) else (spec_PlacesOf.l0 k x0 x3 (wrap64 (x4 + 1)))) else (none)) else (none)) else (some x3)
end
def spec_PlacesOf.f (k : Nat) (l0 : List (S59)) : Option ((List (S77))) := spec_PlacesOf.l0 k l0 (([] : List (S77))) 0
mutual
def spec_ShownIds.j0 : Nat → List (S59) → List Int → Bool → Int → Int → Int → Option (List Int)
 | 0, _, _, _, _, _, _ => none
 | k + 1, x0, x5, x17, x337000, x337001, x337002 => if x17 = true then (some x5) else ((spec_l23Ranked.f k x0 x337000).bind fun t342 => ((spec_PlacesOf.f k t342).bind fun t345 => ((spec_ThinPlaces.f k t345 x337001).bind fun t348 => (spec_ShownIds.l0 k x5 t342 t348 0))))
def spec_ShownIds.l0 : Nat → List Int → List (S59) → List Int → Int → Option (List Int)
 | 0, _, _, _, _ => none
 | k + 1, x5, x6, x7, x8 => if x8 < (x6.length : Int) then (if 0 ≤ x8 then (if ((rd_T59 x6 x8).f1) = 1 then ((spec_l14Has.f k x7 ((rd_T59 x6 x8).f0)).bind fun t353 => (if t353 = true then (if x5.length < 17592186044416 then (spec_ShownIds.l0 k (x5 ++ [(rd_T59 x6 x8).f0]) x6 x7 (wrap64 (x8 + 1))) else (none)) else (spec_ShownIds.l0 k x5 x6 x7 (wrap64 (x8 + 1))))) else (if x5.length < 17592186044416 then (spec_ShownIds.l0 k (x5 ++ [(rd_T59 x6 x8).f0]) x6 x7 (wrap64 (x8 + 1))) else (none))) else (none)) else (some x5)
end
def spec_ShownIds.f (k : Nat) (l0 : List (S59)) (a1_0 : Int) (a1_1 : Int) (a1_2 : Int) : Option (List Int) := (some (([] : List Int) : List Int)).bind fun y337 => ((spec_IsSource.f k l0).bind fun t340 => (if t340 = true then ((spec_IsLevel.f a1_0 a1_1 a1_2).bind fun t341 => (spec_ShownIds.j0 k l0 y337 (!t341) a1_0 a1_1 a1_2)) else (spec_ShownIds.j0 k l0 y337 true a1_0 a1_1 a1_2)))
def laws_toLevel.f (a0_0 : Int) (a0_1 : Int) (a0_2 : Int) : Option (Int × Int × Int) := some (a0_0, a0_1, a0_2)
def impl_InRange.f (a0 : Int) (a1 : Int) (a2 : Int) : Option (Bool) := some (inR a0 a1 a2)
def impl_IsPoint.f (a0_0 : Int) (a0_1 : Int) : Option (Bool) := some (isPt a0_0 a0_1)
def impl_IsName.l0 : Nat → ByteArray → Int → Int → Option (Bool)
 | 0, _, _, _ => none
 | k + 1, x0, x5, x6 => if x6 < x5 then (if 0 ≤ x6 then (if x6 < (x0.size : Int) then (if (bt x0 x6) < 97 then (some false) else (if (bt x0 x6) > 122 then (some false) else (impl_IsName.l0 k x0 x5 (wrap64 (x6 + 1))))) else (none)) else (none)) else ((impl_InRange.f (x0.size : Int) 1 8).bind fun t365 => (some t365))
def impl_IsName.f (k : Nat) (a0 : ByteArray) : Option (Bool) := impl_IsName.l0 k a0 (a0.size : Int) 0
def impl_IsSegment.f (a0_0 : Int) (a0_1 : Int) (a0_2 : Int) (a0_3 : Int) : Option (Bool) := some (isSeg a0_0 a0_1 a0_2 a0_3)
def impl_around.l0 : Nat → List (S75) → List (S133) → List (S75) → Int → Int → Option ((List (S133)))
 | 0, _, _, _, _, _ => none
 | k + 1, x0, x3, x7, x8, x9 => if x9 < x8 then (if 0 ≤ x9 then (if x9 < (x7.length : Int) then (if (x0.length : Int) = 0 then (none) else (if 0 ≤ (Int.tmod (wrap64 (x9 + 1)) (x0.length : Int)) then (if (Int.tmod (wrap64 (x9 + 1)) (x0.length : Int)) < (x0.length : Int) then (if x3.length < 4398046511104 then (impl_around.l0 k x0 (x3 ++ [(⟨(⟨(rd_T75 x7 x9).f0, (rd_T75 x7 x9).f1⟩ : S75), (⟨(rd_T75 x0 (Int.tmod (wrap64 (x9 + 1)) (x0.length : Int))).f0, (rd_T75 x0 (Int.tmod (wrap64 (x9 + 1)) (x0.length : Int))).f1⟩ : S75)⟩ : S133)]) x7 x8 (wrap64 (x9 + 1))) else (none)) else (none)) else (none))) else (none)) else (none)) else (some x3)
def impl_around.f (k : Nat) (l0 : List (S75)) : Option ((List (S133))) := impl_around.l0 k l0 (([] : List (S133))) l0 (l0.length : Int) 0
def cmp_isNaN_int.f (a0 : Int) : Option (Bool) := some (false)
def cmp_Compare_int.f (a0 : Int) (a1 : Int) : Option (Int) := some (cmpI a0 a1)
def impl_cross.f (a0_0 : Int) (a0_1 : Int) (a1_0 : Int) (a1_1 : Int) (a2_0 : Int) (a2_1 : Int) : Option (Int) := some (crossI a0_0 a0_1 a1_0 a1_1 a2_0 a2_1)
def impl_SideOf.f (a0_0 : Int) (a0_1 : Int) (a1_0 : Int) (a1_1 : Int) (a2_0 : Int) (a2_1 : Int) : Option (Int) := some (sideI a0_0 a0_1 a1_0 a1_1 a2_0 a2_1)
def impl_BeforePoint.f (a0_0 : Int) (a0_1 : Int) (a1_0 : Int) (a1_1 : Int) : Option (Bool) := some (beforeI a0_0 a0_1 a1_0 a1_1)
def impl_TurnSegment.f (a0_0 : Int) (a0_1 : Int) (a0_2 : Int) (a0_3 : Int) : Option (Int × Int × Int × Int) := some (a0_2, a0_3, a0_0, a0_1)
def impl_forward.f (a0_0 : Int) (a0_1 : Int) (a0_2 : Int) (a0_3 : Int) : Option (Int × Int × Int × Int) := (impl_BeforePoint.f a0_2 a0_3 a0_0 a0_1).bind fun t379 => (if t379 = true then ((impl_TurnSegment.f a0_0 a0_1 a0_2 a0_3).bind fun bt380 => (some (bt380.1, bt380.2.1, bt380.2.2.1, bt380.2.2.2))) else (some (a0_0, a0_1, a0_2, a0_3)))
def impl_IsOn.f (a0_0 : Int) (a0_1 : Int) (a0_2 : Int) (a0_3 : Int) (a1_0 : Int) (a1_1 : Int) : Option (Bool) := some (isOnI a0_0 a0_1 a0_2 a0_3 a1_0 a1_1)
attribute [local go_sem high] eqA75
mutual
def impl_HowMeet.j0 : Nat → Bool → Int → Int → Int → Int → Int → Int → Int → Int → Option (Int)
 | 0, _, _, _, _, _, _, _, _, _ => none
 | k + 1, x16, x385000, x385001, x385002, x385003, x386000, x386001, x386002, x386003 => if x16 = true then (some 0) else ((impl_SideOf.f x385000 x385001 x385002 x385003 x386000 x386001).bind fun t388 => ((impl_SideOf.f x385000 x385001 x385002 x385003 x386002 x386003).bind fun t389 => (if t388 = 0 then (impl_HowMeet.j1 k t388 t389 (t389 == 0) x385000 x385001 x385002 x385003 x386000 x386001 x386002 x386003) else (impl_HowMeet.j1 k t388 t389 false x385000 x385001 x385002 x385003 x386000 x386001 x386002 x386003))))
def impl_HowMeet.j1 : Nat → Int → Int → Bool → Int → Int → Int → Int → Int → Int → Int → Int → Option (Int)
 | 0, _, _, _, _, _, _, _, _, _, _, _ => none
 | k + 1, x5, x6, x36, x385000, x385001, x385002, x385003, x386000, x386001, x386002, x386003 => if x36 = true then ((impl_forward.f x385000 x385001 x385002 x385003).bind fun bt390 => ((impl_forward.f x386000 x386001 x386002 x386003).bind fun bt394 => ((impl_BeforePoint.f bt390.1 bt390.2.1 bt394.1 bt394.2.1).bind fun t400 => (if t400 = true then (impl_HowMeet.j2 k bt394.1 bt394.2.1 bt394.2.2.1 bt394.2.2.2 bt394.1 bt394.2.1 bt390.2.2.1 bt390.2.2.2) else (impl_HowMeet.j2 k bt394.1 bt394.2.1 bt394.2.2.1 bt394.2.2.2 bt390.1 bt390.2.1 bt390.2.2.1 bt390.2.2.2))))) else (if (wrap64 (x5 * x6)) < 0 then ((impl_SideOf.f x386000 x386001 x386002 x386003 x385000 x385001).bind fun t403 => ((impl_SideOf.f x386000 x386001 x386002 x386003 x385002 x385003).bind fun t404 => (impl_HowMeet.j4 k (decide ((wrap64 (t403 * t404)) < 0)) x385000 x385001 x385002 x385003 x386000 x386001 x386002 x386003))) else (impl_HowMeet.j4 k false x385000 x385001 x385002 x385003 x386000 x386001 x386002 x386003))
def impl_HowMeet.j2 : Nat → Int → Int → Int → Int → Int → Int → Int → Int → Option (Int)
 | 0, _, _, _, _, _, _, _, _ => none
 | k + 1, x386000, x386001, x386002, x386003, x399000, x399001, x400000, x400001 => (impl_BeforePoint.f x386002 x386003 x400000 x400001).bind fun t401 => (if t401 = true then (impl_HowMeet.j3 k x399000 x399001 x386002 x386003) else (impl_HowMeet.j3 k x399000 x399001 x400000 x400001))
def impl_HowMeet.j3 : Nat → Int → Int → Int → Int → Option (Int)
 | 0, _, _, _, _ => none
 | k + 1, x399000, x399001, x400000, x400001 => (impl_BeforePoint.f x400000 x400001 x399000 x399001).bind fun t402 => (if t402 = true then (some 0) else (if (x399000 == x400000 && (x399001 == x400001)) = true then (some 1) else (some 3)))
def impl_HowMeet.j4 : Nat → Bool → Int → Int → Int → Int → Int → Int → Int → Int → Option (Int)
 | 0, _, _, _, _, _, _, _, _, _ => none
 | k + 1, x86, x385000, x385001, x385002, x385003, x386000, x386001, x386002, x386003 => if x86 = true then (some 2) else ((impl_IsOn.f x385000 x385001 x385002 x385003 x386000 x386001).bind fun t405 => (if t405 = true then (some 1) else ((impl_IsOn.f x385000 x385001 x385002 x385003 x386002 x386003).bind fun t406 => (if t406 = true then (some 1) else ((impl_IsOn.f x386000 x386001 x386002 x386003 x385000 x385001).bind fun t407 => (if t407 = true then (some 1) else ((impl_IsOn.f x386000 x386001 x386002 x386003 x385002 x385003).bind fun t408 => (if t408 = true then (some 1) else (some 0)))))))))
end
def impl_HowMeet.f (k : Nat) (a0_0 : Int) (a0_1 : Int) (a0_2 : Int) (a0_3 : Int) (a1_0 : Int) (a1_1 : Int) (a1_2 : Int) (a1_3 : Int) : Option (Int) := (impl_IsSegment.f a0_0 a0_1 a0_2 a0_3).bind fun t386 => (if t386 = true then ((impl_IsSegment.f a1_0 a1_1 a1_2 a1_3).bind fun t387 => (impl_HowMeet.j0 k (!t387) a0_0 a0_1 a0_2 a0_3 a1_0 a1_1 a1_2 a1_3)) else (impl_HowMeet.j0 k true a0_0 a0_1 a0_2 a0_3 a1_0 a1_1 a1_2 a1_3))
mutual
def impl_IsRing.j0 : Nat → List (S75) → Bool → Option (Bool)
 | 0, _, _ => none
 | k + 1, x0, x14 => if x14 = true then (some false) else ((impl_around.f k x0).bind fun t409 => (impl_IsRing.l0 k t409 (t409.length : Int) 0))
def impl_IsRing.l0 : Nat → List (S133) → Int → Int → Option (Bool)
 | 0, _, _, _ => none
 | k + 1, x3, x18, x19 => if x19 < x18 then (if 0 ≤ x19 then (if x19 < (x3.length : Int) then ((impl_IsSegment.f ((rd_T133 x3 x19).f0.f0) ((rd_T133 x3 x19).f0.f1) ((rd_T133 x3 x19).f1.f0) ((rd_T133 x3 x19).f1.f1)).bind fun t413 => (if t413 = true then (impl_IsRing.l1 k x3 x19 x18 x19 x19 0) else (some false))) else (none)) else (none)) else (some true)
def impl_IsRing.l1 : Nat → List (S133) → Int → Int → Int → Int → Int → Option (Bool)
 | 0, _, _, _, _, _, _ => none
 | k + 1, x3, x4, x18, x19, x28, x29 => if x29 < x28 then (if x29 = (wrap64 (x4 - 1)) then (impl_IsRing.j3 k x3 x4 x29 0 x18 x19 x28 x29 true) else (if x29 = 0 then (impl_IsRing.j3 k x3 x4 x29 0 x18 x19 x28 x29 (x4 == (wrap64 ((x3.length : Int) - 1)))) else (impl_IsRing.j3 k x3 x4 x29 0 x18 x19 x28 x29 false))) else (impl_IsRing.l0 k x3 x18 (wrap64 (x19 + 1)))
def impl_IsRing.j3 : Nat → List (S133) → Int → Int → Int → Int → Int → Int → Int → Bool → Option (Bool)
 | 0, _, _, _, _, _, _, _, _, _ => none
 | k + 1, x3, x4, x5, x6, x18, x19, x28, x29, x46 => if x46 = true then (if 0 ≤ x4 then (if x4 < (x3.length : Int) then (if 0 ≤ x5 then (if x5 < (x3.length : Int) then ((impl_HowMeet.f k ((rd_T133 x3 x4).f0.f0) ((rd_T133 x3 x4).f0.f1) ((rd_T133 x3 x4).f1.f0) ((rd_T133 x3 x4).f1.f1) ((rd_T133 x3 x5).f0.f0) ((rd_T133 x3 x5).f0.f1) ((rd_T133 x3 x5).f1.f0) ((rd_T133 x3 x5).f1.f1)).bind fun t416 => (if t416 = 1 then (impl_IsRing.l1 k x3 x4 x18 x19 x28 (wrap64 (x29 + 1))) else (some false))) else (none)) else (none)) else (none)) else (none)) else (if 0 ≤ x4 then (if x4 < (x3.length : Int) then (if 0 ≤ x5 then (if x5 < (x3.length : Int) then ((impl_HowMeet.f k ((rd_T133 x3 x4).f0.f0) ((rd_T133 x3 x4).f0.f1) ((rd_T133 x3 x4).f1.f0) ((rd_T133 x3 x4).f1.f1) ((rd_T133 x3 x5).f0.f0) ((rd_T133 x3 x5).f0.f1) ((rd_T133 x3 x5).f1.f0) ((rd_T133 x3 x5).f1.f1)).bind fun t419 => (if t419 = x6 then (impl_IsRing.l1 k x3 x4 x18 x19 x28 (wrap64 (x29 + 1))) else (some false))) else (none)) else (none)) else (none)) else (none))
end
def impl_IsRing.f (k : Nat) (l0 : List (S75)) : Option (Bool) := if (l0.length : Int) < 3 then (impl_IsRing.j0 k l0 true) else (impl_IsRing.j0 k l0 (decide ((l0.length : Int) > 10)))
attribute [local go_sem high] eqA75
mutual
def impl_IsLine.j0 : Nat → List (S75) → Bool → Option (Bool)
 | 0, _, _ => none
 | k + 1, x0, x12 => if x12 = true then (some false) else (impl_IsLine.l0 k x0 x0 (x0.length : Int) 0)
def impl_IsLine.l0 : Nat → List (S75) → List (S75) → Int → Int → Option (Bool)
 | 0, _, _, _, _ => none
 | k + 1, x0, x13, x14, x15 => if x15 < x14 then (if 0 ≤ x15 then (if x15 < (x13.length : Int) then ((impl_IsPoint.f ((rd_T75 x13 x15).f0) ((rd_T75 x13 x15).f1)).bind fun t422 => (if t422 = true then (if x15 > 0 then (if 0 ≤ (wrap64 (x15 - 1)) then (if (wrap64 (x15 - 1)) < (x0.length : Int) then (if (((rd_T75 x13 x15).f0) == ((rd_T75 x0 (wrap64 (x15 - 1))).f0) && (((rd_T75 x13 x15).f1) == ((rd_T75 x0 (wrap64 (x15 - 1))).f1))) = true then (some false) else (impl_IsLine.l0 k x0 x13 x14 (wrap64 (x15 + 1)))) else (none)) else (none)) else (impl_IsLine.l0 k x0 x13 x14 (wrap64 (x15 + 1)))) else (some false))) else (none)) else (none)) else (some true)
end
def impl_IsLine.f (k : Nat) (l0 : List (S75)) : Option (Bool) := if (l0.length : Int) < 2 then (impl_IsLine.j0 k l0 true) else (impl_IsLine.j0 k l0 (decide ((l0.length : Int) > 10)))
def impl_SegmentsOf.l0 : Nat → List (S75) → List (S133) → Int → Option ((List (S133)))
 | 0, _, _, _ => none
 | k + 1, x0, x3, x4 => if x4 < (x0.length : Int) then (if 0 ≤ (wrap64 (x4 - 1)) then (if (wrap64 (x4 - 1)) < (x0.length : Int) then (if 0 ≤ x4 then (if x3.length < 4398046511104 then (impl_SegmentsOf.l0 k x0 (x3 ++ [(⟨(⟨(rd_T75 x0 (wrap64 (x4 - 1))).f0, (rd_T75 x0 (wrap64 (x4 - 1))).f1⟩ : S75), (⟨(rd_T75 x0 x4).f0, (rd_T75 x0 x4).f1⟩ : S75)⟩ : S133)]) (wrap64 (x4 + 1))) else (none)) else (none)) else (none)) else (none)) else (some x3)
def impl_SegmentsOf.f (k : Nat) (l0 : List (S75)) : Option ((List (S133))) := (some (([] : List (S133)) : List (S133))).bind fun y424 => ((impl_IsLine.f k l0).bind fun t427 => (if t427 = true then (impl_SegmentsOf.l0 k l0 y424 1) else (some y424)))
mutual
def impl_IsSimple.l0 : Nat → List (S133) → Int → Int → Option (Bool)
 | 0, _, _, _ => none
 | k + 1, x3, x13, x14 => if x14 < x13 then (impl_IsSimple.l1 k x3 x14 x13 x14 x14 0) else (some true)
def impl_IsSimple.l1 : Nat → List (S133) → Int → Int → Int → Int → Int → Option (Bool)
 | 0, _, _, _, _, _, _ => none
 | k + 1, x3, x4, x13, x14, x17, x18 => if x18 < x17 then (if x18 = (wrap64 (x4 - 1)) then (if 0 ≤ x4 then (if x4 < (x3.length : Int) then (if 0 ≤ x18 then (if x18 < (x3.length : Int) then ((impl_HowMeet.f k ((rd_T133 x3 x4).f0.f0) ((rd_T133 x3 x4).f0.f1) ((rd_T133 x3 x4).f1.f0) ((rd_T133 x3 x4).f1.f1) ((rd_T133 x3 x18).f0.f0) ((rd_T133 x3 x18).f0.f1) ((rd_T133 x3 x18).f1.f0) ((rd_T133 x3 x18).f1.f1)).bind fun t439 => (if t439 = 1 then (impl_IsSimple.l1 k x3 x4 x13 x14 x17 (wrap64 (x18 + 1))) else (some false))) else (none)) else (none)) else (none)) else (none)) else (if 0 ≤ x4 then (if x4 < (x3.length : Int) then (if 0 ≤ x18 then (if x18 < (x3.length : Int) then ((impl_HowMeet.f k ((rd_T133 x3 x4).f0.f0) ((rd_T133 x3 x4).f0.f1) ((rd_T133 x3 x4).f1.f0) ((rd_T133 x3 x4).f1.f1) ((rd_T133 x3 x18).f0.f0) ((rd_T133 x3 x18).f0.f1) ((rd_T133 x3 x18).f1.f0) ((rd_T133 x3 x18).f1.f1)).bind fun t442 => (if t442 = 0 then (impl_IsSimple.l1 k x3 x4 x13 x14 x17 (wrap64 (x18 + 1))) else (some false))) else (none)) else (none)) else (none)) else (none))) else (impl_IsSimple.l0 k x3 x13 (wrap64 (x14 + 1)))
end
def impl_IsSimple.f (k : Nat) (l0 : List (S75)) : Option (Bool) := (impl_IsLine.f k l0).bind fun t433 => (if t433 = true then ((impl_SegmentsOf.f k l0).bind fun t434 => (impl_IsSimple.l0 k t434 (t434.length : Int) 0)) else (some false))
def impl_IsFeature.j0 : Nat → Bool → Int → Int → Int → ByteArray → List (S75) → Option (Bool)
 | 0, _, _, _, _, _, _ => none
 | k + 1, x23, x444000, x444001, x444002, x444003, x444004 => if x23 = true then (some false) else (if x444001 = 1 then (if (x444004.length : Int) = 1 then (if 0 < (x444004.length : Int) then ((impl_IsPoint.f ((rd_T75 x444004 0).f0) ((rd_T75 x444004 0).f1)).bind fun t448 => (some t448)) else (none)) else (some false)) else (if x444001 = 2 then ((impl_IsSimple.f k x444004).bind fun t449 => (some t449)) else (if x444001 = 3 then ((impl_IsRing.f k x444004).bind fun t450 => (some t450)) else (some false))))
def impl_IsFeature.f (k : Nat) (a0_0 : Int) (a0_1 : Int) (a0_2 : Int) (a0_3 : ByteArray) (l0_4 : List (S75)) : Option (Bool) := (impl_InRange.f a0_0 1 99).bind fun t444 => (if t444 = true then ((impl_InRange.f a0_2 0 9).bind fun t445 => (if t445 = true then (if a0_3.toList = ([] : List UInt8) then (impl_IsFeature.j0 k false a0_0 a0_1 a0_2 a0_3 l0_4) else ((impl_IsName.f k a0_3).bind fun t446 => (impl_IsFeature.j0 k (!t446) a0_0 a0_1 a0_2 a0_3 l0_4))) else (impl_IsFeature.j0 k true a0_0 a0_1 a0_2 a0_3 l0_4))) else (impl_IsFeature.j0 k true a0_0 a0_1 a0_2 a0_3 l0_4))
def impl_IsSource.l0 : Nat → List (S59) → List (S59) → Int → Int → Option (Bool)
 | 0, _, _, _, _ => none
 | k + 1, x0, x8, x9, x10 => if x10 < x9 then (if 0 ≤ x10 then (if x10 < (x8.length : Int) then ((impl_IsFeature.f k ((rd_T59 x8 x10).f0) ((rd_T59 x8 x10).f1) ((rd_T59 x8 x10).f2) ((rd_T59 x8 x10).f3) ((rd_T59 x8 x10).f4)).bind fun t453 => (if t453 = true then (if x10 > 0 then (if 0 ≤ (wrap64 (x10 - 1)) then (if (wrap64 (x10 - 1)) < (x0.length : Int) then (if ((rd_T59 x8 x10).f0) ≤ ((rd_T59 x0 (wrap64 (x10 - 1))).f0) then (some false) else (impl_IsSource.l0 k x0 x8 x9 (wrap64 (x10 + 1)))) else (none)) else (none)) else (impl_IsSource.l0 k x0 x8 x9 (wrap64 (x10 + 1)))) else (some false))) else (none)) else (none)) else (some true)
def impl_IsSource.f (k : Nat) (l0 : List (S59)) : Option (Bool) := if (l0.length : Int) > 16 then (some false) else (impl_IsSource.l0 k l0 l0 (l0.length : Int) 0)
def impl_IsLevel.f (a0_0 : Int) (a0_1 : Int) (a0_2 : Int) : Option (Bool) := (impl_InRange.f a0_0 0 9).bind fun t456 => (if t456 = true then ((impl_InRange.f a0_1 0 200).bind fun t457 => (if t457 = true then ((impl_InRange.f a0_2 0 100000).bind fun t458 => (some t458)) else (some false))) else (some false))
def impl_ranked.l0 : Nat → Int → List (S59) → List (S59) → Int → Int → Option ((List (S59)))
 | 0, _, _, _, _, _ => none
 | k + 1, x1, x5, x9, x10, x11 => if x11 < x10 then (if 0 ≤ x11 then (if x11 < (x9.length : Int) then (if ((rd_T59 x9 x11).f2) ≥ x1 then (if x5.length < 2199023255552 then (impl_ranked.l0 k x1 (x5 ++ [(⟨(rd_T59 x9 x11).f0, (rd_T59 x9 x11).f1, (rd_T59 x9 x11).f2, (rd_T59 x9 x11).f3, (rd_T59 x9 x11).f4⟩ : S59)]) x9 x10 (wrap64 (x11 + 1))) else (none)) else (impl_ranked.l0 k x1 x5 x9 x10 (wrap64 (x11 + 1)))) else (none)) else (none)) else (some x5)
def impl_ranked.f (k : Nat) (l0 : List (S59)) (a1 : Int) : Option ((List (S59))) := impl_ranked.l0 k a1 (([] : List (S59))) l0 (l0.length : Int) 0
def slices_Sort_int_int.f (l0 : List Int) : Option (List Int) := if l0.length < 4611686018427387904 then some (l0.mergeSort fun x y => decide (x ≤ y)) else none
def impl_ArePlaces.l0 : Nat → List (S77) → List (S77) → Int → Int → Option (Bool)
 | 0, _, _, _, _ => none
 | k + 1, x0, x8, x9, x10 => if x10 < x9 then (if 0 ≤ x10 then (if x10 < (x8.length : Int) then ((impl_InRange.f ((rd_T77 x8 x10).f0) 1 99).bind fun t469 => (if t469 = true then ((impl_IsPoint.f ((rd_T77 x8 x10).f1.f0) ((rd_T77 x8 x10).f1.f1)).bind fun t470 => (if t470 = true then ((impl_InRange.f ((rd_T77 x8 x10).f2) 0 9).bind fun t471 => (if t471 = true then (if x10 > 0 then (if 0 ≤ (wrap64 (x10 - 1)) then (if (wrap64 (x10 - 1)) < (x0.length : Int) then (if ((rd_T77 x8 x10).f0) ≤ ((rd_T77 x0 (wrap64 (x10 - 1))).f0) then (some false) else (impl_ArePlaces.l0 k x0 x8 x9 (wrap64 (x10 + 1)))) else (none)) else (none)) else (impl_ArePlaces.l0 k x0 x8 x9 (wrap64 (x10 + 1)))) else (some false))) else (some false))) else (some false))) else (none)) else (none)) else (some true)
def impl_ArePlaces.f (k : Nat) (l0 : List (S77)) : Option (Bool) := if (l0.length : Int) > 16 then (some false) else (impl_ArePlaces.l0 k l0 l0 (l0.length : Int) 0)
def impl_FarSquared.f (a0_0 : Int) (a0_1 : Int) (a1_0 : Int) (a1_1 : Int) : Option (Int) := (impl_IsPoint.f a0_0 a0_1).bind fun t475 => (if t475 = true then ((impl_IsPoint.f a1_0 a1_1).bind fun t476 => (if t476 = true then (some (wrap64 ((wrap64 ((wrap64 (a0_0 - a1_0)) * (wrap64 (a0_0 - a1_0)))) + (wrap64 ((wrap64 (a0_1 - a1_1)) * (wrap64 (a0_1 - a1_1))))))) else (some (-1)))) else (some (-1)))
def kpI (F : Int) (y : S77) : List S77 → Bool → Option Bool
  | [], b => some b
  | _ :: r, false => kpI F y r false
  | x :: r, true => (impl_FarSquared.f y.f1.f0 y.f1.f1 x.f1.f0 x.f1.f1).bind fun t => kpI F y r (decide (F ≤ t))
def keptI (F : Int) : List S77 → List S77 → Option (List S77)
  | [], out => some out
  | y :: r, out => (kpI F y out true).bind fun b => keptI F r (if b = true then out ++ [y] else out)
def impl_keptPlaces.f (k : Nat) (l0 : List S77) (a1 : Int) : Option (List S77) := (impl_ArePlaces.f k l0).bind fun a => if a = true then (impl_InRange.f a1 0 200).bind fun b => if b = true then (impl_fromAbove.f l0).bind fun s => if s.length < 1000000 then keptI (wrap64 (a1 * a1)) s [] else none else some [] else some []
theorem keptI_drop {F : Int} {l : List S77} {j : Nat} {out : List S77} (h : j < l.length) : keptI F (l.drop j) out = (kpI F (l.getD j z77) out true).bind fun b => keptI F (l.drop (j + 1)) (if b = true then out ++ [l.getD j z77] else out) := by
  rw [List.drop_eq_getElem_cons h, keptI]
  simp [h]
theorem kpI_drop {F : Int} {y : S77} {l : List S77} {j : Nat} {b : Bool} (h : j < l.length) : kpI F y (l.drop j) b = if b = true then (impl_FarSquared.f y.f1.f0 y.f1.f1 (l.getD j z77).f1.f0 (l.getD j z77).f1.f1).bind fun t => kpI F y (l.drop (j + 1)) (decide (F ≤ t)) else kpI F y (l.drop (j + 1)) false := by
  rw [List.drop_eq_getElem_cons h]
  cases b <;> simp [kpI, h]
theorem box4k {w0 w : World} {g : Nat} {t : TypeId} (h : w.heap[g]? = some (.cells #[.int .i64 0, .int .i64 0, .int .i64 0, .int .i64 0] t (0, 0))) (hb : Below w0.heap.size w0 w) (hg : w0.heap.size ≤ g) (a b c d : Value) :
    let W := (((w.setCell ⟨g, 0, none⟩ a).setCell ⟨g, 1, none⟩ b).setCell ⟨g, 2, none⟩ c).setCell ⟨g, 3, none⟩ d
    Below w0.heap.size w0 W ∧ W.cell? ⟨g, 0, none⟩ = some a ∧ W.cell? ⟨g, 1, none⟩ = some b ∧ W.cell? ⟨g, 2, none⟩ = some c ∧ W.cell? ⟨g, 3, none⟩ = some d := by
  have h2 := blk_set (blk_set (blk_set (blk_set h 0 a) 1 b) 2 c) 3 d
  exact ⟨below_set (below_set (below_set (below_set hb hg) hg) hg) hg, blk_cell h2 0, blk_cell h2 1, blk_cell h2 2, blk_cell h2 3⟩
theorem kp_add (n : Nat) (h : n < 9223372036854775807) : wrap64 ((n : Int) + 1) = ((n + 1 : Nat) : Int) := by unfold wrap64; omega
def impl_ThinPlaces.l0 : Nat → List Int → List (S77) → Int → Int → Option (List Int)
 | 0, _, _, _, _ => none
 | k + 1, x5, x11, x12, x13 => if x13 < x12 then (if 0 ≤ x13 then (if x13 < (x11.length : Int) then (if x5.length < 17592186044416 then (impl_ThinPlaces.l0 k (x5 ++ [(rd_T77 x11 x13).f0]) x11 x12 (wrap64 (x13 + 1))) else (none)) else (none)) else (none)) else ((slices_Sort_int_int.f x5).bind fun t488 => (some t488))
def impl_ThinPlaces.f (k : Nat) (l0 : List (S77)) (a1 : Int) : Option (List Int) := (impl_keptPlaces.f k l0 a1).bind fun t480 => (impl_ThinPlaces.l0 k (([] : List Int)) t480 (t480.length : Int) 0)
def impl_PlacesOf.l0 : Nat → List (S77) → List (S59) → Int → Int → Option ((List (S77)))
 | 0, _, _, _, _ => none
 | k + 1, x3, x11, x12, x13 => if x13 < x12 then (if 0 ≤ x13 then (if x13 < (x11.length : Int) then (if ((rd_T59 x11 x13).f1) = 1 then (if 0 < (((rd_T59 x11 x13).f4).length : Int) then (if x3.length < 4398046511104 then (impl_PlacesOf.l0 k (x3 ++ [(⟨(rd_T59 x11 x13).f0, (⟨(rd_T75 ((rd_T59 x11 x13).f4) 0).f0, (rd_T75 ((rd_T59 x11 x13).f4) 0).f1⟩ : S75), (rd_T59 x11 x13).f2⟩ : S77)]) x11 x12 (wrap64 (x13 + 1))) else (none)) else (none)) else (impl_PlacesOf.l0 k x3 x11 x12 (wrap64 (x13 + 1)))) else (none)) else (none)) else (some x3)
def impl_PlacesOf.f (k : Nat) (l0 : List (S59)) : Option ((List (S77))) := (some (([] : List (S77)) : List (S77))).bind fun y489 => ((impl_IsSource.f k l0).bind fun t492 => (if t492 = true then (impl_PlacesOf.l0 k y489 l0 (l0.length : Int) 0) else (some y489)))
mutual
def impl_ShownIds.j0 : Nat → List (S59) → List Int → Bool → Int → Int → Int → Option (List Int)
 | 0, _, _, _, _, _, _ => none
 | k + 1, x0, x5, x17, x500000, x500001, x500002 => if x17 = true then (some x5) else ((impl_ranked.f k x0 x500000).bind fun t505 => ((impl_PlacesOf.f k t505).bind fun t508 => ((impl_ThinPlaces.f k t508 x500001).bind fun t511 => (impl_ShownIds.l0 k t511 t505 (t505.length : Int) 0))))
def impl_ShownIds.l0 : Nat → List Int → List (S59) → Int → Int → Option (List Int)
 | 0, _, _, _, _ => none
 | k + 1, x5, x28, x29, x30 => if x30 < x29 then (if 0 ≤ x30 then (if x30 < (x28.length : Int) then (if ((rd_T59 x28 x30).f1) = 1 then (impl_ShownIds.l0 k x5 x28 x29 (wrap64 (x30 + 1))) else (if x5.length < 17592186044416 then (impl_ShownIds.l0 k (x5 ++ [(rd_T59 x28 x30).f0]) x28 x29 (wrap64 (x30 + 1))) else (none))) else (none)) else (none)) else ((slices_Sort_int_int.f x5).bind fun t519 => (some t519))
end
def impl_ShownIds.f (k : Nat) (l0 : List (S59)) (a1_0 : Int) (a1_1 : Int) (a1_2 : Int) : Option (List Int) := (some (([] : List Int) : List Int)).bind fun y500 => ((impl_IsSource.f k l0).bind fun t503 => (if t503 = true then ((impl_IsLevel.f a1_0 a1_1 a1_2).bind fun t504 => (impl_ShownIds.j0 k l0 y500 (!t504) a1_0 a1_1 a1_2)) else (impl_ShownIds.j0 k l0 y500 true a1_0 a1_1 a1_2)))
def laws_FnExactShownIds.f (k : Nat) (l0 : List S52) (v0 : Int) (v1 : Int) (v2 : Int) : Option Bool :=
  (laws_szFeatureS.f k l0 1048576).bind fun left => if left < 0 then some true else
  (laws_toFeatureS.f k l0).bind fun x => (laws_toLevel.f v0 v1 v2).bind fun tv => (spec_ShownIds.f k x tv.1 tv.2.1 tv.2.2).bind fun s => (impl_ShownIds.f k x tv.1 tv.2.1 tv.2.2).bind fun g =>
  (laws_eqIntS.f k g s).bind fun e1 => (laws_eqFeatureS.f k x x).bind fun e2 => (laws_markFeatureS.f x 1).bind fun m1 => (laws_markIntS.f k g 1).bind fun m3 => (laws_heldIntS.f k m3.2 1).bind fun q =>
  if e1 = true ∧ e2 = true ∧ 0 ≤ m1 ∧ 0 ≤ q ∧ m3.1 = q then some true else none
end Go.Proofs.YtkomgmgpgnjooaaGreat.PFnExactShownIds
