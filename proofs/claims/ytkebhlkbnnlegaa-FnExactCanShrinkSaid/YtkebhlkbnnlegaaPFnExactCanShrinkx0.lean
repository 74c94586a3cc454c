-- Written by a program of this session's (evlaw.py).
import Derived.ArgAppend
import Derived.Below
import Derived.BigQuiet
import Derived.Deep.AppendLies
import Derived.Deep.CutBlock
import Derived.Deep.DeepCutAuto
import Derived.Deep.Draws
import Derived.Deep.LoopGhost
import Derived.Deep.OwnRows
import Derived.Deep.QuietTactic
import Derived.Deep.RegionHeld3
import Derived.KernelRfl
import Derived.Laws.BitsLemmas
import Derived.Laws.BytesArg
import Derived.Laws.IdiomCopy
import Derived.Laws.MakeOwn
import Derived.Laws.OwnMore
import Derived.Laws.Rows
import Derived.Laws.Slices
import Derived.Lib.AppendStr
import Derived.Lib.ConvBytes
import Derived.Maps.AppendAt
import Derived.OrdersHeld
import Derived.OwnWalk
import Derived.RowKit
import Derived.RowKit3
import Derived.Tactics
import Derived.Test.YtkebhlkbnnlegaaGeo
import Derived.Test.YtkebhlkbnnlegaaHand
import Derived.Test.YtkebhlkbnnlegaaMeet
import Derived.Test.YtkebhlkbnnlegaaProg
import Derived.Test.YtkebhlkbnnlegaaQuiet
import Derived.Test.YtkebhlkbnnlegaaWApart
import Derived.Test.YtkebhlkbnnlegaaWArr
import Derived.Test.YtkebhlkbnnlegaaWAt
import Derived.Test.YtkebhlkbnnlegaaWEqStruct
import Derived.Test.YtkebhlkbnnlegaaWFoot
import Derived.Test.YtkebhlkbnnlegaaWFootNe
import Derived.Test.YtkebhlkbnnlegaaWFour
import Derived.Test.YtkebhlkbnnlegaaWGuard
import Derived.Test.YtkebhlkbnnlegaaWInv
import Derived.Test.YtkebhlkbnnlegaaWInvWords
import Derived.Test.YtkebhlkbnnlegaaWKept
import Derived.Test.YtkebhlkbnnlegaaWLast
import Derived.Test.YtkebhlkbnnlegaaWMore
import Derived.Test.YtkebhlkbnnlegaaWN
import Derived.Test.YtkebhlkbnnlegaaWNEv
import Derived.Test.YtkebhlkbnnlegaaWQPut
import Derived.Test.YtkebhlkbnnlegaaWRepsOne
import Derived.Test.YtkebhlkbnnlegaaWShare
import Derived.Test.YtkebhlkbnnlegaaWTab
import Derived.Test.YtkebhlkbnnlegaaWWords
import Derived.Test.YtkebhlkbnnlegaaWZeros
import Derived.Test.YtkebhlkbnnlegaaZ
import Derived.WalkKit
import Derived.WideLaws
namespace Go.Proofs.Ytkebhlkbnnlegaa.PFnExactCanShrink
open Go.RowKit Go.Proofs.YtkebhlkbnnlegaaW.PrintWords Go.Proofs.YtkebhlkbnnlegaaW.PrintLast Go.Proofs.YtkebhlkbnnlegaaW.PrintMore Go.Proofs.YtkebhlkbnnlegaaGeo Go.Proofs.YtkebhlkbnnlegaaHand Go.Proofs.YtkebhlkbnnlegaaMeet Go.Proofs.YtkebhlkbnnlegaaQuiet Go.Proofs.YtkebhlkbnnlegaaZ
attribute [local go_sem] max2_int min2_int max_two min_two max_three min_three max_four min_four   -- for this text's walks alone
set_option linter.unusedVariables false
set_option linter.unusedSimpArgs false
def errW : Option Int → Value
  | none => .nilIface
  | some c => .iface 0 (.int .i64 c)
theorem errW_none : errW none = .nilIface := rfl
theorem errW_some (c : Int) : errW (some c) = .iface 0 (.int .i64 c) := rfl
theorem info28 : (Try.prog.info? 28).map (fun i => (i.zero, i.size, i.bytes)) = some (some (.agg #[(.int .i64 0), (.int .i64 0), (.int .i64 0), (.string ⟨#[]⟩), (.slice none 0 0)]), 5, 64) := by kernel_rfl
theorem info77 : (Try.prog.info? 77).map (fun i => (i.zero, i.size, i.bytes)) = some (some (.agg #[(.int .i64 0), (.int .i64 0)]), 2, 16) := by kernel_rfl
theorem info95 : (Try.prog.info? 95).map (fun i => (i.zero, i.size, i.bytes)) = some (some (.agg #[(.int .i64 0), (.int .i64 0), (.int .i64 0), (.int .i64 0)]), 4, 32) := by kernel_rfl
-- the values' own types
structure S85 where
  f0 : Int
  f1 : Int
def z85 : S85 := ⟨(0 : Int), (0 : Int)⟩
def k85 : Kd S85 := Kd.iso (Kd.pair (Kd.int .i64) (Kd.int .i64)) (fun x : S85 => (x.f0, x.f1))
theorem k85_open {w : World} {x : S85} {cs : List Value} (h : k85.K w x cs) : cs = [.int .i64 x.f0, .int .i64 x.f1] := by
  obtain ⟨_, _, rfl, rfl, rfl⟩ := h
  exact rfl
theorem k85_openM {w : World} {base : Nat} {ok : Nat → Prop} {x : S85} {cs : List Value} (h : k85.M w base ok x cs) : cs = [.int .i64 x.f0, .int .i64 x.f1] := by
  obtain ⟨_, _, rfl, rfl, rfl⟩ := h
  exact rfl
theorem k85_mk (w : World) (x : S85)  : k85.K w x [.int .i64 x.f0, .int .i64 x.f1] := ⟨[.int .i64 x.f0], [.int .i64 x.f1], rfl, rfl, rfl⟩
theorem k85_mkM (w : World) (base : Nat) (ok : Nat → Prop) (x : S85)  : k85.M w base ok x [.int .i64 x.f0, .int .i64 x.f1] := ⟨[.int .i64 x.f0], [.int .i64 x.f1], rfl, rfl, rfl⟩
def rd_T85 (xs : List S85) (i : Int) : S85 := xs.getD i.toNat z85
theorem at_T85 {w : World} {A : Option Addr} {n : Nat} {xs : List S85} (h : Kd.C k85 w A n xs) (i : Int) (h0 : 0 ≤ i) (h1 : i < n) : ∃ ad , A = some ad ∧ w.cell? (ad.add (i.toNat * 2)) = some (.int .i64 (rd_T85 xs i).f0) ∧ w.cell? ⟨(ad.add (i.toNat * 2)).block, (ad.add (i.toNat * 2)).off + 1, none⟩ = some (.int .i64 (rd_T85 xs i).f1) := by
  obtain ⟨ad, c, e, _, hK, hc0⟩ := Kd.C_get h z85 i h0 h1; have hc : ∀ j u, c[j]? = some u → w.cell? (ad.add (i.toNat * 2 + j)) = some u := hc0; obtain rfl := k85_open hK
  exact ⟨ad, e, hc 0 _ rfl, by rw [← add_field _ _ 1 (by omega)]; exact hc 1 _ rfl⟩
structure S77 where
  f0 : Int
  f1 : Int
def z77 : S77 := ⟨(0 : Int), (0 : Int)⟩
def k77 : Kd S77 := Kd.iso (Kd.pair (Kd.int .i64) (Kd.int .i64)) (fun x : S77 => (x.f0, x.f1))
theorem k77_open {w : World} {x : S77} {cs : List Value} (h : k77.K w x cs) : cs = [.int .i64 x.f0, .int .i64 x.f1] := by
  obtain ⟨_, _, rfl, rfl, rfl⟩ := h
  exact rfl
theorem k77_openM {w : World} {base : Nat} {ok : Nat → Prop} {x : S77} {cs : List Value} (h : k77.M w base ok x cs) : cs = [.int .i64 x.f0, .int .i64 x.f1] := by
  obtain ⟨_, _, rfl, rfl, rfl⟩ := h
  exact rfl
theorem k77_mk (w : World) (x : S77)  : k77.K w x [.int .i64 x.f0, .int .i64 x.f1] := ⟨[.int .i64 x.f0], [.int .i64 x.f1], rfl, rfl, rfl⟩
theorem k77_mkM (w : World) (base : Nat) (ok : Nat → Prop) (x : S77)  : k77.M w base ok x [.int .i64 x.f0, .int .i64 x.f1] := ⟨[.int .i64 x.f0], [.int .i64 x.f1], rfl, rfl, rfl⟩
def rd_T77 (xs : List S77) (i : Int) : S77 := xs.getD i.toNat z77
theorem at_T77 {w : World} {A : Option Addr} {n : Nat} {xs : List S77} (h : Kd.C k77 w A n xs) (i : Int) (h0 : 0 ≤ i) (h1 : i < n) : ∃ ad , A = some ad ∧ w.cell? (ad.add (i.toNat * 2)) = some (.int .i64 (rd_T77 xs i).f0) ∧ w.cell? ⟨(ad.add (i.toNat * 2)).block, (ad.add (i.toNat * 2)).off + 1, none⟩ = some (.int .i64 (rd_T77 xs i).f1) := by
  obtain ⟨ad, c, e, _, hK, hc0⟩ := Kd.C_get h z77 i h0 h1; have hc : ∀ j u, c[j]? = some u → w.cell? (ad.add (i.toNat * 2 + j)) = some u := hc0; obtain rfl := k77_open hK
  exact ⟨ad, e, hc 0 _ rfl, by rw [← add_field _ _ 1 (by omega)]; exact hc 1 _ rfl⟩
def rd_L4 (xs : List (List S85)) (i : Int) : (List S85) := xs.getD i.toNat ([] : List S85)
theorem at_L4 {w : World} {A : Option Addr} {n : Nat} {xs : List (List S85)} (h : Kd.C (Kd.slice 85 k85) w A n xs) (i : Int) (h0 : 0 ≤ i) (h1 : i < n) : ∃ ad A0 c0, A = some ad ∧ w.cell? (ad.add i.toNat) = some (.slice A0 (rd_L4 xs i).length c0) ∧ (rd_L4 xs i).length ≤ c0 ∧ k85.C w A0 (rd_L4 xs i).length (rd_L4 xs i) := by
  obtain ⟨ad, c, e, _, hK, hc0⟩ := Kd.C_get h ([] : List S85) i h0 h1; have hc : ∀ j u, c[j]? = some u → w.cell? (ad.add (i.toNat * 1 + j)) = some u := hc0; obtain ⟨A0, c0, rfl, l0, g0⟩ := hK
  exact ⟨ad, A0, c0, e, by have hq := hc 0 _ rfl; rwa [Nat.mul_one, Nat.add_zero] at hq, l0, g0⟩
structure S24 where
  f0 : Int
  f1 : Int
  f2 : Int
  f3 : ByteArray
  f4 : (List S85)
def z24 : S24 := ⟨(0 : Int), (0 : Int), (0 : Int), (⟨#[]⟩ : ByteArray), ([] : List S85)⟩
def k24 : Kd S24 := Kd.iso (Kd.pair (Kd.int .i64) (Kd.pair (Kd.int .i64) (Kd.pair (Kd.int .i64) (Kd.pair Kd.string (Kd.slice 85 k85))))) (fun x : S24 => (x.f0, x.f1, x.f2, x.f3, x.f4))
theorem k24_open {w : World} {x : S24} {cs : List Value} (h : k24.K w x cs) : ∃ A4 c4, cs = [.int .i64 x.f0, .int .i64 x.f1, .int .i64 x.f2, .string x.f3, .slice A4 x.f4.length c4] ∧ x.f4.length ≤ c4 ∧ k85.C w A4 x.f4.length x.f4 := by
  obtain ⟨_, _, rfl, rfl, ⟨_, _, rfl, rfl, ⟨_, _, rfl, rfl, ⟨_, _, rfl, rfl, ⟨A4, c4, rfl, l4, g4⟩⟩⟩⟩⟩ := h
  exact ⟨A4, c4, rfl, l4, g4⟩
theorem k24_openM {w : World} {base : Nat} {ok : Nat → Prop} {x : S24} {cs : List Value} (h : k24.M w base ok x cs) : ∃ v4, cs = [.int .i64 x.f0, .int .i64 x.f1, .int .i64 x.f2, .string x.f3, v4] ∧ k85.R 85 w base ok v4 x.f4 := by
  obtain ⟨_, _, rfl, rfl, ⟨_, _, rfl, rfl, ⟨_, _, rfl, rfl, ⟨_, _, rfl, rfl, ⟨v4, rfl, g4⟩⟩⟩⟩⟩ := h
  exact ⟨v4, rfl, g4⟩
theorem k24_mk (w : World) (x : S24) {A4 : Option Addr} {c4 : Nat} (l4 : x.f4.length ≤ c4) (g4 : k85.C w A4 x.f4.length x.f4) : k24.K w x [.int .i64 x.f0, .int .i64 x.f1, .int .i64 x.f2, .string x.f3, .slice A4 x.f4.length c4] := ⟨[.int .i64 x.f0], [.int .i64 x.f1, .int .i64 x.f2, .string x.f3, .slice A4 x.f4.length c4], rfl, rfl, ⟨[.int .i64 x.f1], [.int .i64 x.f2, .string x.f3, .slice A4 x.f4.length c4], rfl, rfl, ⟨[.int .i64 x.f2], [.string x.f3, .slice A4 x.f4.length c4], rfl, rfl, ⟨[.string x.f3], [.slice A4 x.f4.length c4], rfl, rfl, ⟨A4, c4, rfl, l4, g4⟩⟩⟩⟩⟩
theorem k24_mkM (w : World) (base : Nat) (ok : Nat → Prop) (x : S24) {v4 : Value} (g4 : k85.R 85 w base ok v4 x.f4) : k24.M w base ok x [.int .i64 x.f0, .int .i64 x.f1, .int .i64 x.f2, .string x.f3, v4] := ⟨[.int .i64 x.f0], [.int .i64 x.f1, .int .i64 x.f2, .string x.f3, v4], rfl, rfl, ⟨[.int .i64 x.f1], [.int .i64 x.f2, .string x.f3, v4], rfl, rfl, ⟨[.int .i64 x.f2], [.string x.f3, v4], rfl, rfl, ⟨[.string x.f3], [v4], rfl, rfl, ⟨v4, rfl, g4⟩⟩⟩⟩⟩
def rd_T24 (xs : List S24) (i : Int) : S24 := xs.getD i.toNat z24
theorem at_T24 {w : World} {A : Option Addr} {n : Nat} {xs : List S24} (h : Kd.C k24 w A n xs) (i : Int) (h0 : 0 ≤ i) (h1 : i < n) : ∃ ad A4 c4, A = some ad ∧ w.cell? (ad.add (i.toNat * 5)) = some (.int .i64 (rd_T24 xs i).f0) ∧ w.cell? ⟨(ad.add (i.toNat * 5)).block, (ad.add (i.toNat * 5)).off + 1, none⟩ = some (.int .i64 (rd_T24 xs i).f1) ∧ w.cell? ⟨(ad.add (i.toNat * 5)).block, (ad.add (i.toNat * 5)).off + 2, none⟩ = some (.int .i64 (rd_T24 xs i).f2) ∧ w.cell? ⟨(ad.add (i.toNat * 5)).block, (ad.add (i.toNat * 5)).off + 3, none⟩ = some (.string (rd_T24 xs i).f3) ∧ w.cell? ⟨(ad.add (i.toNat * 5)).block, (ad.add (i.toNat * 5)).off + 4, none⟩ = some (.slice A4 (rd_T24 xs i).f4.length c4) ∧ (rd_T24 xs i).f4.length ≤ c4 ∧ k85.C w A4 (rd_T24 xs i).f4.length (rd_T24 xs i).f4 := by
  obtain ⟨ad, c, e, _, hK, hc0⟩ := Kd.C_get h z24 i h0 h1; have hc : ∀ j u, c[j]? = some u → w.cell? (ad.add (i.toNat * 5 + j)) = some u := hc0; obtain ⟨A4, c4, rfl, l4, g4⟩ := k24_open hK
  exact ⟨ad, A4, c4, e, hc 0 _ rfl, by rw [← add_field _ _ 1 (by omega)]; exact hc 1 _ rfl, by rw [← add_field _ _ 2 (by omega)]; exact hc 2 _ rfl, by rw [← add_field _ _ 3 (by omega)]; exact hc 3 _ rfl, by rw [← add_field _ _ 4 (by omega)]; exact hc 4 _ rfl, l4, g4⟩
structure S95 where
  f0 : S77
  f1 : S77
def z95 : S95 := ⟨z77, z77⟩
def k95 : Kd S95 := Kd.iso (Kd.pair k77 k77) (fun x : S95 => (x.f0, x.f1))
theorem k95_open {w : World} {x : S95} {cs : List Value} (h : k95.K w x cs) : cs = [.int .i64 x.f0.f0, .int .i64 x.f0.f1, .int .i64 x.f1.f0, .int .i64 x.f1.f1] := by
  obtain ⟨_, _, rfl, s0, s2⟩ := h; obtain rfl := k77_open s0; obtain rfl := k77_open s2
  exact rfl
theorem k95_openM {w : World} {base : Nat} {ok : Nat → Prop} {x : S95} {cs : List Value} (h : k95.M w base ok x cs) : cs = [.int .i64 x.f0.f0, .int .i64 x.f0.f1, .int .i64 x.f1.f0, .int .i64 x.f1.f1] := by
  obtain ⟨_, _, rfl, s0, s2⟩ := h; obtain rfl := k77_openM s0; obtain rfl := k77_openM s2
  exact rfl
theorem k95_mk (w : World) (x : S95)  : k95.K w x [.int .i64 x.f0.f0, .int .i64 x.f0.f1, .int .i64 x.f1.f0, .int .i64 x.f1.f1] := ⟨[.int .i64 x.f0.f0, .int .i64 x.f0.f1], [.int .i64 x.f1.f0, .int .i64 x.f1.f1], rfl, (k77_mk w x.f0 ), (k77_mk w x.f1 )⟩
theorem k95_mkM (w : World) (base : Nat) (ok : Nat → Prop) (x : S95)  : k95.M w base ok x [.int .i64 x.f0.f0, .int .i64 x.f0.f1, .int .i64 x.f1.f0, .int .i64 x.f1.f1] := ⟨[.int .i64 x.f0.f0, .int .i64 x.f0.f1], [.int .i64 x.f1.f0, .int .i64 x.f1.f1], rfl, (k77_mkM w base ok x.f0 ), (k77_mkM w base ok x.f1 )⟩
def rd_T95 (xs : List S95) (i : Int) : S95 := xs.getD i.toNat z95
theorem at_T95 {w : World} {A : Option Addr} {n : Nat} {xs : List S95} (h : Kd.C k95 w A n xs) (i : Int) (h0 : 0 ≤ i) (h1 : i < n) : ∃ ad , A = some ad ∧ w.cell? (ad.add (i.toNat * 4)) = some (.int .i64 (rd_T95 xs i).f0.f0) ∧ w.cell? ⟨(ad.add (i.toNat * 4)).block, (ad.add (i.toNat * 4)).off + 1, none⟩ = some (.int .i64 (rd_T95 xs i).f0.f1) ∧ w.cell? ⟨(ad.add (i.toNat * 4)).block, (ad.add (i.toNat * 4)).off + 2, none⟩ = some (.int .i64 (rd_T95 xs i).f1.f0) ∧ w.cell? ⟨(ad.add (i.toNat * 4)).block, (ad.add (i.toNat * 4)).off + 3, none⟩ = some (.int .i64 (rd_T95 xs i).f1.f1) := by
  obtain ⟨ad, c, e, _, hK, hc0⟩ := Kd.C_get h z95 i h0 h1; have hc : ∀ j u, c[j]? = some u → w.cell? (ad.add (i.toNat * 4 + j)) = some u := hc0; obtain rfl := k95_open hK
  exact ⟨ad, e, hc 0 _ rfl, by rw [← add_field _ _ 1 (by omega)]; exact hc 1 _ rfl, by rw [← add_field _ _ 2 (by omega)]; exact hc 2 _ rfl, by rw [← add_field _ _ 3 (by omega)]; exact hc 3 _ rfl⟩
def rd_L7 (xs : List (List S77)) (i : Int) : (List S77) := xs.getD i.toNat ([] : List S77)
theorem at_L7 {w : World} {A : Option Addr} {n : Nat} {xs : List (List S77)} (h : Kd.C (Kd.slice 77 k77) w A n xs) (i : Int) (h0 : 0 ≤ i) (h1 : i < n) : ∃ ad A0 c0, A = some ad ∧ w.cell? (ad.add i.toNat) = some (.slice A0 (rd_L7 xs i).length c0) ∧ (rd_L7 xs i).length ≤ c0 ∧ k77.C w A0 (rd_L7 xs i).length (rd_L7 xs i) := by
  obtain ⟨ad, c, e, _, hK, hc0⟩ := Kd.C_get h ([] : List S77) i h0 h1; have hc : ∀ j u, c[j]? = some u → w.cell? (ad.add (i.toNat * 1 + j)) = some u := hc0; obtain ⟨A0, c0, rfl, l0, g0⟩ := hK
  exact ⟨ad, A0, c0, e, by have hq := hc 0 _ rfl; rwa [Nat.mul_one, Nat.add_zero] at hq, l0, g0⟩
structure S28 where
  f0 : Int
  f1 : Int
  f2 : Int
  f3 : ByteArray
  f4 : (List S77)
def z28 : S28 := ⟨(0 : Int), (0 : Int), (0 : Int), (⟨#[]⟩ : ByteArray), ([] : List S77)⟩
def k28 : Kd S28 := Kd.iso (Kd.pair (Kd.int .i64) (Kd.pair (Kd.int .i64) (Kd.pair (Kd.int .i64) (Kd.pair Kd.string (Kd.slice 77 k77))))) (fun x : S28 => (x.f0, x.f1, x.f2, x.f3, x.f4))
theorem k28_open {w : World} {x : S28} {cs : List Value} (h : k28.K w x cs) : ∃ A4 c4, cs = [.int .i64 x.f0, .int .i64 x.f1, .int .i64 x.f2, .string x.f3, .slice A4 x.f4.length c4] ∧ x.f4.length ≤ c4 ∧ k77.C w A4 x.f4.length x.f4 := by
  obtain ⟨_, _, rfl, rfl, ⟨_, _, rfl, rfl, ⟨_, _, rfl, rfl, ⟨_, _, rfl, rfl, ⟨A4, c4, rfl, l4, g4⟩⟩⟩⟩⟩ := h
  exact ⟨A4, c4, rfl, l4, g4⟩
theorem k28_openM {w : World} {base : Nat} {ok : Nat → Prop} {x : S28} {cs : List Value} (h : k28.M w base ok x cs) : ∃ v4, cs = [.int .i64 x.f0, .int .i64 x.f1, .int .i64 x.f2, .string x.f3, v4] ∧ k77.R 77 w base ok v4 x.f4 := by
  obtain ⟨_, _, rfl, rfl, ⟨_, _, rfl, rfl, ⟨_, _, rfl, rfl, ⟨_, _, rfl, rfl, ⟨v4, rfl, g4⟩⟩⟩⟩⟩ := h
  exact ⟨v4, rfl, g4⟩
theorem k28_mk (w : World) (x : S28) {A4 : Option Addr} {c4 : Nat} (l4 : x.f4.length ≤ c4) (g4 : k77.C w A4 x.f4.length x.f4) : k28.K w x [.int .i64 x.f0, .int .i64 x.f1, .int .i64 x.f2, .string x.f3, .slice A4 x.f4.length c4] := ⟨[.int .i64 x.f0], [.int .i64 x.f1, .int .i64 x.f2, .string x.f3, .slice A4 x.f4.length c4], rfl, rfl, ⟨[.int .i64 x.f1], [.int .i64 x.f2, .string x.f3, .slice A4 x.f4.length c4], rfl, rfl, ⟨[.int .i64 x.f2], [.string x.f3, .slice A4 x.f4.length c4], rfl, rfl, ⟨[.string x.f3], [.slice A4 x.f4.length c4], rfl, rfl, ⟨A4, c4, rfl, l4, g4⟩⟩⟩⟩⟩
theorem k28_mkM (w : World) (base : Nat) (ok : Nat → Prop) (x : S28) {v4 : Value} (g4 : k77.R 77 w base ok v4 x.f4) : k28.M w base ok x [.int .i64 x.f0, .int .i64 x.f1, .int .i64 x.f2, .string x.f3, v4] := ⟨[.int .i64 x.f0], [.int .i64 x.f1, .int .i64 x.f2, .string x.f3, v4], rfl, rfl, ⟨[.int .i64 x.f1], [.int .i64 x.f2, .string x.f3, v4], rfl, rfl, ⟨[.int .i64 x.f2], [.string x.f3, v4], rfl, rfl, ⟨[.string x.f3], [v4], rfl, rfl, ⟨v4, rfl, g4⟩⟩⟩⟩⟩
def rd_T28 (xs : List S28) (i : Int) : S28 := xs.getD i.toNat z28
theorem at_T28 {w : World} {A : Option Addr} {n : Nat} {xs : List S28} (h : Kd.C k28 w A n xs) (i : Int) (h0 : 0 ≤ i) (h1 : i < n) : ∃ ad A4 c4, A = some ad ∧ w.cell? (ad.add (i.toNat * 5)) = some (.int .i64 (rd_T28 xs i).f0) ∧ w.cell? ⟨(ad.add (i.toNat * 5)).block, (ad.add (i.toNat * 5)).off + 1, none⟩ = some (.int .i64 (rd_T28 xs i).f1) ∧ w.cell? ⟨(ad.add (i.toNat * 5)).block, (ad.add (i.toNat * 5)).off + 2, none⟩ = some (.int .i64 (rd_T28 xs i).f2) ∧ w.cell? ⟨(ad.add (i.toNat * 5)).block, (ad.add (i.toNat * 5)).off + 3, none⟩ = some (.string (rd_T28 xs i).f3) ∧ w.cell? ⟨(ad.add (i.toNat * 5)).block, (ad.add (i.toNat * 5)).off + 4, none⟩ = some (.slice A4 (rd_T28 xs i).f4.length c4) ∧ (rd_T28 xs i).f4.length ≤ c4 ∧ k77.C w A4 (rd_T28 xs i).f4.length (rd_T28 xs i).f4 := by
  obtain ⟨ad, c, e, _, hK, hc0⟩ := Kd.C_get h z28 i h0 h1; have hc : ∀ j u, c[j]? = some u → w.cell? (ad.add (i.toNat * 5 + j)) = some u := hc0; obtain ⟨A4, c4, rfl, l4, g4⟩ := k28_open hK
  exact ⟨ad, A4, c4, e, hc 0 _ rfl, by rw [← add_field _ _ 1 (by omega)]; exact hc 1 _ rfl, by rw [← add_field _ _ 2 (by omega)]; exact hc 2 _ rfl, by rw [← add_field _ _ 3 (by omega)]; exact hc 3 _ rfl, by rw [← add_field _ _ 4 (by omega)]; exact hc 4 _ rfl, l4, g4⟩
theorem eqA77 (d : Nat) (w : World) (x0 y0 : Int) (x1 y1 : Int) :
    (Op.equalIn (d + 2) 77 (.agg #[.int .i64 x0, .int .i64 x1]) (.agg #[.int .i64 y0, .int .i64 y1])).run Try.prog w = .ok (x0 == y0 && (x1 == y1)) w := by
  refine eqA_of Try.underlying77 (by kernel_rfl) ?_; refine eqf_cons (by rfl) (by go_simp; rfl) (by go_simp; rfl) (by go_simp) ?_
  exact eqf_last (by rfl) (by go_simp; rfl) (by go_simp; rfl) (by go_simp)
def laws_szPointS.f (l0 : List (S85)) (a1 : Int) : Option (Int) := if (wrap64 (a1 - (l0.length : Int))) < 0 then (some (-1)) else (some (wrap64 (a1 - (l0.length : Int))))
def laws_szFeature.f (a0_0 : Int) (a0_1 : Int) (a0_2 : Int) (a0_3 : ByteArray) (l0_4 : List (S85)) (a1 : Int) : Option (Int) := if (wrap64 (a1 - (a0_3.size : Int))) < 0 then (some (-1)) else ((laws_szPointS.f l0_4 (wrap64 (a1 - (a0_3.size : Int)))).bind fun t102 => (if t102 < 0 then (some (-1)) else (some t102)))
def laws_toPoint.f (a0_0 : Int) (a0_1 : Int) : Option (Int × Int) := some (a0_0, a0_1)
def laws_toPointS.l0 : Nat → List (S85) → List (S77) → Int → Option ((List (S77)))
 | 0, _, _, _ => none
 | k + 1, x0, x3, x4 => if x4 < (x0.length : Int) then (if 0 ≤ x4 then ((laws_toPoint.f ((rd_T85 x0 x4).f0) ((rd_T85 x0 x4).f1)).bind fun bt110 => (if x4 < (x3.length : Int) then (laws_toPointS.l0 k x0 (x3.set (x4 : Int).toNat (⟨bt110.1, bt110.2⟩ : S77)) (wrap64 (x4 + 1))) else (none))) else (none)) else (some x3)
def laws_toPointS.f (k : Nat) (l0 : List (S85)) : Option ((List (S77))) := if 0 ≤ (l0.length : Int) then (if ((l0.length : Int) : Int).toNat ≤ 17592186044416 then (laws_toPointS.l0 k l0 (List.replicate ((l0.length : Int) : Int).toNat z77) 0) else (none)) else (none)
def laws_toFeature.f (k : Nat) (a0_0 : Int) (a0_1 : Int) (a0_2 : Int) (a0_3 : ByteArray) (l0_4 : List (S85)) : Option (Int × Int × Int × ByteArray × (List (S77))) := (laws_toPointS.f k l0_4).bind fun t116 => (some (a0_0, a0_1, a0_2, a0_3, t116))
def laws_eqPoint.f (a0_0 : Int) (a0_1 : Int) (a1_0 : Int) (a1_1 : Int) : Option (Bool) := if a0_0 = a1_0 then (if a0_1 = a1_1 then (some true) else (some false)) else (some false)
def laws_eqPointS.l0 : Nat → List (S77) → List (S77) → Int → Option (Bool)
 | 0, _, _, _ => none
 | k + 1, x0, x1, x5 => if x5 < (x0.length : Int) then (if 0 ≤ x5 then (if x5 < (x1.length : Int) then ((laws_eqPoint.f ((rd_T77 x0 x5).f0) ((rd_T77 x0 x5).f1) ((rd_T77 x1 x5).f0) ((rd_T77 x1 x5).f1)).bind fun t123 => (if t123 = true then (laws_eqPointS.l0 k x0 x1 (wrap64 (x5 + 1))) else (some false))) else (none)) else (none)) else (some true)
def laws_eqPointS.f (k : Nat) (l0 : List (S77)) (l1 : List (S77)) : Option (Bool) := if (l0.length : Int) = (l1.length : Int) then (laws_eqPointS.l0 k l0 l1 0) else (some false)
def laws_eqFeature.f (k : Nat) (a0_0 : Int) (a0_1 : Int) (a0_2 : Int) (a0_3 : ByteArray) (l0_4 : List (S77)) (a1_0 : Int) (a1_1 : Int) (a1_2 : Int) (a1_3 : ByteArray) (l1_4 : List (S77)) : Option (Bool) := if a0_0 = a1_0 then (if a0_1 = a1_1 then (if a0_2 = a1_2 then (if a0_3.toList = a1_3.toList then ((laws_eqPointS.f k l0_4 l1_4).bind fun t126 => (if t126 = true then (some true) else (some false))) else (some false)) else (some false)) else (some false)) else (some false)
def laws_szFeatureS.l0 : Nat → List (S24) → Int → Int → Option (Int)
 | 0, _, _, _ => none
 | k + 1, x0, x1, x5 => if x5 < (x0.length : Int) then (if 0 ≤ x5 then ((laws_szFeature.f ((rd_T24 x0 x5).f0) ((rd_T24 x0 x5).f1) ((rd_T24 x0 x5).f2) ((rd_T24 x0 x5).f3) ((rd_T24 x0 x5).f4) x1).bind fun t128 => (if t128 < 0 then (some (-1)) else (laws_szFeatureS.l0 k x0 t128 (wrap64 (x5 + 1))))) else (none)) else (some x1)
def laws_szFeatureS.f (k : Nat) (l0 : List (S24)) (a1 : Int) : Option (Int) := if (wrap64 (a1 - (l0.length : Int))) < 0 then (some (-1)) else (laws_szFeatureS.l0 k l0 (wrap64 (a1 - (l0.length : Int))) 0)
def spec_l9Feature.f (a0_0 : Int) (a0_1 : Int) (a0_2 : Int) (a0_3 : ByteArray) (l0_4 : List (S77)) : Option (Int × Int × Int × ByteArray × (List (S77))) := (some (([] : List (S77)) : List (S77))).bind fun y131 => (if y131.length + l0_4.length < 8796093022208 then (some (a0_0, a0_1, a0_2, a0_3, (y131 ++ l0_4))) else (none))
def spec_l1In.f (a0 : Int) (a1 : Int) (a2 : Int) : Option (Bool) := some (inR a0 a1 a2)
/-- A state of type 77 at block g of W; what its slices lead to came in by w0. -/
def IsS77 (w0 W : World) (g : Nat) (f0 : Int) (f1 : Int) : Prop := W.heap[g]? = some (.cells #[.int .i64 f0, .int .i64 f1] 77 (0, 0)) ∧ w0.heap.size ≤ g
theorem cellS77_0 {W : World} {g : Nat} {f0 : Int} {f1 : Int} (h : W.heap[g]? = some (.cells #[.int .i64 f0, .int .i64 f1] 77 (0, 0))) : W.cell? ⟨g, 0, none⟩ = some (.int .i64 f0) := (blk_cell h 0).trans rfl
theorem cellS77_1 {W : World} {g : Nat} {f0 : Int} {f1 : Int} (h : W.heap[g]? = some (.cells #[.int .i64 f0, .int .i64 f1] 77 (0, 0))) : W.cell? ⟨g, 1, none⟩ = some (.int .i64 f1) := (blk_cell h 1).trans rfl
def spec_IsPoint.f (a0_0 : Int) (a0_1 : Int) : Option (Bool) := some (isPt a0_0 a0_1)
attribute [local go_sem high] eqA77
def spec_IsLine.l0 : Nat → List (S77) → Int → Option (Bool)
 | 0, _, _ => none
 | k + 1, x0, x3 => if x3 < (x0.length : Int) then (if 0 ≤ x3 then ((spec_IsPoint.f ((rd_T77 x0 x3).f0) ((rd_T77 x0 x3).f1)).bind fun t138 => (if t138 = true then (if x3 > 0 then (if 0 ≤ (wrap64 (x3 - 1)) then (if (wrap64 (x3 - 1)) < (x0.length : Int) then (if (((rd_T77 x0 (wrap64 (x3 - 1))).f0) == ((rd_T77 x0 x3).f0) && (((rd_T77 x0 (wrap64 (x3 - 1))).f1) == ((rd_T77 x0 x3).f1))) = true then (some false) else (spec_IsLine.l0 k x0 (wrap64 (x3 + 1)))) else (none)) else (none)) else (spec_IsLine.l0 k x0 (wrap64 (x3 + 1)))) else (some false))) else (none)) else ((spec_l1In.f (x0.length : Int) 2 10).bind fun t141 => (some t141))
def spec_IsLine.f (k : Nat) (l0 : List (S77)) : Option (Bool) := spec_IsLine.l0 k l0 0
def spec_DropPoint.j0 : Nat → List (S77) → Int → Bool → Option ((List (S77)) × Bool)
 | 0, _, _, _ => none
 | k + 1, x0, x1, x17 => if x17 = true then ((some (([] : List (S77)) : List (S77))).bind fun y144 => (if y144.length + x0.length < 8796093022208 then (some ((y144 ++ x0), false)) else (none))) else ((some (([] : List (S77)) : List (S77))).bind fun y150 => (if 0 ≤ x1 then (if x1 ≤ (x0.length : Int) then ((some (x0.take (x1 : Int).toNat : List (S77))).bind fun y153 => (if y150.length + y153.length < 8796093022208 then ((some (y150 ++ y153 : List (S77))).bind fun y157 => (if 0 ≤ (wrap64 (x1 + 1)) then (if (wrap64 (x1 + 1)) ≤ (x0.length : Int) then ((some (x0.drop ((wrap64 (x1 + 1)) : Int).toNat : List (S77))).bind fun y160 => (if y157.length + y160.length < 8796093022208 then ((some (y157 ++ y160 : List (S77))).bind fun y164 => ((spec_IsLine.f k y164).bind fun t167 => (if t167 = true then (some (y164, true)) else ((some (([] : List (S77)) : List (S77))).bind fun y168 => (if y168.length + x0.length < 8796093022208 then (some ((y168 ++ x0), false)) else (none)))))) else (none))) else (none)) else (none))) else (none))) else (none)) else (none)))
def spec_DropPoint.f (k : Nat) (l0 : List (S77)) (a1 : Int) : Option ((List (S77)) × Bool) := (spec_IsLine.f k l0).bind fun t142 => (if t142 = true then ((spec_l1In.f a1 1 (wrap64 ((l0.length : Int) - 2))).bind fun t143 => (spec_DropPoint.j0 k l0 a1 (!t143))) else (spec_DropPoint.j0 k l0 a1 true))
def spec_Max.f (a0 : Int) (a1 : Int) : Option (Int) := some (mx a0 a1)
/-- A state of type 95 at block g of W; what its slices lead to came in by w0. -/
def IsS95 (w0 W : World) (g : Nat) (f0 : Int) (f1 : Int) (f2 : Int) (f3 : Int) : Prop := W.heap[g]? = some (.cells #[.int .i64 f0, .int .i64 f1, .int .i64 f2, .int .i64 f3] 95 (0, 0)) ∧ w0.heap.size ≤ g
theorem cellS95_0 {W : World} {g : Nat} {f0 : Int} {f1 : Int} {f2 : Int} {f3 : Int} (h : W.heap[g]? = some (.cells #[.int .i64 f0, .int .i64 f1, .int .i64 f2, .int .i64 f3] 95 (0, 0))) : W.cell? ⟨g, 0, none⟩ = some (.int .i64 f0) := (blk_cell h 0).trans rfl
theorem cellS95_1 {W : World} {g : Nat} {f0 : Int} {f1 : Int} {f2 : Int} {f3 : Int} (h : W.heap[g]? = some (.cells #[.int .i64 f0, .int .i64 f1, .int .i64 f2, .int .i64 f3] 95 (0, 0))) : W.cell? ⟨g, 1, none⟩ = some (.int .i64 f1) := (blk_cell h 1).trans rfl
theorem cellS95_2 {W : World} {g : Nat} {f0 : Int} {f1 : Int} {f2 : Int} {f3 : Int} (h : W.heap[g]? = some (.cells #[.int .i64 f0, .int .i64 f1, .int .i64 f2, .int .i64 f3] 95 (0, 0))) : W.cell? ⟨g, 2, none⟩ = some (.int .i64 f2) := (blk_cell h 2).trans rfl
theorem cellS95_3 {W : World} {g : Nat} {f0 : Int} {f1 : Int} {f2 : Int} {f3 : Int} (h : W.heap[g]? = some (.cells #[.int .i64 f0, .int .i64 f1, .int .i64 f2, .int .i64 f3] 95 (0, 0))) : W.cell? ⟨g, 3, none⟩ = some (.int .i64 f3) := (blk_cell h 3).trans rfl
def spec_IsSegment.f (a0_0 : Int) (a0_1 : Int) (a0_2 : Int) (a0_3 : Int) : Option (Bool) := some (isSeg a0_0 a0_1 a0_2 a0_3)
def spec_Min.f (a0 : Int) (a1 : Int) : Option (Int) := some (mn a0 a1)
def spec_l4Cross.f (a0_0 : Int) (a0_1 : Int) (a1_0 : Int) (a1_1 : Int) (a2_0 : Int) (a2_1 : Int) : Option (Int) := some (crossI a0_0 a0_1 a1_0 a1_1 a2_0 a2_1)
def spec_IsOn.f (a0_0 : Int) (a0_1 : Int) (a0_2 : Int) (a0_3 : Int) (a1_0 : Int) (a1_1 : Int) : Option (Bool) := some (isOnI a0_0 a0_1 a0_2 a0_3 a1_0 a1_1)
attribute [local go_sem high] eqA77
mutual
def spec_l5Shared.l0 : Nat → List (S77) → List (S77) → Int → Int → Int → Int → Int → Int → Int → Int → Int → Option (Int)
 | 0, _, _, _, _, _, _, _, _, _, _, _ => none
 | k + 1, x5, x6, x7, x175000, x175001, x175002, x175003, x176000, x176001, x176002, x176003 => if x7 < 4 then (if x7 < 2 then (if 0 ≤ x7 then (if x7 < (x6.length : Int) then ((spec_IsOn.f x176000 x176001 x176002 x176003 ((rd_T77 x6 x7).f0) ((rd_T77 x6 x7).f1)).bind fun t183 => (if t183 = true then (spec_l5Shared.j1 k x5 x6 x7 true x175000 x175001 x175002 x175003 x176000 x176001 x176002 x176003) else (if x7 ≥ 2 then ((spec_IsOn.f x175000 x175001 x175002 x175003 ((rd_T77 x6 x7).f0) ((rd_T77 x6 x7).f1)).bind fun t185 => (spec_l5Shared.j1 k x5 x6 x7 t185 x175000 x175001 x175002 x175003 x176000 x176001 x176002 x176003)) else (spec_l5Shared.j1 k x5 x6 x7 false x175000 x175001 x175002 x175003 x176000 x176001 x176002 x176003)))) else (none)) else (none)) else (if x7 ≥ 2 then (if 0 ≤ x7 then (if x7 < (x6.length : Int) then ((spec_IsOn.f x175000 x175001 x175002 x175003 ((rd_T77 x6 x7).f0) ((rd_T77 x6 x7).f1)).bind fun t187 => (spec_l5Shared.j1 k x5 x6 x7 t187 x175000 x175001 x175002 x175003 x176000 x176001 x176002 x176003)) else (none)) else (none)) else (spec_l5Shared.j1 k x5 x6 x7 false x175000 x175001 x175002 x175003 x176000 x176001 x176002 x176003))) else (some (x5.length : Int))
def spec_l5Shared.j1 : Nat → List (S77) → List (S77) → Int → Bool → Int → Int → Int → Int → Int → Int → Int → Int → Option (Int)
 | 0, _, _, _, _, _, _, _, _, _, _, _, _ => none
 | k + 1, x5, x6, x7, x8, x175000, x175001, x175002, x175003, x176000, x176001, x176002, x176003 => spec_l5Shared.l1 k x5 x6 x7 x8 0 x175000 x175001 x175002 x175003 x176000 x176001 x176002 x176003
def spec_l5Shared.l1 : Nat → List (S77) → List (S77) → Int → Bool → Int → Int → Int → Int → Int → Int → Int → Int → Int → Option (Int)
 | 0, _, _, _, _, _, _, _, _, _, _, _, _, _ => none
 | k + 1, x5, x6, x7, x8, x9, x175000, x175001, x175002, x175003, x176000, x176001, x176002, x176003 => if x9 < (x5.length : Int) then (if x8 = true then (if 0 ≤ x9 then (if 0 ≤ x7 then (if x7 < (x6.length : Int) then (spec_l5Shared.l1 k x5 x6 x7 (!(((rd_T77 x5 x9).f0) == ((rd_T77 x6 x7).f0)) || (!(((rd_T77 x5 x9).f1) == ((rd_T77 x6 x7).f1)))) (wrap64 (x9 + 1)) x175000 x175001 x175002 x175003 x176000 x176001 x176002 x176003) else (none)) else (none)) else (none)) else (spec_l5Shared.l1 k x5 x6 x7 false (wrap64 (x9 + 1)) x175000 x175001 x175002 x175003 x176000 x176001 x176002 x176003)) else (if x8 = true then (if 0 ≤ x7 then (if x7 < (x6.length : Int) then (if x5.length < 8796093022208 then (spec_l5Shared.l0 k (x5 ++ [(⟨(rd_T77 x6 x7).f0, (rd_T77 x6 x7).f1⟩ : S77)]) x6 (wrap64 (x7 + 1)) x175000 x175001 x175002 x175003 x176000 x176001 x176002 x176003) else (none)) else (none)) else (none)) else (spec_l5Shared.l0 k x5 x6 (wrap64 (x7 + 1)) x175000 x175001 x175002 x175003 x176000 x176001 x176002 x176003))
end
def spec_l5Shared.f (k : Nat) (a0_0 : Int) (a0_1 : Int) (a0_2 : Int) (a0_3 : Int) (a1_0 : Int) (a1_1 : Int) (a1_2 : Int) (a1_3 : Int) : Option (Int) := spec_l5Shared.l0 k (([] : List (S77))) (([(⟨a0_0, a0_1⟩ : S77), (⟨a0_2, a0_3⟩ : S77), (⟨a1_0, a1_1⟩ : S77), (⟨a1_2, a1_3⟩ : S77)] : List (S77))) 0 a0_0 a0_1 a0_2 a0_3 a1_0 a1_1 a1_2 a1_3
def spec_SideOf.f (a0_0 : Int) (a0_1 : Int) (a1_0 : Int) (a1_1 : Int) (a2_0 : Int) (a2_1 : Int) : Option (Int) := some (sideI a0_0 a0_1 a1_0 a1_1 a2_0 a2_1)
theorem on_s (a b c d x y : Int) : spec_IsOn.f a b c d x y = some (isOnI a b c d x y) := rfl
def eqP (p q : S77) : Bool := decide (p.f0 = q.f0) && decide (p.f1 = q.f1)
theorem nep (p q : S77) : (!((p.f0) == (q.f0)) || (!((p.f1) == (q.f1)))) = !eqP p q := by
  unfold eqP
  by_cases h : p.f0 = q.f0 <;> by_cases h' : p.f1 = q.f1 <;> simp [h, h']
theorem rdPt (l : List S77) (i : Nat) (h : i < l.length) : rd_T77 l (i : Int) = l[i] := by
  unfold rd_T77
  rw [Int.toNat_natCast, List.getD_eq_getElem?_getD, List.getElem?_eq_getElem h]
  rfl
theorem w1' (i : Nat) (h : i < 9223372036854775807) : wrap64 ((i : Int) + 1) = ((i + 1 : Nat) : Int) := by unfold wrap64; omega
theorem all_if (x : Bool) (L : List S77) (y : S77) (q : S77 → Bool) : (if x = true then L ++ [y] else L).all q = (L.all q && (!x || q y)) := by cases x <;> simp
theorem len_if (x : Bool) (L : List S77) (y : S77) : (if x = true then L ++ [y] else L).length = L.length + (if x = true then 1 else 0) := by cases x <;> simp
section
variable (a b c d e f g h : Int)
theorem sh_l1 (xs es : List S77) (i : Nat) (hi : i < es.length) (hes : es.length ≤ 4) (hx : xs.length ≤ 4) (m : Nat) : ∀ (j : Nat) (on : Bool), j + m = xs.length → ∀ r,
    Ev (fun k => spec_l5Shared.l0 k (if on && (xs.drop j).all (fun p => !eqP p es[i]) then xs ++ [es[i]] else xs) es ((i + 1 : Nat) : Int) a b c d e f g h) r → Ev (fun k => spec_l5Shared.l1 k xs es (i : Int) on (j : Int) a b c d e f g h) r := by
  induction m with
  | zero =>
    intro j on hj r hr; rw [List.drop_of_length_le (by omega)] at hr; refine Ev.step (fun k => ?_) hr; simp only [spec_l5Shared.l1]; rw [if_neg (by omega)]; simp only [List.all_nil, Bool.and_true]
    cases on
    · simp only [Bool.false_eq_true, if_false, w1' i (by omega)]
    · simp only [if_true]; rw [if_pos (by omega), if_pos (by omega), if_pos (by omega), w1' i (by omega), rdPt es i hi]
  | succ m ih =>
    intro j on hj r hr; have hj1 : j < xs.length := by omega
    have hd := List.drop_eq_getElem_cons hj1; rw [hd, List.all_cons] at hr; refine Ev.step (fun k => ?_) (ih (j + 1) (on && !eqP xs[j] es[i]) (by omega) r (by rw [Bool.and_assoc]; exact hr)); simp only [spec_l5Shared.l1]; rw [if_pos (by omega)]
    cases on
    · simp only [Bool.false_eq_true, if_false, w1' j (by omega), Bool.false_and]
    · simp only [if_true]; rw [if_pos (by omega), if_pos (by omega), if_pos (by omega), w1' j (by omega), rdPt es i hi, rdPt xs j hj1, nep, Bool.true_and]
/-- Which segment an end is held against. -/
def onI (i : Nat) (p : S77) : Bool := if i < 2 then isOnI e f g h p.f0 p.f1 else isOnI a b c d p.f0 p.f1
theorem sh_l0 (xs es : List S77) (i : Nat) (hi : i < es.length) (hes : es.length = 4) (hx : xs.length ≤ 4) (r : Int)
    (hr : Ev (fun k => spec_l5Shared.l0 k (if onI a b c d e f g h i es[i] && xs.all (fun p => !eqP p es[i]) then xs ++ [es[i]] else xs) es ((i + 1 : Nat) : Int) a b c d e f g h) r) : Ev (fun k => spec_l5Shared.l0 k xs es (i : Int) a b c d e f g h) r := by
  have go : ∀ on : Bool, on = onI a b c d e f g h i es[i] → Ev (fun k => spec_l5Shared.j1 k xs es (i : Int) on a b c d e f g h) r := by
    intro on hon; refine Ev.step (f := fun k => spec_l5Shared.l1 k xs es (i : Int) on ((0 : Nat) : Int) a b c d e f g h) (fun k => by rw [spec_l5Shared.j1]; rfl) (sh_l1 a b c d e f g h xs es i hi (by omega) hx xs.length 0 on (by omega) r ?_); rw [hon, List.drop_zero]
    exact hr
  have step : ∀ k, spec_l5Shared.l0 (k + 1) xs es (i : Int) a b c d e f g h = spec_l5Shared.j1 k xs es (i : Int) (onI a b c d e f g h i es[i]) a b c d e f g h := by
    intro k; simp only [spec_l5Shared.l0]; rw [if_pos (by omega)]
    by_cases h2 : i < 2
    · rw [if_pos (by omega), if_pos (by omega), if_pos (by omega), rdPt es i hi, on_s, onI, if_pos h2]; simp only [Option.bind_some]
      cases isOnI e f g h es[i].f0 es[i].f1
      · rw [if_neg (by simp), if_neg (by omega)]
      · rw [if_pos rfl]
    · rw [if_neg (by omega), if_pos (by omega), if_pos (by omega), if_pos (by omega), rdPt es i hi, on_s, onI, if_neg h2]; simp only [Option.bind_some]
  exact Ev.step step (go _ rfl)
theorem share_s : Ev (fun k => spec_l5Shared.f k a b c d e f g h) (shareI a b c d e f g h) := by
  unfold spec_l5Shared.f
  generalize hes : ([(⟨a, b⟩ : S77), ⟨c, d⟩, ⟨e, f⟩, ⟨g, h⟩] : List S77) = es; have h4 : es.length = 4 := by subst hes; rfl
  have e0 : es[0]'(by omega) = ⟨a, b⟩ := by subst hes; rfl
  have e1 : es[1]'(by omega) = ⟨c, d⟩ := by subst hes; rfl
  have e2 : es[2]'(by omega) = ⟨e, f⟩ := by subst hes; rfl
  have e3 : es[3]'(by omega) = ⟨g, h⟩ := by subst hes; rfl
  refine sh_l0 a b c d e f g h [] es 0 (by omega) h4 (by simp) _ ?_; refine sh_l0 a b c d e f g h _ es 1 (by omega) h4 (by split <;> simp) _ ?_; refine sh_l0 a b c d e f g h _ es 2 (by omega) h4 (by split <;> split <;> simp) _ ?_; refine sh_l0 a b c d e f g h _ es 3 (by omega) h4 (by split <;> split <;> split <;> simp) _ ?_; rw [e0, e1, e2, e3]; have q0 : onI a b c d e f g h 0 ⟨a, b⟩ = isOnI e f g h a b := rfl; have q1 : onI a b c d e f g h 1 ⟨c, d⟩ = isOnI e f g h c d := rfl; have q2 : onI a b c d e f g h 2 ⟨e, f⟩ = isOnI a b c d e f := rfl; have q3 : onI a b c d e f g h 3 ⟨g, h⟩ = isOnI a b c d g h := rfl; rw [q0, q1, q2, q3]
  unfold shareI
  generalize isOnI e f g h a b = o0; generalize isOnI e f g h c d = o1; generalize isOnI a b c d e f = o2; generalize isOnI a b c d g h = o3; refine Ev.step (f := fun _ => some _) (fun k => ?_) (Ev.now _); simp only [spec_l5Shared.l0]; rw [if_neg (by omega)]
  congr 1
  have E : ∀ x y x' y' : Int, eqP ⟨x, y⟩ ⟨x', y'⟩ = (decide (x = x') && decide (y = y')) := fun _ _ _ _ => rfl
  generalize hA : (decide (a = c) && decide (b = d)) = eab; generalize hB : (decide (a = e) && decide (b = f)) = eac; generalize hC : (decide (c = e) && decide (d = f)) = ebc; generalize hD : (decide (a = g) && decide (b = h)) = ead; generalize hE : (decide (c = g) && decide (d = h)) = ebd; generalize hF : (decide (e = g) && decide (f = h)) = ecd; simp only [all_if, len_if, List.all_nil, List.length_nil, E, hA, hB, hC, hD, hE, hF]; have n1 : (o1 && (true && (!(o0 && true) || !eab))) = (o1 && !(o0 && eab)) := by cases o0 <;> cases eab <;> rfl
  rw [n1]; generalize (o1 && !(o0 && eab)) = p1; have n2 : (o2 && (true && (!(o0 && true) || !eac) && (!p1 || !ebc))) = (o2 && !(o0 && eac) && !(p1 && ebc)) := by cases o0 <;> cases eac <;> cases p1 <;> cases ebc <;> cases o2 <;> rfl
  rw [n2]; generalize (o2 && !(o0 && eac) && !(p1 && ebc)) = p2; have n3 : (o3 && (true && (!(o0 && true) || !ead) && (!p1 || !ebd) && (!p2 || !ecd))) = (o3 && !(o0 && ead) && !(p1 && ebd) && !(p2 && ecd)) := by cases o0 <;> cases ead <;> cases p1 <;> cases ebd <;> cases p2 <;> cases ecd <;> cases o3 <;> rfl
  rw [n3]; generalize (o3 && !(o0 && ead) && !(p1 && ebd) && !(p2 && ecd)) = p3
  cases o0 <;> cases p1 <;> cases p2 <;> cases p3 <;> rfl
end
theorem wrap_sd (x y : Int) (hx : -1 ≤ x ∧ x ≤ 1) (hy : -1 ≤ y ∧ y ≤ 1) : wrap64 (x * y) = x * y := by
  have : x = -1 ∨ x = 0 ∨ x = 1 := by omega
  rcases this with rfl | rfl | rfl <;> unfold wrap64 <;> omega
theorem sd_bd (a b c d e f : Int) : -1 ≤ sideI a b c d e f ∧ sideI a b c d e f ≤ 1 := by
  unfold sideI cmpI; (repeat' split) <;> omega
theorem wrap_three (x y : Int) (hx : -1 ≤ x ∧ x ≤ 1) (hy : -1 ≤ y ∧ y ≤ 1) : IntKind.i64.wrap (x * y) = x * y ∧ (IntKind.i64.wrap (x * y) = -1 ∨ IntKind.i64.wrap (x * y) = 0 ∨ IntKind.i64.wrap (x * y) = 1) := by
  rw [i64_w, wrap_sd x y hx hy]; refine ⟨rfl, ?_⟩; have h1 : x = -1 ∨ x = 0 ∨ x = 1 := by omega
  rcases h1 with rfl | rfl | rfl <;> omega
def spec_HowMeet.f (a0_0 a0_1 a0_2 a0_3 a1_0 a1_1 a1_2 a1_3 : Int) : Option (Int) := some (howS a0_0 a0_1 a0_2 a0_3 a1_0 a1_1 a1_2 a1_3)
def spec_l7Segments.l0 : Nat → List (S77) → List (S95) → Int → Option ((List (S95)))
 | 0, _, _, _ => none
 | k + 1, x0, x3, x4 => if x4 < (x0.length : Int) then (if 0 ≤ x4 then (if (x0.length : Int) = 0 then (none) else (if 0 ≤ (Int.tmod (wrap64 (x4 + 1)) (x0.length : Int)) then (if (Int.tmod (wrap64 (x4 + 1)) (x0.length : Int)) < (x0.length : Int) then (if x3.length < 4398046511104 then (spec_l7Segments.l0 k x0 (x3 ++ [(⟨(⟨(rd_T77 x0 x4).f0, (rd_T77 x0 x4).f1⟩ : S77), (⟨(rd_T77 x0 (Int.tmod (wrap64 (x4 + 1)) (x0.length : Int))).f0, (rd_T77 x0 (Int.tmod (wrap64 (x4 + 1)) (x0.length : Int))).f1⟩ : S77)⟩ : S95)]) (wrap64 (x4 + 1))) else (none)) else (none)) else (none))) else (none)) else (some x3)
def spec_l7Segments.f (k : Nat) (l0 : List (S77)) : Option ((List (S95))) := spec_l7Segments.l0 k l0 (([] : List (S95))) 0
mutual
def spec_IsRing.l0 : Nat → List (S95) → Int → Option (Bool)
 | 0, _, _ => none
 | k + 1, x3, x4 => if x4 < (x3.length : Int) then (if 0 ≤ x4 then ((spec_IsSegment.f ((rd_T95 x3 x4).f0.f0) ((rd_T95 x3 x4).f0.f1) ((rd_T95 x3 x4).f1.f0) ((rd_T95 x3 x4).f1.f1)).bind fun t207 => (if t207 = true then (spec_IsRing.l1 k x3 x4 0) else (some false))) else (none)) else (some true)
def spec_IsRing.l1 : Nat → List (S95) → Int → Int → Option (Bool)
 | 0, _, _, _ => none
 | k + 1, x3, x4, x5 => if x5 < x4 then (if (wrap64 (x5 + 1)) = x4 then (spec_IsRing.j2 k x3 x4 x5 0 true) else (if x5 = 0 then (spec_IsRing.j2 k x3 x4 x5 0 ((wrap64 (x4 + 1)) == (x3.length : Int))) else (spec_IsRing.j2 k x3 x4 x5 0 false))) else (spec_IsRing.l0 k x3 (wrap64 (x4 + 1)))
def spec_IsRing.j2 : Nat → List (S95) → Int → Int → Int → Bool → Option (Bool)
 | 0, _, _, _, _, _ => none
 | k + 1, x3, x4, x5, x6, x44 => if x44 = true then (if 0 ≤ x4 then (if x4 < (x3.length : Int) then (if 0 ≤ x5 then (if x5 < (x3.length : Int) then ((spec_HowMeet.f ((rd_T95 x3 x4).f0.f0) ((rd_T95 x3 x4).f0.f1) ((rd_T95 x3 x4).f1.f0) ((rd_T95 x3 x4).f1.f1) ((rd_T95 x3 x5).f0.f0) ((rd_T95 x3 x5).f0.f1) ((rd_T95 x3 x5).f1.f0) ((rd_T95 x3 x5).f1.f1)).bind fun t210 => (if t210 = 1 then (spec_IsRing.l1 k x3 x4 (wrap64 (x5 + 1))) else (some false))) else (none)) else (none)) else (none)) else (none)) else (if 0 ≤ x4 then (if x4 < (x3.length : Int) then (if 0 ≤ x5 then (if x5 < (x3.length : Int) then ((spec_HowMeet.f ((rd_T95 x3 x4).f0.f0) ((rd_T95 x3 x4).f0.f1) ((rd_T95 x3 x4).f1.f0) ((rd_T95 x3 x4).f1.f1) ((rd_T95 x3 x5).f0.f0) ((rd_T95 x3 x5).f0.f1) ((rd_T95 x3 x5).f1.f0) ((rd_T95 x3 x5).f1.f1)).bind fun t213 => (if t213 = x6 then (spec_IsRing.l1 k x3 x4 (wrap64 (x5 + 1))) else (some false))) else (none)) else (none)) else (none)) else (none))
end
def spec_IsRing.f (k : Nat) (l0 : List (S77)) : Option (Bool) := (spec_l1In.f (l0.length : Int) 3 10).bind fun t202 => (if t202 = true then ((spec_l7Segments.f k l0).bind fun t203 => (spec_IsRing.l0 k t203 0)) else (some false))
def spec_TwiceArea.l0 : Nat → List (S77) → Int → List (S95) → Int → Option (Int)
 | 0, _, _, _, _ => none
 | k + 1, x0, x3, x4, x5 => if x5 < (x4.length : Int) then ((spec_IsRing.f k x0).bind fun t217 => (if t217 = true then (if 0 ≤ x5 then (spec_TwiceArea.l0 k x0 (wrap64 ((wrap64 (x3 + (wrap64 (((rd_T95 x4 x5).f0.f0) * ((rd_T95 x4 x5).f1.f1))))) - (wrap64 (((rd_T95 x4 x5).f0.f1) * ((rd_T95 x4 x5).f1.f0))))) x4 (wrap64 (x5 + 1))) else (none)) else (some x3))) else (some x3)
def spec_TwiceArea.f (k : Nat) (l0 : List (S77)) : Option (Int) := (spec_l7Segments.f k l0).bind fun t214 => (spec_TwiceArea.l0 k l0 0 t214 0)
def spec_SameTurn.f (k : Nat) (l0 : List (S77)) (l1 : List (S77)) : Option (Bool) := (spec_TwiceArea.f k l0).bind fun t222 => ((spec_TwiceArea.f k l1).bind fun t223 => (if t222 > 0 then (if t223 > 0 then (some true) else (if t222 < 0 then (some (decide (t223 < 0))) else (some false))) else (if t222 < 0 then (some (decide (t223 < 0))) else (some false))))
def spec_DropCorner.j0 : Nat → List (S77) → Int → Bool → Option ((List (S77)) × Bool)
 | 0, _, _, _ => none
 | k + 1, x0, x1, x17 => if x17 = true then ((some (([] : List (S77)) : List (S77))).bind fun y226 => (if y226.length + x0.length < 8796093022208 then (some ((y226 ++ x0), false)) else (none))) else ((some (([] : List (S77)) : List (S77))).bind fun y232 => (if 0 ≤ x1 then (if x1 ≤ (x0.length : Int) then ((some (x0.take (x1 : Int).toNat : List (S77))).bind fun y235 => (if y232.length + y235.length < 8796093022208 then ((some (y232 ++ y235 : List (S77))).bind fun y239 => (if 0 ≤ (wrap64 (x1 + 1)) then (if (wrap64 (x1 + 1)) ≤ (x0.length : Int) then ((some (x0.drop ((wrap64 (x1 + 1)) : Int).toNat : List (S77))).bind fun y242 => (if y239.length + y242.length < 8796093022208 then ((some (y239 ++ y242 : List (S77))).bind fun y246 => ((spec_IsRing.f k y246).bind fun t249 => (if t249 = true then ((spec_SameTurn.f k x0 y246).bind fun t250 => (if t250 = true then (some (y246, true)) else ((some (([] : List (S77)) : List (S77))).bind fun y251 => (if y251.length + x0.length < 8796093022208 then (some ((y251 ++ x0), false)) else (none))))) else ((some (([] : List (S77)) : List (S77))).bind fun y257 => (if y257.length + x0.length < 8796093022208 then (some ((y257 ++ x0), false)) else (none)))))) else (none))) else (none)) else (none))) else (none))) else (none)) else (none)))
def spec_DropCorner.f (k : Nat) (l0 : List (S77)) (a1 : Int) : Option ((List (S77)) × Bool) := (spec_IsRing.f k l0).bind fun t224 => (if t224 = true then ((spec_l1In.f a1 0 (wrap64 ((l0.length : Int) - 1))).bind fun t225 => (spec_DropCorner.j0 k l0 a1 (!t225))) else (spec_DropCorner.j0 k l0 a1 true))
def spec_IsName.l0 : Nat → ByteArray → Int → Option (Bool)
 | 0, _, _ => none
 | k + 1, x0, x3 => if x3 < (x0.size : Int) then (if 0 ≤ x3 then (if (bt x0 x3) < 97 then (some false) else (if (bt x0 x3) > 122 then (some false) else (spec_IsName.l0 k x0 (wrap64 (x3 + 1))))) else (none)) else ((spec_l1In.f (x0.size : Int) 1 8).bind fun t263 => (some t263))
def spec_IsName.f (k : Nat) (a0 : ByteArray) : Option (Bool) := spec_IsName.l0 k a0 0
def spec_SegmentsOf.l0 : Nat → List (S77) → List (S95) → Int → Option ((List (S95)))
 | 0, _, _, _ => none
 | k + 1, x0, x3, x4 => if x4 < (x0.length : Int) then ((spec_IsLine.f k x0).bind fun t267 => (if t267 = true then (if 0 ≤ (wrap64 (x4 - 1)) then (if (wrap64 (x4 - 1)) < (x0.length : Int) then (if 0 ≤ x4 then (if x3.length < 4398046511104 then (spec_SegmentsOf.l0 k x0 (x3 ++ [(⟨(⟨(rd_T77 x0 (wrap64 (x4 - 1))).f0, (rd_T77 x0 (wrap64 (x4 - 1))).f1⟩ : S77), (⟨(rd_T77 x0 x4).f0, (rd_T77 x0 x4).f1⟩ : S77)⟩ : S95)]) (wrap64 (x4 + 1))) else (none)) else (none)) else (none)) else (none)) else (some x3))) else (some x3)
def spec_SegmentsOf.f (k : Nat) (l0 : List (S77)) : Option ((List (S95))) := spec_SegmentsOf.l0 k l0 (([] : List (S95))) 1
mutual
def spec_IsSimple.l0 : Nat → List (S77) → List (S95) → Int → Option (Bool)
 | 0, _, _, _ => none
 | k + 1, x0, x3, x4 => if x4 < (x3.length : Int) then (spec_IsSimple.l1 k x0 x3 x4 0) else ((spec_IsLine.f k x0).bind fun t276 => (some t276))
def spec_IsSimple.l1 : Nat → List (S77) → List (S95) → Int → Int → Option (Bool)
 | 0, _, _, _, _ => none
 | k + 1, x0, x3, x4, x5 => if x5 < x4 then (if (wrap64 (x5 + 1)) = x4 then (if 0 ≤ x4 then (if x4 < (x3.length : Int) then (if 0 ≤ x5 then (if x5 < (x3.length : Int) then ((spec_HowMeet.f ((rd_T95 x3 x4).f0.f0) ((rd_T95 x3 x4).f0.f1) ((rd_T95 x3 x4).f1.f0) ((rd_T95 x3 x4).f1.f1) ((rd_T95 x3 x5).f0.f0) ((rd_T95 x3 x5).f0.f1) ((rd_T95 x3 x5).f1.f0) ((rd_T95 x3 x5).f1.f1)).bind fun t279 => (if t279 = 1 then (spec_IsSimple.l1 k x0 x3 x4 (wrap64 (x5 + 1))) else (some false))) else (none)) else (none)) else (none)) else (none)) else (if 0 ≤ x4 then (if x4 < (x3.length : Int) then (if 0 ≤ x5 then (if x5 < (x3.length : Int) then ((spec_HowMeet.f ((rd_T95 x3 x4).f0.f0) ((rd_T95 x3 x4).f0.f1) ((rd_T95 x3 x4).f1.f0) ((rd_T95 x3 x4).f1.f1) ((rd_T95 x3 x5).f0.f0) ((rd_T95 x3 x5).f0.f1) ((rd_T95 x3 x5).f1.f0) ((rd_T95 x3 x5).f1.f1)).bind fun t282 => (if t282 = 0 then (spec_IsSimple.l1 k x0 x3 x4 (wrap64 (x5 + 1))) else (some false))) else (none)) else (none)) else (none)) else (none))) else (spec_IsSimple.l0 k x0 x3 (wrap64 (x4 + 1)))
end
def spec_IsSimple.f (k : Nat) (l0 : List (S77)) : Option (Bool) := (spec_SegmentsOf.f k l0).bind fun t273 => (spec_IsSimple.l0 k l0 t273 0)
def spec_IsFeature.j0 : Nat → Bool → Int → Int → Int → ByteArray → List (S77) → Option (Bool)
 | 0, _, _, _, _, _, _ => none
 | k + 1, x23, x284000, x284001, x284002, x284003, x284004 => if x23 = true then (some false) else (if x284001 = 1 then (if (x284004.length : Int) = 1 then (if 0 < (x284004.length : Int) then ((spec_IsPoint.f ((rd_T77 x284004 0).f0) ((rd_T77 x284004 0).f1)).bind fun t288 => (some t288)) else (none)) else (some false)) else (if x284001 = 2 then ((spec_IsSimple.f k x284004).bind fun t289 => (some t289)) else (if x284001 = 3 then ((spec_IsRing.f k x284004).bind fun t290 => (some t290)) else (some false))))
def spec_IsFeature.f (k : Nat) (a0_0 : Int) (a0_1 : Int) (a0_2 : Int) (a0_3 : ByteArray) (l0_4 : List (S77)) : Option (Bool) := (spec_l1In.f a0_0 1 99).bind fun t284 => (if t284 = true then ((spec_l1In.f a0_2 0 9).bind fun t285 => (if t285 = true then (if a0_3.toList = ([] : List UInt8) then (spec_IsFeature.j0 k false a0_0 a0_1 a0_2 a0_3 l0_4) else ((spec_IsName.f k a0_3).bind fun t286 => (spec_IsFeature.j0 k (!t286) a0_0 a0_1 a0_2 a0_3 l0_4))) else (spec_IsFeature.j0 k true a0_0 a0_1 a0_2 a0_3 l0_4))) else (spec_IsFeature.j0 k true a0_0 a0_1 a0_2 a0_3 l0_4))
def spec_DropFrom.j0 : Nat → Bool → Int → Int → Int → ByteArray → List (S77) → Int → Int → Int → ByteArray → List (S77) → Option (Int × Int × Int × ByteArray × (List (S77)) × Bool)
 | 0, _, _, _, _, _, _, _, _, _, _, _ => none
 | k + 1, x7, x292000, x292001, x292002, x292003, x292004, x301000, x301001, x301002, x301003, x301004 => if x7 = true then ((spec_IsFeature.f k x301000 x301001 x301002 x301003 x301004).bind fun t309 => (if t309 = true then (some (x301000, x301001, x301002, x301003, x301004, true)) else ((spec_l9Feature.f x292000 x292001 x292002 x292003 x292004).bind fun bt310 => (some (bt310.1, bt310.2.1, bt310.2.2.1, bt310.2.2.2.1, bt310.2.2.2.2, false))))) else ((spec_l9Feature.f x292000 x292001 x292002 x292003 x292004).bind fun bt317 => (some (bt317.1, bt317.2.1, bt317.2.2.1, bt317.2.2.2.1, bt317.2.2.2.2, false)))
def spec_DropFrom.f (k : Nat) (a0_0 : Int) (a0_1 : Int) (a0_2 : Int) (a0_3 : ByteArray) (l0_4 : List (S77)) (a1 : Int) : Option (Int × Int × Int × ByteArray × (List (S77)) × Bool) := (spec_l9Feature.f a0_0 a0_1 a0_2 a0_3 l0_4).bind fun bt293 => (if a0_1 = 2 then ((spec_DropPoint.f k l0_4 a1).bind fun bt301 => (spec_DropFrom.j0 k bt301.2 a0_0 a0_1 a0_2 a0_3 l0_4 bt293.1 bt293.2.1 bt293.2.2.1 bt293.2.2.2.1 bt301.1)) else (if a0_1 = 3 then ((spec_DropCorner.f k l0_4 a1).bind fun bt305 => (spec_DropFrom.j0 k bt305.2 a0_0 a0_1 a0_2 a0_3 l0_4 bt293.1 bt293.2.1 bt293.2.2.1 bt293.2.2.2.1 bt305.1)) else (spec_DropFrom.j0 k false a0_0 a0_1 a0_2 a0_3 l0_4 bt293.1 bt293.2.1 bt293.2.2.1 bt293.2.2.2.1 bt293.2.2.2.2)))
def spec_RingSegments.f (k : Nat) (l0 : List (S77)) : Option ((List (S95))) := (spec_IsRing.f k l0).bind fun t324 => (if t324 = true then ((spec_l7Segments.f k l0).bind fun t325 => (some t325)) else (some (([] : List (S95)))))
def spec_PartsOf.f (k : Nat) (a0_0 : Int) (a0_1 : Int) (a0_2 : Int) (a0_3 : ByteArray) (l0_4 : List (S77)) : Option ((List (S95))) := (spec_IsFeature.f k a0_0 a0_1 a0_2 a0_3 l0_4).bind fun t332 => (if t332 = true then (if a0_1 = 2 then ((spec_SegmentsOf.f k l0_4).bind fun t336 => (some t336)) else (if a0_1 = 3 then ((spec_RingSegments.f k l0_4).bind fun t339 => (some t339)) else (some (([] : List (S95)))))) else (some (([] : List (S95)))))
mutual
def spec_FeaturesMeet.l0 : Nat → Int → List (S95) → List (S95) → Int → Option (Int)
 | 0, _, _, _, _ => none
 | k + 1, x5, x6, x7, x8 => if x8 < (x6.length : Int) then (spec_FeaturesMeet.l1 k x5 x6 x7 x8 0) else (some x5)
def spec_FeaturesMeet.l1 : Nat → Int → List (S95) → List (S95) → Int → Int → Option (Int)
 | 0, _, _, _, _, _ => none
 | k + 1, x5, x6, x7, x8, x9 => if x9 < (x7.length : Int) then (if 0 ≤ x8 then (if x8 < (x6.length : Int) then (if 0 ≤ x9 then ((spec_HowMeet.f ((rd_T95 x6 x8).f0.f0) ((rd_T95 x6 x8).f0.f1) ((rd_T95 x6 x8).f1.f0) ((rd_T95 x6 x8).f1.f1) ((rd_T95 x7 x9).f0.f0) ((rd_T95 x7 x9).f0.f1) ((rd_T95 x7 x9).f1.f0) ((rd_T95 x7 x9).f1.f1)).bind fun t355 => ((spec_Max.f x5 t355).bind fun t356 => (spec_FeaturesMeet.l1 k t356 x6 x7 x8 (wrap64 (x9 + 1))))) else (none)) else (none)) else (none)) else (spec_FeaturesMeet.l0 k x5 x6 x7 (wrap64 (x8 + 1)))
end
def spec_FeaturesMeet.f (k : Nat) (a0_0 : Int) (a0_1 : Int) (a0_2 : Int) (a0_3 : ByteArray) (l0_4 : List (S77)) (a1_0 : Int) (a1_1 : Int) (a1_2 : Int) (a1_3 : ByteArray) (l1_4 : List (S77)) : Option (Int) := (spec_PartsOf.f k a0_0 a0_1 a0_2 a0_3 l0_4).bind fun t347 => ((spec_PartsOf.f k a1_0 a1_1 a1_2 a1_3 l1_4).bind fun t350 => (spec_FeaturesMeet.l0 k 0 t347 t350 0))
mutual
def spec_CanShrink.l0 : Nat → List (S28) → Bool → Int → Int → Int → Int → ByteArray → List (S77) → Int → Int → Int → ByteArray → List (S77) → Option (Bool)
 | 0, _, _, _, _, _, _, _, _, _, _, _, _, _ => none
 | k + 1, x2, x8, x9, x358000, x358001, x358002, x358003, x358004, x367000, x367001, x367002, x367003, x367004 => if x9 < (x2.length : Int) then (spec_CanShrink.j1 k x2 x8 x9 x8 x358000 x358001 x358002 x358003 x358004 x367000 x367001 x367002 x367003 x367004) else (spec_CanShrink.j1 k x2 x8 x9 false x358000 x358001 x358002 x358003 x358004 x367000 x367001 x367002 x367003 x367004)
def spec_CanShrink.j1 : Nat → List (S28) → Bool → Int → Bool → Int → Int → Int → ByteArray → List (S77) → Int → Int → Int → ByteArray → List (S77) → Option (Bool)
 | 0, _, _, _, _, _, _, _, _, _, _, _, _, _, _ => none
 | k + 1, x2, x8, x9, x22, x358000, x358001, x358002, x358003, x358004, x367000, x367001, x367002, x367003, x367004 => if x22 = true then (if 0 ≤ x9 then (if x9 < (x2.length : Int) then ((spec_FeaturesMeet.f k x367000 x367001 x367002 x367003 x367004 ((rd_T28 x2 x9).f0) ((rd_T28 x2 x9).f1) ((rd_T28 x2 x9).f2) ((rd_T28 x2 x9).f3) ((rd_T28 x2 x9).f4)).bind fun t368 => ((spec_FeaturesMeet.f k x358000 x358001 x358002 x358003 x358004 ((rd_T28 x2 x9).f0) ((rd_T28 x2 x9).f1) ((rd_T28 x2 x9).f2) ((rd_T28 x2 x9).f3) ((rd_T28 x2 x9).f4)).bind fun t370 => (spec_CanShrink.l0 k x2 (decide (t368 ≤ t370)) (wrap64 (x9 + 1)) x358000 x358001 x358002 x358003 x358004 x367000 x367001 x367002 x367003 x367004))) else (none)) else (none)) else (some x8)
end
def spec_CanShrink.f (k : Nat) (a0_0 : Int) (a0_1 : Int) (a0_2 : Int) (a0_3 : ByteArray) (l0_4 : List (S77)) (a1 : Int) (l2 : List (S28)) : Option (Bool) := (spec_DropFrom.f k a0_0 a0_1 a0_2 a0_3 l0_4 a1).bind fun bt358 => (spec_CanShrink.l0 k l2 bt358.2.2.2.2.2 0 a0_0 a0_1 a0_2 a0_3 l0_4 bt358.1 bt358.2.1 bt358.2.2.1 bt358.2.2.2.1 bt358.2.2.2.2.1)
def laws_toFeatureS.l0 : Nat → List (S24) → List (S28) → Int → Option ((List (S28)))
 | 0, _, _, _ => none
 | k + 1, x0, x3, x4 => if x4 < (x0.length : Int) then (if 0 ≤ x4 then ((laws_toFeature.f k ((rd_T24 x0 x4).f0) ((rd_T24 x0 x4).f1) ((rd_T24 x0 x4).f2) ((rd_T24 x0 x4).f3) ((rd_T24 x0 x4).f4)).bind fun bt375 => (if x4 < (x3.length : Int) then (laws_toFeatureS.l0 k x0 (x3.set (x4 : Int).toNat (⟨bt375.1, bt375.2.1, bt375.2.2.1, bt375.2.2.2.1, bt375.2.2.2.2⟩ : S28)) (wrap64 (x4 + 1))) else (none))) else (none)) else (some x3)
def laws_toFeatureS.f (k : Nat) (l0 : List (S24)) : Option ((List (S28))) := if 0 ≤ (l0.length : Int) then (if ((l0.length : Int) : Int).toNat ≤ 4398046511104 then (laws_toFeatureS.l0 k l0 (List.replicate ((l0.length : Int) : Int).toNat z28) 0) else (none)) else (none)
def impl_Point.f (l0 : List S77) : Option (List S77) := if l0.length < 8796093022208 then some l0 else none
def impl_cloneFeature.f (a0_0 : Int) (a0_1 : Int) (a0_2 : Int) (a0_3 : ByteArray) (l0_4 : List (S77)) : Option (Int × Int × Int × ByteArray × (List (S77))) := (impl_Point.f l0_4).bind fun t385 => (some (a0_0, a0_1, a0_2, a0_3, t385))
def impl_InRange.f (a0 : Int) (a1 : Int) (a2 : Int) : Option (Bool) := some (inR a0 a1 a2)
def impl_IsPoint.f (a0_0 : Int) (a0_1 : Int) : Option (Bool) := some (isPt a0_0 a0_1)
attribute [local go_sem high] eqA77
mutual
def impl_IsLine.j0 : Nat → List (S77) → Bool → Option (Bool)
 | 0, _, _ => none
 | k + 1, x0, x12 => if x12 = true then (some false) else (impl_IsLine.l0 k x0 x0 (x0.length : Int) 0)
def impl_IsLine.l0 : Nat → List (S77) → List (S77) → Int → Int → Option (Bool)
 | 0, _, _, _, _ => none
 | k + 1, x0, x13, x14, x15 => if x15 < x14 then (if 0 ≤ x15 then (if x15 < (x13.length : Int) then ((impl_IsPoint.f ((rd_T77 x13 x15).f0) ((rd_T77 x13 x15).f1)).bind fun t390 => (if t390 = true then (if x15 > 0 then (if 0 ≤ (wrap64 (x15 - 1)) then (if (wrap64 (x15 - 1)) < (x0.length : Int) then (if (((rd_T77 x13 x15).f0) == ((rd_T77 x0 (wrap64 (x15 - 1))).f0) && (((rd_T77 x13 x15).f1) == ((rd_T77 x0 (wrap64 (x15 - 1))).f1))) = true then (some false) else (impl_IsLine.l0 k x0 x13 x14 (wrap64 (x15 + 1)))) else (none)) else (none)) else (impl_IsLine.l0 k x0 x13 x14 (wrap64 (x15 + 1)))) else (some false))) else (none)) else (none)) else (some true)
end
def impl_IsLine.f (k : Nat) (l0 : List (S77)) : Option (Bool) := if (l0.length : Int) < 2 then (impl_IsLine.j0 k l0 true) else (impl_IsLine.j0 k l0 (decide ((l0.length : Int) > 10)))
def impl_without.f (l0 : List S77) (a1 : Int) : Option (List S77) := if 0 ≤ a1 then if a1 < (l0.length : Int) then if l0.length < 8796093022208 then some (l0.take a1.toNat ++ l0.drop (a1.toNat + 1)) else none else none else none
def impl_DropPoint.j0 : Nat → List (S77) → Int → Bool → Option ((List (S77)) × Bool)
 | 0, _, _, _ => none
 | k + 1, x0, x1, x17 => if x17 = true then ((impl_Point.f x0).bind fun t394 => (some (t394, false))) else ((impl_without.f x0 x1).bind fun t397 => ((impl_IsLine.f k t397).bind fun t400 => (if t400 = true then (some (t397, true)) else ((impl_Point.f x0).bind fun t401 => (some (t401, false))))))
def impl_DropPoint.f (k : Nat) (l0 : List (S77)) (a1 : Int) : Option ((List (S77)) × Bool) := (impl_IsLine.f k l0).bind fun t392 => (if t392 = true then ((impl_InRange.f a1 1 (wrap64 ((l0.length : Int) - 2))).bind fun t393 => (impl_DropPoint.j0 k l0 a1 (!t393))) else (impl_DropPoint.j0 k l0 a1 true))
def impl_around.l0 : Nat → List (S77) → List (S95) → List (S77) → Int → Int → Option ((List (S95)))
 | 0, _, _, _, _, _ => none
 | k + 1, x0, x3, x7, x8, x9 => if x9 < x8 then (if 0 ≤ x9 then (if x9 < (x7.length : Int) then (if (x0.length : Int) = 0 then (none) else (if 0 ≤ (Int.tmod (wrap64 (x9 + 1)) (x0.length : Int)) then (if (Int.tmod (wrap64 (x9 + 1)) (x0.length : Int)) < (x0.length : Int) then (if x3.length < 4398046511104 then (impl_around.l0 k x0 (x3 ++ [(⟨(⟨(rd_T77 x7 x9).f0, (rd_T77 x7 x9).f1⟩ : S77), (⟨(rd_T77 x0 (Int.tmod (wrap64 (x9 + 1)) (x0.length : Int))).f0, (rd_T77 x0 (Int.tmod (wrap64 (x9 + 1)) (x0.length : Int))).f1⟩ : S77)⟩ : S95)]) x7 x8 (wrap64 (x9 + 1))) else (none)) else (none)) else (none))) else (none)) else (none)) else (some x3)
def impl_around.f (k : Nat) (l0 : List (S77)) : Option ((List (S95))) := impl_around.l0 k l0 (([] : List (S95))) l0 (l0.length : Int) 0
def impl_IsSegment.f (a0_0 : Int) (a0_1 : Int) (a0_2 : Int) (a0_3 : Int) : Option (Bool) := some (isSeg a0_0 a0_1 a0_2 a0_3)
def cmp_isNaN_int.f (a0 : Int) : Option (Bool) := some (false)
def cmp_Compare_int.f (a0 : Int) (a1 : Int) : Option (Int) := some (cmpI a0 a1)
def impl_cross.f (a0_0 : Int) (a0_1 : Int) (a1_0 : Int) (a1_1 : Int) (a2_0 : Int) (a2_1 : Int) : Option (Int) := some (crossI a0_0 a0_1 a1_0 a1_1 a2_0 a2_1)
def impl_SideOf.f (a0_0 : Int) (a0_1 : Int) (a1_0 : Int) (a1_1 : Int) (a2_0 : Int) (a2_1 : Int) : Option (Int) := some (sideI a0_0 a0_1 a1_0 a1_1 a2_0 a2_1)
def impl_BeforePoint.f (a0_0 : Int) (a0_1 : Int) (a1_0 : Int) (a1_1 : Int) : Option (Bool) := some (beforeI a0_0 a0_1 a1_0 a1_1)
def impl_TurnSegment.f (a0_0 : Int) (a0_1 : Int) (a0_2 : Int) (a0_3 : Int) : Option (Int × Int × Int × Int) := some (a0_2, a0_3, a0_0, a0_1)
def impl_forward.f (a0_0 : Int) (a0_1 : Int) (a0_2 : Int) (a0_3 : Int) : Option (Int × Int × Int × Int) := (impl_BeforePoint.f a0_2 a0_3 a0_0 a0_1).bind fun t417 => (if t417 = true then ((impl_TurnSegment.f a0_0 a0_1 a0_2 a0_3).bind fun bt418 => (some (bt418.1, bt418.2.1, bt418.2.2.1, bt418.2.2.2))) else (some (a0_0, a0_1, a0_2, a0_3)))
def impl_IsOn.f (a0_0 : Int) (a0_1 : Int) (a0_2 : Int) (a0_3 : Int) (a1_0 : Int) (a1_1 : Int) : Option (Bool) := some (isOnI a0_0 a0_1 a0_2 a0_3 a1_0 a1_1)
attribute [local go_sem high] eqA77
mutual
def impl_HowMeet.j0 : Nat → Bool → Int → Int → Int → Int → Int → Int → Int → Int → Option (Int)
 | 0, _, _, _, _, _, _, _, _, _ => none
 | k + 1, x16, x423000, x423001, x423002, x423003, x424000, x424001, x424002, x424003 => if x16 = true then (some 0) else ((impl_SideOf.f x423000 x423001 x423002 x423003 x424000 x424001).bind fun t426 => ((impl_SideOf.f x423000 x423001 x423002 x423003 x424002 x424003).bind fun t427 => (if t426 = 0 then (impl_HowMeet.j1 k t426 t427 (t427 == 0) x423000 x423001 x423002 x423003 x424000 x424001 x424002 x424003) else (impl_HowMeet.j1 k t426 t427 false x423000 x423001 x423002 x423003 x424000 x424001 x424002 x424003))))
def impl_HowMeet.j1 : Nat → Int → Int → Bool → Int → Int → Int → Int → Int → Int → Int → Int → Option (Int)
 | 0, _, _, _, _, _, _, _, _, _, _, _ => none
 | k + 1, x5, x6, x36, x423000, x423001, x423002, x423003, x424000, x424001, x424002, x424003 => if x36 = true then ((impl_forward.f x423000 x423001 x423002 x423003).bind fun bt428 => ((impl_forward.f x424000 x424001 x424002 x424003).bind fun bt432 => ((impl_BeforePoint.f bt428.1 bt428.2.1 bt432.1 bt432.2.1).bind fun t438 => (if t438 = true then (impl_HowMeet.j2 k bt432.1 bt432.2.1 bt432.2.2.1 bt432.2.2.2 bt432.1 bt432.2.1 bt428.2.2.1 bt428.2.2.2) else (impl_HowMeet.j2 k bt432.1 bt432.2.1 bt432.2.2.1 bt432.2.2.2 bt428.1 bt428.2.1 bt428.2.2.1 bt428.2.2.2))))) else (if (wrap64 (x5 * x6)) < 0 then ((impl_SideOf.f x424000 x424001 x424002 x424003 x423000 x423001).bind fun t441 => ((impl_SideOf.f x424000 x424001 x424002 x424003 x423002 x423003).bind fun t442 => (impl_HowMeet.j4 k (decide ((wrap64 (t441 * t442)) < 0)) x423000 x423001 x423002 x423003 x424000 x424001 x424002 x424003))) else (impl_HowMeet.j4 k false x423000 x423001 x423002 x423003 x424000 x424001 x424002 x424003))
def impl_HowMeet.j2 : Nat → Int → Int → Int → Int → Int → Int → Int → Int → Option (Int)
 | 0, _, _, _, _, _, _, _, _ => none
 | k + 1, x424000, x424001, x424002, x424003, x437000, x437001, x438000, x438001 => (impl_BeforePoint.f x424002 x424003 x438000 x438001).bind fun t439 => (if t439 = true then (impl_HowMeet.j3 k x437000 x437001 x424002 x424003) else (impl_HowMeet.j3 k x437000 x437001 x438000 x438001))
def impl_HowMeet.j3 : Nat → Int → Int → Int → Int → Option (Int)
 | 0, _, _, _, _ => none
 | k + 1, x437000, x437001, x438000, x438001 => (impl_BeforePoint.f x438000 x438001 x437000 x437001).bind fun t440 => (if t440 = true then (some 0) else (if (x437000 == x438000 && (x437001 == x438001)) = true then (some 1) else (some 3)))
def impl_HowMeet.j4 : Nat → Bool → Int → Int → Int → Int → Int → Int → Int → Int → Option (Int)
 | 0, _, _, _, _, _, _, _, _, _ => none
 | k + 1, x86, x423000, x423001, x423002, x423003, x424000, x424001, x424002, x424003 => if x86 = true then (some 2) else ((impl_IsOn.f x423000 x423001 x423002 x423003 x424000 x424001).bind fun t443 => (if t443 = true then (some 1) else ((impl_IsOn.f x423000 x423001 x423002 x423003 x424002 x424003).bind fun t444 => (if t444 = true then (some 1) else ((impl_IsOn.f x424000 x424001 x424002 x424003 x423000 x423001).bind fun t445 => (if t445 = true then (some 1) else ((impl_IsOn.f x424000 x424001 x424002 x424003 x423002 x423003).bind fun t446 => (if t446 = true then (some 1) else (some 0)))))))))
end
def impl_HowMeet.f (k : Nat) (a0_0 : Int) (a0_1 : Int) (a0_2 : Int) (a0_3 : Int) (a1_0 : Int) (a1_1 : Int) (a1_2 : Int) (a1_3 : Int) : Option (Int) := (impl_IsSegment.f a0_0 a0_1 a0_2 a0_3).bind fun t424 => (if t424 = true then ((impl_IsSegment.f a1_0 a1_1 a1_2 a1_3).bind fun t425 => (impl_HowMeet.j0 k (!t425) a0_0 a0_1 a0_2 a0_3 a1_0 a1_1 a1_2 a1_3)) else (impl_HowMeet.j0 k true a0_0 a0_1 a0_2 a0_3 a1_0 a1_1 a1_2 a1_3))
mutual
def impl_IsRing.j0 : Nat → List (S77) → Bool → Option (Bool)
 | 0, _, _ => none
 | k + 1, x0, x14 => if x14 = true then (some false) else ((impl_around.f k x0).bind fun t447 => (impl_IsRing.l0 k t447 (t447.length : Int) 0))
def impl_IsRing.l0 : Nat → List (S95) → Int → Int → Option (Bool)
 | 0, _, _, _ => none
 | k + 1, x3, x18, x19 => if x19 < x18 then (if 0 ≤ x19 then (if x19 < (x3.length : Int) then ((impl_IsSegment.f ((rd_T95 x3 x19).f0.f0) ((rd_T95 x3 x19).f0.f1) ((rd_T95 x3 x19).f1.f0) ((rd_T95 x3 x19).f1.f1)).bind fun t451 => (if t451 = true then (impl_IsRing.l1 k x3 x19 x18 x19 x19 0) else (some false))) else (none)) else (none)) else (some true)
def impl_IsRing.l1 : Nat → List (S95) → Int → Int → Int → Int → Int → Option (Bool)
 | 0, _, _, _, _, _, _ => none
 | k + 1, x3, x4, x18, x19, x28, x29 => if x29 < x28 then (if x29 = (wrap64 (x4 - 1)) then (impl_IsRing.j3 k x3 x4 x29 0 x18 x19 x28 x29 true) else (if x29 = 0 then (impl_IsRing.j3 k x3 x4 x29 0 x18 x19 x28 x29 (x4 == (wrap64 ((x3.length : Int) - 1)))) else (impl_IsRing.j3 k x3 x4 x29 0 x18 x19 x28 x29 false))) else (impl_IsRing.l0 k x3 x18 (wrap64 (x19 + 1)))
def impl_IsRing.j3 : Nat → List (S95) → Int → Int → Int → Int → Int → Int → Int → Bool → Option (Bool)
 | 0, _, _, _, _, _, _, _, _, _ => none
 | k + 1, x3, x4, x5, x6, x18, x19, x28, x29, x46 => if x46 = true then (if 0 ≤ x4 then (if x4 < (x3.length : Int) then (if 0 ≤ x5 then (if x5 < (x3.length : Int) then ((impl_HowMeet.f k ((rd_T95 x3 x4).f0.f0) ((rd_T95 x3 x4).f0.f1) ((rd_T95 x3 x4).f1.f0) ((rd_T95 x3 x4).f1.f1) ((rd_T95 x3 x5).f0.f0) ((rd_T95 x3 x5).f0.f1) ((rd_T95 x3 x5).f1.f0) ((rd_T95 x3 x5).f1.f1)).bind fun t454 => (if t454 = 1 then (impl_IsRing.l1 k x3 x4 x18 x19 x28 (wrap64 (x29 + 1))) else (some false))) else (none)) else (none)) else (none)) else (none)) else (if 0 ≤ x4 then (if x4 < (x3.length : Int) then (if 0 ≤ x5 then (if x5 < (x3.length : Int) then ((impl_HowMeet.f k ((rd_T95 x3 x4).f0.f0) ((rd_T95 x3 x4).f0.f1) ((rd_T95 x3 x4).f1.f0) ((rd_T95 x3 x4).f1.f1) ((rd_T95 x3 x5).f0.f0) ((rd_T95 x3 x5).f0.f1) ((rd_T95 x3 x5).f1.f0) ((rd_T95 x3 x5).f1.f1)).bind fun t457 => (if t457 = x6 then (impl_IsRing.l1 k x3 x4 x18 x19 x28 (wrap64 (x29 + 1))) else (some false))) else (none)) else (none)) else (none)) else (none))
end
def impl_IsRing.f (k : Nat) (l0 : List (S77)) : Option (Bool) := if (l0.length : Int) < 3 then (impl_IsRing.j0 k l0 true) else (impl_IsRing.j0 k l0 (decide ((l0.length : Int) > 10)))
def impl_RingSegments.f (k : Nat) (l0 : List (S77)) : Option ((List (S95))) := (impl_IsRing.f k l0).bind fun t458 => (if t458 = true then ((impl_around.f k l0).bind fun t459 => (some t459)) else (some (([] : List (S95)))))
def impl_TwiceArea.l0 : Nat → Int → List (S95) → Int → Int → Option (Int)
 | 0, _, _, _, _ => none
 | k + 1, x3, x7, x8, x9 => if x9 < x8 then (if 0 ≤ x9 then (if x9 < (x7.length : Int) then (impl_TwiceArea.l0 k (wrap64 (x3 + (wrap64 ((wrap64 (((rd_T95 x7 x9).f0.f0) * ((rd_T95 x7 x9).f1.f1))) - (wrap64 (((rd_T95 x7 x9).f0.f1) * ((rd_T95 x7 x9).f1.f0))))))) x7 x8 (wrap64 (x9 + 1))) else (none)) else (none)) else (some x3)
def impl_TwiceArea.f (k : Nat) (l0 : List (S77)) : Option (Int) := (impl_RingSegments.f k l0).bind fun t465 => (impl_TwiceArea.l0 k 0 t465 (t465.length : Int) 0)
def impl_DropCorner.j0 : Nat → List (S77) → Int → Bool → Option ((List (S77)) × Bool)
 | 0, _, _, _ => none
 | k + 1, x0, x1, x17 => if x17 = true then ((impl_Point.f x0).bind fun t472 => (some (t472, false))) else ((impl_without.f x0 x1).bind fun t475 => ((impl_IsRing.f k t475).bind fun t478 => (if t478 = true then ((impl_TwiceArea.f k t475).bind fun t479 => ((cmp_Compare_int.f t479 0).bind fun t480 => ((impl_TwiceArea.f k x0).bind fun t481 => ((cmp_Compare_int.f t481 0).bind fun t482 => (if t480 = t482 then (some (t475, true)) else ((impl_Point.f x0).bind fun t483 => (some (t483, false)))))))) else ((impl_Point.f x0).bind fun t486 => (some (t486, false))))))
def impl_DropCorner.f (k : Nat) (l0 : List (S77)) (a1 : Int) : Option ((List (S77)) × Bool) := (impl_IsRing.f k l0).bind fun t470 => (if t470 = true then ((impl_InRange.f a1 0 (wrap64 ((l0.length : Int) - 1))).bind fun t471 => (impl_DropCorner.j0 k l0 a1 (!t471))) else (impl_DropCorner.j0 k l0 a1 true))
def impl_IsName.l0 : Nat → ByteArray → Int → Int → Option (Bool)
 | 0, _, _, _ => none
 | k + 1, x0, x5, x6 => if x6 < x5 then (if 0 ≤ x6 then (if x6 < (x0.size : Int) then (if (bt x0 x6) < 97 then (some false) else (if (bt x0 x6) > 122 then (some false) else (impl_IsName.l0 k x0 x5 (wrap64 (x6 + 1))))) else (none)) else (none)) else ((impl_InRange.f (x0.size : Int) 1 8).bind fun t489 => (some t489))
def impl_IsName.f (k : Nat) (a0 : ByteArray) : Option (Bool) := impl_IsName.l0 k a0 (a0.size : Int) 0
def impl_SegmentsOf.l0 : Nat → List (S77) → List (S95) → Int → Option ((List (S95)))
 | 0, _, _, _ => none
 | k + 1, x0, x3, x4 => if x4 < (x0.length : Int) then (if 0 ≤ (wrap64 (x4 - 1)) then (if (wrap64 (x4 - 1)) < (x0.length : Int) then (if 0 ≤ x4 then (if x3.length < 4398046511104 then (impl_SegmentsOf.l0 k x0 (x3 ++ [(⟨(⟨(rd_T77 x0 (wrap64 (x4 - 1))).f0, (rd_T77 x0 (wrap64 (x4 - 1))).f1⟩ : S77), (⟨(rd_T77 x0 x4).f0, (rd_T77 x0 x4).f1⟩ : S77)⟩ : S95)]) (wrap64 (x4 + 1))) else (none)) else (none)) else (none)) else (none)) else (some x3)
def impl_SegmentsOf.f (k : Nat) (l0 : List (S77)) : Option ((List (S95))) := (some (([] : List (S95)) : List (S95))).bind fun y490 => ((impl_IsLine.f k l0).bind fun t493 => (if t493 = true then (impl_SegmentsOf.l0 k l0 y490 1) else (some y490)))
mutual
def impl_IsSimple.l0 : Nat → List (S95) → Int → Int → Option (Bool)
 | 0, _, _, _ => none
 | k + 1, x3, x13, x14 => if x14 < x13 then (impl_IsSimple.l1 k x3 x14 x13 x14 x14 0) else (some true)
def impl_IsSimple.l1 : Nat → List (S95) → Int → Int → Int → Int → Int → Option (Bool)
 | 0, _, _, _, _, _, _ => none
 | k + 1, x3, x4, x13, x14, x17, x18 => if x18 < x17 then (if x18 = (wrap64 (x4 - 1)) then (if 0 ≤ x4 then (if x4 < (x3.length : Int) then (if 0 ≤ x18 then (if x18 < (x3.length : Int) then ((impl_HowMeet.f k ((rd_T95 x3 x4).f0.f0) ((rd_T95 x3 x4).f0.f1) ((rd_T95 x3 x4).f1.f0) ((rd_T95 x3 x4).f1.f1) ((rd_T95 x3 x18).f0.f0) ((rd_T95 x3 x18).f0.f1) ((rd_T95 x3 x18).f1.f0) ((rd_T95 x3 x18).f1.f1)).bind fun t505 => (if t505 = 1 then (impl_IsSimple.l1 k x3 x4 x13 x14 x17 (wrap64 (x18 + 1))) else (some false))) else (none)) else (none)) else (none)) else (none)) else (if 0 ≤ x4 then (if x4 < (x3.length : Int) then (if 0 ≤ x18 then (if x18 < (x3.length : Int) then ((impl_HowMeet.f k ((rd_T95 x3 x4).f0.f0) ((rd_T95 x3 x4).f0.f1) ((rd_T95 x3 x4).f1.f0) ((rd_T95 x3 x4).f1.f1) ((rd_T95 x3 x18).f0.f0) ((rd_T95 x3 x18).f0.f1) ((rd_T95 x3 x18).f1.f0) ((rd_T95 x3 x18).f1.f1)).bind fun t508 => (if t508 = 0 then (impl_IsSimple.l1 k x3 x4 x13 x14 x17 (wrap64 (x18 + 1))) else (some false))) else (none)) else (none)) else (none)) else (none))) else (impl_IsSimple.l0 k x3 x13 (wrap64 (x14 + 1)))
end
def impl_IsSimple.f (k : Nat) (l0 : List (S77)) : Option (Bool) := (impl_IsLine.f k l0).bind fun t499 => (if t499 = true then ((impl_SegmentsOf.f k l0).bind fun t500 => (impl_IsSimple.l0 k t500 (t500.length : Int) 0)) else (some false))
def impl_IsFeature.j0 : Nat → Bool → Int → Int → Int → ByteArray → List (S77) → Option (Bool)
 | 0, _, _, _, _, _, _ => none
 | k + 1, x23, x510000, x510001, x510002, x510003, x510004 => if x23 = true then (some false) else (if x510001 = 1 then (if (x510004.length : Int) = 1 then (if 0 < (x510004.length : Int) then ((impl_IsPoint.f ((rd_T77 x510004 0).f0) ((rd_T77 x510004 0).f1)).bind fun t514 => (some t514)) else (none)) else (some false)) else (if x510001 = 2 then ((impl_IsSimple.f k x510004).bind fun t515 => (some t515)) else (if x510001 = 3 then ((impl_IsRing.f k x510004).bind fun t516 => (some t516)) else (some false))))
def impl_IsFeature.f (k : Nat) (a0_0 : Int) (a0_1 : Int) (a0_2 : Int) (a0_3 : ByteArray) (l0_4 : List (S77)) : Option (Bool) := (impl_InRange.f a0_0 1 99).bind fun t510 => (if t510 = true then ((impl_InRange.f a0_2 0 9).bind fun t511 => (if t511 = true then (if a0_3.toList = ([] : List UInt8) then (impl_IsFeature.j0 k false a0_0 a0_1 a0_2 a0_3 l0_4) else ((impl_IsName.f k a0_3).bind fun t512 => (impl_IsFeature.j0 k (!t512) a0_0 a0_1 a0_2 a0_3 l0_4))) else (impl_IsFeature.j0 k true a0_0 a0_1 a0_2 a0_3 l0_4))) else (impl_IsFeature.j0 k true a0_0 a0_1 a0_2 a0_3 l0_4))
def impl_DropFrom.j0 : Nat → Bool → Int → Int → Int → ByteArray → List (S77) → Int → Int → Int → ByteArray → List (S77) → Option (Int × Int × Int × ByteArray × (List (S77)) × Bool)
 | 0, _, _, _, _, _, _, _, _, _, _, _ => none
 | k + 1, x7, x518000, x518001, x518002, x518003, x518004, x527000, x527001, x527002, x527003, x527004 => if x7 = true then ((impl_IsFeature.f k x527000 x527001 x527002 x527003 x527004).bind fun t535 => (if t535 = true then (some (x527000, x527001, x527002, x527003, x527004, true)) else ((impl_cloneFeature.f x518000 x518001 x518002 x518003 x518004).bind fun bt536 => (some (bt536.1, bt536.2.1, bt536.2.2.1, bt536.2.2.2.1, bt536.2.2.2.2, false))))) else ((impl_cloneFeature.f x518000 x518001 x518002 x518003 x518004).bind fun bt543 => (some (bt543.1, bt543.2.1, bt543.2.2.1, bt543.2.2.2.1, bt543.2.2.2.2, false)))
def impl_DropFrom.f (k : Nat) (a0_0 : Int) (a0_1 : Int) (a0_2 : Int) (a0_3 : ByteArray) (l0_4 : List (S77)) (a1 : Int) : Option (Int × Int × Int × ByteArray × (List (S77)) × Bool) := (impl_cloneFeature.f a0_0 a0_1 a0_2 a0_3 l0_4).bind fun bt519 => (if a0_1 = 2 then ((impl_DropPoint.f k l0_4 a1).bind fun bt527 => (impl_DropFrom.j0 k bt527.2 a0_0 a0_1 a0_2 a0_3 l0_4 bt519.1 bt519.2.1 bt519.2.2.1 bt519.2.2.2.1 bt527.1)) else (if a0_1 = 3 then ((impl_DropCorner.f k l0_4 a1).bind fun bt531 => (impl_DropFrom.j0 k bt531.2 a0_0 a0_1 a0_2 a0_3 l0_4 bt519.1 bt519.2.1 bt519.2.2.1 bt519.2.2.2.1 bt531.1)) else (impl_DropFrom.j0 k false a0_0 a0_1 a0_2 a0_3 l0_4 bt519.1 bt519.2.1 bt519.2.2.1 bt519.2.2.2.1 bt519.2.2.2.2)))
mutual
def impl_greatest.l0 : Nat → List (S95) → Int → List (S95) → Int → Int → Option (Int)
 | 0, _, _, _, _, _ => none
 | k + 1, x1, x5, x10, x11, x12 => if x12 < x11 then (if 0 ≤ x12 then (if x12 < (x10.length : Int) then (impl_greatest.l1 k x1 x5 x10 x11 x12 x1 (x1.length : Int) 0 ((rd_T95 x10 x12).f0.f0) ((rd_T95 x10 x12).f0.f1) ((rd_T95 x10 x12).f1.f0) ((rd_T95 x10 x12).f1.f1)) else (none)) else (none)) else (some x5)
def impl_greatest.l1 : Nat → List (S95) → Int → List (S95) → Int → Int → List (S95) → Int → Int → Int → Int → Int → Int → Option (Int)
 | 0, _, _, _, _, _, _, _, _, _, _, _, _ => none
 | k + 1, x1, x5, x10, x11, x12, x16, x17, x18, x552000, x552001, x552002, x552003 => if x18 < x17 then (if 0 ≤ x18 then (if x18 < (x16.length : Int) then ((impl_HowMeet.f k x552000 x552001 x552002 x552003 ((rd_T95 x16 x18).f0.f0) ((rd_T95 x16 x18).f0.f1) ((rd_T95 x16 x18).f1.f0) ((rd_T95 x16 x18).f1.f1)).bind fun t554 => (impl_greatest.l1 k x1 (mx x5 t554) x10 x11 x12 x16 x17 (wrap64 (x18 + 1)) x552000 x552001 x552002 x552003)) else (none)) else (none)) else (impl_greatest.l0 k x1 x5 x10 x11 (wrap64 (x12 + 1)))
end
def impl_greatest.f (k : Nat) (l0 : List (S95)) (l1 : List (S95)) : Option (Int) := impl_greatest.l0 k l1 0 l0 (l0.length : Int) 0
def impl_PartsOf.f (k : Nat) (a0_0 : Int) (a0_1 : Int) (a0_2 : Int) (a0_3 : ByteArray) (l0_4 : List (S77)) : Option ((List (S95))) := (impl_IsFeature.f k a0_0 a0_1 a0_2 a0_3 l0_4).bind fun t556 => (if t556 = true then (if a0_1 = 2 then ((impl_SegmentsOf.f k l0_4).bind fun t557 => (some t557)) else (if a0_1 = 3 then ((impl_RingSegments.f k l0_4).bind fun t560 => (some t560)) else (some (([] : List (S95)))))) else (some (([] : List (S95)))))
def impl_FeaturesMeet.f (k : Nat) (a0_0 : Int) (a0_1 : Int) (a0_2 : Int) (a0_3 : ByteArray) (l0_4 : List (S77)) (a1_0 : Int) (a1_1 : Int) (a1_2 : Int) (a1_3 : ByteArray) (l1_4 : List (S77)) : Option (Int) := (impl_PartsOf.f k a0_0 a0_1 a0_2 a0_3 l0_4).bind fun t571 => ((impl_PartsOf.f k a1_0 a1_1 a1_2 a1_3 l1_4).bind fun t574 => ((impl_greatest.f k t571 t574).bind fun t577 => (some t577)))
def impl_CanShrink.l0 : Nat → List (S28) → Int → Int → Int → Int → Int → ByteArray → List (S77) → Int → Int → Int → ByteArray → List (S77) → Option (Bool)
 | 0, _, _, _, _, _, _, _, _, _, _, _, _, _ => none
 | k + 1, x19, x20, x21, x579000, x579001, x579002, x579003, x579004, x588000, x588001, x588002, x588003, x588004 => if x21 < x20 then (if 0 ≤ x21 then (if x21 < (x19.length : Int) then ((impl_FeaturesMeet.f k x588000 x588001 x588002 x588003 x588004 ((rd_T28 x19 x21).f0) ((rd_T28 x19 x21).f1) ((rd_T28 x19 x21).f2) ((rd_T28 x19 x21).f3) ((rd_T28 x19 x21).f4)).bind fun t590 => ((impl_FeaturesMeet.f k x579000 x579001 x579002 x579003 x579004 ((rd_T28 x19 x21).f0) ((rd_T28 x19 x21).f1) ((rd_T28 x19 x21).f2) ((rd_T28 x19 x21).f3) ((rd_T28 x19 x21).f4)).bind fun t591 => (if t590 > t591 then (some false) else (impl_CanShrink.l0 k x19 x20 (wrap64 (x21 + 1)) x579000 x579001 x579002 x579003 x579004 x588000 x588001 x588002 x588003 x588004)))) else (none)) else (none)) else (some true)
def impl_CanShrink.f (k : Nat) (a0_0 : Int) (a0_1 : Int) (a0_2 : Int) (a0_3 : ByteArray) (l0_4 : List (S77)) (a1 : Int) (l2 : List (S28)) : Option (Bool) := (impl_DropFrom.f k a0_0 a0_1 a0_2 a0_3 l0_4 a1).bind fun bt579 => (if bt579.2.2.2.2.2 = true then (impl_CanShrink.l0 k l2 (l2.length : Int) 0 a0_0 a0_1 a0_2 a0_3 l0_4 bt579.1 bt579.2.1 bt579.2.2.1 bt579.2.2.2.1 bt579.2.2.2.2.1) else (some false))
def laws_eqFeatureS.l0 : Nat → List (S28) → List (S28) → Int → Option (Bool)
 | 0, _, _, _ => none
 | k + 1, x0, x1, x5 => if x5 < (x0.length : Int) then (if 0 ≤ x5 then (if x5 < (x1.length : Int) then ((laws_eqFeature.f k ((rd_T28 x0 x5).f0) ((rd_T28 x0 x5).f1) ((rd_T28 x0 x5).f2) ((rd_T28 x0 x5).f3) ((rd_T28 x0 x5).f4) ((rd_T28 x1 x5).f0) ((rd_T28 x1 x5).f1) ((rd_T28 x1 x5).f2) ((rd_T28 x1 x5).f3) ((rd_T28 x1 x5).f4)).bind fun t594 => (if t594 = true then (laws_eqFeatureS.l0 k x0 x1 (wrap64 (x5 + 1))) else (some false))) else (none)) else (none)) else (some true)
def laws_eqFeatureS.f (k : Nat) (l0 : List (S28)) (l1 : List (S28)) : Option (Bool) := if (l0.length : Int) = (l1.length : Int) then (laws_eqFeatureS.l0 k l0 l1 0) else (some false)
def laws_FnExactCanShrink.f (k : Nat) (a0_0 : Int) (a0_1 : Int) (a0_2 : Int) (a0_3 : ByteArray) (l0_4 : List (S85)) (a1 : Int) (l2 : List (S24)) : Option (Bool) := (laws_szFeature.f a0_0 a0_1 a0_2 a0_3 l0_4 1048576).bind fun t596 => (if t596 < 0 then (some true) else ((laws_szFeatureS.f k l2 t596).bind fun t597 => (if t597 < 0 then (some true) else ((laws_toFeature.f k a0_0 a0_1 a0_2 a0_3 l0_4).bind fun bt598 => ((laws_toFeatureS.f k l2).bind fun t605 => ((spec_CanShrink.f k bt598.1 bt598.2.1 bt598.2.2.1 bt598.2.2.2.1 bt598.2.2.2.2 a1 t605).bind fun t608 => ((laws_toFeature.f k a0_0 a0_1 a0_2 a0_3 l0_4).bind fun bt609 => ((laws_toFeatureS.f k l2).bind fun t617 => ((impl_CanShrink.f k bt609.1 bt609.2.1 bt609.2.2.1 bt609.2.2.2.1 bt609.2.2.2.2 a1 t617).bind fun t620 => (if (t620 != t608) = true then (some false) else ((laws_toFeature.f k a0_0 a0_1 a0_2 a0_3 l0_4).bind fun bt621 => ((laws_eqFeature.f k bt609.1 bt609.2.1 bt609.2.2.1 bt609.2.2.2.1 bt609.2.2.2.2 bt621.1 bt621.2.1 bt621.2.2.1 bt621.2.2.2.1 bt621.2.2.2.2).bind fun t628 => (if t628 = true then ((laws_toFeatureS.f k l2).bind fun t629 => ((laws_eqFeatureS.f k t617 t629).bind fun t632 => (if t632 = true then (some true) else (some false)))) else (some false))))))))))))))
end Go.Proofs.Ytkebhlkbnnlegaa.PFnExactCanShrink
