-- Written by a program of this session's (evlaw.py).
import Derived.ArgAppend
import Derived.Below
import Derived.BigQuiet
import Derived.Deep.AppendLies
import Derived.Deep.CutBlock
import Derived.Deep.DeepCutAuto
import Derived.Deep.Draws
import Derived.Deep.LoopGhost
import Derived.Deep.OwnRows
import Derived.Deep.QuietTactic
import Derived.Deep.RegionHeld3
import Derived.KernelRfl
import Derived.Laws.BitsLemmas
import Derived.Laws.BytesArg
import Derived.Laws.IdiomCopy
import Derived.Laws.MakeOwn
import Derived.Laws.OwnMore
import Derived.Laws.Rows
import Derived.Laws.Slices
import Derived.Lib.AppendStr
import Derived.Lib.ConvBytes
import Derived.Maps.AppendAt
import Derived.OrdersHeld
import Derived.OwnWalk
import Derived.RowKit
import Derived.RowKit3
import Derived.Tactics
import Derived.Test.YtkebhlkbnnlegaaGeo
import Derived.Test.YtkebhlkbnnlegaaHand
import Derived.Test.YtkebhlkbnnlegaaMeet
import Derived.Test.YtkebhlkbnnlegaaProg
import Derived.Test.YtkebhlkbnnlegaaQuiet
import Derived.Test.YtkebhlkbnnlegaaWApart
import Derived.Test.YtkebhlkbnnlegaaWArr
import Derived.Test.YtkebhlkbnnlegaaWAt
import Derived.Test.YtkebhlkbnnlegaaWEqStruct
import Derived.Test.YtkebhlkbnnlegaaWFoot
import Derived.Test.YtkebhlkbnnlegaaWFootNe
import Derived.Test.YtkebhlkbnnlegaaWFour
import Derived.Test.YtkebhlkbnnlegaaWGuard
import Derived.Test.YtkebhlkbnnlegaaWInv
import Derived.Test.YtkebhlkbnnlegaaWInvWords
import Derived.Test.YtkebhlkbnnlegaaWKept
import Derived.Test.YtkebhlkbnnlegaaWLast
import Derived.Test.YtkebhlkbnnlegaaWMore
import Derived.Test.YtkebhlkbnnlegaaWN
import Derived.Test.YtkebhlkbnnlegaaWNEv
import Derived.Test.YtkebhlkbnnlegaaWQPut
import Derived.Test.YtkebhlkbnnlegaaWRepsOne
import Derived.Test.YtkebhlkbnnlegaaWShare
import Derived.Test.YtkebhlkbnnlegaaWTab
import Derived.Test.YtkebhlkbnnlegaaWWords
import Derived.Test.YtkebhlkbnnlegaaWZeros
import Derived.Test.YtkebhlkbnnlegaaZ
import Derived.WalkKit
import Derived.WideLaws
namespace Go.Proofs.Ytkebhlkbnnlegaa.PFnExactShrinkFeature
open Go.RowKit Go.Proofs.YtkebhlkbnnlegaaW.PrintWords Go.Proofs.YtkebhlkbnnlegaaW.PrintLast Go.Proofs.YtkebhlkbnnlegaaW.PrintMore Go.Proofs.YtkebhlkbnnlegaaGeo Go.Proofs.YtkebhlkbnnlegaaHand Go.Proofs.YtkebhlkbnnlegaaMeet Go.Proofs.YtkebhlkbnnlegaaQuiet Go.Proofs.YtkebhlkbnnlegaaZ
attribute [local go_sem] max2_int min2_int max_two min_two max_three min_three max_four min_four   -- for this text's walks alone
set_option linter.unusedVariables false
set_option linter.unusedSimpArgs false
def errW : Option Int → Value
  | none => .nilIface
  | some c => .iface 0 (.int .i64 c)
theorem errW_none : errW none = .nilIface := rfl
theorem errW_some (c : Int) : errW (some c) = .iface 0 (.int .i64 c) := rfl
theorem info5 : (Try.prog.info? 5).map (fun i => (i.zero, i.size, i.bytes)) = some (some (.int .u8 0), 1, 1) := by kernel_rfl
theorem info28 : (Try.prog.info? 28).map (fun i => (i.zero, i.size, i.bytes)) = some (some (.agg #[(.int .i64 0), (.int .i64 0), (.int .i64 0), (.string ⟨#[]⟩), (.slice none 0 0)]), 5, 64) := by kernel_rfl
theorem info77 : (Try.prog.info? 77).map (fun i => (i.zero, i.size, i.bytes)) = some (some (.agg #[(.int .i64 0), (.int .i64 0)]), 2, 16) := by kernel_rfl
theorem info95 : (Try.prog.info? 95).map (fun i => (i.zero, i.size, i.bytes)) = some (some (.agg #[(.int .i64 0), (.int .i64 0), (.int .i64 0), (.int .i64 0)]), 4, 32) := by kernel_rfl
-- the values' own types
structure S85 where
  f0 : Int
  f1 : Int
def z85 : S85 := ⟨(0 : Int), (0 : Int)⟩
def k85 : Kd S85 := Kd.iso (Kd.pair (Kd.int .i64) (Kd.int .i64)) (fun x : S85 => (x.f0, x.f1))
theorem k85_open {w : World} {x : S85} {cs : List Value} (h : k85.K w x cs) : cs = [.int .i64 x.f0, .int .i64 x.f1] := by
  obtain ⟨_, _, rfl, rfl, rfl⟩ := h
  exact rfl
theorem k85_openM {w : World} {base : Nat} {ok : Nat → Prop} {x : S85} {cs : List Value} (h : k85.M w base ok x cs) : cs = [.int .i64 x.f0, .int .i64 x.f1] := by
  obtain ⟨_, _, rfl, rfl, rfl⟩ := h
  exact rfl
theorem k85_mk (w : World) (x : S85)  : k85.K w x [.int .i64 x.f0, .int .i64 x.f1] := ⟨[.int .i64 x.f0], [.int .i64 x.f1], rfl, rfl, rfl⟩
theorem k85_mkM (w : World) (base : Nat) (ok : Nat → Prop) (x : S85)  : k85.M w base ok x [.int .i64 x.f0, .int .i64 x.f1] := ⟨[.int .i64 x.f0], [.int .i64 x.f1], rfl, rfl, rfl⟩
def rd_T85 (xs : List S85) (i : Int) : S85 := xs.getD i.toNat z85
theorem at_T85 {w : World} {A : Option Addr} {n : Nat} {xs : List S85} (h : Kd.C k85 w A n xs) (i : Int) (h0 : 0 ≤ i) (h1 : i < n) : ∃ ad , A = some ad ∧ w.cell? (ad.add (i.toNat * 2)) = some (.int .i64 (rd_T85 xs i).f0) ∧ w.cell? ⟨(ad.add (i.toNat * 2)).block, (ad.add (i.toNat * 2)).off + 1, none⟩ = some (.int .i64 (rd_T85 xs i).f1) := by
  obtain ⟨ad, c, e, _, hK, hc0⟩ := Kd.C_get h z85 i h0 h1; have hc : ∀ j u, c[j]? = some u → w.cell? (ad.add (i.toNat * 2 + j)) = some u := hc0; obtain rfl := k85_open hK
  exact ⟨ad, e, hc 0 _ rfl, by rw [← add_field _ _ 1 (by omega)]; exact hc 1 _ rfl⟩
structure S77 where
  f0 : Int
  f1 : Int
def z77 : S77 := ⟨(0 : Int), (0 : Int)⟩
def k77 : Kd S77 := Kd.iso (Kd.pair (Kd.int .i64) (Kd.int .i64)) (fun x : S77 => (x.f0, x.f1))
theorem k77_open {w : World} {x : S77} {cs : List Value} (h : k77.K w x cs) : cs = [.int .i64 x.f0, .int .i64 x.f1] := by
  obtain ⟨_, _, rfl, rfl, rfl⟩ := h
  exact rfl
theorem k77_openM {w : World} {base : Nat} {ok : Nat → Prop} {x : S77} {cs : List Value} (h : k77.M w base ok x cs) : cs = [.int .i64 x.f0, .int .i64 x.f1] := by
  obtain ⟨_, _, rfl, rfl, rfl⟩ := h
  exact rfl
theorem k77_mk (w : World) (x : S77)  : k77.K w x [.int .i64 x.f0, .int .i64 x.f1] := ⟨[.int .i64 x.f0], [.int .i64 x.f1], rfl, rfl, rfl⟩
theorem k77_mkM (w : World) (base : Nat) (ok : Nat → Prop) (x : S77)  : k77.M w base ok x [.int .i64 x.f0, .int .i64 x.f1] := ⟨[.int .i64 x.f0], [.int .i64 x.f1], rfl, rfl, rfl⟩
def rd_T77 (xs : List S77) (i : Int) : S77 := xs.getD i.toNat z77
theorem at_T77 {w : World} {A : Option Addr} {n : Nat} {xs : List S77} (h : Kd.C k77 w A n xs) (i : Int) (h0 : 0 ≤ i) (h1 : i < n) : ∃ ad , A = some ad ∧ w.cell? (ad.add (i.toNat * 2)) = some (.int .i64 (rd_T77 xs i).f0) ∧ w.cell? ⟨(ad.add (i.toNat * 2)).block, (ad.add (i.toNat * 2)).off + 1, none⟩ = some (.int .i64 (rd_T77 xs i).f1) := by
  obtain ⟨ad, c, e, _, hK, hc0⟩ := Kd.C_get h z77 i h0 h1; have hc : ∀ j u, c[j]? = some u → w.cell? (ad.add (i.toNat * 2 + j)) = some u := hc0; obtain rfl := k77_open hK
  exact ⟨ad, e, hc 0 _ rfl, by rw [← add_field _ _ 1 (by omega)]; exact hc 1 _ rfl⟩
def rd_L4 (xs : List (List S85)) (i : Int) : (List S85) := xs.getD i.toNat ([] : List S85)
theorem at_L4 {w : World} {A : Option Addr} {n : Nat} {xs : List (List S85)} (h : Kd.C (Kd.slice 85 k85) w A n xs) (i : Int) (h0 : 0 ≤ i) (h1 : i < n) : ∃ ad A0 c0, A = some ad ∧ w.cell? (ad.add i.toNat) = some (.slice A0 (rd_L4 xs i).length c0) ∧ (rd_L4 xs i).length ≤ c0 ∧ k85.C w A0 (rd_L4 xs i).length (rd_L4 xs i) := by
  obtain ⟨ad, c, e, _, hK, hc0⟩ := Kd.C_get h ([] : List S85) i h0 h1; have hc : ∀ j u, c[j]? = some u → w.cell? (ad.add (i.toNat * 1 + j)) = some u := hc0; obtain ⟨A0, c0, rfl, l0, g0⟩ := hK
  exact ⟨ad, A0, c0, e, by have hq := hc 0 _ rfl; rwa [Nat.mul_one, Nat.add_zero] at hq, l0, g0⟩
structure S24 where
  f0 : Int
  f1 : Int
  f2 : Int
  f3 : ByteArray
  f4 : (List S85)
def z24 : S24 := ⟨(0 : Int), (0 : Int), (0 : Int), (⟨#[]⟩ : ByteArray), ([] : List S85)⟩
def k24 : Kd S24 := Kd.iso (Kd.pair (Kd.int .i64) (Kd.pair (Kd.int .i64) (Kd.pair (Kd.int .i64) (Kd.pair Kd.string (Kd.slice 85 k85))))) (fun x : S24 => (x.f0, x.f1, x.f2, x.f3, x.f4))
theorem k24_open {w : World} {x : S24} {cs : List Value} (h : k24.K w x cs) : ∃ A4 c4, cs = [.int .i64 x.f0, .int .i64 x.f1, .int .i64 x.f2, .string x.f3, .slice A4 x.f4.length c4] ∧ x.f4.length ≤ c4 ∧ k85.C w A4 x.f4.length x.f4 := by
  obtain ⟨_, _, rfl, rfl, ⟨_, _, rfl, rfl, ⟨_, _, rfl, rfl, ⟨_, _, rfl, rfl, ⟨A4, c4, rfl, l4, g4⟩⟩⟩⟩⟩ := h
  exact ⟨A4, c4, rfl, l4, g4⟩
theorem k24_openM {w : World} {base : Nat} {ok : Nat → Prop} {x : S24} {cs : List Value} (h : k24.M w base ok x cs) : ∃ v4, cs = [.int .i64 x.f0, .int .i64 x.f1, .int .i64 x.f2, .string x.f3, v4] ∧ k85.R 85 w base ok v4 x.f4 := by
  obtain ⟨_, _, rfl, rfl, ⟨_, _, rfl, rfl, ⟨_, _, rfl, rfl, ⟨_, _, rfl, rfl, ⟨v4, rfl, g4⟩⟩⟩⟩⟩ := h
  exact ⟨v4, rfl, g4⟩
theorem k24_mk (w : World) (x : S24) {A4 : Option Addr} {c4 : Nat} (l4 : x.f4.length ≤ c4) (g4 : k85.C w A4 x.f4.length x.f4) : k24.K w x [.int .i64 x.f0, .int .i64 x.f1, .int .i64 x.f2, .string x.f3, .slice A4 x.f4.length c4] := ⟨[.int .i64 x.f0], [.int .i64 x.f1, .int .i64 x.f2, .string x.f3, .slice A4 x.f4.length c4], rfl, rfl, ⟨[.int .i64 x.f1], [.int .i64 x.f2, .string x.f3, .slice A4 x.f4.length c4], rfl, rfl, ⟨[.int .i64 x.f2], [.string x.f3, .slice A4 x.f4.length c4], rfl, rfl, ⟨[.string x.f3], [.slice A4 x.f4.length c4], rfl, rfl, ⟨A4, c4, rfl, l4, g4⟩⟩⟩⟩⟩
theorem k24_mkM (w : World) (base : Nat) (ok : Nat → Prop) (x : S24) {v4 : Value} (g4 : k85.R 85 w base ok v4 x.f4) : k24.M w base ok x [.int .i64 x.f0, .int .i64 x.f1, .int .i64 x.f2, .string x.f3, v4] := ⟨[.int .i64 x.f0], [.int .i64 x.f1, .int .i64 x.f2, .string x.f3, v4], rfl, rfl, ⟨[.int .i64 x.f1], [.int .i64 x.f2, .string x.f3, v4], rfl, rfl, ⟨[.int .i64 x.f2], [.string x.f3, v4], rfl, rfl, ⟨[.string x.f3], [v4], rfl, rfl, ⟨v4, rfl, g4⟩⟩⟩⟩⟩
def rd_T24 (xs : List S24) (i : Int) : S24 := xs.getD i.toNat z24
theorem at_T24 {w : World} {A : Option Addr} {n : Nat} {xs : List S24} (h : Kd.C k24 w A n xs) (i : Int) (h0 : 0 ≤ i) (h1 : i < n) : ∃ ad A4 c4, A = some ad ∧ w.cell? (ad.add (i.toNat * 5)) = some (.int .i64 (rd_T24 xs i).f0) ∧ w.cell? ⟨(ad.add (i.toNat * 5)).block, (ad.add (i.toNat * 5)).off + 1, none⟩ = some (.int .i64 (rd_T24 xs i).f1) ∧ w.cell? ⟨(ad.add (i.toNat * 5)).block, (ad.add (i.toNat * 5)).off + 2, none⟩ = some (.int .i64 (rd_T24 xs i).f2) ∧ w.cell? ⟨(ad.add (i.toNat * 5)).block, (ad.add (i.toNat * 5)).off + 3, none⟩ = some (.string (rd_T24 xs i).f3) ∧ w.cell? ⟨(ad.add (i.toNat * 5)).block, (ad.add (i.toNat * 5)).off + 4, none⟩ = some (.slice A4 (rd_T24 xs i).f4.length c4) ∧ (rd_T24 xs i).f4.length ≤ c4 ∧ k85.C w A4 (rd_T24 xs i).f4.length (rd_T24 xs i).f4 := by
  obtain ⟨ad, c, e, _, hK, hc0⟩ := Kd.C_get h z24 i h0 h1; have hc : ∀ j u, c[j]? = some u → w.cell? (ad.add (i.toNat * 5 + j)) = some u := hc0; obtain ⟨A4, c4, rfl, l4, g4⟩ := k24_open hK
  exact ⟨ad, A4, c4, e, hc 0 _ rfl, by rw [← add_field _ _ 1 (by omega)]; exact hc 1 _ rfl, by rw [← add_field _ _ 2 (by omega)]; exact hc 2 _ rfl, by rw [← add_field _ _ 3 (by omega)]; exact hc 3 _ rfl, by rw [← add_field _ _ 4 (by omega)]; exact hc 4 _ rfl, l4, g4⟩
def rd_L6 (xs : List (List S77)) (i : Int) : (List S77) := xs.getD i.toNat ([] : List S77)
theorem at_L6 {w : World} {A : Option Addr} {n : Nat} {xs : List (List S77)} (h : Kd.C (Kd.slice 77 k77) w A n xs) (i : Int) (h0 : 0 ≤ i) (h1 : i < n) : ∃ ad A0 c0, A = some ad ∧ w.cell? (ad.add i.toNat) = some (.slice A0 (rd_L6 xs i).length c0) ∧ (rd_L6 xs i).length ≤ c0 ∧ k77.C w A0 (rd_L6 xs i).length (rd_L6 xs i) := by
  obtain ⟨ad, c, e, _, hK, hc0⟩ := Kd.C_get h ([] : List S77) i h0 h1; have hc : ∀ j u, c[j]? = some u → w.cell? (ad.add (i.toNat * 1 + j)) = some u := hc0; obtain ⟨A0, c0, rfl, l0, g0⟩ := hK
  exact ⟨ad, A0, c0, e, by have hq := hc 0 _ rfl; rwa [Nat.mul_one, Nat.add_zero] at hq, l0, g0⟩
structure S28 where
  f0 : Int
  f1 : Int
  f2 : Int
  f3 : ByteArray
  f4 : (List S77)
def z28 : S28 := ⟨(0 : Int), (0 : Int), (0 : Int), (⟨#[]⟩ : ByteArray), ([] : List S77)⟩
def k28 : Kd S28 := Kd.iso (Kd.pair (Kd.int .i64) (Kd.pair (Kd.int .i64) (Kd.pair (Kd.int .i64) (Kd.pair Kd.string (Kd.slice 77 k77))))) (fun x : S28 => (x.f0, x.f1, x.f2, x.f3, x.f4))
theorem k28_open {w : World} {x : S28} {cs : List Value} (h : k28.K w x cs) : ∃ A4 c4, cs = [.int .i64 x.f0, .int .i64 x.f1, .int .i64 x.f2, .string x.f3, .slice A4 x.f4.length c4] ∧ x.f4.length ≤ c4 ∧ k77.C w A4 x.f4.length x.f4 := by
  obtain ⟨_, _, rfl, rfl, ⟨_, _, rfl, rfl, ⟨_, _, rfl, rfl, ⟨_, _, rfl, rfl, ⟨A4, c4, rfl, l4, g4⟩⟩⟩⟩⟩ := h
  exact ⟨A4, c4, rfl, l4, g4⟩
theorem k28_openM {w : World} {base : Nat} {ok : Nat → Prop} {x : S28} {cs : List Value} (h : k28.M w base ok x cs) : ∃ v4, cs = [.int .i64 x.f0, .int .i64 x.f1, .int .i64 x.f2, .string x.f3, v4] ∧ k77.R 77 w base ok v4 x.f4 := by
  obtain ⟨_, _, rfl, rfl, ⟨_, _, rfl, rfl, ⟨_, _, rfl, rfl, ⟨_, _, rfl, rfl, ⟨v4, rfl, g4⟩⟩⟩⟩⟩ := h
  exact ⟨v4, rfl, g4⟩
theorem k28_mk (w : World) (x : S28) {A4 : Option Addr} {c4 : Nat} (l4 : x.f4.length ≤ c4) (g4 : k77.C w A4 x.f4.length x.f4) : k28.K w x [.int .i64 x.f0, .int .i64 x.f1, .int .i64 x.f2, .string x.f3, .slice A4 x.f4.length c4] := ⟨[.int .i64 x.f0], [.int .i64 x.f1, .int .i64 x.f2, .string x.f3, .slice A4 x.f4.length c4], rfl, rfl, ⟨[.int .i64 x.f1], [.int .i64 x.f2, .string x.f3, .slice A4 x.f4.length c4], rfl, rfl, ⟨[.int .i64 x.f2], [.string x.f3, .slice A4 x.f4.length c4], rfl, rfl, ⟨[.string x.f3], [.slice A4 x.f4.length c4], rfl, rfl, ⟨A4, c4, rfl, l4, g4⟩⟩⟩⟩⟩
theorem k28_mkM (w : World) (base : Nat) (ok : Nat → Prop) (x : S28) {v4 : Value} (g4 : k77.R 77 w base ok v4 x.f4) : k28.M w base ok x [.int .i64 x.f0, .int .i64 x.f1, .int .i64 x.f2, .string x.f3, v4] := ⟨[.int .i64 x.f0], [.int .i64 x.f1, .int .i64 x.f2, .string x.f3, v4], rfl, rfl, ⟨[.int .i64 x.f1], [.int .i64 x.f2, .string x.f3, v4], rfl, rfl, ⟨[.int .i64 x.f2], [.string x.f3, v4], rfl, rfl, ⟨[.string x.f3], [v4], rfl, rfl, ⟨v4, rfl, g4⟩⟩⟩⟩⟩
def rd_T28 (xs : List S28) (i : Int) : S28 := xs.getD i.toNat z28
theorem at_T28 {w : World} {A : Option Addr} {n : Nat} {xs : List S28} (h : Kd.C k28 w A n xs) (i : Int) (h0 : 0 ≤ i) (h1 : i < n) : ∃ ad A4 c4, A = some ad ∧ w.cell? (ad.add (i.toNat * 5)) = some (.int .i64 (rd_T28 xs i).f0) ∧ w.cell? ⟨(ad.add (i.toNat * 5)).block, (ad.add (i.toNat * 5)).off + 1, none⟩ = some (.int .i64 (rd_T28 xs i).f1) ∧ w.cell? ⟨(ad.add (i.toNat * 5)).block, (ad.add (i.toNat * 5)).off + 2, none⟩ = some (.int .i64 (rd_T28 xs i).f2) ∧ w.cell? ⟨(ad.add (i.toNat * 5)).block, (ad.add (i.toNat * 5)).off + 3, none⟩ = some (.string (rd_T28 xs i).f3) ∧ w.cell? ⟨(ad.add (i.toNat * 5)).block, (ad.add (i.toNat * 5)).off + 4, none⟩ = some (.slice A4 (rd_T28 xs i).f4.length c4) ∧ (rd_T28 xs i).f4.length ≤ c4 ∧ k77.C w A4 (rd_T28 xs i).f4.length (rd_T28 xs i).f4 := by
  obtain ⟨ad, c, e, _, hK, hc0⟩ := Kd.C_get h z28 i h0 h1; have hc : ∀ j u, c[j]? = some u → w.cell? (ad.add (i.toNat * 5 + j)) = some u := hc0; obtain ⟨A4, c4, rfl, l4, g4⟩ := k28_open hK
  exact ⟨ad, A4, c4, e, hc 0 _ rfl, by rw [← add_field _ _ 1 (by omega)]; exact hc 1 _ rfl, by rw [← add_field _ _ 2 (by omega)]; exact hc 2 _ rfl, by rw [← add_field _ _ 3 (by omega)]; exact hc 3 _ rfl, by rw [← add_field _ _ 4 (by omega)]; exact hc 4 _ rfl, l4, g4⟩
structure S95 where
  f0 : S77
  f1 : S77
def z95 : S95 := ⟨z77, z77⟩
def k95 : Kd S95 := Kd.iso (Kd.pair k77 k77) (fun x : S95 => (x.f0, x.f1))
theorem k95_open {w : World} {x : S95} {cs : List Value} (h : k95.K w x cs) : cs = [.int .i64 x.f0.f0, .int .i64 x.f0.f1, .int .i64 x.f1.f0, .int .i64 x.f1.f1] := by
  obtain ⟨_, _, rfl, s0, s2⟩ := h; obtain rfl := k77_open s0; obtain rfl := k77_open s2
  exact rfl
theorem k95_openM {w : World} {base : Nat} {ok : Nat → Prop} {x : S95} {cs : List Value} (h : k95.M w base ok x cs) : cs = [.int .i64 x.f0.f0, .int .i64 x.f0.f1, .int .i64 x.f1.f0, .int .i64 x.f1.f1] := by
  obtain ⟨_, _, rfl, s0, s2⟩ := h; obtain rfl := k77_openM s0; obtain rfl := k77_openM s2
  exact rfl
theorem k95_mk (w : World) (x : S95)  : k95.K w x [.int .i64 x.f0.f0, .int .i64 x.f0.f1, .int .i64 x.f1.f0, .int .i64 x.f1.f1] := ⟨[.int .i64 x.f0.f0, .int .i64 x.f0.f1], [.int .i64 x.f1.f0, .int .i64 x.f1.f1], rfl, (k77_mk w x.f0 ), (k77_mk w x.f1 )⟩
theorem k95_mkM (w : World) (base : Nat) (ok : Nat → Prop) (x : S95)  : k95.M w base ok x [.int .i64 x.f0.f0, .int .i64 x.f0.f1, .int .i64 x.f1.f0, .int .i64 x.f1.f1] := ⟨[.int .i64 x.f0.f0, .int .i64 x.f0.f1], [.int .i64 x.f1.f0, .int .i64 x.f1.f1], rfl, (k77_mkM w base ok x.f0 ), (k77_mkM w base ok x.f1 )⟩
def rd_T95 (xs : List S95) (i : Int) : S95 := xs.getD i.toNat z95
theorem at_T95 {w : World} {A : Option Addr} {n : Nat} {xs : List S95} (h : Kd.C k95 w A n xs) (i : Int) (h0 : 0 ≤ i) (h1 : i < n) : ∃ ad , A = some ad ∧ w.cell? (ad.add (i.toNat * 4)) = some (.int .i64 (rd_T95 xs i).f0.f0) ∧ w.cell? ⟨(ad.add (i.toNat * 4)).block, (ad.add (i.toNat * 4)).off + 1, none⟩ = some (.int .i64 (rd_T95 xs i).f0.f1) ∧ w.cell? ⟨(ad.add (i.toNat * 4)).block, (ad.add (i.toNat * 4)).off + 2, none⟩ = some (.int .i64 (rd_T95 xs i).f1.f0) ∧ w.cell? ⟨(ad.add (i.toNat * 4)).block, (ad.add (i.toNat * 4)).off + 3, none⟩ = some (.int .i64 (rd_T95 xs i).f1.f1) := by
  obtain ⟨ad, c, e, _, hK, hc0⟩ := Kd.C_get h z95 i h0 h1; have hc : ∀ j u, c[j]? = some u → w.cell? (ad.add (i.toNat * 4 + j)) = some u := hc0; obtain rfl := k95_open hK
  exact ⟨ad, e, hc 0 _ rfl, by rw [← add_field _ _ 1 (by omega)]; exact hc 1 _ rfl, by rw [← add_field _ _ 2 (by omega)]; exact hc 2 _ rfl, by rw [← add_field _ _ 3 (by omega)]; exact hc 3 _ rfl⟩
theorem eqA77 (d : Nat) (w : World) (x0 y0 : Int) (x1 y1 : Int) :
    (Op.equalIn (d + 2) 77 (.agg #[.int .i64 x0, .int .i64 x1]) (.agg #[.int .i64 y0, .int .i64 y1])).run Try.prog w = .ok (x0 == y0 && (x1 == y1)) w := by
  refine eqA_of Try.underlying77 (by kernel_rfl) ?_; refine eqf_cons (by rfl) (by go_simp; rfl) (by go_simp; rfl) (by go_simp) ?_
  exact eqf_last (by rfl) (by go_simp; rfl) (by go_simp; rfl) (by go_simp)
def laws_szPointS.f (l0 : List (S85)) (a1 : Int) : Option (Int) := if (wrap64 (a1 - (l0.length : Int))) < 0 then (some (-1)) else (some (wrap64 (a1 - (l0.length : Int))))
def laws_szFeature.f (a0_0 : Int) (a0_1 : Int) (a0_2 : Int) (a0_3 : ByteArray) (l0_4 : List (S85)) (a1 : Int) : Option (Int) := if (wrap64 (a1 - (a0_3.size : Int))) < 0 then (some (-1)) else ((laws_szPointS.f l0_4 (wrap64 (a1 - (a0_3.size : Int)))).bind fun t102 => (if t102 < 0 then (some (-1)) else (some t102)))
def laws_toPoint.f (a0_0 : Int) (a0_1 : Int) : Option (Int × Int) := some (a0_0, a0_1)
def laws_toPointS.l0 : Nat → List (S85) → List (S77) → Int → Option ((List (S77)))
 | 0, _, _, _ => none
 | k + 1, x0, x3, x4 => if x4 < (x0.length : Int) then (if 0 ≤ x4 then ((laws_toPoint.f ((rd_T85 x0 x4).f0) ((rd_T85 x0 x4).f1)).bind fun bt110 => (if x4 < (x3.length : Int) then (laws_toPointS.l0 k x0 (x3.set (x4 : Int).toNat (⟨bt110.1, bt110.2⟩ : S77)) (wrap64 (x4 + 1))) else (none))) else (none)) else (some x3)
def laws_toPointS.f (k : Nat) (l0 : List (S85)) : Option ((List (S77))) := if 0 ≤ (l0.length : Int) then (if ((l0.length : Int) : Int).toNat ≤ 17592186044416 then (laws_toPointS.l0 k l0 (List.replicate ((l0.length : Int) : Int).toNat z77) 0) else (none)) else (none)
def laws_toFeature.f (k : Nat) (a0_0 : Int) (a0_1 : Int) (a0_2 : Int) (a0_3 : ByteArray) (l0_4 : List (S85)) : Option (Int × Int × Int × ByteArray × (List (S77))) := (laws_toPointS.f k l0_4).bind fun t116 => (some (a0_0, a0_1, a0_2, a0_3, t116))
def laws_eqPoint.f (a0_0 : Int) (a0_1 : Int) (a1_0 : Int) (a1_1 : Int) : Option (Bool) := if a0_0 = a1_0 then (if a0_1 = a1_1 then (some true) else (some false)) else (some false)
def laws_eqPointS.l0 : Nat → List (S77) → List (S77) → Int → Option (Bool)
 | 0, _, _, _ => none
 | k + 1, x0, x1, x5 => if x5 < (x0.length : Int) then (if 0 ≤ x5 then (if x5 < (x1.length : Int) then ((laws_eqPoint.f ((rd_T77 x0 x5).f0) ((rd_T77 x0 x5).f1) ((rd_T77 x1 x5).f0) ((rd_T77 x1 x5).f1)).bind fun t123 => (if t123 = true then (laws_eqPointS.l0 k x0 x1 (wrap64 (x5 + 1))) else (some false))) else (none)) else (none)) else (some true)
def laws_eqPointS.f (k : Nat) (l0 : List (S77)) (l1 : List (S77)) : Option (Bool) := if (l0.length : Int) = (l1.length : Int) then (laws_eqPointS.l0 k l0 l1 0) else (some false)
def laws_eqFeature.f (k : Nat) (a0_0 : Int) (a0_1 : Int) (a0_2 : Int) (a0_3 : ByteArray) (l0_4 : List (S77)) (a1_0 : Int) (a1_1 : Int) (a1_2 : Int) (a1_3 : ByteArray) (l1_4 : List (S77)) : Option (Bool) := if a0_0 = a1_0 then (if a0_1 = a1_1 then (if a0_2 = a1_2 then (if a0_3.toList = a1_3.toList then ((laws_eqPointS.f k l0_4 l1_4).bind fun t126 => (if t126 = true then (some true) else (some false))) else (some false)) else (some false)) else (some false)) else (some false)
def laws_markPointS.l0 : Nat → List (S77) → Int → Int → Option (Int × (List (S77)))
 | 0, _, _, _ => none
 | k + 1, x0, x1, x5 => if x5 < (x0.length : Int) then (if 0 ≤ x5 then ((some (x0.set (x5 : Int).toNat (⟨x1, (rd_T77 x0 x5).f1⟩ : S77) : List (S77))).bind fun y127 => (laws_markPointS.l0 k (y127.set (x5 : Int).toNat (⟨(rd_T77 y127 x5).f0, wrap64 (x1 + 1)⟩ : S77)) (wrap64 ((wrap64 (x1 + 1)) + 1)) (wrap64 (x5 + 1)))) else (none)) else (some (x1, x0))
def laws_markPointS.f (k : Nat) (l0 : List (S77)) (a1 : Int) : Option (Int × (List (S77))) := laws_markPointS.l0 k l0 a1 0
def laws_markFeature.f (k : Nat) (a0_0 : Int) (a0_1 : Int) (a0_2 : Int) (a0_3 : ByteArray) (l0_4 : List (S77)) (a1 : Int) : Option (Int × (List (S77))) := (laws_markPointS.f k l0_4 a1).bind fun bt130 => (some (bt130.1, bt130.2))
def laws_heldPointS.l0 : Nat → List (S77) → Int → Int → Option (Int)
 | 0, _, _, _ => none
 | k + 1, x0, x1, x5 => if x5 < (x0.length : Int) then (if 0 ≤ x5 then (if ((rd_T77 x0 x5).f0) = x1 then (if ((rd_T77 x0 x5).f1) = (wrap64 (x1 + 1)) then (laws_heldPointS.l0 k x0 (wrap64 ((wrap64 (x1 + 1)) + 1)) (wrap64 (x5 + 1))) else (some (-1))) else (some (-1))) else (none)) else (some x1)
def laws_heldPointS.f (k : Nat) (l0 : List (S77)) (a1 : Int) : Option (Int) := laws_heldPointS.l0 k l0 a1 0
def laws_heldFeature.f (k : Nat) (a0_0 : Int) (a0_1 : Int) (a0_2 : Int) (a0_3 : ByteArray) (l0_4 : List (S77)) (a1 : Int) : Option (Int) := (laws_heldPointS.f k l0_4 a1).bind fun t135 => (if t135 < 0 then (some (-1)) else (some t135))
def laws_szFeatureS.l0 : Nat → List (S24) → Int → Int → Option (Int)
 | 0, _, _, _ => none
 | k + 1, x0, x1, x5 => if x5 < (x0.length : Int) then (if 0 ≤ x5 then ((laws_szFeature.f ((rd_T24 x0 x5).f0) ((rd_T24 x0 x5).f1) ((rd_T24 x0 x5).f2) ((rd_T24 x0 x5).f3) ((rd_T24 x0 x5).f4) x1).bind fun t137 => (if t137 < 0 then (some (-1)) else (laws_szFeatureS.l0 k x0 t137 (wrap64 (x5 + 1))))) else (none)) else (some x1)
def laws_szFeatureS.f (k : Nat) (l0 : List (S24)) (a1 : Int) : Option (Int) := if (wrap64 (a1 - (l0.length : Int))) < 0 then (some (-1)) else (laws_szFeatureS.l0 k l0 (wrap64 (a1 - (l0.length : Int))) 0)
def laws_toFeatureS.l0 : Nat → List (S24) → List (S28) → Int → Option ((List (S28)))
 | 0, _, _, _ => none
 | k + 1, x0, x3, x4 => if x4 < (x0.length : Int) then (if 0 ≤ x4 then ((laws_toFeature.f k ((rd_T24 x0 x4).f0) ((rd_T24 x0 x4).f1) ((rd_T24 x0 x4).f2) ((rd_T24 x0 x4).f3) ((rd_T24 x0 x4).f4)).bind fun bt142 => (if x4 < (x3.length : Int) then (laws_toFeatureS.l0 k x0 (x3.set (x4 : Int).toNat (⟨bt142.1, bt142.2.1, bt142.2.2.1, bt142.2.2.2.1, bt142.2.2.2.2⟩ : S28)) (wrap64 (x4 + 1))) else (none))) else (none)) else (some x3)
def laws_toFeatureS.f (k : Nat) (l0 : List (S24)) : Option ((List (S28))) := if 0 ≤ (l0.length : Int) then (if ((l0.length : Int) : Int).toNat ≤ 4398046511104 then (laws_toFeatureS.l0 k l0 (List.replicate ((l0.length : Int) : Int).toNat z28) 0) else (none)) else (none)
def laws_eqFeatureS.l0 : Nat → List (S28) → List (S28) → Int → Option (Bool)
 | 0, _, _, _ => none
 | k + 1, x0, x1, x5 => if x5 < (x0.length : Int) then (if 0 ≤ x5 then (if x5 < (x1.length : Int) then ((laws_eqFeature.f k ((rd_T28 x0 x5).f0) ((rd_T28 x0 x5).f1) ((rd_T28 x0 x5).f2) ((rd_T28 x0 x5).f3) ((rd_T28 x0 x5).f4) ((rd_T28 x1 x5).f0) ((rd_T28 x1 x5).f1) ((rd_T28 x1 x5).f2) ((rd_T28 x1 x5).f3) ((rd_T28 x1 x5).f4)).bind fun t152 => (if t152 = true then (laws_eqFeatureS.l0 k x0 x1 (wrap64 (x5 + 1))) else (some false))) else (none)) else (none)) else (some true)
def laws_eqFeatureS.f (k : Nat) (l0 : List (S28)) (l1 : List (S28)) : Option (Bool) := if (l0.length : Int) = (l1.length : Int) then (laws_eqFeatureS.l0 k l0 l1 0) else (some false)
def spec_l9Feature.f (a0_0 : Int) (a0_1 : Int) (a0_2 : Int) (a0_3 : ByteArray) (l0_4 : List (S77)) : Option (Int × Int × Int × ByteArray × (List (S77))) := (some (([] : List (S77)) : List (S77))).bind fun y155 => (if y155.length + l0_4.length < 8796093022208 then (some (a0_0, a0_1, a0_2, a0_3, (y155 ++ l0_4))) else (none))
def spec_l1In.f (a0 : Int) (a1 : Int) (a2 : Int) : Option (Bool) := some (inR a0 a1 a2)
/-- A state of type 77 at block g of W; what its slices lead to came in by w0. -/
def IsS77 (w0 W : World) (g : Nat) (f0 : Int) (f1 : Int) : Prop := W.heap[g]? = some (.cells #[.int .i64 f0, .int .i64 f1] 77 (0, 0)) ∧ w0.heap.size ≤ g
theorem cellS77_0 {W : World} {g : Nat} {f0 : Int} {f1 : Int} (h : W.heap[g]? = some (.cells #[.int .i64 f0, .int .i64 f1] 77 (0, 0))) : W.cell? ⟨g, 0, none⟩ = some (.int .i64 f0) := (blk_cell h 0).trans rfl
theorem cellS77_1 {W : World} {g : Nat} {f0 : Int} {f1 : Int} (h : W.heap[g]? = some (.cells #[.int .i64 f0, .int .i64 f1] 77 (0, 0))) : W.cell? ⟨g, 1, none⟩ = some (.int .i64 f1) := (blk_cell h 1).trans rfl
def spec_IsPoint.f (a0_0 : Int) (a0_1 : Int) : Option (Bool) := some (isPt a0_0 a0_1)
attribute [local go_sem high] eqA77
def spec_IsLine.l0 : Nat → List (S77) → Int → Option (Bool)
 | 0, _, _ => none
 | k + 1, x0, x3 => if x3 < (x0.length : Int) then (if 0 ≤ x3 then ((spec_IsPoint.f ((rd_T77 x0 x3).f0) ((rd_T77 x0 x3).f1)).bind fun t162 => (if t162 = true then (if x3 > 0 then (if 0 ≤ (wrap64 (x3 - 1)) then (if (wrap64 (x3 - 1)) < (x0.length : Int) then (if (((rd_T77 x0 (wrap64 (x3 - 1))).f0) == ((rd_T77 x0 x3).f0) && (((rd_T77 x0 (wrap64 (x3 - 1))).f1) == ((rd_T77 x0 x3).f1))) = true then (some false) else (spec_IsLine.l0 k x0 (wrap64 (x3 + 1)))) else (none)) else (none)) else (spec_IsLine.l0 k x0 (wrap64 (x3 + 1)))) else (some false))) else (none)) else ((spec_l1In.f (x0.length : Int) 2 10).bind fun t165 => (some t165))
def spec_IsLine.f (k : Nat) (l0 : List (S77)) : Option (Bool) := spec_IsLine.l0 k l0 0
def spec_DropPoint.j0 : Nat → List (S77) → Int → Bool → Option ((List (S77)) × Bool)
 | 0, _, _, _ => none
 | k + 1, x0, x1, x17 => if x17 = true then ((some (([] : List (S77)) : List (S77))).bind fun y164 => (if y164.length + x0.length < 8796093022208 then (some ((y164 ++ x0), false)) else (none))) else ((some (([] : List (S77)) : List (S77))).bind fun y170 => (if 0 ≤ x1 then (if x1 ≤ (x0.length : Int) then ((some (x0.take (x1 : Int).toNat : List (S77))).bind fun y173 => (if y170.length + y173.length < 8796093022208 then ((some (y170 ++ y173 : List (S77))).bind fun y177 => (if 0 ≤ (wrap64 (x1 + 1)) then (if (wrap64 (x1 + 1)) ≤ (x0.length : Int) then ((some (x0.drop ((wrap64 (x1 + 1)) : Int).toNat : List (S77))).bind fun y180 => (if y177.length + y180.length < 8796093022208 then ((some (y177 ++ y180 : List (S77))).bind fun y184 => ((spec_IsLine.f k y184).bind fun t187 => (if t187 = true then (some (y184, true)) else ((some (([] : List (S77)) : List (S77))).bind fun y188 => (if y188.length + x0.length < 8796093022208 then (some ((y188 ++ x0), false)) else (none)))))) else (none))) else (none)) else (none))) else (none))) else (none)) else (none)))
def spec_DropPoint.f (k : Nat) (l0 : List (S77)) (a1 : Int) : Option ((List (S77)) × Bool) := (spec_IsLine.f k l0).bind fun t162 => (if t162 = true then ((spec_l1In.f a1 1 (wrap64 ((l0.length : Int) - 2))).bind fun t163 => (spec_DropPoint.j0 k l0 a1 (!t163))) else (spec_DropPoint.j0 k l0 a1 true))
def spec_Max.f (a0 : Int) (a1 : Int) : Option (Int) := some (mx a0 a1)
/-- A state of type 95 at block g of W; what its slices lead to came in by w0. -/
def IsS95 (w0 W : World) (g : Nat) (f0 : Int) (f1 : Int) (f2 : Int) (f3 : Int) : Prop := W.heap[g]? = some (.cells #[.int .i64 f0, .int .i64 f1, .int .i64 f2, .int .i64 f3] 95 (0, 0)) ∧ w0.heap.size ≤ g
theorem cellS95_0 {W : World} {g : Nat} {f0 : Int} {f1 : Int} {f2 : Int} {f3 : Int} (h : W.heap[g]? = some (.cells #[.int .i64 f0, .int .i64 f1, .int .i64 f2, .int .i64 f3] 95 (0, 0))) : W.cell? ⟨g, 0, none⟩ = some (.int .i64 f0) := (blk_cell h 0).trans rfl
theorem cellS95_1 {W : World} {g : Nat} {f0 : Int} {f1 : Int} {f2 : Int} {f3 : Int} (h : W.heap[g]? = some (.cells #[.int .i64 f0, .int .i64 f1, .int .i64 f2, .int .i64 f3] 95 (0, 0))) : W.cell? ⟨g, 1, none⟩ = some (.int .i64 f1) := (blk_cell h 1).trans rfl
theorem cellS95_2 {W : World} {g : Nat} {f0 : Int} {f1 : Int} {f2 : Int} {f3 : Int} (h : W.heap[g]? = some (.cells #[.int .i64 f0, .int .i64 f1, .int .i64 f2, .int .i64 f3] 95 (0, 0))) : W.cell? ⟨g, 2, none⟩ = some (.int .i64 f2) := (blk_cell h 2).trans rfl
theorem cellS95_3 {W : World} {g : Nat} {f0 : Int} {f1 : Int} {f2 : Int} {f3 : Int} (h : W.heap[g]? = some (.cells #[.int .i64 f0, .int .i64 f1, .int .i64 f2, .int .i64 f3] 95 (0, 0))) : W.cell? ⟨g, 3, none⟩ = some (.int .i64 f3) := (blk_cell h 3).trans rfl
def spec_IsSegment.f (a0_0 : Int) (a0_1 : Int) (a0_2 : Int) (a0_3 : Int) : Option (Bool) := some (isSeg a0_0 a0_1 a0_2 a0_3)
def spec_Min.f (a0 : Int) (a1 : Int) : Option (Int) := some (mn a0 a1)
def spec_l4Cross.f (a0_0 : Int) (a0_1 : Int) (a1_0 : Int) (a1_1 : Int) (a2_0 : Int) (a2_1 : Int) : Option (Int) := some (crossI a0_0 a0_1 a1_0 a1_1 a2_0 a2_1)
def spec_IsOn.f (a0_0 : Int) (a0_1 : Int) (a0_2 : Int) (a0_3 : Int) (a1_0 : Int) (a1_1 : Int) : Option (Bool) := some (isOnI a0_0 a0_1 a0_2 a0_3 a1_0 a1_1)
attribute [local go_sem high] eqA77
mutual
def spec_l5Shared.l0 : Nat → List (S77) → List (S77) → Int → Int → Int → Int → Int → Int → Int → Int → Int → Option (Int)
 | 0, _, _, _, _, _, _, _, _, _, _, _ => none
 | k + 1, x5, x6, x7, x167000, x167001, x167002, x167003, x168000, x168001, x168002, x168003 => if x7 < 4 then (if x7 < 2 then (if 0 ≤ x7 then (if x7 < (x6.length : Int) then ((spec_IsOn.f x168000 x168001 x168002 x168003 ((rd_T77 x6 x7).f0) ((rd_T77 x6 x7).f1)).bind fun t175 => (if t175 = true then (spec_l5Shared.j1 k x5 x6 x7 true x167000 x167001 x167002 x167003 x168000 x168001 x168002 x168003) else (if x7 ≥ 2 then ((spec_IsOn.f x167000 x167001 x167002 x167003 ((rd_T77 x6 x7).f0) ((rd_T77 x6 x7).f1)).bind fun t177 => (spec_l5Shared.j1 k x5 x6 x7 t177 x167000 x167001 x167002 x167003 x168000 x168001 x168002 x168003)) else (spec_l5Shared.j1 k x5 x6 x7 false x167000 x167001 x167002 x167003 x168000 x168001 x168002 x168003)))) else (none)) else (none)) else (if x7 ≥ 2 then (if 0 ≤ x7 then (if x7 < (x6.length : Int) then ((spec_IsOn.f x167000 x167001 x167002 x167003 ((rd_T77 x6 x7).f0) ((rd_T77 x6 x7).f1)).bind fun t179 => (spec_l5Shared.j1 k x5 x6 x7 t179 x167000 x167001 x167002 x167003 x168000 x168001 x168002 x168003)) else (none)) else (none)) else (spec_l5Shared.j1 k x5 x6 x7 false x167000 x167001 x167002 x167003 x168000 x168001 x168002 x168003))) else (some (x5.length : Int))
def spec_l5Shared.j1 : Nat → List (S77) → List (S77) → Int → Bool → Int → Int → Int → Int → Int → Int → Int → Int → Option (Int)
 | 0, _, _, _, _, _, _, _, _, _, _, _, _ => none
 | k + 1, x5, x6, x7, x8, x167000, x167001, x167002, x167003, x168000, x168001, x168002, x168003 => spec_l5Shared.l1 k x5 x6 x7 x8 0 x167000 x167001 x167002 x167003 x168000 x168001 x168002 x168003
def spec_l5Shared.l1 : Nat → List (S77) → List (S77) → Int → Bool → Int → Int → Int → Int → Int → Int → Int → Int → Int → Option (Int)
 | 0, _, _, _, _, _, _, _, _, _, _, _, _, _ => none
 | k + 1, x5, x6, x7, x8, x9, x167000, x167001, x167002, x167003, x168000, x168001, x168002, x168003 => if x9 < (x5.length : Int) then (if x8 = true then (if 0 ≤ x9 then (if 0 ≤ x7 then (if x7 < (x6.length : Int) then (spec_l5Shared.l1 k x5 x6 x7 (!(((rd_T77 x5 x9).f0) == ((rd_T77 x6 x7).f0)) || (!(((rd_T77 x5 x9).f1) == ((rd_T77 x6 x7).f1)))) (wrap64 (x9 + 1)) x167000 x167001 x167002 x167003 x168000 x168001 x168002 x168003) else (none)) else (none)) else (none)) else (spec_l5Shared.l1 k x5 x6 x7 false (wrap64 (x9 + 1)) x167000 x167001 x167002 x167003 x168000 x168001 x168002 x168003)) else (if x8 = true then (if 0 ≤ x7 then (if x7 < (x6.length : Int) then (if x5.length < 8796093022208 then (spec_l5Shared.l0 k (x5 ++ [(⟨(rd_T77 x6 x7).f0, (rd_T77 x6 x7).f1⟩ : S77)]) x6 (wrap64 (x7 + 1)) x167000 x167001 x167002 x167003 x168000 x168001 x168002 x168003) else (none)) else (none)) else (none)) else (spec_l5Shared.l0 k x5 x6 (wrap64 (x7 + 1)) x167000 x167001 x167002 x167003 x168000 x168001 x168002 x168003))
end
def spec_l5Shared.f (k : Nat) (a0_0 : Int) (a0_1 : Int) (a0_2 : Int) (a0_3 : Int) (a1_0 : Int) (a1_1 : Int) (a1_2 : Int) (a1_3 : Int) : Option (Int) := spec_l5Shared.l0 k (([] : List (S77))) (([(⟨a0_0, a0_1⟩ : S77), (⟨a0_2, a0_3⟩ : S77), (⟨a1_0, a1_1⟩ : S77), (⟨a1_2, a1_3⟩ : S77)] : List (S77))) 0 a0_0 a0_1 a0_2 a0_3 a1_0 a1_1 a1_2 a1_3
def spec_SideOf.f (a0_0 : Int) (a0_1 : Int) (a1_0 : Int) (a1_1 : Int) (a2_0 : Int) (a2_1 : Int) : Option (Int) := some (sideI a0_0 a0_1 a1_0 a1_1 a2_0 a2_1)
theorem on_s (a b c d x y : Int) : spec_IsOn.f a b c d x y = some (isOnI a b c d x y) := rfl
def eqP (p q : S77) : Bool := decide (p.f0 = q.f0) && decide (p.f1 = q.f1)
theorem nep (p q : S77) : (!((p.f0) == (q.f0)) || (!((p.f1) == (q.f1)))) = !eqP p q := by
  unfold eqP
  by_cases h : p.f0 = q.f0 <;> by_cases h' : p.f1 = q.f1 <;> simp [h, h']
theorem rdPt (l : List S77) (i : Nat) (h : i < l.length) : rd_T77 l (i : Int) = l[i] := by
  unfold rd_T77
  rw [Int.toNat_natCast, List.getD_eq_getElem?_getD, List.getElem?_eq_getElem h]
  rfl
theorem w1' (i : Nat) (h : i < 9223372036854775807) : wrap64 ((i : Int) + 1) = ((i + 1 : Nat) : Int) := by unfold wrap64; omega
theorem all_if (x : Bool) (L : List S77) (y : S77) (q : S77 → Bool) : (if x = true then L ++ [y] else L).all q = (L.all q && (!x || q y)) := by cases x <;> simp
theorem len_if (x : Bool) (L : List S77) (y : S77) : (if x = true then L ++ [y] else L).length = L.length + (if x = true then 1 else 0) := by cases x <;> simp
section
variable (a b c d e f g h : Int)
theorem sh_l1 (xs es : List S77) (i : Nat) (hi : i < es.length) (hes : es.length ≤ 4) (hx : xs.length ≤ 4) (m : Nat) : ∀ (j : Nat) (on : Bool), j + m = xs.length → ∀ r,
    Ev (fun k => spec_l5Shared.l0 k (if on && (xs.drop j).all (fun p => !eqP p es[i]) then xs ++ [es[i]] else xs) es ((i + 1 : Nat) : Int) a b c d e f g h) r → Ev (fun k => spec_l5Shared.l1 k xs es (i : Int) on (j : Int) a b c d e f g h) r := by
  induction m with
  | zero =>
    intro j on hj r hr; rw [List.drop_of_length_le (by omega)] at hr; refine Ev.step (fun k => ?_) hr; simp only [spec_l5Shared.l1]; rw [if_neg (by omega)]; simp only [List.all_nil, Bool.and_true]
    cases on
    · simp only [Bool.false_eq_true, if_false, w1' i (by omega)]
    · simp only [if_true]; rw [if_pos (by omega), if_pos (by omega), if_pos (by omega), w1' i (by omega), rdPt es i hi]
  | succ m ih =>
    intro j on hj r hr; have hj1 : j < xs.length := by omega
    have hd := List.drop_eq_getElem_cons hj1; rw [hd, List.all_cons] at hr; refine Ev.step (fun k => ?_) (ih (j + 1) (on && !eqP xs[j] es[i]) (by omega) r (by rw [Bool.and_assoc]; exact hr)); simp only [spec_l5Shared.l1]; rw [if_pos (by omega)]
    cases on
    · simp only [Bool.false_eq_true, if_false, w1' j (by omega), Bool.false_and]
    · simp only [if_true]; rw [if_pos (by omega), if_pos (by omega), if_pos (by omega), w1' j (by omega), rdPt es i hi, rdPt xs j hj1, nep, Bool.true_and]
/-- Which segment an end is held against. -/
def onI (i : Nat) (p : S77) : Bool := if i < 2 then isOnI e f g h p.f0 p.f1 else isOnI a b c d p.f0 p.f1
theorem sh_l0 (xs es : List S77) (i : Nat) (hi : i < es.length) (hes : es.length = 4) (hx : xs.length ≤ 4) (r : Int)
    (hr : Ev (fun k => spec_l5Shared.l0 k (if onI a b c d e f g h i es[i] && xs.all (fun p => !eqP p es[i]) then xs ++ [es[i]] else xs) es ((i + 1 : Nat) : Int) a b c d e f g h) r) : Ev (fun k => spec_l5Shared.l0 k xs es (i : Int) a b c d e f g h) r := by
  have go : ∀ on : Bool, on = onI a b c d e f g h i es[i] → Ev (fun k => spec_l5Shared.j1 k xs es (i : Int) on a b c d e f g h) r := by
    intro on hon; refine Ev.step (f := fun k => spec_l5Shared.l1 k xs es (i : Int) on ((0 : Nat) : Int) a b c d e f g h) (fun k => by rw [spec_l5Shared.j1]; rfl) (sh_l1 a b c d e f g h xs es i hi (by omega) hx xs.length 0 on (by omega) r ?_); rw [hon, List.drop_zero]
    exact hr
  have step : ∀ k, spec_l5Shared.l0 (k + 1) xs es (i : Int) a b c d e f g h = spec_l5Shared.j1 k xs es (i : Int) (onI a b c d e f g h i es[i]) a b c d e f g h := by
    intro k; simp only [spec_l5Shared.l0]; rw [if_pos (by omega)]
    by_cases h2 : i < 2
    · rw [if_pos (by omega), if_pos (by omega), if_pos (by omega), rdPt es i hi, on_s, onI, if_pos h2]; simp only [Option.bind_some]
      cases isOnI e f g h es[i].f0 es[i].f1
      · rw [if_neg (by simp), if_neg (by omega)]
      · rw [if_pos rfl]
    · rw [if_neg (by omega), if_pos (by omega), if_pos (by omega), if_pos (by omega), rdPt es i hi, on_s, onI, if_neg h2]; simp only [Option.bind_some]
  exact Ev.step step (go _ rfl)
theorem share_s : Ev (fun k => spec_l5Shared.f k a b c d e f g h) (shareI a b c d e f g h) := by
  unfold spec_l5Shared.f
  generalize hes : ([(⟨a, b⟩ : S77), ⟨c, d⟩, ⟨e, f⟩, ⟨g, h⟩] : List S77) = es; have h4 : es.length = 4 := by subst hes; rfl
  have e0 : es[0]'(by omega) = ⟨a, b⟩ := by subst hes; rfl
  have e1 : es[1]'(by omega) = ⟨c, d⟩ := by subst hes; rfl
  have e2 : es[2]'(by omega) = ⟨e, f⟩ := by subst hes; rfl
  have e3 : es[3]'(by omega) = ⟨g, h⟩ := by subst hes; rfl
  refine sh_l0 a b c d e f g h [] es 0 (by omega) h4 (by simp) _ ?_; refine sh_l0 a b c d e f g h _ es 1 (by omega) h4 (by split <;> simp) _ ?_; refine sh_l0 a b c d e f g h _ es 2 (by omega) h4 (by split <;> split <;> simp) _ ?_; refine sh_l0 a b c d e f g h _ es 3 (by omega) h4 (by split <;> split <;> split <;> simp) _ ?_; rw [e0, e1, e2, e3]; have q0 : onI a b c d e f g h 0 ⟨a, b⟩ = isOnI e f g h a b := rfl; have q1 : onI a b c d e f g h 1 ⟨c, d⟩ = isOnI e f g h c d := rfl; have q2 : onI a b c d e f g h 2 ⟨e, f⟩ = isOnI a b c d e f := rfl; have q3 : onI a b c d e f g h 3 ⟨g, h⟩ = isOnI a b c d g h := rfl; rw [q0, q1, q2, q3]
  unfold shareI
  generalize isOnI e f g h a b = o0; generalize isOnI e f g h c d = o1; generalize isOnI a b c d e f = o2; generalize isOnI a b c d g h = o3; refine Ev.step (f := fun _ => some _) (fun k => ?_) (Ev.now _); simp only [spec_l5Shared.l0]; rw [if_neg (by omega)]
  congr 1
  have E : ∀ x y x' y' : Int, eqP ⟨x, y⟩ ⟨x', y'⟩ = (decide (x = x') && decide (y = y')) := fun _ _ _ _ => rfl
  generalize hA : (decide (a = c) && decide (b = d)) = eab; generalize hB : (decide (a = e) && decide (b = f)) = eac; generalize hC : (decide (c = e) && decide (d = f)) = ebc; generalize hD : (decide (a = g) && decide (b = h)) = ead; generalize hE : (decide (c = g) && decide (d = h)) = ebd; generalize hF : (decide (e = g) && decide (f = h)) = ecd; simp only [all_if, len_if, List.all_nil, List.length_nil, E, hA, hB, hC, hD, hE, hF]; have n1 : (o1 && (true && (!(o0 && true) || !eab))) = (o1 && !(o0 && eab)) := by cases o0 <;> cases eab <;> rfl
  rw [n1]; generalize (o1 && !(o0 && eab)) = p1; have n2 : (o2 && (true && (!(o0 && true) || !eac) && (!p1 || !ebc))) = (o2 && !(o0 && eac) && !(p1 && ebc)) := by cases o0 <;> cases eac <;> cases p1 <;> cases ebc <;> cases o2 <;> rfl
  rw [n2]; generalize (o2 && !(o0 && eac) && !(p1 && ebc)) = p2; have n3 : (o3 && (true && (!(o0 && true) || !ead) && (!p1 || !ebd) && (!p2 || !ecd))) = (o3 && !(o0 && ead) && !(p1 && ebd) && !(p2 && ecd)) := by cases o0 <;> cases ead <;> cases p1 <;> cases ebd <;> cases p2 <;> cases ecd <;> cases o3 <;> rfl
  rw [n3]; generalize (o3 && !(o0 && ead) && !(p1 && ebd) && !(p2 && ecd)) = p3
  cases o0 <;> cases p1 <;> cases p2 <;> cases p3 <;> rfl
end
theorem wrap_sd (x y : Int) (hx : -1 ≤ x ∧ x ≤ 1) (hy : -1 ≤ y ∧ y ≤ 1) : wrap64 (x * y) = x * y := by
  have : x = -1 ∨ x = 0 ∨ x = 1 := by omega
  rcases this with rfl | rfl | rfl <;> unfold wrap64 <;> omega
theorem sd_bd (a b c d e f : Int) : -1 ≤ sideI a b c d e f ∧ sideI a b c d e f ≤ 1 := by
  unfold sideI cmpI; (repeat' split) <;> omega
theorem wrap_three (x y : Int) (hx : -1 ≤ x ∧ x ≤ 1) (hy : -1 ≤ y ∧ y ≤ 1) : IntKind.i64.wrap (x * y) = x * y ∧ (IntKind.i64.wrap (x * y) = -1 ∨ IntKind.i64.wrap (x * y) = 0 ∨ IntKind.i64.wrap (x * y) = 1) := by
  rw [i64_w, wrap_sd x y hx hy]; refine ⟨rfl, ?_⟩; have h1 : x = -1 ∨ x = 0 ∨ x = 1 := by omega
  rcases h1 with rfl | rfl | rfl <;> omega
def spec_HowMeet.f (a0_0 a0_1 a0_2 a0_3 a1_0 a1_1 a1_2 a1_3 : Int) : Option (Int) := some (howS a0_0 a0_1 a0_2 a0_3 a1_0 a1_1 a1_2 a1_3)
def spec_l7Segments.l0 : Nat → List (S77) → List (S95) → Int → Option ((List (S95)))
 | 0, _, _, _ => none
 | k + 1, x0, x3, x4 => if x4 < (x0.length : Int) then (if 0 ≤ x4 then (if (x0.length : Int) = 0 then (none) else (if 0 ≤ (Int.tmod (wrap64 (x4 + 1)) (x0.length : Int)) then (if (Int.tmod (wrap64 (x4 + 1)) (x0.length : Int)) < (x0.length : Int) then (if x3.length < 4398046511104 then (spec_l7Segments.l0 k x0 (x3 ++ [(⟨(⟨(rd_T77 x0 x4).f0, (rd_T77 x0 x4).f1⟩ : S77), (⟨(rd_T77 x0 (Int.tmod (wrap64 (x4 + 1)) (x0.length : Int))).f0, (rd_T77 x0 (Int.tmod (wrap64 (x4 + 1)) (x0.length : Int))).f1⟩ : S77)⟩ : S95)]) (wrap64 (x4 + 1))) else (none)) else (none)) else (none))) else (none)) else (some x3)
def spec_l7Segments.f (k : Nat) (l0 : List (S77)) : Option ((List (S95))) := spec_l7Segments.l0 k l0 (([] : List (S95))) 0
mutual
def spec_IsRing.l0 : Nat → List (S95) → Int → Option (Bool)
 | 0, _, _ => none
 | k + 1, x3, x4 => if x4 < (x3.length : Int) then (if 0 ≤ x4 then ((spec_IsSegment.f ((rd_T95 x3 x4).f0.f0) ((rd_T95 x3 x4).f0.f1) ((rd_T95 x3 x4).f1.f0) ((rd_T95 x3 x4).f1.f1)).bind fun t199 => (if t199 = true then (spec_IsRing.l1 k x3 x4 0) else (some false))) else (none)) else (some true)
def spec_IsRing.l1 : Nat → List (S95) → Int → Int → Option (Bool)
 | 0, _, _, _ => none
 | k + 1, x3, x4, x5 => if x5 < x4 then (if (wrap64 (x5 + 1)) = x4 then (spec_IsRing.j2 k x3 x4 x5 0 true) else (if x5 = 0 then (spec_IsRing.j2 k x3 x4 x5 0 ((wrap64 (x4 + 1)) == (x3.length : Int))) else (spec_IsRing.j2 k x3 x4 x5 0 false))) else (spec_IsRing.l0 k x3 (wrap64 (x4 + 1)))
def spec_IsRing.j2 : Nat → List (S95) → Int → Int → Int → Bool → Option (Bool)
 | 0, _, _, _, _, _ => none
 | k + 1, x3, x4, x5, x6, x44 => if x44 = true then (if 0 ≤ x4 then (if x4 < (x3.length : Int) then (if 0 ≤ x5 then (if x5 < (x3.length : Int) then ((spec_HowMeet.f ((rd_T95 x3 x4).f0.f0) ((rd_T95 x3 x4).f0.f1) ((rd_T95 x3 x4).f1.f0) ((rd_T95 x3 x4).f1.f1) ((rd_T95 x3 x5).f0.f0) ((rd_T95 x3 x5).f0.f1) ((rd_T95 x3 x5).f1.f0) ((rd_T95 x3 x5).f1.f1)).bind fun t202 => (if t202 = 1 then (spec_IsRing.l1 k x3 x4 (wrap64 (x5 + 1))) else (some false))) else (none)) else (none)) else (none)) else (none)) else (if 0 ≤ x4 then (if x4 < (x3.length : Int) then (if 0 ≤ x5 then (if x5 < (x3.length : Int) then ((spec_HowMeet.f ((rd_T95 x3 x4).f0.f0) ((rd_T95 x3 x4).f0.f1) ((rd_T95 x3 x4).f1.f0) ((rd_T95 x3 x4).f1.f1) ((rd_T95 x3 x5).f0.f0) ((rd_T95 x3 x5).f0.f1) ((rd_T95 x3 x5).f1.f0) ((rd_T95 x3 x5).f1.f1)).bind fun t205 => (if t205 = x6 then (spec_IsRing.l1 k x3 x4 (wrap64 (x5 + 1))) else (some false))) else (none)) else (none)) else (none)) else (none))
end
def spec_IsRing.f (k : Nat) (l0 : List (S77)) : Option (Bool) := (spec_l1In.f (l0.length : Int) 3 10).bind fun t194 => (if t194 = true then ((spec_l7Segments.f k l0).bind fun t195 => (spec_IsRing.l0 k t195 0)) else (some false))
def spec_TwiceArea.l0 : Nat → List (S77) → Int → List (S95) → Int → Option (Int)
 | 0, _, _, _, _ => none
 | k + 1, x0, x3, x4, x5 => if x5 < (x4.length : Int) then ((spec_IsRing.f k x0).bind fun t209 => (if t209 = true then (if 0 ≤ x5 then (spec_TwiceArea.l0 k x0 (wrap64 ((wrap64 (x3 + (wrap64 (((rd_T95 x4 x5).f0.f0) * ((rd_T95 x4 x5).f1.f1))))) - (wrap64 (((rd_T95 x4 x5).f0.f1) * ((rd_T95 x4 x5).f1.f0))))) x4 (wrap64 (x5 + 1))) else (none)) else (some x3))) else (some x3)
def spec_TwiceArea.f (k : Nat) (l0 : List (S77)) : Option (Int) := (spec_l7Segments.f k l0).bind fun t206 => (spec_TwiceArea.l0 k l0 0 t206 0)
def spec_SameTurn.f (k : Nat) (l0 : List (S77)) (l1 : List (S77)) : Option (Bool) := (spec_TwiceArea.f k l0).bind fun t214 => ((spec_TwiceArea.f k l1).bind fun t215 => (if t214 > 0 then (if t215 > 0 then (some true) else (if t214 < 0 then (some (decide (t215 < 0))) else (some false))) else (if t214 < 0 then (some (decide (t215 < 0))) else (some false))))
def spec_DropCorner.j0 : Nat → List (S77) → Int → Bool → Option ((List (S77)) × Bool)
 | 0, _, _, _ => none
 | k + 1, x0, x1, x17 => if x17 = true then ((some (([] : List (S77)) : List (S77))).bind fun y246 => (if y246.length + x0.length < 8796093022208 then (some ((y246 ++ x0), false)) else (none))) else ((some (([] : List (S77)) : List (S77))).bind fun y252 => (if 0 ≤ x1 then (if x1 ≤ (x0.length : Int) then ((some (x0.take (x1 : Int).toNat : List (S77))).bind fun y255 => (if y252.length + y255.length < 8796093022208 then ((some (y252 ++ y255 : List (S77))).bind fun y259 => (if 0 ≤ (wrap64 (x1 + 1)) then (if (wrap64 (x1 + 1)) ≤ (x0.length : Int) then ((some (x0.drop ((wrap64 (x1 + 1)) : Int).toNat : List (S77))).bind fun y262 => (if y259.length + y262.length < 8796093022208 then ((some (y259 ++ y262 : List (S77))).bind fun y266 => ((spec_IsRing.f k y266).bind fun t269 => (if t269 = true then ((spec_SameTurn.f k x0 y266).bind fun t270 => (if t270 = true then (some (y266, true)) else ((some (([] : List (S77)) : List (S77))).bind fun y271 => (if y271.length + x0.length < 8796093022208 then (some ((y271 ++ x0), false)) else (none))))) else ((some (([] : List (S77)) : List (S77))).bind fun y277 => (if y277.length + x0.length < 8796093022208 then (some ((y277 ++ x0), false)) else (none)))))) else (none))) else (none)) else (none))) else (none))) else (none)) else (none)))
def spec_DropCorner.f (k : Nat) (l0 : List (S77)) (a1 : Int) : Option ((List (S77)) × Bool) := (spec_IsRing.f k l0).bind fun t244 => (if t244 = true then ((spec_l1In.f a1 0 (wrap64 ((l0.length : Int) - 1))).bind fun t245 => (spec_DropCorner.j0 k l0 a1 (!t245))) else (spec_DropCorner.j0 k l0 a1 true))
def spec_IsName.l0 : Nat → ByteArray → Int → Option (Bool)
 | 0, _, _ => none
 | k + 1, x0, x3 => if x3 < (x0.size : Int) then (if 0 ≤ x3 then (if (bt x0 x3) < 97 then (some false) else (if (bt x0 x3) > 122 then (some false) else (spec_IsName.l0 k x0 (wrap64 (x3 + 1))))) else (none)) else ((spec_l1In.f (x0.size : Int) 1 8).bind fun t216 => (some t216))
def spec_IsName.f (k : Nat) (a0 : ByteArray) : Option (Bool) := spec_IsName.l0 k a0 0
def spec_SegmentsOf.l0 : Nat → List (S77) → List (S95) → Int → Option ((List (S95)))
 | 0, _, _, _ => none
 | k + 1, x0, x3, x4 => if x4 < (x0.length : Int) then ((spec_IsLine.f k x0).bind fun t220 => (if t220 = true then (if 0 ≤ (wrap64 (x4 - 1)) then (if (wrap64 (x4 - 1)) < (x0.length : Int) then (if 0 ≤ x4 then (if x3.length < 4398046511104 then (spec_SegmentsOf.l0 k x0 (x3 ++ [(⟨(⟨(rd_T77 x0 (wrap64 (x4 - 1))).f0, (rd_T77 x0 (wrap64 (x4 - 1))).f1⟩ : S77), (⟨(rd_T77 x0 x4).f0, (rd_T77 x0 x4).f1⟩ : S77)⟩ : S95)]) (wrap64 (x4 + 1))) else (none)) else (none)) else (none)) else (none)) else (some x3))) else (some x3)
def spec_SegmentsOf.f (k : Nat) (l0 : List (S77)) : Option ((List (S95))) := spec_SegmentsOf.l0 k l0 (([] : List (S95))) 1
mutual
def spec_IsSimple.l0 : Nat → List (S77) → List (S95) → Int → Option (Bool)
 | 0, _, _, _ => none
 | k + 1, x0, x3, x4 => if x4 < (x3.length : Int) then (spec_IsSimple.l1 k x0 x3 x4 0) else ((spec_IsLine.f k x0).bind fun t229 => (some t229))
def spec_IsSimple.l1 : Nat → List (S77) → List (S95) → Int → Int → Option (Bool)
 | 0, _, _, _, _ => none
 | k + 1, x0, x3, x4, x5 => if x5 < x4 then (if (wrap64 (x5 + 1)) = x4 then (if 0 ≤ x4 then (if x4 < (x3.length : Int) then (if 0 ≤ x5 then (if x5 < (x3.length : Int) then ((spec_HowMeet.f ((rd_T95 x3 x4).f0.f0) ((rd_T95 x3 x4).f0.f1) ((rd_T95 x3 x4).f1.f0) ((rd_T95 x3 x4).f1.f1) ((rd_T95 x3 x5).f0.f0) ((rd_T95 x3 x5).f0.f1) ((rd_T95 x3 x5).f1.f0) ((rd_T95 x3 x5).f1.f1)).bind fun t232 => (if t232 = 1 then (spec_IsSimple.l1 k x0 x3 x4 (wrap64 (x5 + 1))) else (some false))) else (none)) else (none)) else (none)) else (none)) else (if 0 ≤ x4 then (if x4 < (x3.length : Int) then (if 0 ≤ x5 then (if x5 < (x3.length : Int) then ((spec_HowMeet.f ((rd_T95 x3 x4).f0.f0) ((rd_T95 x3 x4).f0.f1) ((rd_T95 x3 x4).f1.f0) ((rd_T95 x3 x4).f1.f1) ((rd_T95 x3 x5).f0.f0) ((rd_T95 x3 x5).f0.f1) ((rd_T95 x3 x5).f1.f0) ((rd_T95 x3 x5).f1.f1)).bind fun t235 => (if t235 = 0 then (spec_IsSimple.l1 k x0 x3 x4 (wrap64 (x5 + 1))) else (some false))) else (none)) else (none)) else (none)) else (none))) else (spec_IsSimple.l0 k x0 x3 (wrap64 (x4 + 1)))
end
def spec_IsSimple.f (k : Nat) (l0 : List (S77)) : Option (Bool) := (spec_SegmentsOf.f k l0).bind fun t226 => (spec_IsSimple.l0 k l0 t226 0)
def spec_IsFeature.j0 : Nat → Bool → Int → Int → Int → ByteArray → List (S77) → Option (Bool)
 | 0, _, _, _, _, _, _ => none
 | k + 1, x23, x237000, x237001, x237002, x237003, x237004 => if x23 = true then (some false) else (if x237001 = 1 then (if (x237004.length : Int) = 1 then (if 0 < (x237004.length : Int) then ((spec_IsPoint.f ((rd_T77 x237004 0).f0) ((rd_T77 x237004 0).f1)).bind fun t241 => (some t241)) else (none)) else (some false)) else (if x237001 = 2 then ((spec_IsSimple.f k x237004).bind fun t242 => (some t242)) else (if x237001 = 3 then ((spec_IsRing.f k x237004).bind fun t243 => (some t243)) else (some false))))
def spec_IsFeature.f (k : Nat) (a0_0 : Int) (a0_1 : Int) (a0_2 : Int) (a0_3 : ByteArray) (l0_4 : List (S77)) : Option (Bool) := (spec_l1In.f a0_0 1 99).bind fun t237 => (if t237 = true then ((spec_l1In.f a0_2 0 9).bind fun t238 => (if t238 = true then (if a0_3.toList = ([] : List UInt8) then (spec_IsFeature.j0 k false a0_0 a0_1 a0_2 a0_3 l0_4) else ((spec_IsName.f k a0_3).bind fun t239 => (spec_IsFeature.j0 k (!t239) a0_0 a0_1 a0_2 a0_3 l0_4))) else (spec_IsFeature.j0 k true a0_0 a0_1 a0_2 a0_3 l0_4))) else (spec_IsFeature.j0 k true a0_0 a0_1 a0_2 a0_3 l0_4))
def spec_DropFrom.j0 : Nat → Bool → Int → Int → Int → ByteArray → List (S77) → Int → Int → Int → ByteArray → List (S77) → Option (Int × Int × Int × ByteArray × (List (S77)) × Bool)
 | 0, _, _, _, _, _, _, _, _, _, _, _ => none
 | k + 1, x7, x245000, x245001, x245002, x245003, x245004, x254000, x254001, x254002, x254003, x254004 => if x7 = true then ((spec_IsFeature.f k x254000 x254001 x254002 x254003 x254004).bind fun t262 => (if t262 = true then (some (x254000, x254001, x254002, x254003, x254004, true)) else ((spec_l9Feature.f x245000 x245001 x245002 x245003 x245004).bind fun bt263 => (some (bt263.1, bt263.2.1, bt263.2.2.1, bt263.2.2.2.1, bt263.2.2.2.2, false))))) else ((spec_l9Feature.f x245000 x245001 x245002 x245003 x245004).bind fun bt270 => (some (bt270.1, bt270.2.1, bt270.2.2.1, bt270.2.2.2.1, bt270.2.2.2.2, false)))
def spec_DropFrom.f (k : Nat) (a0_0 : Int) (a0_1 : Int) (a0_2 : Int) (a0_3 : ByteArray) (l0_4 : List (S77)) (a1 : Int) : Option (Int × Int × Int × ByteArray × (List (S77)) × Bool) := (spec_l9Feature.f a0_0 a0_1 a0_2 a0_3 l0_4).bind fun bt246 => (if a0_1 = 2 then ((spec_DropPoint.f k l0_4 a1).bind fun bt254 => (spec_DropFrom.j0 k bt254.2 a0_0 a0_1 a0_2 a0_3 l0_4 bt246.1 bt246.2.1 bt246.2.2.1 bt246.2.2.2.1 bt254.1)) else (if a0_1 = 3 then ((spec_DropCorner.f k l0_4 a1).bind fun bt258 => (spec_DropFrom.j0 k bt258.2 a0_0 a0_1 a0_2 a0_3 l0_4 bt246.1 bt246.2.1 bt246.2.2.1 bt246.2.2.2.1 bt258.1)) else (spec_DropFrom.j0 k false a0_0 a0_1 a0_2 a0_3 l0_4 bt246.1 bt246.2.1 bt246.2.2.1 bt246.2.2.2.1 bt246.2.2.2.2)))
def spec_RingSegments.f (k : Nat) (l0 : List (S77)) : Option ((List (S95))) := (spec_IsRing.f k l0).bind fun t277 => (if t277 = true then ((spec_l7Segments.f k l0).bind fun t278 => (some t278)) else (some (([] : List (S95)))))
def spec_PartsOf.f (k : Nat) (a0_0 : Int) (a0_1 : Int) (a0_2 : Int) (a0_3 : ByteArray) (l0_4 : List (S77)) : Option ((List (S95))) := (spec_IsFeature.f k a0_0 a0_1 a0_2 a0_3 l0_4).bind fun t285 => (if t285 = true then (if a0_1 = 2 then ((spec_SegmentsOf.f k l0_4).bind fun t289 => (some t289)) else (if a0_1 = 3 then ((spec_RingSegments.f k l0_4).bind fun t292 => (some t292)) else (some (([] : List (S95)))))) else (some (([] : List (S95)))))
mutual
def spec_FeaturesMeet.l0 : Nat → Int → List (S95) → List (S95) → Int → Option (Int)
 | 0, _, _, _, _ => none
 | k + 1, x5, x6, x7, x8 => if x8 < (x6.length : Int) then (spec_FeaturesMeet.l1 k x5 x6 x7 x8 0) else (some x5)
def spec_FeaturesMeet.l1 : Nat → Int → List (S95) → List (S95) → Int → Int → Option (Int)
 | 0, _, _, _, _, _ => none
 | k + 1, x5, x6, x7, x8, x9 => if x9 < (x7.length : Int) then (if 0 ≤ x8 then (if x8 < (x6.length : Int) then (if 0 ≤ x9 then ((spec_HowMeet.f ((rd_T95 x6 x8).f0.f0) ((rd_T95 x6 x8).f0.f1) ((rd_T95 x6 x8).f1.f0) ((rd_T95 x6 x8).f1.f1) ((rd_T95 x7 x9).f0.f0) ((rd_T95 x7 x9).f0.f1) ((rd_T95 x7 x9).f1.f0) ((rd_T95 x7 x9).f1.f1)).bind fun t308 => ((spec_Max.f x5 t308).bind fun t309 => (spec_FeaturesMeet.l1 k t309 x6 x7 x8 (wrap64 (x9 + 1))))) else (none)) else (none)) else (none)) else (spec_FeaturesMeet.l0 k x5 x6 x7 (wrap64 (x8 + 1)))
end
def spec_FeaturesMeet.f (k : Nat) (a0_0 : Int) (a0_1 : Int) (a0_2 : Int) (a0_3 : ByteArray) (l0_4 : List (S77)) (a1_0 : Int) (a1_1 : Int) (a1_2 : Int) (a1_3 : ByteArray) (l1_4 : List (S77)) : Option (Int) := (spec_PartsOf.f k a0_0 a0_1 a0_2 a0_3 l0_4).bind fun t300 => ((spec_PartsOf.f k a1_0 a1_1 a1_2 a1_3 l1_4).bind fun t303 => (spec_FeaturesMeet.l0 k 0 t300 t303 0))
mutual
def spec_CanShrink.l0 : Nat → List (S28) → Bool → Int → Int → Int → Int → ByteArray → List (S77) → Int → Int → Int → ByteArray → List (S77) → Option (Bool)
 | 0, _, _, _, _, _, _, _, _, _, _, _, _, _ => none
 | k + 1, x2, x8, x9, x311000, x311001, x311002, x311003, x311004, x320000, x320001, x320002, x320003, x320004 => if x9 < (x2.length : Int) then (spec_CanShrink.j1 k x2 x8 x9 x8 x311000 x311001 x311002 x311003 x311004 x320000 x320001 x320002 x320003 x320004) else (spec_CanShrink.j1 k x2 x8 x9 false x311000 x311001 x311002 x311003 x311004 x320000 x320001 x320002 x320003 x320004)
def spec_CanShrink.j1 : Nat → List (S28) → Bool → Int → Bool → Int → Int → Int → ByteArray → List (S77) → Int → Int → Int → ByteArray → List (S77) → Option (Bool)
 | 0, _, _, _, _, _, _, _, _, _, _, _, _, _, _ => none
 | k + 1, x2, x8, x9, x22, x311000, x311001, x311002, x311003, x311004, x320000, x320001, x320002, x320003, x320004 => if x22 = true then (if 0 ≤ x9 then (if x9 < (x2.length : Int) then ((spec_FeaturesMeet.f k x320000 x320001 x320002 x320003 x320004 ((rd_T28 x2 x9).f0) ((rd_T28 x2 x9).f1) ((rd_T28 x2 x9).f2) ((rd_T28 x2 x9).f3) ((rd_T28 x2 x9).f4)).bind fun t321 => ((spec_FeaturesMeet.f k x311000 x311001 x311002 x311003 x311004 ((rd_T28 x2 x9).f0) ((rd_T28 x2 x9).f1) ((rd_T28 x2 x9).f2) ((rd_T28 x2 x9).f3) ((rd_T28 x2 x9).f4)).bind fun t323 => (spec_CanShrink.l0 k x2 (decide (t321 ≤ t323)) (wrap64 (x9 + 1)) x311000 x311001 x311002 x311003 x311004 x320000 x320001 x320002 x320003 x320004))) else (none)) else (none)) else (some x8)
end
def spec_CanShrink.f (k : Nat) (a0_0 : Int) (a0_1 : Int) (a0_2 : Int) (a0_3 : ByteArray) (l0_4 : List (S77)) (a1 : Int) (l2 : List (S28)) : Option (Bool) := (spec_DropFrom.f k a0_0 a0_1 a0_2 a0_3 l0_4 a1).bind fun bt311 => (spec_CanShrink.l0 k l2 bt311.2.2.2.2.2 0 a0_0 a0_1 a0_2 a0_3 l0_4 bt311.1 bt311.2.1 bt311.2.2.1 bt311.2.2.2.1 bt311.2.2.2.2.1)
def spec_CornerArea.j0 : Nat → List (S77) → Int → Bool → Option (Int)
 | 0, _, _, _ => none
 | k + 1, x0, x1, x16 => if x16 = true then (some (-1)) else (if 0 ≤ (wrap64 (x1 - 1)) then (if (wrap64 (x1 - 1)) < (x0.length : Int) then (if 0 ≤ x1 then (if x1 < (x0.length : Int) then (if 0 ≤ (wrap64 (x1 + 1)) then (if (wrap64 (x1 + 1)) < (x0.length : Int) then ((spec_l4Cross.f ((rd_T77 x0 (wrap64 (x1 - 1))).f0) ((rd_T77 x0 (wrap64 (x1 - 1))).f1) ((rd_T77 x0 x1).f0) ((rd_T77 x0 x1).f1) ((rd_T77 x0 (wrap64 (x1 + 1))).f0) ((rd_T77 x0 (wrap64 (x1 + 1))).f1)).bind fun t329 => ((spec_Max.f t329 (wrap64 (-t329))).bind fun t330 => (some t330))) else (none)) else (none)) else (none)) else (none)) else (none)) else (none))
def spec_CornerArea.f (k : Nat) (l0 : List (S77)) (a1 : Int) : Option (Int) := (spec_IsLine.f k l0).bind fun t324 => (if t324 = true then ((spec_l1In.f a1 1 (wrap64 ((l0.length : Int) - 2))).bind fun t325 => (spec_CornerArea.j0 k l0 a1 (!t325))) else (spec_CornerArea.j0 k l0 a1 true))
def spec_CornerSize.j0 : Nat → List (S77) → Int → Bool → Option (Int)
 | 0, _, _, _ => none
 | k + 1, x0, x1, x16 => if x16 = true then (some (-1)) else (if (x0.length : Int) = 0 then (none) else (if 0 ≤ (Int.tmod (wrap64 ((wrap64 (x1 + (x0.length : Int))) - 1)) (x0.length : Int)) then (if (Int.tmod (wrap64 ((wrap64 (x1 + (x0.length : Int))) - 1)) (x0.length : Int)) < (x0.length : Int) then (if 0 ≤ x1 then (if x1 < (x0.length : Int) then (if 0 ≤ (Int.tmod (wrap64 (x1 + 1)) (x0.length : Int)) then (if (Int.tmod (wrap64 (x1 + 1)) (x0.length : Int)) < (x0.length : Int) then ((spec_l4Cross.f ((rd_T77 x0 (Int.tmod (wrap64 ((wrap64 (x1 + (x0.length : Int))) - 1)) (x0.length : Int))).f0) ((rd_T77 x0 (Int.tmod (wrap64 ((wrap64 (x1 + (x0.length : Int))) - 1)) (x0.length : Int))).f1) ((rd_T77 x0 x1).f0) ((rd_T77 x0 x1).f1) ((rd_T77 x0 (Int.tmod (wrap64 (x1 + 1)) (x0.length : Int))).f0) ((rd_T77 x0 (Int.tmod (wrap64 (x1 + 1)) (x0.length : Int))).f1)).bind fun t336 => ((spec_Max.f t336 (wrap64 (-t336))).bind fun t337 => (some t337))) else (none)) else (none)) else (none)) else (none)) else (none)) else (none)))
def spec_CornerSize.f (k : Nat) (l0 : List (S77)) (a1 : Int) : Option (Int) := (spec_IsRing.f k l0).bind fun t331 => (if t331 = true then ((spec_l1In.f a1 0 (wrap64 ((l0.length : Int) - 1))).bind fun t332 => (spec_CornerSize.j0 k l0 a1 (!t332))) else (spec_CornerSize.j0 k l0 a1 true))
def spec_SizeAt.f (k : Nat) (a0_0 : Int) (a0_1 : Int) (a0_2 : Int) (a0_3 : ByteArray) (l0_4 : List (S77)) (a1 : Int) : Option (Int) := if a0_1 = 2 then ((spec_CornerArea.f k l0_4 a1).bind fun t339 => (some t339)) else (if a0_1 = 3 then ((spec_CornerSize.f k l0_4 a1).bind fun t340 => (some t340)) else (some (-1)))
mutual
def spec_ShrinkFeature.l0 : Nat → List (S28) → Int → Int → Int → Int → ByteArray → List (S77) → Int → Int → Int → ByteArray → List (S77) → Option (Int × Int × Int × ByteArray × (List (S77)))
 | 0, _, _, _, _, _, _, _, _, _, _, _, _ => none
 | k + 1, x1, x2, x342000, x342001, x342002, x342003, x342004, x351000, x351001, x351002, x351003, x351004 => (spec_IsFeature.f k x342000 x342001 x342002 x342003 x342004).bind fun t351 => (if t351 = true then (spec_ShrinkFeature.l1 k x1 x2 (-1) 0 x342000 x342001 x342002 x342003 x342004 x351000 x351001 x351002 x351003 x351004) else (some (x351000, x351001, x351002, x351003, x351004)))
def spec_ShrinkFeature.l1 : Nat → List (S28) → Int → Int → Int → Int → Int → Int → ByteArray → List (S77) → Int → Int → Int → ByteArray → List (S77) → Option (Int × Int × Int × ByteArray × (List (S77)))
 | 0, _, _, _, _, _, _, _, _, _, _, _, _, _, _ => none
 | k + 1, x1, x2, x8, x9, x342000, x342001, x342002, x342003, x342004, x351000, x351001, x351002, x351003, x351004 => if x9 < (x351004.length : Int) then ((spec_SizeAt.f k x351000 x351001 x351002 x351003 x351004 x9).bind fun t360 => (if t360 ≥ 0 then (if t360 < x2 then (if x8 < 0 then ((spec_CanShrink.f k x351000 x351001 x351002 x351003 x351004 x9 x1).bind fun t361 => (if t361 = true then (spec_ShrinkFeature.l1 k x1 x2 x9 (wrap64 (x9 + 1)) x342000 x342001 x342002 x342003 x342004 x351000 x351001 x351002 x351003 x351004) else (spec_ShrinkFeature.l1 k x1 x2 x8 (wrap64 (x9 + 1)) x342000 x342001 x342002 x342003 x342004 x351000 x351001 x351002 x351003 x351004))) else ((spec_SizeAt.f k x351000 x351001 x351002 x351003 x351004 x8).bind fun t362 => (if t360 < t362 then ((spec_CanShrink.f k x351000 x351001 x351002 x351003 x351004 x9 x1).bind fun t363 => (if t363 = true then (spec_ShrinkFeature.l1 k x1 x2 x9 (wrap64 (x9 + 1)) x342000 x342001 x342002 x342003 x342004 x351000 x351001 x351002 x351003 x351004) else (spec_ShrinkFeature.l1 k x1 x2 x8 (wrap64 (x9 + 1)) x342000 x342001 x342002 x342003 x342004 x351000 x351001 x351002 x351003 x351004))) else (spec_ShrinkFeature.l1 k x1 x2 x8 (wrap64 (x9 + 1)) x342000 x342001 x342002 x342003 x342004 x351000 x351001 x351002 x351003 x351004)))) else (spec_ShrinkFeature.l1 k x1 x2 x8 (wrap64 (x9 + 1)) x342000 x342001 x342002 x342003 x342004 x351000 x351001 x351002 x351003 x351004)) else (spec_ShrinkFeature.l1 k x1 x2 x8 (wrap64 (x9 + 1)) x342000 x342001 x342002 x342003 x342004 x351000 x351001 x351002 x351003 x351004))) else (if x8 < 0 then (some (x351000, x351001, x351002, x351003, x351004)) else ((spec_DropFrom.f k x351000 x351001 x351002 x351003 x351004 x8).bind fun bt352 => (spec_ShrinkFeature.l0 k x1 x2 x342000 x342001 x342002 x342003 x342004 bt352.1 bt352.2.1 bt352.2.2.1 bt352.2.2.2.1 bt352.2.2.2.2.1)))
end
def spec_ShrinkFeature.f (k : Nat) (a0_0 : Int) (a0_1 : Int) (a0_2 : Int) (a0_3 : ByteArray) (l0_4 : List (S77)) (l1 : List (S28)) (a2 : Int) : Option (Int × Int × Int × ByteArray × (List (S77))) := (spec_l9Feature.f a0_0 a0_1 a0_2 a0_3 l0_4).bind fun bt343 => (spec_ShrinkFeature.l0 k l1 a2 a0_0 a0_1 a0_2 a0_3 l0_4 bt343.1 bt343.2.1 bt343.2.2.1 bt343.2.2.2.1 bt343.2.2.2.2)
def impl_Point.f (l0 : List S77) : Option (List S77) := if l0.length < 8796093022208 then some l0 else none
def impl_cloneFeature.f (a0_0 : Int) (a0_1 : Int) (a0_2 : Int) (a0_3 : ByteArray) (l0_4 : List (S77)) : Option (Int × Int × Int × ByteArray × (List (S77))) := (impl_Point.f l0_4).bind fun t366 => (some (a0_0, a0_1, a0_2, a0_3, t366))
def impl_InRange.f (a0 : Int) (a1 : Int) (a2 : Int) : Option (Bool) := some (inR a0 a1 a2)
def impl_IsPoint.f (a0_0 : Int) (a0_1 : Int) : Option (Bool) := some (isPt a0_0 a0_1)
attribute [local go_sem high] eqA77
mutual
def impl_IsLine.j0 : Nat → List (S77) → Bool → Option (Bool)
 | 0, _, _ => none
 | k + 1, x0, x12 => if x12 = true then (some false) else (impl_IsLine.l0 k x0 x0 (x0.length : Int) 0)
def impl_IsLine.l0 : Nat → List (S77) → List (S77) → Int → Int → Option (Bool)
 | 0, _, _, _, _ => none
 | k + 1, x0, x13, x14, x15 => if x15 < x14 then (if 0 ≤ x15 then (if x15 < (x13.length : Int) then ((impl_IsPoint.f ((rd_T77 x13 x15).f0) ((rd_T77 x13 x15).f1)).bind fun t371 => (if t371 = true then (if x15 > 0 then (if 0 ≤ (wrap64 (x15 - 1)) then (if (wrap64 (x15 - 1)) < (x0.length : Int) then (if (((rd_T77 x13 x15).f0) == ((rd_T77 x0 (wrap64 (x15 - 1))).f0) && (((rd_T77 x13 x15).f1) == ((rd_T77 x0 (wrap64 (x15 - 1))).f1))) = true then (some false) else (impl_IsLine.l0 k x0 x13 x14 (wrap64 (x15 + 1)))) else (none)) else (none)) else (impl_IsLine.l0 k x0 x13 x14 (wrap64 (x15 + 1)))) else (some false))) else (none)) else (none)) else (some true)
end
def impl_IsLine.f (k : Nat) (l0 : List (S77)) : Option (Bool) := if (l0.length : Int) < 2 then (impl_IsLine.j0 k l0 true) else (impl_IsLine.j0 k l0 (decide ((l0.length : Int) > 10)))
def impl_without.f (l0 : List S77) (a1 : Int) : Option (List S77) := if 0 ≤ a1 then if a1 < (l0.length : Int) then if l0.length < 8796093022208 then some (l0.take a1.toNat ++ l0.drop (a1.toNat + 1)) else none else none else none
def impl_DropPoint.j0 : Nat → List (S77) → Int → Bool → Option ((List (S77)) × Bool)
 | 0, _, _, _ => none
 | k + 1, x0, x1, x17 => if x17 = true then ((impl_Point.f x0).bind fun t375 => (some (t375, false))) else ((impl_without.f x0 x1).bind fun t378 => ((impl_IsLine.f k t378).bind fun t381 => (if t381 = true then (some (t378, true)) else ((impl_Point.f x0).bind fun t382 => (some (t382, false))))))
def impl_DropPoint.f (k : Nat) (l0 : List (S77)) (a1 : Int) : Option ((List (S77)) × Bool) := (impl_IsLine.f k l0).bind fun t373 => (if t373 = true then ((impl_InRange.f a1 1 (wrap64 ((l0.length : Int) - 2))).bind fun t374 => (impl_DropPoint.j0 k l0 a1 (!t374))) else (impl_DropPoint.j0 k l0 a1 true))
def impl_around.l0 : Nat → List (S77) → List (S95) → List (S77) → Int → Int → Option ((List (S95)))
 | 0, _, _, _, _, _ => none
 | k + 1, x0, x3, x7, x8, x9 => if x9 < x8 then (if 0 ≤ x9 then (if x9 < (x7.length : Int) then (if (x0.length : Int) = 0 then (none) else (if 0 ≤ (Int.tmod (wrap64 (x9 + 1)) (x0.length : Int)) then (if (Int.tmod (wrap64 (x9 + 1)) (x0.length : Int)) < (x0.length : Int) then (if x3.length < 4398046511104 then (impl_around.l0 k x0 (x3 ++ [(⟨(⟨(rd_T77 x7 x9).f0, (rd_T77 x7 x9).f1⟩ : S77), (⟨(rd_T77 x0 (Int.tmod (wrap64 (x9 + 1)) (x0.length : Int))).f0, (rd_T77 x0 (Int.tmod (wrap64 (x9 + 1)) (x0.length : Int))).f1⟩ : S77)⟩ : S95)]) x7 x8 (wrap64 (x9 + 1))) else (none)) else (none)) else (none))) else (none)) else (none)) else (some x3)
def impl_around.f (k : Nat) (l0 : List (S77)) : Option ((List (S95))) := impl_around.l0 k l0 (([] : List (S95))) l0 (l0.length : Int) 0
def impl_IsSegment.f (a0_0 : Int) (a0_1 : Int) (a0_2 : Int) (a0_3 : Int) : Option (Bool) := some (isSeg a0_0 a0_1 a0_2 a0_3)
def cmp_isNaN_int.f (a0 : Int) : Option (Bool) := some (false)
def cmp_Compare_int.f (a0 : Int) (a1 : Int) : Option (Int) := some (cmpI a0 a1)
def impl_cross.f (a0_0 : Int) (a0_1 : Int) (a1_0 : Int) (a1_1 : Int) (a2_0 : Int) (a2_1 : Int) : Option (Int) := some (crossI a0_0 a0_1 a1_0 a1_1 a2_0 a2_1)
def impl_SideOf.f (a0_0 : Int) (a0_1 : Int) (a1_0 : Int) (a1_1 : Int) (a2_0 : Int) (a2_1 : Int) : Option (Int) := some (sideI a0_0 a0_1 a1_0 a1_1 a2_0 a2_1)
def impl_BeforePoint.f (a0_0 : Int) (a0_1 : Int) (a1_0 : Int) (a1_1 : Int) : Option (Bool) := some (beforeI a0_0 a0_1 a1_0 a1_1)
def impl_TurnSegment.f (a0_0 : Int) (a0_1 : Int) (a0_2 : Int) (a0_3 : Int) : Option (Int × Int × Int × Int) := some (a0_2, a0_3, a0_0, a0_1)
def impl_forward.f (a0_0 : Int) (a0_1 : Int) (a0_2 : Int) (a0_3 : Int) : Option (Int × Int × Int × Int) := (impl_BeforePoint.f a0_2 a0_3 a0_0 a0_1).bind fun t398 => (if t398 = true then ((impl_TurnSegment.f a0_0 a0_1 a0_2 a0_3).bind fun bt399 => (some (bt399.1, bt399.2.1, bt399.2.2.1, bt399.2.2.2))) else (some (a0_0, a0_1, a0_2, a0_3)))
def impl_IsOn.f (a0_0 : Int) (a0_1 : Int) (a0_2 : Int) (a0_3 : Int) (a1_0 : Int) (a1_1 : Int) : Option (Bool) := some (isOnI a0_0 a0_1 a0_2 a0_3 a1_0 a1_1)
attribute [local go_sem high] eqA77
mutual
def impl_HowMeet.j0 : Nat → Bool → Int → Int → Int → Int → Int → Int → Int → Int → Option (Int)
 | 0, _, _, _, _, _, _, _, _, _ => none
 | k + 1, x16, x404000, x404001, x404002, x404003, x405000, x405001, x405002, x405003 => if x16 = true then (some 0) else ((impl_SideOf.f x404000 x404001 x404002 x404003 x405000 x405001).bind fun t407 => ((impl_SideOf.f x404000 x404001 x404002 x404003 x405002 x405003).bind fun t408 => (if t407 = 0 then (impl_HowMeet.j1 k t407 t408 (t408 == 0) x404000 x404001 x404002 x404003 x405000 x405001 x405002 x405003) else (impl_HowMeet.j1 k t407 t408 false x404000 x404001 x404002 x404003 x405000 x405001 x405002 x405003))))
def impl_HowMeet.j1 : Nat → Int → Int → Bool → Int → Int → Int → Int → Int → Int → Int → Int → Option (Int)
 | 0, _, _, _, _, _, _, _, _, _, _, _ => none
 | k + 1, x5, x6, x36, x404000, x404001, x404002, x404003, x405000, x405001, x405002, x405003 => if x36 = true then ((impl_forward.f x404000 x404001 x404002 x404003).bind fun bt409 => ((impl_forward.f x405000 x405001 x405002 x405003).bind fun bt413 => ((impl_BeforePoint.f bt409.1 bt409.2.1 bt413.1 bt413.2.1).bind fun t419 => (if t419 = true then (impl_HowMeet.j2 k bt413.1 bt413.2.1 bt413.2.2.1 bt413.2.2.2 bt413.1 bt413.2.1 bt409.2.2.1 bt409.2.2.2) else (impl_HowMeet.j2 k bt413.1 bt413.2.1 bt413.2.2.1 bt413.2.2.2 bt409.1 bt409.2.1 bt409.2.2.1 bt409.2.2.2))))) else (if (wrap64 (x5 * x6)) < 0 then ((impl_SideOf.f x405000 x405001 x405002 x405003 x404000 x404001).bind fun t422 => ((impl_SideOf.f x405000 x405001 x405002 x405003 x404002 x404003).bind fun t423 => (impl_HowMeet.j4 k (decide ((wrap64 (t422 * t423)) < 0)) x404000 x404001 x404002 x404003 x405000 x405001 x405002 x405003))) else (impl_HowMeet.j4 k false x404000 x404001 x404002 x404003 x405000 x405001 x405002 x405003))
def impl_HowMeet.j2 : Nat → Int → Int → Int → Int → Int → Int → Int → Int → Option (Int)
 | 0, _, _, _, _, _, _, _, _ => none
 | k + 1, x405000, x405001, x405002, x405003, x418000, x418001, x419000, x419001 => (impl_BeforePoint.f x405002 x405003 x419000 x419001).bind fun t420 => (if t420 = true then (impl_HowMeet.j3 k x418000 x418001 x405002 x405003) else (impl_HowMeet.j3 k x418000 x418001 x419000 x419001))
def impl_HowMeet.j3 : Nat → Int → Int → Int → Int → Option (Int)
 | 0, _, _, _, _ => none
 | k + 1, x418000, x418001, x419000, x419001 => (impl_BeforePoint.f x419000 x419001 x418000 x418001).bind fun t421 => (if t421 = true then (some 0) else (if (x418000 == x419000 && (x418001 == x419001)) = true then (some 1) else (some 3)))
def impl_HowMeet.j4 : Nat → Bool → Int → Int → Int → Int → Int → Int → Int → Int → Option (Int)
 | 0, _, _, _, _, _, _, _, _, _ => none
 | k + 1, x86, x404000, x404001, x404002, x404003, x405000, x405001, x405002, x405003 => if x86 = true then (some 2) else ((impl_IsOn.f x404000 x404001 x404002 x404003 x405000 x405001).bind fun t424 => (if t424 = true then (some 1) else ((impl_IsOn.f x404000 x404001 x404002 x404003 x405002 x405003).bind fun t425 => (if t425 = true then (some 1) else ((impl_IsOn.f x405000 x405001 x405002 x405003 x404000 x404001).bind fun t426 => (if t426 = true then (some 1) else ((impl_IsOn.f x405000 x405001 x405002 x405003 x404002 x404003).bind fun t427 => (if t427 = true then (some 1) else (some 0)))))))))
end
def impl_HowMeet.f (k : Nat) (a0_0 : Int) (a0_1 : Int) (a0_2 : Int) (a0_3 : Int) (a1_0 : Int) (a1_1 : Int) (a1_2 : Int) (a1_3 : Int) : Option (Int) := (impl_IsSegment.f a0_0 a0_1 a0_2 a0_3).bind fun t405 => (if t405 = true then ((impl_IsSegment.f a1_0 a1_1 a1_2 a1_3).bind fun t406 => (impl_HowMeet.j0 k (!t406) a0_0 a0_1 a0_2 a0_3 a1_0 a1_1 a1_2 a1_3)) else (impl_HowMeet.j0 k true a0_0 a0_1 a0_2 a0_3 a1_0 a1_1 a1_2 a1_3))
mutual
def impl_IsRing.j0 : Nat → List (S77) → Bool → Option (Bool)
 | 0, _, _ => none
 | k + 1, x0, x14 => if x14 = true then (some false) else ((impl_around.f k x0).bind fun t428 => (impl_IsRing.l0 k t428 (t428.length : Int) 0))
def impl_IsRing.l0 : Nat → List (S95) → Int → Int → Option (Bool)
 | 0, _, _, _ => none
 | k + 1, x3, x18, x19 => if x19 < x18 then (if 0 ≤ x19 then (if x19 < (x3.length : Int) then ((impl_IsSegment.f ((rd_T95 x3 x19).f0.f0) ((rd_T95 x3 x19).f0.f1) ((rd_T95 x3 x19).f1.f0) ((rd_T95 x3 x19).f1.f1)).bind fun t432 => (if t432 = true then (impl_IsRing.l1 k x3 x19 x18 x19 x19 0) else (some false))) else (none)) else (none)) else (some true)
def impl_IsRing.l1 : Nat → List (S95) → Int → Int → Int → Int → Int → Option (Bool)
 | 0, _, _, _, _, _, _ => none
 | k + 1, x3, x4, x18, x19, x28, x29 => if x29 < x28 then (if x29 = (wrap64 (x4 - 1)) then (impl_IsRing.j3 k x3 x4 x29 0 x18 x19 x28 x29 true) else (if x29 = 0 then (impl_IsRing.j3 k x3 x4 x29 0 x18 x19 x28 x29 (x4 == (wrap64 ((x3.length : Int) - 1)))) else (impl_IsRing.j3 k x3 x4 x29 0 x18 x19 x28 x29 false))) else (impl_IsRing.l0 k x3 x18 (wrap64 (x19 + 1)))
def impl_IsRing.j3 : Nat → List (S95) → Int → Int → Int → Int → Int → Int → Int → Bool → Option (Bool)
 | 0, _, _, _, _, _, _, _, _, _ => none
 | k + 1, x3, x4, x5, x6, x18, x19, x28, x29, x46 => if x46 = true then (if 0 ≤ x4 then (if x4 < (x3.length : Int) then (if 0 ≤ x5 then (if x5 < (x3.length : Int) then ((impl_HowMeet.f k ((rd_T95 x3 x4).f0.f0) ((rd_T95 x3 x4).f0.f1) ((rd_T95 x3 x4).f1.f0) ((rd_T95 x3 x4).f1.f1) ((rd_T95 x3 x5).f0.f0) ((rd_T95 x3 x5).f0.f1) ((rd_T95 x3 x5).f1.f0) ((rd_T95 x3 x5).f1.f1)).bind fun t435 => (if t435 = 1 then (impl_IsRing.l1 k x3 x4 x18 x19 x28 (wrap64 (x29 + 1))) else (some false))) else (none)) else (none)) else (none)) else (none)) else (if 0 ≤ x4 then (if x4 < (x3.length : Int) then (if 0 ≤ x5 then (if x5 < (x3.length : Int) then ((impl_HowMeet.f k ((rd_T95 x3 x4).f0.f0) ((rd_T95 x3 x4).f0.f1) ((rd_T95 x3 x4).f1.f0) ((rd_T95 x3 x4).f1.f1) ((rd_T95 x3 x5).f0.f0) ((rd_T95 x3 x5).f0.f1) ((rd_T95 x3 x5).f1.f0) ((rd_T95 x3 x5).f1.f1)).bind fun t438 => (if t438 = x6 then (impl_IsRing.l1 k x3 x4 x18 x19 x28 (wrap64 (x29 + 1))) else (some false))) else (none)) else (none)) else (none)) else (none))
end
def impl_IsRing.f (k : Nat) (l0 : List (S77)) : Option (Bool) := if (l0.length : Int) < 3 then (impl_IsRing.j0 k l0 true) else (impl_IsRing.j0 k l0 (decide ((l0.length : Int) > 10)))
def impl_RingSegments.f (k : Nat) (l0 : List (S77)) : Option ((List (S95))) := (impl_IsRing.f k l0).bind fun t439 => (if t439 = true then ((impl_around.f k l0).bind fun t440 => (some t440)) else (some (([] : List (S95)))))
def impl_TwiceArea.l0 : Nat → Int → List (S95) → Int → Int → Option (Int)
 | 0, _, _, _, _ => none
 | k + 1, x3, x7, x8, x9 => if x9 < x8 then (if 0 ≤ x9 then (if x9 < (x7.length : Int) then (impl_TwiceArea.l0 k (wrap64 (x3 + (wrap64 ((wrap64 (((rd_T95 x7 x9).f0.f0) * ((rd_T95 x7 x9).f1.f1))) - (wrap64 (((rd_T95 x7 x9).f0.f1) * ((rd_T95 x7 x9).f1.f0))))))) x7 x8 (wrap64 (x9 + 1))) else (none)) else (none)) else (some x3)
def impl_TwiceArea.f (k : Nat) (l0 : List (S77)) : Option (Int) := (impl_RingSegments.f k l0).bind fun t446 => (impl_TwiceArea.l0 k 0 t446 (t446.length : Int) 0)
def impl_DropCorner.j0 : Nat → List (S77) → Int → Bool → Option ((List (S77)) × Bool)
 | 0, _, _, _ => none
 | k + 1, x0, x1, x17 => if x17 = true then ((impl_Point.f x0).bind fun t453 => (some (t453, false))) else ((impl_without.f x0 x1).bind fun t456 => ((impl_IsRing.f k t456).bind fun t459 => (if t459 = true then ((impl_TwiceArea.f k t456).bind fun t460 => ((cmp_Compare_int.f t460 0).bind fun t461 => ((impl_TwiceArea.f k x0).bind fun t462 => ((cmp_Compare_int.f t462 0).bind fun t463 => (if t461 = t463 then (some (t456, true)) else ((impl_Point.f x0).bind fun t464 => (some (t464, false)))))))) else ((impl_Point.f x0).bind fun t467 => (some (t467, false))))))
def impl_DropCorner.f (k : Nat) (l0 : List (S77)) (a1 : Int) : Option ((List (S77)) × Bool) := (impl_IsRing.f k l0).bind fun t451 => (if t451 = true then ((impl_InRange.f a1 0 (wrap64 ((l0.length : Int) - 1))).bind fun t452 => (impl_DropCorner.j0 k l0 a1 (!t452))) else (impl_DropCorner.j0 k l0 a1 true))
def impl_IsName.l0 : Nat → ByteArray → Int → Int → Option (Bool)
 | 0, _, _, _ => none
 | k + 1, x0, x5, x6 => if x6 < x5 then (if 0 ≤ x6 then (if x6 < (x0.size : Int) then (if (bt x0 x6) < 97 then (some false) else (if (bt x0 x6) > 122 then (some false) else (impl_IsName.l0 k x0 x5 (wrap64 (x6 + 1))))) else (none)) else (none)) else ((impl_InRange.f (x0.size : Int) 1 8).bind fun t470 => (some t470))
def impl_IsName.f (k : Nat) (a0 : ByteArray) : Option (Bool) := impl_IsName.l0 k a0 (a0.size : Int) 0
def impl_SegmentsOf.l0 : Nat → List (S77) → List (S95) → Int → Option ((List (S95)))
 | 0, _, _, _ => none
 | k + 1, x0, x3, x4 => if x4 < (x0.length : Int) then (if 0 ≤ (wrap64 (x4 - 1)) then (if (wrap64 (x4 - 1)) < (x0.length : Int) then (if 0 ≤ x4 then (if x3.length < 4398046511104 then (impl_SegmentsOf.l0 k x0 (x3 ++ [(⟨(⟨(rd_T77 x0 (wrap64 (x4 - 1))).f0, (rd_T77 x0 (wrap64 (x4 - 1))).f1⟩ : S77), (⟨(rd_T77 x0 x4).f0, (rd_T77 x0 x4).f1⟩ : S77)⟩ : S95)]) (wrap64 (x4 + 1))) else (none)) else (none)) else (none)) else (none)) else (some x3)
def impl_SegmentsOf.f (k : Nat) (l0 : List (S77)) : Option ((List (S95))) := (some (([] : List (S95)) : List (S95))).bind fun y471 => ((impl_IsLine.f k l0).bind fun t474 => (if t474 = true then (impl_SegmentsOf.l0 k l0 y471 1) else (some y471)))
mutual
def impl_IsSimple.l0 : Nat → List (S95) → Int → Int → Option (Bool)
 | 0, _, _, _ => none
 | k + 1, x3, x13, x14 => if x14 < x13 then (impl_IsSimple.l1 k x3 x14 x13 x14 x14 0) else (some true)
def impl_IsSimple.l1 : Nat → List (S95) → Int → Int → Int → Int → Int → Option (Bool)
 | 0, _, _, _, _, _, _ => none
 | k + 1, x3, x4, x13, x14, x17, x18 => if x18 < x17 then (if x18 = (wrap64 (x4 - 1)) then (if 0 ≤ x4 then (if x4 < (x3.length : Int) then (if 0 ≤ x18 then (if x18 < (x3.length : Int) then ((impl_HowMeet.f k ((rd_T95 x3 x4).f0.f0) ((rd_T95 x3 x4).f0.f1) ((rd_T95 x3 x4).f1.f0) ((rd_T95 x3 x4).f1.f1) ((rd_T95 x3 x18).f0.f0) ((rd_T95 x3 x18).f0.f1) ((rd_T95 x3 x18).f1.f0) ((rd_T95 x3 x18).f1.f1)).bind fun t486 => (if t486 = 1 then (impl_IsSimple.l1 k x3 x4 x13 x14 x17 (wrap64 (x18 + 1))) else (some false))) else (none)) else (none)) else (none)) else (none)) else (if 0 ≤ x4 then (if x4 < (x3.length : Int) then (if 0 ≤ x18 then (if x18 < (x3.length : Int) then ((impl_HowMeet.f k ((rd_T95 x3 x4).f0.f0) ((rd_T95 x3 x4).f0.f1) ((rd_T95 x3 x4).f1.f0) ((rd_T95 x3 x4).f1.f1) ((rd_T95 x3 x18).f0.f0) ((rd_T95 x3 x18).f0.f1) ((rd_T95 x3 x18).f1.f0) ((rd_T95 x3 x18).f1.f1)).bind fun t489 => (if t489 = 0 then (impl_IsSimple.l1 k x3 x4 x13 x14 x17 (wrap64 (x18 + 1))) else (some false))) else (none)) else (none)) else (none)) else (none))) else (impl_IsSimple.l0 k x3 x13 (wrap64 (x14 + 1)))
end
def impl_IsSimple.f (k : Nat) (l0 : List (S77)) : Option (Bool) := (impl_IsLine.f k l0).bind fun t480 => (if t480 = true then ((impl_SegmentsOf.f k l0).bind fun t481 => (impl_IsSimple.l0 k t481 (t481.length : Int) 0)) else (some false))
def impl_IsFeature.j0 : Nat → Bool → Int → Int → Int → ByteArray → List (S77) → Option (Bool)
 | 0, _, _, _, _, _, _ => none
 | k + 1, x23, x491000, x491001, x491002, x491003, x491004 => if x23 = true then (some false) else (if x491001 = 1 then (if (x491004.length : Int) = 1 then (if 0 < (x491004.length : Int) then ((impl_IsPoint.f ((rd_T77 x491004 0).f0) ((rd_T77 x491004 0).f1)).bind fun t495 => (some t495)) else (none)) else (some false)) else (if x491001 = 2 then ((impl_IsSimple.f k x491004).bind fun t496 => (some t496)) else (if x491001 = 3 then ((impl_IsRing.f k x491004).bind fun t497 => (some t497)) else (some false))))
def impl_IsFeature.f (k : Nat) (a0_0 : Int) (a0_1 : Int) (a0_2 : Int) (a0_3 : ByteArray) (l0_4 : List (S77)) : Option (Bool) := (impl_InRange.f a0_0 1 99).bind fun t491 => (if t491 = true then ((impl_InRange.f a0_2 0 9).bind fun t492 => (if t492 = true then (if a0_3.toList = ([] : List UInt8) then (impl_IsFeature.j0 k false a0_0 a0_1 a0_2 a0_3 l0_4) else ((impl_IsName.f k a0_3).bind fun t493 => (impl_IsFeature.j0 k (!t493) a0_0 a0_1 a0_2 a0_3 l0_4))) else (impl_IsFeature.j0 k true a0_0 a0_1 a0_2 a0_3 l0_4))) else (impl_IsFeature.j0 k true a0_0 a0_1 a0_2 a0_3 l0_4))
def impl_DropFrom.j0 : Nat → Bool → Int → Int → Int → ByteArray → List (S77) → Int → Int → Int → ByteArray → List (S77) → Option (Int × Int × Int × ByteArray × (List (S77)) × Bool)
 | 0, _, _, _, _, _, _, _, _, _, _, _ => none
 | k + 1, x7, x499000, x499001, x499002, x499003, x499004, x508000, x508001, x508002, x508003, x508004 => if x7 = true then ((impl_IsFeature.f k x508000 x508001 x508002 x508003 x508004).bind fun t516 => (if t516 = true then (some (x508000, x508001, x508002, x508003, x508004, true)) else ((impl_cloneFeature.f x499000 x499001 x499002 x499003 x499004).bind fun bt517 => (some (bt517.1, bt517.2.1, bt517.2.2.1, bt517.2.2.2.1, bt517.2.2.2.2, false))))) else ((impl_cloneFeature.f x499000 x499001 x499002 x499003 x499004).bind fun bt524 => (some (bt524.1, bt524.2.1, bt524.2.2.1, bt524.2.2.2.1, bt524.2.2.2.2, false)))
def impl_DropFrom.f (k : Nat) (a0_0 : Int) (a0_1 : Int) (a0_2 : Int) (a0_3 : ByteArray) (l0_4 : List (S77)) (a1 : Int) : Option (Int × Int × Int × ByteArray × (List (S77)) × Bool) := (impl_cloneFeature.f a0_0 a0_1 a0_2 a0_3 l0_4).bind fun bt500 => (if a0_1 = 2 then ((impl_DropPoint.f k l0_4 a1).bind fun bt508 => (impl_DropFrom.j0 k bt508.2 a0_0 a0_1 a0_2 a0_3 l0_4 bt500.1 bt500.2.1 bt500.2.2.1 bt500.2.2.2.1 bt508.1)) else (if a0_1 = 3 then ((impl_DropCorner.f k l0_4 a1).bind fun bt512 => (impl_DropFrom.j0 k bt512.2 a0_0 a0_1 a0_2 a0_3 l0_4 bt500.1 bt500.2.1 bt500.2.2.1 bt500.2.2.2.1 bt512.1)) else (impl_DropFrom.j0 k false a0_0 a0_1 a0_2 a0_3 l0_4 bt500.1 bt500.2.1 bt500.2.2.1 bt500.2.2.2.1 bt500.2.2.2.2)))
mutual
def impl_greatest.l0 : Nat → List (S95) → Int → List (S95) → Int → Int → Option (Int)
 | 0, _, _, _, _, _ => none
 | k + 1, x1, x5, x10, x11, x12 => if x12 < x11 then (if 0 ≤ x12 then (if x12 < (x10.length : Int) then (impl_greatest.l1 k x1 x5 x10 x11 x12 x1 (x1.length : Int) 0 ((rd_T95 x10 x12).f0.f0) ((rd_T95 x10 x12).f0.f1) ((rd_T95 x10 x12).f1.f0) ((rd_T95 x10 x12).f1.f1)) else (none)) else (none)) else (some x5)
def impl_greatest.l1 : Nat → List (S95) → Int → List (S95) → Int → Int → List (S95) → Int → Int → Int → Int → Int → Int → Option (Int)
 | 0, _, _, _, _, _, _, _, _, _, _, _, _ => none
 | k + 1, x1, x5, x10, x11, x12, x16, x17, x18, x533000, x533001, x533002, x533003 => if x18 < x17 then (if 0 ≤ x18 then (if x18 < (x16.length : Int) then ((impl_HowMeet.f k x533000 x533001 x533002 x533003 ((rd_T95 x16 x18).f0.f0) ((rd_T95 x16 x18).f0.f1) ((rd_T95 x16 x18).f1.f0) ((rd_T95 x16 x18).f1.f1)).bind fun t535 => (impl_greatest.l1 k x1 (mx x5 t535) x10 x11 x12 x16 x17 (wrap64 (x18 + 1)) x533000 x533001 x533002 x533003)) else (none)) else (none)) else (impl_greatest.l0 k x1 x5 x10 x11 (wrap64 (x12 + 1)))
end
def impl_greatest.f (k : Nat) (l0 : List (S95)) (l1 : List (S95)) : Option (Int) := impl_greatest.l0 k l1 0 l0 (l0.length : Int) 0
def impl_PartsOf.f (k : Nat) (a0_0 : Int) (a0_1 : Int) (a0_2 : Int) (a0_3 : ByteArray) (l0_4 : List (S77)) : Option ((List (S95))) := (impl_IsFeature.f k a0_0 a0_1 a0_2 a0_3 l0_4).bind fun t537 => (if t537 = true then (if a0_1 = 2 then ((impl_SegmentsOf.f k l0_4).bind fun t538 => (some t538)) else (if a0_1 = 3 then ((impl_RingSegments.f k l0_4).bind fun t541 => (some t541)) else (some (([] : List (S95)))))) else (some (([] : List (S95)))))
def impl_FeaturesMeet.f (k : Nat) (a0_0 : Int) (a0_1 : Int) (a0_2 : Int) (a0_3 : ByteArray) (l0_4 : List (S77)) (a1_0 : Int) (a1_1 : Int) (a1_2 : Int) (a1_3 : ByteArray) (l1_4 : List (S77)) : Option (Int) := (impl_PartsOf.f k a0_0 a0_1 a0_2 a0_3 l0_4).bind fun t552 => ((impl_PartsOf.f k a1_0 a1_1 a1_2 a1_3 l1_4).bind fun t555 => ((impl_greatest.f k t552 t555).bind fun t558 => (some t558)))
def impl_CanShrink.l0 : Nat → List (S28) → Int → Int → Int → Int → Int → ByteArray → List (S77) → Int → Int → Int → ByteArray → List (S77) → Option (Bool)
 | 0, _, _, _, _, _, _, _, _, _, _, _, _, _ => none
 | k + 1, x19, x20, x21, x560000, x560001, x560002, x560003, x560004, x569000, x569001, x569002, x569003, x569004 => if x21 < x20 then (if 0 ≤ x21 then (if x21 < (x19.length : Int) then ((impl_FeaturesMeet.f k x569000 x569001 x569002 x569003 x569004 ((rd_T28 x19 x21).f0) ((rd_T28 x19 x21).f1) ((rd_T28 x19 x21).f2) ((rd_T28 x19 x21).f3) ((rd_T28 x19 x21).f4)).bind fun t571 => ((impl_FeaturesMeet.f k x560000 x560001 x560002 x560003 x560004 ((rd_T28 x19 x21).f0) ((rd_T28 x19 x21).f1) ((rd_T28 x19 x21).f2) ((rd_T28 x19 x21).f3) ((rd_T28 x19 x21).f4)).bind fun t572 => (if t571 > t572 then (some false) else (impl_CanShrink.l0 k x19 x20 (wrap64 (x21 + 1)) x560000 x560001 x560002 x560003 x560004 x569000 x569001 x569002 x569003 x569004)))) else (none)) else (none)) else (some true)
def impl_CanShrink.f (k : Nat) (a0_0 : Int) (a0_1 : Int) (a0_2 : Int) (a0_3 : ByteArray) (l0_4 : List (S77)) (a1 : Int) (l2 : List (S28)) : Option (Bool) := (impl_DropFrom.f k a0_0 a0_1 a0_2 a0_3 l0_4 a1).bind fun bt560 => (if bt560.2.2.2.2.2 = true then (impl_CanShrink.l0 k l2 (l2.length : Int) 0 a0_0 a0_1 a0_2 a0_3 l0_4 bt560.1 bt560.2.1 bt560.2.2.1 bt560.2.2.2.1 bt560.2.2.2.2.1) else (some false))
def impl_twice.f (a0_0 : Int) (a0_1 : Int) (a1_0 : Int) (a1_1 : Int) (a2_0 : Int) (a2_1 : Int) : Option (Int) := (impl_cross.f a0_0 a0_1 a1_0 a1_1 a2_0 a2_1).bind fun t576 => (some (mx t576 (wrap64 (-t576))))
def impl_CornerArea.f (k : Nat) (l0 : List (S77)) (a1 : Int) : Option (Int) := (impl_IsLine.f k l0).bind fun t577 => (if t577 = true then ((impl_InRange.f a1 1 (wrap64 ((l0.length : Int) - 2))).bind fun t578 => (if t578 = true then (if 0 ≤ (wrap64 (a1 - 1)) then (if (wrap64 (a1 - 1)) < (l0.length : Int) then (if 0 ≤ a1 then (if a1 < (l0.length : Int) then (if 0 ≤ (wrap64 (a1 + 1)) then (if (wrap64 (a1 + 1)) < (l0.length : Int) then ((impl_twice.f ((rd_T77 l0 (wrap64 (a1 - 1))).f0) ((rd_T77 l0 (wrap64 (a1 - 1))).f1) ((rd_T77 l0 a1).f0) ((rd_T77 l0 a1).f1) ((rd_T77 l0 (wrap64 (a1 + 1))).f0) ((rd_T77 l0 (wrap64 (a1 + 1))).f1)).bind fun t582 => (some t582)) else (none)) else (none)) else (none)) else (none)) else (none)) else (none)) else (some (-1)))) else (some (-1)))
def impl_CornerSize.f (k : Nat) (l0 : List (S77)) (a1 : Int) : Option (Int) := (impl_IsRing.f k l0).bind fun t583 => (if t583 = true then ((impl_InRange.f a1 0 (wrap64 ((l0.length : Int) - 1))).bind fun t584 => (if t584 = true then (if (l0.length : Int) = 0 then (none) else (if 0 ≤ (Int.tmod (wrap64 ((wrap64 (a1 + (l0.length : Int))) - 1)) (l0.length : Int)) then (if (Int.tmod (wrap64 ((wrap64 (a1 + (l0.length : Int))) - 1)) (l0.length : Int)) < (l0.length : Int) then (if 0 ≤ a1 then (if a1 < (l0.length : Int) then (if 0 ≤ (Int.tmod (wrap64 (a1 + 1)) (l0.length : Int)) then (if (Int.tmod (wrap64 (a1 + 1)) (l0.length : Int)) < (l0.length : Int) then ((impl_twice.f ((rd_T77 l0 (Int.tmod (wrap64 ((wrap64 (a1 + (l0.length : Int))) - 1)) (l0.length : Int))).f0) ((rd_T77 l0 (Int.tmod (wrap64 ((wrap64 (a1 + (l0.length : Int))) - 1)) (l0.length : Int))).f1) ((rd_T77 l0 a1).f0) ((rd_T77 l0 a1).f1) ((rd_T77 l0 (Int.tmod (wrap64 (a1 + 1)) (l0.length : Int))).f0) ((rd_T77 l0 (Int.tmod (wrap64 (a1 + 1)) (l0.length : Int))).f1)).bind fun t588 => (some t588)) else (none)) else (none)) else (none)) else (none)) else (none)) else (none))) else (some (-1)))) else (some (-1)))
def impl_SizeAt.f (k : Nat) (a0_0 : Int) (a0_1 : Int) (a0_2 : Int) (a0_3 : ByteArray) (l0_4 : List (S77)) (a1 : Int) : Option (Int) := if a0_1 = 2 then ((impl_CornerArea.f k l0_4 a1).bind fun t590 => (some t590)) else (if a0_1 = 3 then ((impl_CornerSize.f k l0_4 a1).bind fun t591 => (some t591)) else (some (-1)))
mutual
def impl_ShrinkFeature.l0 : Nat → List (S28) → Int → Int → Int → Int → ByteArray → List (S77) → Option (Int × Int × Int × ByteArray × (List (S77)))
 | 0, _, _, _, _, _, _, _ => none
 | k + 1, x1, x2, x602000, x602001, x602002, x602003, x602004 => impl_ShrinkFeature.l1 k x1 x2 (-1) (x602004.length : Int) 0 x602000 x602001 x602002 x602003 x602004
def impl_ShrinkFeature.l1 : Nat → List (S28) → Int → Int → Int → Int → Int → Int → Int → ByteArray → List (S77) → Option (Int × Int × Int × ByteArray × (List (S77)))
 | 0, _, _, _, _, _, _, _, _, _, _ => none
 | k + 1, x1, x2, x8, x19, x20, x602000, x602001, x602002, x602003, x602004 => if x20 < x19 then ((impl_SizeAt.f k x602000 x602001 x602002 x602003 x602004 x20).bind fun t611 => (if t611 < x2 then (if x8 < 0 then ((impl_CanShrink.f k x602000 x602001 x602002 x602003 x602004 x20 x1).bind fun t612 => (if t612 = true then (impl_ShrinkFeature.l1 k x1 x2 x20 x19 (wrap64 (x20 + 1)) x602000 x602001 x602002 x602003 x602004) else (impl_ShrinkFeature.l1 k x1 x2 x8 x19 (wrap64 (x20 + 1)) x602000 x602001 x602002 x602003 x602004))) else ((impl_SizeAt.f k x602000 x602001 x602002 x602003 x602004 x8).bind fun t613 => (if t611 < t613 then ((impl_CanShrink.f k x602000 x602001 x602002 x602003 x602004 x20 x1).bind fun t614 => (if t614 = true then (impl_ShrinkFeature.l1 k x1 x2 x20 x19 (wrap64 (x20 + 1)) x602000 x602001 x602002 x602003 x602004) else (impl_ShrinkFeature.l1 k x1 x2 x8 x19 (wrap64 (x20 + 1)) x602000 x602001 x602002 x602003 x602004))) else (impl_ShrinkFeature.l1 k x1 x2 x8 x19 (wrap64 (x20 + 1)) x602000 x602001 x602002 x602003 x602004)))) else (impl_ShrinkFeature.l1 k x1 x2 x8 x19 (wrap64 (x20 + 1)) x602000 x602001 x602002 x602003 x602004))) else (if x8 < 0 then (some (x602000, x602001, x602002, x602003, x602004)) else ((impl_DropFrom.f k x602000 x602001 x602002 x602003 x602004 x8).bind fun bt603 => (impl_ShrinkFeature.l0 k x1 x2 bt603.1 bt603.2.1 bt603.2.2.1 bt603.2.2.2.1 bt603.2.2.2.2.1)))
end
def impl_ShrinkFeature.f (k : Nat) (a0_0 : Int) (a0_1 : Int) (a0_2 : Int) (a0_3 : ByteArray) (l0_4 : List (S77)) (l1 : List (S28)) (a2 : Int) : Option (Int × Int × Int × ByteArray × (List (S77))) := (impl_cloneFeature.f a0_0 a0_1 a0_2 a0_3 l0_4).bind fun bt594 => ((impl_IsFeature.f k a0_0 a0_1 a0_2 a0_3 l0_4).bind fun t602 => (if t602 = true then (impl_ShrinkFeature.l0 k l1 a2 bt594.1 bt594.2.1 bt594.2.2.1 bt594.2.2.2.1 bt594.2.2.2.2) else (some (bt594.1, bt594.2.1, bt594.2.2.1, bt594.2.2.2.1, bt594.2.2.2.2))))
def laws_markText.l0 : Nat → Int → ByteArray → Option (ByteArray)
 | 0, _, _ => none
 | k + 1, x0, x3 => if x0 > 0 then ((some (([(wrap64 (48 + (Int.tmod x0 10))) % 256] : List Int) : List Int)).bind fun y615 => (if (strOfNums y615).size + x3.size ≤ 9223372036854775807 then (laws_markText.l0 k (wrap64 (Int.tdiv x0 10)) ((strOfNums y615) ++ x3)) else (none))) else (if 1 + x3.size ≤ 9223372036854775807 then (some ((⟨#[109]⟩ : ByteArray) ++ x3)) else (none))
def laws_markText.f (k : Nat) (a0 : Int) : Option (ByteArray) := if a0 ≤ 0 then (some (⟨#[109, 48]⟩ : ByteArray)) else (laws_markText.l0 k a0 (⟨#[]⟩ : ByteArray))
/-- A state of type 28 at block g of W; what its slices lead to came in by w0. -/
def IsS28 (w0 W : World) (g : Nat) (f0 : Int) (f1 : Int) (f2 : Int) (f3 : ByteArray) (f4 : List (S77)) : Prop := ∃ A4 c4, W.heap[g]? = some (.cells #[.int .i64 f0, .int .i64 f1, .int .i64 f2, .string f3, .slice A4 f4.length c4] 28 (0, 0)) ∧ w0.heap.size ≤ g ∧ Kd.C k77 w0 A4 f4.length f4
theorem cellS28_0 {W : World} {g : Nat} {A4 : Option Addr} {c4 : Nat} {f0 : Int} {f1 : Int} {f2 : Int} {f3 : ByteArray} {f4 : List (S77)} (h : W.heap[g]? = some (.cells #[.int .i64 f0, .int .i64 f1, .int .i64 f2, .string f3, .slice A4 f4.length c4] 28 (0, 0))) : W.cell? ⟨g, 0, none⟩ = some (.int .i64 f0) := (blk_cell h 0).trans rfl
theorem cellS28_1 {W : World} {g : Nat} {A4 : Option Addr} {c4 : Nat} {f0 : Int} {f1 : Int} {f2 : Int} {f3 : ByteArray} {f4 : List (S77)} (h : W.heap[g]? = some (.cells #[.int .i64 f0, .int .i64 f1, .int .i64 f2, .string f3, .slice A4 f4.length c4] 28 (0, 0))) : W.cell? ⟨g, 1, none⟩ = some (.int .i64 f1) := (blk_cell h 1).trans rfl
theorem cellS28_2 {W : World} {g : Nat} {A4 : Option Addr} {c4 : Nat} {f0 : Int} {f1 : Int} {f2 : Int} {f3 : ByteArray} {f4 : List (S77)} (h : W.heap[g]? = some (.cells #[.int .i64 f0, .int .i64 f1, .int .i64 f2, .string f3, .slice A4 f4.length c4] 28 (0, 0))) : W.cell? ⟨g, 2, none⟩ = some (.int .i64 f2) := (blk_cell h 2).trans rfl
theorem cellS28_3 {W : World} {g : Nat} {A4 : Option Addr} {c4 : Nat} {f0 : Int} {f1 : Int} {f2 : Int} {f3 : ByteArray} {f4 : List (S77)} (h : W.heap[g]? = some (.cells #[.int .i64 f0, .int .i64 f1, .int .i64 f2, .string f3, .slice A4 f4.length c4] 28 (0, 0))) : W.cell? ⟨g, 3, none⟩ = some (.string f3) := (blk_cell h 3).trans rfl
theorem cellS28_4 {W : World} {g : Nat} {A4 : Option Addr} {c4 : Nat} {f0 : Int} {f1 : Int} {f2 : Int} {f3 : ByteArray} {f4 : List (S77)} (h : W.heap[g]? = some (.cells #[.int .i64 f0, .int .i64 f1, .int .i64 f2, .string f3, .slice A4 f4.length c4] 28 (0, 0))) : W.cell? ⟨g, 4, none⟩ = some (.slice A4 f4.length c4) := (blk_cell h 4).trans rfl
/-- A block of so many cells. -/
def Blk (w : World) (g m t : Nat) : Prop := ∃ c : Array Value, w.heap[g]? = some (.cells c t (0, 0)) ∧ c.size = m
theorem Blk.cell {w : World} {g m t : Nat} (h : Blk w g m t) {j : Nat} (hj : j < m) : ∃ v, w.cell? ⟨g, j, none⟩ = some v := by
  obtain ⟨c, h, rfl⟩ := h
  exact ⟨c[j], (blk_cell h j).trans (Array.getElem?_eq_getElem hj)⟩
theorem Blk.frozen {w : World} {g m t : Nat} (h : Blk w g m t) (j : Nat) : w.frozen? ⟨g, j, none⟩ = false := by
  obtain ⟨c, h, rfl⟩ := h
  exact blk_frozen h j
theorem Blk.set {w : World} {g m t : Nat} (h : Blk w g m t) (j : Nat) (u : Value) : Blk (w.setCell ⟨g, j, none⟩ u) g m t := by
  obtain ⟨c, h, rfl⟩ := h
  exact ⟨_, blk_set h j u, by simp⟩
theorem Blk.far {w : World} {g g' m t : Nat} (h : Blk w g m t) (hn : g ≠ g') (j : Nat) (u : Value) : Blk (w.setCell ⟨g', j, none⟩ u) g m t := by
  obtain ⟨c, h, rfl⟩ := h
  exact ⟨c, blk_far h hn u, rfl⟩
theorem grown_set {w W : World} {g : Nat} (h : w.grownBy W (some g)) (j : Nat) (u : Value) : w.grownBy (W.setCell ⟨g, j, none⟩ u) (some g) := by
  refine ⟨h.os, h.tape, h.output, ?_, ?_⟩
  · have := h.size; rw [World.size_setCell]; exact this
  · intro i hi hne; rw [Below.heap_setCell W ⟨g, j, none⟩ u i (fun e => hne (by rw [e]))]
    exact h.block i hi hne
/-- A feature's row, as far as marking it asks: so many cells, and where each feature's points lie. -/
def OutC (w : World) (g m n : Nat) (vs : Nat → Value) : Prop := ∃ c : Array Value, w.heap[g]? = some (.cells c 28 (0, 0)) ∧ c.size = m ∧ ∀ j, j < n → c[j * 5 + 4]? = some (vs j)
theorem OutC.blk {w : World} {g m n : Nat} {vs : Nat → Value} (h : OutC w g m n vs) : Blk w g m 28 := by
  obtain ⟨c, h, h', _⟩ := h; exact ⟨c, h, h'⟩
theorem OutC.at_ {w : World} {g m n : Nat} {vs : Nat → Value} (h : OutC w g m n vs) {j : Nat} (hj : j < n) : w.cell? ⟨g, j * 5 + 4, none⟩ = some (vs j) := by
  obtain ⟨c, h, _, h'⟩ := h; exact (blk_cell h _).trans (h' j hj)
theorem OutC.set {w : World} {g m n : Nat} {vs : Nat → Value} (h : OutC w g m n vs) (i d : Nat) (hd : d < 4) (u : Value) : OutC (w.setCell ⟨g, i * 5 + d, none⟩ u) g m n vs := by
  obtain ⟨c, h, h1, h2⟩ := h
  exact ⟨_, blk_set h _ u, by simpa using h1, fun j hj => by rw [Array.getElem?_setIfInBounds_ne (by omega)]; exact h2 j hj⟩
theorem OutC.below {w W : World} {g m n : Nat} {vs : Nat → Value} (h : OutC w g m n vs) (hb : Below w.heap.size w W) : OutC W g m n vs := by
  obtain ⟨c, h, h1, h2⟩ := h; exact ⟨c, blk_below h hb, h1, h2⟩
theorem OutC.grown {w W : World} {g m n : Nat} {vs : Nat → Value} (h : OutC w g m n vs) {g' : Nat} (hg : w.grownBy W (some g')) (hn : g ≠ g') : OutC W g m n vs := by
  obtain ⟨c, h, h1, h2⟩ := h; exact ⟨c, blk_grown h hg (fun e => hn (by injection e)), h1, h2⟩
/-- A row of points that is the call's own: nothing, or a block with room. -/
def Nst (w : World) (P : Nat → Prop) (base : Nat) (v : Value) (n : Nat) : Prop := (v = .slice none 0 0 ∧ n = 0) ∨ ∃ g cap m, v = .slice (some ⟨g, 0, none⟩) n cap ∧ P g ∧ base ≤ g ∧ 2 * n ≤ m ∧ Blk w g m 77
theorem Nst.move {w W : World} {P : Nat → Prop} {base n : Nat} {v : Value} (h : Nst w P base v n) (hm : ∀ g m, P g → Blk w g m 77 → Blk W g m 77) : Nst W P base v n := by
  rcases h with h | ⟨g, cap, m, h1, h2, h3, h4, h5⟩
  · exact .inl h
  · exact .inr ⟨g, cap, m, h1, h2, h3, h4, hm g m h2 h5⟩
theorem Blk.below {w W : World} {g m t : Nat} (h : Blk w g m t) (hb : Below w.heap.size w W) : Blk W g m t := by
  obtain ⟨c, h, rfl⟩ := h; exact ⟨c, blk_below h hb, rfl⟩
theorem Blk.grown {w W : World} {g g' m m' t : Nat} (h : Blk w g m t) (hg : w.grownBy W (some g')) (h0 : Blk w g' m' t) (h1 : Blk W g' m' t) : Blk W g m t := by
  by_cases e : g = g'
  · subst e; obtain ⟨c, h, rfl⟩ := h; obtain ⟨c', h', rfl⟩ := h0; rw [h] at h'; injection h' with h'; injection h' with h'; subst h'; exact h1
  · obtain ⟨c, h, rfl⟩ := h
    exact ⟨c, blk_grown h hg (fun q => e (by injection q)), rfl⟩
def mfT : List S28 → Nat
  | [] => 0
  | x :: r => 4 + 2 * x.f4.length + mfT r
theorem mfT_app (a b : List S28) : mfT (a ++ b) = mfT a + mfT b := by
  induction a with
  | nil => simp [mfT]
  | cons x a ih => simp [mfT, ih]; omega
theorem mfT_take (l : List S28) (i : Nat) (h : i < l.length) : mfT (l.take (i + 1)) = mfT (l.take i) + (4 + 2 * (l.getD i z28).f4.length) := by
  rw [List.take_succ_eq_append_getElem h, mfT_app, List.getD_eq_getElem?_getD, List.getElem?_eq_getElem h]; simp [mfT]
theorem mfT_le (l : List S28) (i : Nat) : mfT (l.take i) ≤ mfT l := by
  have := mfT_app (l.take i) (l.drop i); rw [List.take_append_drop] at this; omega
theorem nst_of {w : World} {base : Nat} {P : Nat → Prop} {v : Value} {xs : List S77} (h : Kd.R k77 77 w base P v xs) : Nst w P base v xs.length := by
  obtain ⟨hok, inner, ho, _⟩ := h; obtain ⟨hl, ho⟩ := ho; have hs : k77.sz = 2 := rfl; rw [hs] at hl ho
  rcases ho with ⟨rfl, h0⟩ | ⟨g, cap, cur, rfl, h1, h2, h3, h4, h5, h6⟩
  · exact .inl ⟨rfl, h0⟩
  · refine .inr ⟨g, cap, cur.size, rfl, hok g rfl, h1, by omega, cur, h2, rfl⟩
/-- What is known of a row of features that is the call's own. -/
theorem out_of {w : World} {base : Nat} {P : Nat → Prop} {u : Value} {l : List S28} (h : Kd.R k28 28 w base P u l) (hl : 0 < l.length) :
    ∃ g cap m, ∃ vs : Nat → Value, u = .slice (some ⟨g, 0, none⟩) l.length cap ∧ P g ∧ base ≤ g ∧ l.length * 5 ≤ m ∧ OutC w g m l.length vs ∧ ∀ j, j < l.length → Nst w (fun k => P k ∧ k ≠ g) base (vs j) (l.getD j z28).f4.length := by
  obtain ⟨g, cap, rfl, h1, h2, cells, h3⟩ := Kd.R_form h hl; have hok := h.1 g rfl; have hc : ∀ j : Nat, j < l.length → ∃ v, cells[j * 5 + 4]? = some v ∧ Nst w (fun k => P k ∧ k ≠ g) base v (l.getD j z28).f4.length := by
    intro j hj; obtain ⟨c, hcl, hM, hcc, _⟩ := Kd.R_elem h z28 (j : Int) (by omega) (by omega); obtain ⟨v4, rfl, g4⟩ := k28_openM hM; have := hcc 4 v4 rfl; rw [blk_cell h3] at this; rw [Int.toNat_natCast] at this g4
    exact ⟨v4, this, nst_of g4⟩
  have hm : l.length * 5 ≤ cells.size := by
    obtain ⟨v, hv, _⟩ := hc (l.length - 1) (by omega); have := (Array.getElem?_eq_some_iff.1 hv).1
    omega
  refine ⟨g, cap, cells.size, fun j => (cells[j * 5 + 4]?).getD undef, rfl, hok, h1, hm, ⟨cells, h3, rfl, fun j hj => ?_⟩, fun j hj => ?_⟩
  · obtain ⟨v, hv, _⟩ := hc j hj; simp only [hv]; rfl
  · obtain ⟨v, hv, hn⟩ := hc j hj; simp only [hv]; exact hn
theorem markText_l (n : Nat) : ∀ (x : Int) (b : ByteArray), 0 ≤ x → x ≤ 9223372036854775807 → x < (10 : Int) ^ n → b.size + n ≤ 1000 → ∃ r, Ev (fun k => laws_markText.l0 k x b) r := by
  induction n with
  | zero =>
    intro x b h0 hm h1 h2; have hx : x = 0 := by simp at h1; omega
    subst hx; refine ⟨(⟨#[109]⟩ : ByteArray) ++ b, Ev.step (f := fun _ => some ((⟨#[109]⟩ : ByteArray) ++ b)) (fun k => ?_) (Ev.now _)⟩; simp only [laws_markText.l0]; rw [if_neg (by omega), if_pos (by omega)]
  | succ n ih =>
    intro x b h0 hm h1 h2
    by_cases hx : x > 0
    · have hd : Int.tdiv x 10 = x / 10 := Int.tdiv_eq_ediv_of_nonneg h0; have hlt : x / 10 < (10 : Int) ^ n := by
        rw [Int.pow_succ] at h1
        omega
      have hs : (strOfNums [(wrap64 (48 + (Int.tmod x 10))) % 256]).size = 1 := by rw [strOfNums_size]; rfl
      have hw : wrap64 (x / 10) = x / 10 := by unfold wrap64; omega
      obtain ⟨r, hr⟩ := ih (x / 10) (strOfNums [(wrap64 (48 + (Int.tmod x 10))) % 256] ++ b) (by omega) (by omega) hlt (by rw [ByteArray.size_append, hs]; omega); refine ⟨r, Ev.step (fun k => ?_) hr⟩; simp only [laws_markText.l0, Option.bind_some]; rw [if_pos hx, if_pos (by rw [hs]; omega), hd, hw]
    · have hx0 : x = 0 := by omega
      subst hx0; refine ⟨(⟨#[109]⟩ : ByteArray) ++ b, Ev.step (f := fun _ => some ((⟨#[109]⟩ : ByteArray) ++ b)) (fun k => ?_) (Ev.now _)⟩; simp only [laws_markText.l0]; rw [if_neg (by omega), if_pos (by omega)]
theorem mfT_ge (l : List S28) : l.length ≤ mfT l := by
  induction l with
  | nil => simp [mfT]
  | cons x l ih => simp [mfT]; omega
theorem mf_pred {n i k : Nat} (h : n - i ≤ k) (h' : i < n) : ∃ k1, k = k1 + 1 ∧ n - (i + 1) ≤ k1 := ⟨k - 1, by omega, by omega⟩
theorem mf_w {x : Int} (h0 : 0 ≤ x) (h1 : x ≤ 9223372036854775806) : wrap64 (x + 1) = x + 1 := by unfold wrap64; omega
theorem mf_ar {a1 : Int} {T M R len : Nat} (h0 : 0 ≤ a1) (hb : a1 + (M : Int) < 4611686018427387904) (ht : R = T + (4 + 2 * len)) (hle : R ≤ M) :
    0 ≤ a1 + (T : Int) ∧ a1 + (T : Int) + 4 ≤ 4611686018427387904 ∧ a1 + (T : Int) + 1 + 1 + 1 + 1 + 2 * (len : Int) = a1 + (R : Int) ∧ a1 + (T : Int) + 1 + 1 + 1 + 1 + 2 * (len : Int) < 4611686018427387904 := by omega
theorem mf_ar4 {x : Int} (h0 : 0 ≤ x) (h : x + 4 ≤ 4611686018427387904) : (0 ≤ x + 1 ∧ 0 ≤ x + 1 + 1 ∧ 0 ≤ x + 1 + 1 + 1 ∧ 0 ≤ x + 1 + 1 + 1 + 1) ∧ (x + 1 ≤ 4611686018427387904 ∧ x + 1 + 1 ≤ 4611686018427387904 ∧ x + 1 + 1 + 1 ≤ 4611686018427387904 ∧ x + 1 + 1 + 1 + 1 ≤ 4611686018427387904) ∧ wrap64 (x + 1) = x + 1 ∧ wrap64 (x + 1 + 1) = x + 1 + 1 ∧ wrap64 (x + 1 + 1 + 1) = x + 1 + 1 + 1 ∧ wrap64 (x + 1 + 1 + 1 + 1) = x + 1 + 1 + 1 + 1 := by
  refine ⟨by omega, by omega, mf_w (by omega) (by omega), mf_w (by omega) (by omega), mf_w (by omega) (by omega), mf_w (by omega) (by omega)⟩
theorem mf_ar5 {i n M : Nat} {a1 : Int} (h0 : 0 ≤ a1) (hb : a1 + (M : Int) < 4611686018427387904) (hge : n ≤ M) (h : i < n) : wrap64 ((i : Int) + 1) = ((i + 1 : Nat) : Int) := by unfold wrap64; omega
def laws_markFeatureS.f (l0 : List S28) (a1 : Int) : Option (Int) := if 0 ≤ a1 ∧ a1 + (mfT l0 : Int) < 4611686018427387904 then some (a1 + (mfT l0 : Int)) else none
/-- A state of type 24 at block g of W; what its slices lead to came in by w0. -/
def IsS24 (w0 W : World) (g : Nat) (f0 : Int) (f1 : Int) (f2 : Int) (f3 : ByteArray) (f4 : List (S85)) : Prop := ∃ A4 c4, W.heap[g]? = some (.cells #[.int .i64 f0, .int .i64 f1, .int .i64 f2, .string f3, .slice A4 f4.length c4] 24 (0, 0)) ∧ w0.heap.size ≤ g ∧ Kd.C k85 w0 A4 f4.length f4
theorem cellS24_0 {W : World} {g : Nat} {A4 : Option Addr} {c4 : Nat} {f0 : Int} {f1 : Int} {f2 : Int} {f3 : ByteArray} {f4 : List (S85)} (h : W.heap[g]? = some (.cells #[.int .i64 f0, .int .i64 f1, .int .i64 f2, .string f3, .slice A4 f4.length c4] 24 (0, 0))) : W.cell? ⟨g, 0, none⟩ = some (.int .i64 f0) := (blk_cell h 0).trans rfl
theorem cellS24_1 {W : World} {g : Nat} {A4 : Option Addr} {c4 : Nat} {f0 : Int} {f1 : Int} {f2 : Int} {f3 : ByteArray} {f4 : List (S85)} (h : W.heap[g]? = some (.cells #[.int .i64 f0, .int .i64 f1, .int .i64 f2, .string f3, .slice A4 f4.length c4] 24 (0, 0))) : W.cell? ⟨g, 1, none⟩ = some (.int .i64 f1) := (blk_cell h 1).trans rfl
theorem cellS24_2 {W : World} {g : Nat} {A4 : Option Addr} {c4 : Nat} {f0 : Int} {f1 : Int} {f2 : Int} {f3 : ByteArray} {f4 : List (S85)} (h : W.heap[g]? = some (.cells #[.int .i64 f0, .int .i64 f1, .int .i64 f2, .string f3, .slice A4 f4.length c4] 24 (0, 0))) : W.cell? ⟨g, 2, none⟩ = some (.int .i64 f2) := (blk_cell h 2).trans rfl
theorem cellS24_3 {W : World} {g : Nat} {A4 : Option Addr} {c4 : Nat} {f0 : Int} {f1 : Int} {f2 : Int} {f3 : ByteArray} {f4 : List (S85)} (h : W.heap[g]? = some (.cells #[.int .i64 f0, .int .i64 f1, .int .i64 f2, .string f3, .slice A4 f4.length c4] 24 (0, 0))) : W.cell? ⟨g, 3, none⟩ = some (.string f3) := (blk_cell h 3).trans rfl
theorem cellS24_4 {W : World} {g : Nat} {A4 : Option Addr} {c4 : Nat} {f0 : Int} {f1 : Int} {f2 : Int} {f3 : ByteArray} {f4 : List (S85)} (h : W.heap[g]? = some (.cells #[.int .i64 f0, .int .i64 f1, .int .i64 f2, .string f3, .slice A4 f4.length c4] 24 (0, 0))) : W.cell? ⟨g, 4, none⟩ = some (.slice A4 f4.length c4) := (blk_cell h 4).trans rfl
/-- A state of type 85 at block g of W; what its slices lead to came in by w0. -/
def IsS85 (w0 W : World) (g : Nat) (f0 : Int) (f1 : Int) : Prop := W.heap[g]? = some (.cells #[.int .i64 f0, .int .i64 f1] 85 (0, 0)) ∧ w0.heap.size ≤ g
theorem cellS85_0 {W : World} {g : Nat} {f0 : Int} {f1 : Int} (h : W.heap[g]? = some (.cells #[.int .i64 f0, .int .i64 f1] 85 (0, 0))) : W.cell? ⟨g, 0, none⟩ = some (.int .i64 f0) := (blk_cell h 0).trans rfl
theorem cellS85_1 {W : World} {g : Nat} {f0 : Int} {f1 : Int} (h : W.heap[g]? = some (.cells #[.int .i64 f0, .int .i64 f1] 85 (0, 0))) : W.cell? ⟨g, 1, none⟩ = some (.int .i64 f1) := (blk_cell h 1).trans rfl
def laws_FnExactShrinkFeature.f (k : Nat) (a b c : Int) (s : ByteArray) (l : List S85) (O : List S24) (m : Int) : Option Bool :=
  (laws_szFeature.f a b c s l 1048576).bind fun t => if t < 0 then some true else (laws_szFeatureS.f k O t).bind fun u => if u < 0 then some true else
  (laws_toFeature.f k a b c s l).bind fun x => (laws_toFeatureS.f k O).bind fun y =>
  (spec_ShrinkFeature.f k x.1 x.2.1 x.2.2.1 x.2.2.2.1 x.2.2.2.2 y m).bind fun r => (impl_ShrinkFeature.f k x.1 x.2.1 x.2.2.1 x.2.2.2.1 x.2.2.2.2 y m).bind fun g =>
  (laws_eqFeature.f k g.1 g.2.1 g.2.2.1 g.2.2.2.1 g.2.2.2.2 r.1 r.2.1 r.2.2.1 r.2.2.2.1 r.2.2.2.2).bind fun e1 =>
  (laws_eqFeature.f k x.1 x.2.1 x.2.2.1 x.2.2.2.1 x.2.2.2.2 x.1 x.2.1 x.2.2.1 x.2.2.2.1 x.2.2.2.2).bind fun e2 => (laws_eqFeatureS.f k y y).bind fun e3 =>
  (laws_markFeature.f k x.1 x.2.1 x.2.2.1 x.2.2.2.1 x.2.2.2.2 1).bind fun mx => (laws_markFeature.f k g.1 g.2.1 g.2.2.1 g.2.2.2.1 g.2.2.2.2 1).bind fun mg =>
  (laws_heldFeature.f k g.1 g.2.1 g.2.2.1 g.2.2.2.1 mg.2 1).bind fun q =>
  if e1 = true ∧ e2 = true ∧ e3 = true ∧ 0 ≤ mx.1 ∧ mx.1 + (mfT y : Int) < 4611686018427387904 ∧ 0 ≤ mg.1 ∧ q = mg.1 then some true else none
end Go.Proofs.Ytkebhlkbnnlegaa.PFnExactShrinkFeature
