-- Written by a program of this session's (evlaw.py).
import Derived.ArgAppend
import Derived.Below
import Derived.BigQuiet
import Derived.Deep.AppendLies
import Derived.Deep.CutBlock
import Derived.Deep.DeepCutAuto
import Derived.Deep.Draws
import Derived.Deep.LoopGhost
import Derived.Deep.OwnRows
import Derived.Deep.QuietTactic
import Derived.Deep.RegionHeld3
import Derived.KernelRfl
import Derived.Laws.BitsLemmas
import Derived.Laws.BytesArg
import Derived.Laws.IdiomCopy
import Derived.Laws.MakeOwn
import Derived.Laws.OwnMore
import Derived.Laws.Rows
import Derived.Laws.Slices
import Derived.Lib.AppendStr
import Derived.Lib.ConvBytes
import Derived.Maps.AppendAt
import Derived.OrdersHeld
import Derived.OwnWalk
import Derived.RowKit
import Derived.RowKit3
import Derived.Tactics
import Derived.Test.YtdfehjfmihokpaaGeo
import Derived.Test.YtdfehjfmihokpaaHand
import Derived.Test.YtdfehjfmihokpaaMeet
import Derived.Test.YtdfehjfmihokpaaProg
import Derived.Test.YtdfehjfmihokpaaQuiet
import Derived.Test.YtdfehjfmihokpaaWApart
import Derived.Test.YtdfehjfmihokpaaWArr
import Derived.Test.YtdfehjfmihokpaaWAt
import Derived.Test.YtdfehjfmihokpaaWEqStruct
import Derived.Test.YtdfehjfmihokpaaWFoot
import Derived.Test.YtdfehjfmihokpaaWFootNe
import Derived.Test.YtdfehjfmihokpaaWFour
import Derived.Test.YtdfehjfmihokpaaWGuard
import Derived.Test.YtdfehjfmihokpaaWInv
import Derived.Test.YtdfehjfmihokpaaWInvWords
import Derived.Test.YtdfehjfmihokpaaWKept
import Derived.Test.YtdfehjfmihokpaaWLast
import Derived.Test.YtdfehjfmihokpaaWMore
import Derived.Test.YtdfehjfmihokpaaWN
import Derived.Test.YtdfehjfmihokpaaWNEv
import Derived.Test.YtdfehjfmihokpaaWQPut
import Derived.Test.YtdfehjfmihokpaaWRepsOne
import Derived.Test.YtdfehjfmihokpaaWShare
import Derived.Test.YtdfehjfmihokpaaWTab
import Derived.Test.YtdfehjfmihokpaaWWords
import Derived.Test.YtdfehjfmihokpaaWZeros
import Derived.Test.YtdfehjfmihokpaaZ
import Derived.WalkKit
import Derived.WideLaws
namespace Go.Proofs.Ytdfehjfmihokpaa.PFnExactAnchorsOf
open Go.RowKit Go.Proofs.YtdfehjfmihokpaaW.PrintWords Go.Proofs.YtdfehjfmihokpaaW.PrintLast Go.Proofs.YtdfehjfmihokpaaW.PrintMore Go.Proofs.YtdfehjfmihokpaaGeo Go.Proofs.YtdfehjfmihokpaaHand Go.Proofs.YtdfehjfmihokpaaMeet Go.Proofs.YtdfehjfmihokpaaQuiet Go.Proofs.YtdfehjfmihokpaaZ
attribute [local go_sem] max2_int min2_int max_two min_two max_three min_three max_four min_four   -- for this text's walks alone
set_option linter.unusedVariables false
set_option linter.unusedSimpArgs false



def errW : Option Int → Value
  | none => .nilIface
  | some c => .iface 0 (.int .i64 c)
theorem errW_none : errW none = .nilIface := rfl
theorem errW_some (c : Int) : errW (some c) = .iface 0 (.int .i64 c) := rfl

theorem info5 : (Try.prog.info? 5).map (fun i => (i.zero, i.size, i.bytes)) = some (some (.int .u8 0), 1, 1) := by kernel_rfl
theorem info29 : (Try.prog.info? 29).map (fun i => (i.zero, i.size, i.bytes)) = some (some (.agg #[(.int .i64 0), (.int .i64 0), (.int .i64 0), (.string ⟨#[]⟩), (.slice none 0 0)]), 5, 64) := by kernel_rfl
theorem info82 : (Try.prog.info? 82).map (fun i => (i.zero, i.size, i.bytes)) = some (some (.agg #[(.int .i64 0), (.int .i64 0)]), 2, 16) := by kernel_rfl
theorem info85 : (Try.prog.info? 85).map (fun i => (i.zero, i.size, i.bytes)) = some (some (.agg #[(.int .i64 0), (.int .i64 0), (.int .i64 0), (.int .i64 0)]), 4, 32) := by kernel_rfl
theorem info93 : (Try.prog.info? 93).map (fun i => (i.zero, i.size, i.bytes)) = some (some (.agg #[(.int .i64 0), (.int .i64 0), (.int .i64 0), (.int .i64 0)]), 4, 32) := by kernel_rfl
-- the values' own types
/-! #### struct type 118 -/
structure S118 where
  f0 : Int
  f1 : Int
def z118 : S118 := ⟨(0 : Int), (0 : Int)⟩
def k118 : Kd S118 := Kd.iso (Kd.pair (Kd.int .i64) (Kd.int .i64)) (fun x : S118 => (x.f0, x.f1))
theorem k118_open {w : World} {x : S118} {cs : List Value} (h : k118.K w x cs) : cs = [.int .i64 x.f0, .int .i64 x.f1] := by
  obtain ⟨_, _, rfl, rfl, rfl⟩ := h
  exact rfl
theorem k118_openM {w : World} {base : Nat} {ok : Nat → Prop} {x : S118} {cs : List Value} (h : k118.M w base ok x cs) : cs = [.int .i64 x.f0, .int .i64 x.f1] := by
  obtain ⟨_, _, rfl, rfl, rfl⟩ := h
  exact rfl
theorem k118_mk (w : World) (x : S118)  : k118.K w x [.int .i64 x.f0, .int .i64 x.f1] := ⟨[.int .i64 x.f0], [.int .i64 x.f1], rfl, rfl, rfl⟩
theorem k118_mkM (w : World) (base : Nat) (ok : Nat → Prop) (x : S118)  : k118.M w base ok x [.int .i64 x.f0, .int .i64 x.f1] := ⟨[.int .i64 x.f0], [.int .i64 x.f1], rfl, rfl, rfl⟩
def rd_T118 (xs : List S118) (i : Int) : S118 := xs.getD i.toNat z118
theorem at_T118 {w : World} {A : Option Addr} {n : Nat} {xs : List S118} (h : Kd.C k118 w A n xs) (i : Int) (h0 : 0 ≤ i) (h1 : i < n) : ∃ ad , A = some ad ∧ w.cell? (ad.add (i.toNat * 2)) = some (.int .i64 (rd_T118 xs i).f0) ∧ w.cell? ⟨(ad.add (i.toNat * 2)).block, (ad.add (i.toNat * 2)).off + 1, none⟩ = some (.int .i64 (rd_T118 xs i).f1) := by
  obtain ⟨ad, c, e, _, hK, hc0⟩ := Kd.C_get h z118 i h0 h1; have hc : ∀ j u, c[j]? = some u → w.cell? (ad.add (i.toNat * 2 + j)) = some u := hc0; obtain rfl := k118_open hK
  exact ⟨ad, e, hc 0 _ rfl, by rw [← add_field _ _ 1 (by omega)]; exact hc 1 _ rfl⟩

def rd_L3 (xs : List (List S118)) (i : Int) : (List S118) := xs.getD i.toNat ([] : List S118)
theorem at_L3 {w : World} {A : Option Addr} {n : Nat} {xs : List (List S118)} (h : Kd.C (Kd.slice 118 k118) w A n xs) (i : Int) (h0 : 0 ≤ i) (h1 : i < n) : ∃ ad A0 c0, A = some ad ∧ w.cell? (ad.add i.toNat) = some (.slice A0 (rd_L3 xs i).length c0) ∧ (rd_L3 xs i).length ≤ c0 ∧ k118.C w A0 (rd_L3 xs i).length (rd_L3 xs i) := by
  obtain ⟨ad, c, e, _, hK, hc0⟩ := Kd.C_get h ([] : List S118) i h0 h1; have hc : ∀ j u, c[j]? = some u → w.cell? (ad.add (i.toNat * 1 + j)) = some u := hc0; obtain ⟨A0, c0, rfl, l0, g0⟩ := hK
  exact ⟨ad, A0, c0, e, by have hq := hc 0 _ rfl; rwa [Nat.mul_one, Nat.add_zero] at hq, l0, g0⟩

/-! #### struct type 24 -/
structure S24 where
  f0 : Int
  f1 : Int
  f2 : Int
  f3 : ByteArray
  f4 : (List S118)
def z24 : S24 := ⟨(0 : Int), (0 : Int), (0 : Int), (⟨#[]⟩ : ByteArray), ([] : List S118)⟩
def k24 : Kd S24 := Kd.iso (Kd.pair (Kd.int .i64) (Kd.pair (Kd.int .i64) (Kd.pair (Kd.int .i64) (Kd.pair Kd.string (Kd.slice 118 k118))))) (fun x : S24 => (x.f0, x.f1, x.f2, x.f3, x.f4))
theorem k24_open {w : World} {x : S24} {cs : List Value} (h : k24.K w x cs) : ∃ A4 c4, cs = [.int .i64 x.f0, .int .i64 x.f1, .int .i64 x.f2, .string x.f3, .slice A4 x.f4.length c4] ∧ x.f4.length ≤ c4 ∧ k118.C w A4 x.f4.length x.f4 := by
  obtain ⟨_, _, rfl, rfl, ⟨_, _, rfl, rfl, ⟨_, _, rfl, rfl, ⟨_, _, rfl, rfl, ⟨A4, c4, rfl, l4, g4⟩⟩⟩⟩⟩ := h
  exact ⟨A4, c4, rfl, l4, g4⟩
theorem k24_openM {w : World} {base : Nat} {ok : Nat → Prop} {x : S24} {cs : List Value} (h : k24.M w base ok x cs) : ∃ v4, cs = [.int .i64 x.f0, .int .i64 x.f1, .int .i64 x.f2, .string x.f3, v4] ∧ k118.R 118 w base ok v4 x.f4 := by
  obtain ⟨_, _, rfl, rfl, ⟨_, _, rfl, rfl, ⟨_, _, rfl, rfl, ⟨_, _, rfl, rfl, ⟨v4, rfl, g4⟩⟩⟩⟩⟩ := h
  exact ⟨v4, rfl, g4⟩
theorem k24_mk (w : World) (x : S24) {A4 : Option Addr} {c4 : Nat} (l4 : x.f4.length ≤ c4) (g4 : k118.C w A4 x.f4.length x.f4) : k24.K w x [.int .i64 x.f0, .int .i64 x.f1, .int .i64 x.f2, .string x.f3, .slice A4 x.f4.length c4] := ⟨[.int .i64 x.f0], [.int .i64 x.f1, .int .i64 x.f2, .string x.f3, .slice A4 x.f4.length c4], rfl, rfl, ⟨[.int .i64 x.f1], [.int .i64 x.f2, .string x.f3, .slice A4 x.f4.length c4], rfl, rfl, ⟨[.int .i64 x.f2], [.string x.f3, .slice A4 x.f4.length c4], rfl, rfl, ⟨[.string x.f3], [.slice A4 x.f4.length c4], rfl, rfl, ⟨A4, c4, rfl, l4, g4⟩⟩⟩⟩⟩
theorem k24_mkM (w : World) (base : Nat) (ok : Nat → Prop) (x : S24) {v4 : Value} (g4 : k118.R 118 w base ok v4 x.f4) : k24.M w base ok x [.int .i64 x.f0, .int .i64 x.f1, .int .i64 x.f2, .string x.f3, v4] := ⟨[.int .i64 x.f0], [.int .i64 x.f1, .int .i64 x.f2, .string x.f3, v4], rfl, rfl, ⟨[.int .i64 x.f1], [.int .i64 x.f2, .string x.f3, v4], rfl, rfl, ⟨[.int .i64 x.f2], [.string x.f3, v4], rfl, rfl, ⟨[.string x.f3], [v4], rfl, rfl, ⟨v4, rfl, g4⟩⟩⟩⟩⟩
def rd_T24 (xs : List S24) (i : Int) : S24 := xs.getD i.toNat z24
theorem at_T24 {w : World} {A : Option Addr} {n : Nat} {xs : List S24} (h : Kd.C k24 w A n xs) (i : Int) (h0 : 0 ≤ i) (h1 : i < n) : ∃ ad A4 c4, A = some ad ∧ w.cell? (ad.add (i.toNat * 5)) = some (.int .i64 (rd_T24 xs i).f0) ∧ w.cell? ⟨(ad.add (i.toNat * 5)).block, (ad.add (i.toNat * 5)).off + 1, none⟩ = some (.int .i64 (rd_T24 xs i).f1) ∧ w.cell? ⟨(ad.add (i.toNat * 5)).block, (ad.add (i.toNat * 5)).off + 2, none⟩ = some (.int .i64 (rd_T24 xs i).f2) ∧ w.cell? ⟨(ad.add (i.toNat * 5)).block, (ad.add (i.toNat * 5)).off + 3, none⟩ = some (.string (rd_T24 xs i).f3) ∧ w.cell? ⟨(ad.add (i.toNat * 5)).block, (ad.add (i.toNat * 5)).off + 4, none⟩ = some (.slice A4 (rd_T24 xs i).f4.length c4) ∧ (rd_T24 xs i).f4.length ≤ c4 ∧ k118.C w A4 (rd_T24 xs i).f4.length (rd_T24 xs i).f4 := by
  obtain ⟨ad, c, e, _, hK, hc0⟩ := Kd.C_get h z24 i h0 h1; have hc : ∀ j u, c[j]? = some u → w.cell? (ad.add (i.toNat * 5 + j)) = some u := hc0; obtain ⟨A4, c4, rfl, l4, g4⟩ := k24_open hK
  exact ⟨ad, A4, c4, e, hc 0 _ rfl, by rw [← add_field _ _ 1 (by omega)]; exact hc 1 _ rfl, by rw [← add_field _ _ 2 (by omega)]; exact hc 2 _ rfl, by rw [← add_field _ _ 3 (by omega)]; exact hc 3 _ rfl, by rw [← add_field _ _ 4 (by omega)]; exact hc 4 _ rfl, l4, g4⟩

/-! #### struct type 82 -/
structure S82 where
  f0 : Int
  f1 : Int
def z82 : S82 := ⟨(0 : Int), (0 : Int)⟩
def k82 : Kd S82 := Kd.iso (Kd.pair (Kd.int .i64) (Kd.int .i64)) (fun x : S82 => (x.f0, x.f1))
theorem k82_open {w : World} {x : S82} {cs : List Value} (h : k82.K w x cs) : cs = [.int .i64 x.f0, .int .i64 x.f1] := by
  obtain ⟨_, _, rfl, rfl, rfl⟩ := h
  exact rfl
theorem k82_openM {w : World} {base : Nat} {ok : Nat → Prop} {x : S82} {cs : List Value} (h : k82.M w base ok x cs) : cs = [.int .i64 x.f0, .int .i64 x.f1] := by
  obtain ⟨_, _, rfl, rfl, rfl⟩ := h
  exact rfl
theorem k82_mk (w : World) (x : S82)  : k82.K w x [.int .i64 x.f0, .int .i64 x.f1] := ⟨[.int .i64 x.f0], [.int .i64 x.f1], rfl, rfl, rfl⟩
theorem k82_mkM (w : World) (base : Nat) (ok : Nat → Prop) (x : S82)  : k82.M w base ok x [.int .i64 x.f0, .int .i64 x.f1] := ⟨[.int .i64 x.f0], [.int .i64 x.f1], rfl, rfl, rfl⟩
def rd_T82 (xs : List S82) (i : Int) : S82 := xs.getD i.toNat z82
theorem at_T82 {w : World} {A : Option Addr} {n : Nat} {xs : List S82} (h : Kd.C k82 w A n xs) (i : Int) (h0 : 0 ≤ i) (h1 : i < n) : ∃ ad , A = some ad ∧ w.cell? (ad.add (i.toNat * 2)) = some (.int .i64 (rd_T82 xs i).f0) ∧ w.cell? ⟨(ad.add (i.toNat * 2)).block, (ad.add (i.toNat * 2)).off + 1, none⟩ = some (.int .i64 (rd_T82 xs i).f1) := by
  obtain ⟨ad, c, e, _, hK, hc0⟩ := Kd.C_get h z82 i h0 h1; have hc : ∀ j u, c[j]? = some u → w.cell? (ad.add (i.toNat * 2 + j)) = some u := hc0; obtain rfl := k82_open hK
  exact ⟨ad, e, hc 0 _ rfl, by rw [← add_field _ _ 1 (by omega)]; exact hc 1 _ rfl⟩

/-! #### struct type 85 -/
structure S85 where
  f0 : S82
  f1 : S82
def z85 : S85 := ⟨z82, z82⟩
def k85 : Kd S85 := Kd.iso (Kd.pair k82 k82) (fun x : S85 => (x.f0, x.f1))
theorem k85_open {w : World} {x : S85} {cs : List Value} (h : k85.K w x cs) : cs = [.int .i64 x.f0.f0, .int .i64 x.f0.f1, .int .i64 x.f1.f0, .int .i64 x.f1.f1] := by
  obtain ⟨_, _, rfl, s0, s2⟩ := h; obtain rfl := k82_open s0; obtain rfl := k82_open s2
  exact rfl
theorem k85_openM {w : World} {base : Nat} {ok : Nat → Prop} {x : S85} {cs : List Value} (h : k85.M w base ok x cs) : cs = [.int .i64 x.f0.f0, .int .i64 x.f0.f1, .int .i64 x.f1.f0, .int .i64 x.f1.f1] := by
  obtain ⟨_, _, rfl, s0, s2⟩ := h; obtain rfl := k82_openM s0; obtain rfl := k82_openM s2
  exact rfl
theorem k85_mk (w : World) (x : S85)  : k85.K w x [.int .i64 x.f0.f0, .int .i64 x.f0.f1, .int .i64 x.f1.f0, .int .i64 x.f1.f1] := ⟨[.int .i64 x.f0.f0, .int .i64 x.f0.f1], [.int .i64 x.f1.f0, .int .i64 x.f1.f1], rfl, (k82_mk w x.f0 ), (k82_mk w x.f1 )⟩
theorem k85_mkM (w : World) (base : Nat) (ok : Nat → Prop) (x : S85)  : k85.M w base ok x [.int .i64 x.f0.f0, .int .i64 x.f0.f1, .int .i64 x.f1.f0, .int .i64 x.f1.f1] := ⟨[.int .i64 x.f0.f0, .int .i64 x.f0.f1], [.int .i64 x.f1.f0, .int .i64 x.f1.f1], rfl, (k82_mkM w base ok x.f0 ), (k82_mkM w base ok x.f1 )⟩
def rd_T85 (xs : List S85) (i : Int) : S85 := xs.getD i.toNat z85
theorem at_T85 {w : World} {A : Option Addr} {n : Nat} {xs : List S85} (h : Kd.C k85 w A n xs) (i : Int) (h0 : 0 ≤ i) (h1 : i < n) : ∃ ad , A = some ad ∧ w.cell? (ad.add (i.toNat * 4)) = some (.int .i64 (rd_T85 xs i).f0.f0) ∧ w.cell? ⟨(ad.add (i.toNat * 4)).block, (ad.add (i.toNat * 4)).off + 1, none⟩ = some (.int .i64 (rd_T85 xs i).f0.f1) ∧ w.cell? ⟨(ad.add (i.toNat * 4)).block, (ad.add (i.toNat * 4)).off + 2, none⟩ = some (.int .i64 (rd_T85 xs i).f1.f0) ∧ w.cell? ⟨(ad.add (i.toNat * 4)).block, (ad.add (i.toNat * 4)).off + 3, none⟩ = some (.int .i64 (rd_T85 xs i).f1.f1) := by
  obtain ⟨ad, c, e, _, hK, hc0⟩ := Kd.C_get h z85 i h0 h1; have hc : ∀ j u, c[j]? = some u → w.cell? (ad.add (i.toNat * 4 + j)) = some u := hc0; obtain rfl := k85_open hK
  exact ⟨ad, e, hc 0 _ rfl, by rw [← add_field _ _ 1 (by omega)]; exact hc 1 _ rfl, by rw [← add_field _ _ 2 (by omega)]; exact hc 2 _ rfl, by rw [← add_field _ _ 3 (by omega)]; exact hc 3 _ rfl⟩

def rd_L7 (xs : List (List S82)) (i : Int) : (List S82) := xs.getD i.toNat ([] : List S82)
theorem at_L7 {w : World} {A : Option Addr} {n : Nat} {xs : List (List S82)} (h : Kd.C (Kd.slice 82 k82) w A n xs) (i : Int) (h0 : 0 ≤ i) (h1 : i < n) : ∃ ad A0 c0, A = some ad ∧ w.cell? (ad.add i.toNat) = some (.slice A0 (rd_L7 xs i).length c0) ∧ (rd_L7 xs i).length ≤ c0 ∧ k82.C w A0 (rd_L7 xs i).length (rd_L7 xs i) := by
  obtain ⟨ad, c, e, _, hK, hc0⟩ := Kd.C_get h ([] : List S82) i h0 h1; have hc : ∀ j u, c[j]? = some u → w.cell? (ad.add (i.toNat * 1 + j)) = some u := hc0; obtain ⟨A0, c0, rfl, l0, g0⟩ := hK
  exact ⟨ad, A0, c0, e, by have hq := hc 0 _ rfl; rwa [Nat.mul_one, Nat.add_zero] at hq, l0, g0⟩

/-! #### struct type 29 -/
structure S29 where
  f0 : Int
  f1 : Int
  f2 : Int
  f3 : ByteArray
  f4 : (List S82)
def z29 : S29 := ⟨(0 : Int), (0 : Int), (0 : Int), (⟨#[]⟩ : ByteArray), ([] : List S82)⟩
def k29 : Kd S29 := Kd.iso (Kd.pair (Kd.int .i64) (Kd.pair (Kd.int .i64) (Kd.pair (Kd.int .i64) (Kd.pair Kd.string (Kd.slice 82 k82))))) (fun x : S29 => (x.f0, x.f1, x.f2, x.f3, x.f4))
theorem k29_open {w : World} {x : S29} {cs : List Value} (h : k29.K w x cs) : ∃ A4 c4, cs = [.int .i64 x.f0, .int .i64 x.f1, .int .i64 x.f2, .string x.f3, .slice A4 x.f4.length c4] ∧ x.f4.length ≤ c4 ∧ k82.C w A4 x.f4.length x.f4 := by
  obtain ⟨_, _, rfl, rfl, ⟨_, _, rfl, rfl, ⟨_, _, rfl, rfl, ⟨_, _, rfl, rfl, ⟨A4, c4, rfl, l4, g4⟩⟩⟩⟩⟩ := h
  exact ⟨A4, c4, rfl, l4, g4⟩
theorem k29_openM {w : World} {base : Nat} {ok : Nat → Prop} {x : S29} {cs : List Value} (h : k29.M w base ok x cs) : ∃ v4, cs = [.int .i64 x.f0, .int .i64 x.f1, .int .i64 x.f2, .string x.f3, v4] ∧ k82.R 82 w base ok v4 x.f4 := by
  obtain ⟨_, _, rfl, rfl, ⟨_, _, rfl, rfl, ⟨_, _, rfl, rfl, ⟨_, _, rfl, rfl, ⟨v4, rfl, g4⟩⟩⟩⟩⟩ := h
  exact ⟨v4, rfl, g4⟩
theorem k29_mk (w : World) (x : S29) {A4 : Option Addr} {c4 : Nat} (l4 : x.f4.length ≤ c4) (g4 : k82.C w A4 x.f4.length x.f4) : k29.K w x [.int .i64 x.f0, .int .i64 x.f1, .int .i64 x.f2, .string x.f3, .slice A4 x.f4.length c4] := ⟨[.int .i64 x.f0], [.int .i64 x.f1, .int .i64 x.f2, .string x.f3, .slice A4 x.f4.length c4], rfl, rfl, ⟨[.int .i64 x.f1], [.int .i64 x.f2, .string x.f3, .slice A4 x.f4.length c4], rfl, rfl, ⟨[.int .i64 x.f2], [.string x.f3, .slice A4 x.f4.length c4], rfl, rfl, ⟨[.string x.f3], [.slice A4 x.f4.length c4], rfl, rfl, ⟨A4, c4, rfl, l4, g4⟩⟩⟩⟩⟩
theorem k29_mkM (w : World) (base : Nat) (ok : Nat → Prop) (x : S29) {v4 : Value} (g4 : k82.R 82 w base ok v4 x.f4) : k29.M w base ok x [.int .i64 x.f0, .int .i64 x.f1, .int .i64 x.f2, .string x.f3, v4] := ⟨[.int .i64 x.f0], [.int .i64 x.f1, .int .i64 x.f2, .string x.f3, v4], rfl, rfl, ⟨[.int .i64 x.f1], [.int .i64 x.f2, .string x.f3, v4], rfl, rfl, ⟨[.int .i64 x.f2], [.string x.f3, v4], rfl, rfl, ⟨[.string x.f3], [v4], rfl, rfl, ⟨v4, rfl, g4⟩⟩⟩⟩⟩
def rd_T29 (xs : List S29) (i : Int) : S29 := xs.getD i.toNat z29
theorem at_T29 {w : World} {A : Option Addr} {n : Nat} {xs : List S29} (h : Kd.C k29 w A n xs) (i : Int) (h0 : 0 ≤ i) (h1 : i < n) : ∃ ad A4 c4, A = some ad ∧ w.cell? (ad.add (i.toNat * 5)) = some (.int .i64 (rd_T29 xs i).f0) ∧ w.cell? ⟨(ad.add (i.toNat * 5)).block, (ad.add (i.toNat * 5)).off + 1, none⟩ = some (.int .i64 (rd_T29 xs i).f1) ∧ w.cell? ⟨(ad.add (i.toNat * 5)).block, (ad.add (i.toNat * 5)).off + 2, none⟩ = some (.int .i64 (rd_T29 xs i).f2) ∧ w.cell? ⟨(ad.add (i.toNat * 5)).block, (ad.add (i.toNat * 5)).off + 3, none⟩ = some (.string (rd_T29 xs i).f3) ∧ w.cell? ⟨(ad.add (i.toNat * 5)).block, (ad.add (i.toNat * 5)).off + 4, none⟩ = some (.slice A4 (rd_T29 xs i).f4.length c4) ∧ (rd_T29 xs i).f4.length ≤ c4 ∧ k82.C w A4 (rd_T29 xs i).f4.length (rd_T29 xs i).f4 := by
  obtain ⟨ad, c, e, _, hK, hc0⟩ := Kd.C_get h z29 i h0 h1; have hc : ∀ j u, c[j]? = some u → w.cell? (ad.add (i.toNat * 5 + j)) = some u := hc0; obtain ⟨A4, c4, rfl, l4, g4⟩ := k29_open hK
  exact ⟨ad, A4, c4, e, hc 0 _ rfl, by rw [← add_field _ _ 1 (by omega)]; exact hc 1 _ rfl, by rw [← add_field _ _ 2 (by omega)]; exact hc 2 _ rfl, by rw [← add_field _ _ 3 (by omega)]; exact hc 3 _ rfl, by rw [← add_field _ _ 4 (by omega)]; exact hc 4 _ rfl, l4, g4⟩

/-! #### struct type 93 -/
structure S93 where
  f0 : Int
  f1 : S82
  f2 : Int
def z93 : S93 := ⟨(0 : Int), z82, (0 : Int)⟩
def k93 : Kd S93 := Kd.iso (Kd.pair (Kd.int .i64) (Kd.pair k82 (Kd.int .i64))) (fun x : S93 => (x.f0, x.f1, x.f2))
theorem k93_open {w : World} {x : S93} {cs : List Value} (h : k93.K w x cs) : cs = [.int .i64 x.f0, .int .i64 x.f1.f0, .int .i64 x.f1.f1, .int .i64 x.f2] := by
  obtain ⟨_, _, rfl, rfl, ⟨_, _, rfl, s1, rfl⟩⟩ := h; obtain rfl := k82_open s1
  exact rfl
theorem k93_openM {w : World} {base : Nat} {ok : Nat → Prop} {x : S93} {cs : List Value} (h : k93.M w base ok x cs) : cs = [.int .i64 x.f0, .int .i64 x.f1.f0, .int .i64 x.f1.f1, .int .i64 x.f2] := by
  obtain ⟨_, _, rfl, rfl, ⟨_, _, rfl, s1, rfl⟩⟩ := h; obtain rfl := k82_openM s1
  exact rfl
theorem k93_mk (w : World) (x : S93)  : k93.K w x [.int .i64 x.f0, .int .i64 x.f1.f0, .int .i64 x.f1.f1, .int .i64 x.f2] := ⟨[.int .i64 x.f0], [.int .i64 x.f1.f0, .int .i64 x.f1.f1, .int .i64 x.f2], rfl, rfl, ⟨[.int .i64 x.f1.f0, .int .i64 x.f1.f1], [.int .i64 x.f2], rfl, (k82_mk w x.f1 ), rfl⟩⟩
theorem k93_mkM (w : World) (base : Nat) (ok : Nat → Prop) (x : S93)  : k93.M w base ok x [.int .i64 x.f0, .int .i64 x.f1.f0, .int .i64 x.f1.f1, .int .i64 x.f2] := ⟨[.int .i64 x.f0], [.int .i64 x.f1.f0, .int .i64 x.f1.f1, .int .i64 x.f2], rfl, rfl, ⟨[.int .i64 x.f1.f0, .int .i64 x.f1.f1], [.int .i64 x.f2], rfl, (k82_mkM w base ok x.f1 ), rfl⟩⟩
def rd_T93 (xs : List S93) (i : Int) : S93 := xs.getD i.toNat z93
theorem at_T93 {w : World} {A : Option Addr} {n : Nat} {xs : List S93} (h : Kd.C k93 w A n xs) (i : Int) (h0 : 0 ≤ i) (h1 : i < n) : ∃ ad , A = some ad ∧ w.cell? (ad.add (i.toNat * 4)) = some (.int .i64 (rd_T93 xs i).f0) ∧ w.cell? ⟨(ad.add (i.toNat * 4)).block, (ad.add (i.toNat * 4)).off + 1, none⟩ = some (.int .i64 (rd_T93 xs i).f1.f0) ∧ w.cell? ⟨(ad.add (i.toNat * 4)).block, (ad.add (i.toNat * 4)).off + 2, none⟩ = some (.int .i64 (rd_T93 xs i).f1.f1) ∧ w.cell? ⟨(ad.add (i.toNat * 4)).block, (ad.add (i.toNat * 4)).off + 3, none⟩ = some (.int .i64 (rd_T93 xs i).f2) := by
  obtain ⟨ad, c, e, _, hK, hc0⟩ := Kd.C_get h z93 i h0 h1; have hc : ∀ j u, c[j]? = some u → w.cell? (ad.add (i.toNat * 4 + j)) = some u := hc0; obtain rfl := k93_open hK
  exact ⟨ad, e, hc 0 _ rfl, by rw [← add_field _ _ 1 (by omega)]; exact hc 1 _ rfl, by rw [← add_field _ _ 2 (by omega)]; exact hc 2 _ rfl, by rw [← add_field _ _ 3 (by omega)]; exact hc 3 _ rfl⟩

attribute [local go_sem] max2_int min2_int max_two min_two max_three min_three max_four min_four   -- for this text's walks alone
set_option linter.unusedVariables false
set_option linter.unusedSimpArgs false

theorem eqA82 (d : Nat) (w : World) (x0 y0 : Int) (x1 y1 : Int) :
    (Op.equalIn (d + 2) 82 (.agg #[.int .i64 x0, .int .i64 x1]) (.agg #[.int .i64 y0, .int .i64 y1])).run Try.prog w = .ok (x0 == y0 && (x1 == y1)) w := by
  refine eqA_of Try.underlying82 (by kernel_rfl) ?_; refine eqf_cons (by rfl) (by go_simp; rfl) (by go_simp; rfl) (by go_simp) ?_
  exact eqf_last (by rfl) (by go_simp; rfl) (by go_simp; rfl) (by go_simp)
attribute [local go_sem] max2_int min2_int max_two min_two max_three min_three max_four min_four   -- for this text's walks alone
set_option linter.unusedVariables false
set_option linter.unusedSimpArgs false

/-! ### laws_szPointS: function 61 -/
def laws_szPointS.f (l0 : List (S118)) (a1 : Int) : Option (Int) := if (wrap64 (a1 - (l0.length : Int))) < 0 then (some (-1)) else (some (wrap64 (a1 - (l0.length : Int))))
/-! ### laws_szFeature: function 15 -/
def laws_szFeature.f (a0_0 : Int) (a0_1 : Int) (a0_2 : Int) (a0_3 : ByteArray) (l0_4 : List (S118)) (a1 : Int) : Option (Int) := if (wrap64 (a1 - (a0_3.size : Int))) < 0 then (some (-1)) else ((laws_szPointS.f l0_4 (wrap64 (a1 - (a0_3.size : Int)))).bind fun t102 => (if t102 < 0 then (some (-1)) else (some t102)))
/-! ### laws_szFeatureS: function 26 -/
def laws_szFeatureS.l0 : Nat → List (S24) → Int → Int → Option (Int)
 | 0, _, _, _ => none
 | k + 1, x0, x1, x5 => if x5 < (x0.length : Int) then (if 0 ≤ x5 then ((laws_szFeature.f ((rd_T24 x0 x5).f0) ((rd_T24 x0 x5).f1) ((rd_T24 x0 x5).f2) ((rd_T24 x0 x5).f3) ((rd_T24 x0 x5).f4) x1).bind fun t104 => (if t104 < 0 then (some (-1)) else (laws_szFeatureS.l0 k x0 t104 (wrap64 (x5 + 1))))) else (none)) else (some x1)
def laws_szFeatureS.f (k : Nat) (l0 : List (S24)) (a1 : Int) : Option (Int) := if (wrap64 (a1 - (l0.length : Int))) < 0 then (some (-1)) else (laws_szFeatureS.l0 k l0 (wrap64 (a1 - (l0.length : Int))) 0)
/-! ### spec_l1In: function 71 -/
def spec_l1In.f (a0 : Int) (a1 : Int) (a2 : Int) : Option (Bool) := some (inR a0 a1 a2)
/-! ### spec_Max: function 108 -/
def spec_Max.f (a0 : Int) (a1 : Int) : Option (Int) := some (mx a0 a1)
/-! ### spec_Min: function 140 -/
def spec_Min.f (a0 : Int) (a1 : Int) : Option (Int) := some (mn a0 a1)
/-- A state of type 82 at block g of W; what its slices lead to came in by w0. -/
def IsS82 (w0 W : World) (g : Nat) (f0 : Int) (f1 : Int) : Prop := W.heap[g]? = some (.cells #[.int .i64 f0, .int .i64 f1] 82 (0, 0)) ∧ w0.heap.size ≤ g
theorem cellS82_0 {W : World} {g : Nat} {f0 : Int} {f1 : Int} (h : W.heap[g]? = some (.cells #[.int .i64 f0, .int .i64 f1] 82 (0, 0))) : W.cell? ⟨g, 0, none⟩ = some (.int .i64 f0) := (blk_cell h 0).trans rfl
theorem cellS82_1 {W : World} {g : Nat} {f0 : Int} {f1 : Int} (h : W.heap[g]? = some (.cells #[.int .i64 f0, .int .i64 f1] 82 (0, 0))) : W.cell? ⟨g, 1, none⟩ = some (.int .i64 f1) := (blk_cell h 1).trans rfl
/-! ### spec_IsPoint: function 117 -/
def spec_IsPoint.f (a0_0 : Int) (a0_1 : Int) : Option (Bool) := some (isPt a0_0 a0_1)
/-- A state of type 85 at block g of W; what its slices lead to came in by w0. -/
def IsS85 (w0 W : World) (g : Nat) (f0 : Int) (f1 : Int) (f2 : Int) (f3 : Int) : Prop := W.heap[g]? = some (.cells #[.int .i64 f0, .int .i64 f1, .int .i64 f2, .int .i64 f3] 85 (0, 0)) ∧ w0.heap.size ≤ g
theorem cellS85_0 {W : World} {g : Nat} {f0 : Int} {f1 : Int} {f2 : Int} {f3 : Int} (h : W.heap[g]? = some (.cells #[.int .i64 f0, .int .i64 f1, .int .i64 f2, .int .i64 f3] 85 (0, 0))) : W.cell? ⟨g, 0, none⟩ = some (.int .i64 f0) := (blk_cell h 0).trans rfl
theorem cellS85_1 {W : World} {g : Nat} {f0 : Int} {f1 : Int} {f2 : Int} {f3 : Int} (h : W.heap[g]? = some (.cells #[.int .i64 f0, .int .i64 f1, .int .i64 f2, .int .i64 f3] 85 (0, 0))) : W.cell? ⟨g, 1, none⟩ = some (.int .i64 f1) := (blk_cell h 1).trans rfl
theorem cellS85_2 {W : World} {g : Nat} {f0 : Int} {f1 : Int} {f2 : Int} {f3 : Int} (h : W.heap[g]? = some (.cells #[.int .i64 f0, .int .i64 f1, .int .i64 f2, .int .i64 f3] 85 (0, 0))) : W.cell? ⟨g, 2, none⟩ = some (.int .i64 f2) := (blk_cell h 2).trans rfl
theorem cellS85_3 {W : World} {g : Nat} {f0 : Int} {f1 : Int} {f2 : Int} {f3 : Int} (h : W.heap[g]? = some (.cells #[.int .i64 f0, .int .i64 f1, .int .i64 f2, .int .i64 f3] 85 (0, 0))) : W.cell? ⟨g, 3, none⟩ = some (.int .i64 f3) := (blk_cell h 3).trans rfl
/-! ### spec_IsSegment: function 148 -/
def spec_IsSegment.f (a0_0 : Int) (a0_1 : Int) (a0_2 : Int) (a0_3 : Int) : Option (Bool) := some (isSeg a0_0 a0_1 a0_2 a0_3)
/-! ### spec_l4Cross: function 107 -/
def spec_l4Cross.f (a0_0 : Int) (a0_1 : Int) (a1_0 : Int) (a1_1 : Int) (a2_0 : Int) (a2_1 : Int) : Option (Int) := some (crossI a0_0 a0_1 a1_0 a1_1 a2_0 a2_1)
/-! ### spec_SideOf: function 164 -/
def spec_SideOf.f (a0_0 : Int) (a0_1 : Int) (a1_0 : Int) (a1_1 : Int) (a2_0 : Int) (a2_1 : Int) : Option (Int) := some (sideI a0_0 a0_1 a1_0 a1_1 a2_0 a2_1)
/-! ### spec_IsOn: function 173 -/
def spec_IsOn.f (a0_0 : Int) (a0_1 : Int) (a0_2 : Int) (a0_3 : Int) (a1_0 : Int) (a1_1 : Int) : Option (Bool) := some (isOnI a0_0 a0_1 a0_2 a0_3 a1_0 a1_1)
attribute [local go_sem] max2_int min2_int max_two min_two max_three min_three max_four min_four   -- for this text's walks alone
set_option linter.unusedVariables false
set_option linter.unusedSimpArgs false

attribute [local go_sem high] eqA82
/-! ### spec_l5Shared: function 168 -/
mutual
def spec_l5Shared.l0 : Nat → List (S82) → List (S82) → Int → Int → Int → Int → Int → Int → Int → Int → Int → Option (Int)
 | 0, _, _, _, _, _, _, _, _, _, _, _ => none
 | k + 1, x5, x6, x7, x106000, x106001, x106002, x106003, x107000, x107001, x107002, x107003 => if x7 < 4 then (if x7 < 2 then (if 0 ≤ x7 then (if x7 < (x6.length : Int) then ((spec_IsOn.f x107000 x107001 x107002 x107003 ((rd_T82 x6 x7).f0) ((rd_T82 x6 x7).f1)).bind fun t114 => (if t114 = true then (spec_l5Shared.j1 k x5 x6 x7 true x106000 x106001 x106002 x106003 x107000 x107001 x107002 x107003) else (if x7 ≥ 2 then ((spec_IsOn.f x106000 x106001 x106002 x106003 ((rd_T82 x6 x7).f0) ((rd_T82 x6 x7).f1)).bind fun t116 => (spec_l5Shared.j1 k x5 x6 x7 t116 x106000 x106001 x106002 x106003 x107000 x107001 x107002 x107003)) else (spec_l5Shared.j1 k x5 x6 x7 false x106000 x106001 x106002 x106003 x107000 x107001 x107002 x107003)))) else (none)) else (none)) else (if x7 ≥ 2 then (if 0 ≤ x7 then (if x7 < (x6.length : Int) then ((spec_IsOn.f x106000 x106001 x106002 x106003 ((rd_T82 x6 x7).f0) ((rd_T82 x6 x7).f1)).bind fun t118 => (spec_l5Shared.j1 k x5 x6 x7 t118 x106000 x106001 x106002 x106003 x107000 x107001 x107002 x107003)) else (none)) else (none)) else (spec_l5Shared.j1 k x5 x6 x7 false x106000 x106001 x106002 x106003 x107000 x107001 x107002 x107003))) else (some (x5.length : Int))
def spec_l5Shared.j1 : Nat → List (S82) → List (S82) → Int → Bool → Int → Int → Int → Int → Int → Int → Int → Int → Option (Int)
 | 0, _, _, _, _, _, _, _, _, _, _, _, _ => none
 | k + 1, x5, x6, x7, x8, x106000, x106001, x106002, x106003, x107000, x107001, x107002, x107003 => spec_l5Shared.l1 k x5 x6 x7 x8 0 x106000 x106001 x106002 x106003 x107000 x107001 x107002 x107003
def spec_l5Shared.l1 : Nat → List (S82) → List (S82) → Int → Bool → Int → Int → Int → Int → Int → Int → Int → Int → Int → Option (Int)
 | 0, _, _, _, _, _, _, _, _, _, _, _, _, _ => none
 | k + 1, x5, x6, x7, x8, x9, x106000, x106001, x106002, x106003, x107000, x107001, x107002, x107003 => if x9 < (x5.length : Int) then (if x8 = true then (if 0 ≤ x9 then (if 0 ≤ x7 then (if x7 < (x6.length : Int) then (spec_l5Shared.l1 k x5 x6 x7 (!(((rd_T82 x5 x9).f0) == ((rd_T82 x6 x7).f0)) || (!(((rd_T82 x5 x9).f1) == ((rd_T82 x6 x7).f1)))) (wrap64 (x9 + 1)) x106000 x106001 x106002 x106003 x107000 x107001 x107002 x107003) else (none)) else (none)) else (none)) else (spec_l5Shared.l1 k x5 x6 x7 false (wrap64 (x9 + 1)) x106000 x106001 x106002 x106003 x107000 x107001 x107002 x107003)) else (if x8 = true then (if 0 ≤ x7 then (if x7 < (x6.length : Int) then (if x5.length < 8796093022208 then (spec_l5Shared.l0 k (x5 ++ [(⟨(rd_T82 x6 x7).f0, (rd_T82 x6 x7).f1⟩ : S82)]) x6 (wrap64 (x7 + 1)) x106000 x106001 x106002 x106003 x107000 x107001 x107002 x107003) else (none)) else (none)) else (none)) else (spec_l5Shared.l0 k x5 x6 (wrap64 (x7 + 1)) x106000 x106001 x106002 x106003 x107000 x107001 x107002 x107003))
end
def spec_l5Shared.f (k : Nat) (a0_0 : Int) (a0_1 : Int) (a0_2 : Int) (a0_3 : Int) (a1_0 : Int) (a1_1 : Int) (a1_2 : Int) (a1_3 : Int) : Option (Int) := spec_l5Shared.l0 k (([] : List (S82))) (([(⟨a0_0, a0_1⟩ : S82), (⟨a0_2, a0_3⟩ : S82), (⟨a1_0, a1_1⟩ : S82), (⟨a1_2, a1_3⟩ : S82)] : List (S82))) 0 a0_0 a0_1 a0_2 a0_3 a1_0 a1_1 a1_2 a1_3
attribute [local go_sem] max2_int min2_int max_two min_two max_three min_three max_four min_four   -- for this text's walks alone
set_option linter.unusedVariables false
set_option linter.unusedSimpArgs false

/-! ### spec_HowMeet: function 145 -/
theorem on_s (a b c d x y : Int) : spec_IsOn.f a b c d x y = some (isOnI a b c d x y) := rfl
def eqP (p q : S82) : Bool := decide (p.f0 = q.f0) && decide (p.f1 = q.f1)
theorem nep (p q : S82) : (!((p.f0) == (q.f0)) || (!((p.f1) == (q.f1)))) = !eqP p q := by
  unfold eqP
  by_cases h : p.f0 = q.f0 <;> by_cases h' : p.f1 = q.f1 <;> simp [h, h']
theorem rdPt (l : List S82) (i : Nat) (h : i < l.length) : rd_T82 l (i : Int) = l[i] := by
  unfold rd_T82
  rw [Int.toNat_natCast, List.getD_eq_getElem?_getD, List.getElem?_eq_getElem h]
  rfl
theorem w1' (i : Nat) (h : i < 9223372036854775807) : wrap64 ((i : Int) + 1) = ((i + 1 : Nat) : Int) := by unfold wrap64; omega
theorem all_if (x : Bool) (L : List S82) (y : S82) (q : S82 → Bool) : (if x = true then L ++ [y] else L).all q = (L.all q && (!x || q y)) := by cases x <;> simp
theorem len_if (x : Bool) (L : List S82) (y : S82) : (if x = true then L ++ [y] else L).length = L.length + (if x = true then 1 else 0) := by cases x <;> simp
section
variable (a b c d e f g h : Int)
theorem sh_l1 (xs es : List S82) (i : Nat) (hi : i < es.length) (hes : es.length ≤ 4) (hx : xs.length ≤ 4) (m : Nat) : ∀ (j : Nat) (on : Bool), j + m = xs.length → ∀ r,
    Ev (fun k => spec_l5Shared.l0 k (if on && (xs.drop j).all (fun p => !eqP p es[i]) then xs ++ [es[i]] else xs) es ((i + 1 : Nat) : Int) a b c d e f g h) r → Ev (fun k => spec_l5Shared.l1 k xs es (i : Int) on (j : Int) a b c d e f g h) r := by
  induction m with
  | zero =>
    intro j on hj r hr; rw [List.drop_of_length_le (by omega)] at hr; refine Ev.step (fun k => ?_) hr; simp only [spec_l5Shared.l1]; rw [if_neg (by omega)]; simp only [List.all_nil, Bool.and_true]
    cases on
    · simp only [Bool.false_eq_true, if_false, w1' i (by omega)]
    · simp only [if_true]; rw [if_pos (by omega), if_pos (by omega), if_pos (by omega), w1' i (by omega), rdPt es i hi]
  | succ m ih =>
    intro j on hj r hr; have hj1 : j < xs.length := by omega
    have hd := List.drop_eq_getElem_cons hj1; rw [hd, List.all_cons] at hr; refine Ev.step (fun k => ?_) (ih (j + 1) (on && !eqP xs[j] es[i]) (by omega) r (by rw [Bool.and_assoc]; exact hr)); simp only [spec_l5Shared.l1]; rw [if_pos (by omega)]
    cases on
    · simp only [Bool.false_eq_true, if_false, w1' j (by omega), Bool.false_and]
    · simp only [if_true]; rw [if_pos (by omega), if_pos (by omega), if_pos (by omega), w1' j (by omega), rdPt es i hi, rdPt xs j hj1, nep, Bool.true_and]
/-- Which segment an end is held against. -/
def onI (i : Nat) (p : S82) : Bool := if i < 2 then isOnI e f g h p.f0 p.f1 else isOnI a b c d p.f0 p.f1
theorem sh_l0 (xs es : List S82) (i : Nat) (hi : i < es.length) (hes : es.length = 4) (hx : xs.length ≤ 4) (r : Int)
    (hr : Ev (fun k => spec_l5Shared.l0 k (if onI a b c d e f g h i es[i] && xs.all (fun p => !eqP p es[i]) then xs ++ [es[i]] else xs) es ((i + 1 : Nat) : Int) a b c d e f g h) r) : Ev (fun k => spec_l5Shared.l0 k xs es (i : Int) a b c d e f g h) r := by
  have go : ∀ on : Bool, on = onI a b c d e f g h i es[i] → Ev (fun k => spec_l5Shared.j1 k xs es (i : Int) on a b c d e f g h) r := by
    intro on hon; refine Ev.step (f := fun k => spec_l5Shared.l1 k xs es (i : Int) on ((0 : Nat) : Int) a b c d e f g h) (fun k => by rw [spec_l5Shared.j1]; rfl) (sh_l1 a b c d e f g h xs es i hi (by omega) hx xs.length 0 on (by omega) r ?_); rw [hon, List.drop_zero]
    exact hr
  have step : ∀ k, spec_l5Shared.l0 (k + 1) xs es (i : Int) a b c d e f g h = spec_l5Shared.j1 k xs es (i : Int) (onI a b c d e f g h i es[i]) a b c d e f g h := by
    intro k; simp only [spec_l5Shared.l0]; rw [if_pos (by omega)]
    by_cases h2 : i < 2
    · rw [if_pos (by omega), if_pos (by omega), if_pos (by omega), rdPt es i hi, on_s, onI, if_pos h2]; simp only [Option.bind_some]
      cases isOnI e f g h es[i].f0 es[i].f1
      · rw [if_neg (by simp), if_neg (by omega)]
      · rw [if_pos rfl]
    · rw [if_neg (by omega), if_pos (by omega), if_pos (by omega), if_pos (by omega), rdPt es i hi, on_s, onI, if_neg h2]; simp only [Option.bind_some]
  exact Ev.step step (go _ rfl)
theorem share_s : Ev (fun k => spec_l5Shared.f k a b c d e f g h) (shareI a b c d e f g h) := by
  unfold spec_l5Shared.f
  generalize hes : ([(⟨a, b⟩ : S82), ⟨c, d⟩, ⟨e, f⟩, ⟨g, h⟩] : List S82) = es; have h4 : es.length = 4 := by subst hes; rfl
  have e0 : es[0]'(by omega) = ⟨a, b⟩ := by subst hes; rfl
  have e1 : es[1]'(by omega) = ⟨c, d⟩ := by subst hes; rfl
  have e2 : es[2]'(by omega) = ⟨e, f⟩ := by subst hes; rfl
  have e3 : es[3]'(by omega) = ⟨g, h⟩ := by subst hes; rfl
  refine sh_l0 a b c d e f g h [] es 0 (by omega) h4 (by simp) _ ?_; refine sh_l0 a b c d e f g h _ es 1 (by omega) h4 (by split <;> simp) _ ?_; refine sh_l0 a b c d e f g h _ es 2 (by omega) h4 (by split <;> split <;> simp) _ ?_; refine sh_l0 a b c d e f g h _ es 3 (by omega) h4 (by split <;> split <;> split <;> simp) _ ?_; rw [e0, e1, e2, e3]; have q0 : onI a b c d e f g h 0 ⟨a, b⟩ = isOnI e f g h a b := rfl; have q1 : onI a b c d e f g h 1 ⟨c, d⟩ = isOnI e f g h c d := rfl; have q2 : onI a b c d e f g h 2 ⟨e, f⟩ = isOnI a b c d e f := rfl; have q3 : onI a b c d e f g h 3 ⟨g, h⟩ = isOnI a b c d g h := rfl; rw [q0, q1, q2, q3]
  unfold shareI
  generalize isOnI e f g h a b = o0; generalize isOnI e f g h c d = o1; generalize isOnI a b c d e f = o2; generalize isOnI a b c d g h = o3; refine Ev.step (f := fun _ => some _) (fun k => ?_) (Ev.now _); simp only [spec_l5Shared.l0]; rw [if_neg (by omega)]
  congr 1
  have E : ∀ x y x' y' : Int, eqP ⟨x, y⟩ ⟨x', y'⟩ = (decide (x = x') && decide (y = y')) := fun _ _ _ _ => rfl
  generalize hA : (decide (a = c) && decide (b = d)) = eab; generalize hB : (decide (a = e) && decide (b = f)) = eac; generalize hC : (decide (c = e) && decide (d = f)) = ebc; generalize hD : (decide (a = g) && decide (b = h)) = ead; generalize hE : (decide (c = g) && decide (d = h)) = ebd; generalize hF : (decide (e = g) && decide (f = h)) = ecd; simp only [all_if, len_if, List.all_nil, List.length_nil, E, hA, hB, hC, hD, hE, hF]; have n1 : (o1 && (true && (!(o0 && true) || !eab))) = (o1 && !(o0 && eab)) := by cases o0 <;> cases eab <;> rfl
  rw [n1]; generalize (o1 && !(o0 && eab)) = p1; have n2 : (o2 && (true && (!(o0 && true) || !eac) && (!p1 || !ebc))) = (o2 && !(o0 && eac) && !(p1 && ebc)) := by cases o0 <;> cases eac <;> cases p1 <;> cases ebc <;> cases o2 <;> rfl
  rw [n2]; generalize (o2 && !(o0 && eac) && !(p1 && ebc)) = p2; have n3 : (o3 && (true && (!(o0 && true) || !ead) && (!p1 || !ebd) && (!p2 || !ecd))) = (o3 && !(o0 && ead) && !(p1 && ebd) && !(p2 && ecd)) := by cases o0 <;> cases ead <;> cases p1 <;> cases ebd <;> cases p2 <;> cases ecd <;> cases o3 <;> rfl
  rw [n3]; generalize (o3 && !(o0 && ead) && !(p1 && ebd) && !(p2 && ecd)) = p3
  cases o0 <;> cases p1 <;> cases p2 <;> cases p3 <;> rfl
end
theorem wrap_sd (x y : Int) (hx : -1 ≤ x ∧ x ≤ 1) (hy : -1 ≤ y ∧ y ≤ 1) : wrap64 (x * y) = x * y := by
  have : x = -1 ∨ x = 0 ∨ x = 1 := by omega
  rcases this with rfl | rfl | rfl <;> unfold wrap64 <;> omega
theorem sd_bd (a b c d e f : Int) : -1 ≤ sideI a b c d e f ∧ sideI a b c d e f ≤ 1 := by
  unfold sideI cmpI; (repeat' split) <;> omega
theorem wrap_three (x y : Int) (hx : -1 ≤ x ∧ x ≤ 1) (hy : -1 ≤ y ∧ y ≤ 1) : IntKind.i64.wrap (x * y) = x * y ∧ (IntKind.i64.wrap (x * y) = -1 ∨ IntKind.i64.wrap (x * y) = 0 ∨ IntKind.i64.wrap (x * y) = 1) := by
  rw [i64_w, wrap_sd x y hx hy]; refine ⟨rfl, ?_⟩; have h1 : x = -1 ∨ x = 0 ∨ x = 1 := by omega
  rcases h1 with rfl | rfl | rfl <;> omega
def spec_HowMeet.f (a0_0 a0_1 a0_2 a0_3 a1_0 a1_1 a1_2 a1_3 : Int) : Option (Int) := some (howS a0_0 a0_1 a0_2 a0_3 a1_0 a1_1 a1_2 a1_3)
/-! ### spec_l7Segments: function 147 -/
def spec_l7Segments.l0 : Nat → List (S82) → List (S85) → Int → Option ((List (S85)))
 | 0, _, _, _ => none
 | k + 1, x0, x3, x4 => if x4 < (x0.length : Int) then (if 0 ≤ x4 then (if (x0.length : Int) = 0 then (none) else (if 0 ≤ (Int.tmod (wrap64 (x4 + 1)) (x0.length : Int)) then (if (Int.tmod (wrap64 (x4 + 1)) (x0.length : Int)) < (x0.length : Int) then (if x3.length < 4398046511104 then (spec_l7Segments.l0 k x0 (x3 ++ [(⟨(⟨(rd_T82 x0 x4).f0, (rd_T82 x0 x4).f1⟩ : S82), (⟨(rd_T82 x0 (Int.tmod (wrap64 (x4 + 1)) (x0.length : Int))).f0, (rd_T82 x0 (Int.tmod (wrap64 (x4 + 1)) (x0.length : Int))).f1⟩ : S82)⟩ : S85)]) (wrap64 (x4 + 1))) else (none)) else (none)) else (none))) else (none)) else (some x3)
def spec_l7Segments.f (k : Nat) (l0 : List (S82)) : Option ((List (S85))) := spec_l7Segments.l0 k l0 (([] : List (S85))) 0
attribute [local go_sem] max2_int min2_int max_two min_two max_three min_three max_four min_four   -- for this text's walks alone
set_option linter.unusedVariables false
set_option linter.unusedSimpArgs false

/-! ### spec_IsRing: function 109 -/
mutual
def spec_IsRing.l0 : Nat → List (S85) → Int → Option (Bool)
 | 0, _, _ => none
 | k + 1, x3, x4 => if x4 < (x3.length : Int) then (if 0 ≤ x4 then ((spec_IsSegment.f ((rd_T85 x3 x4).f0.f0) ((rd_T85 x3 x4).f0.f1) ((rd_T85 x3 x4).f1.f0) ((rd_T85 x3 x4).f1.f1)).bind fun t138 => (if t138 = true then (spec_IsRing.l1 k x3 x4 0) else (some false))) else (none)) else (some true)
def spec_IsRing.l1 : Nat → List (S85) → Int → Int → Option (Bool)
 | 0, _, _, _ => none
 | k + 1, x3, x4, x5 => if x5 < x4 then (if (wrap64 (x5 + 1)) = x4 then (spec_IsRing.j2 k x3 x4 x5 0 true) else (if x5 = 0 then (spec_IsRing.j2 k x3 x4 x5 0 ((wrap64 (x4 + 1)) == (x3.length : Int))) else (spec_IsRing.j2 k x3 x4 x5 0 false))) else (spec_IsRing.l0 k x3 (wrap64 (x4 + 1)))
def spec_IsRing.j2 : Nat → List (S85) → Int → Int → Int → Bool → Option (Bool)
 | 0, _, _, _, _, _ => none
 | k + 1, x3, x4, x5, x6, x44 => if x44 = true then (if 0 ≤ x4 then (if x4 < (x3.length : Int) then (if 0 ≤ x5 then (if x5 < (x3.length : Int) then ((spec_HowMeet.f ((rd_T85 x3 x4).f0.f0) ((rd_T85 x3 x4).f0.f1) ((rd_T85 x3 x4).f1.f0) ((rd_T85 x3 x4).f1.f1) ((rd_T85 x3 x5).f0.f0) ((rd_T85 x3 x5).f0.f1) ((rd_T85 x3 x5).f1.f0) ((rd_T85 x3 x5).f1.f1)).bind fun t141 => (if t141 = 1 then (spec_IsRing.l1 k x3 x4 (wrap64 (x5 + 1))) else (some false))) else (none)) else (none)) else (none)) else (none)) else (if 0 ≤ x4 then (if x4 < (x3.length : Int) then (if 0 ≤ x5 then (if x5 < (x3.length : Int) then ((spec_HowMeet.f ((rd_T85 x3 x4).f0.f0) ((rd_T85 x3 x4).f0.f1) ((rd_T85 x3 x4).f1.f0) ((rd_T85 x3 x4).f1.f1) ((rd_T85 x3 x5).f0.f0) ((rd_T85 x3 x5).f0.f1) ((rd_T85 x3 x5).f1.f0) ((rd_T85 x3 x5).f1.f1)).bind fun t144 => (if t144 = x6 then (spec_IsRing.l1 k x3 x4 (wrap64 (x5 + 1))) else (some false))) else (none)) else (none)) else (none)) else (none))
end
def spec_IsRing.f (k : Nat) (l0 : List (S82)) : Option (Bool) := (spec_l1In.f (l0.length : Int) 3 10).bind fun t133 => (if t133 = true then ((spec_l7Segments.f k l0).bind fun t134 => (spec_IsRing.l0 k t134 0)) else (some false))
attribute [local go_sem] max2_int min2_int max_two min_two max_three min_three max_four min_four   -- for this text's walks alone
set_option linter.unusedVariables false
set_option linter.unusedSimpArgs false

/-! ### spec_IsName: function 116 -/
def spec_IsName.l0 : Nat → ByteArray → Int → Option (Bool)
 | 0, _, _ => none
 | k + 1, x0, x3 => if x3 < (x0.size : Int) then (if 0 ≤ x3 then (if (bt x0 x3) < 97 then (some false) else (if (bt x0 x3) > 122 then (some false) else (spec_IsName.l0 k x0 (wrap64 (x3 + 1))))) else (none)) else ((spec_l1In.f (x0.size : Int) 1 8).bind fun t145 => (some t145))
def spec_IsName.f (k : Nat) (a0 : ByteArray) : Option (Bool) := spec_IsName.l0 k a0 0
attribute [local go_sem] max2_int min2_int max_two min_two max_three min_three max_four min_four   -- for this text's walks alone
set_option linter.unusedVariables false
set_option linter.unusedSimpArgs false

attribute [local go_sem high] eqA82
/-! ### spec_IsLine: function 106 -/
def spec_IsLine.l0 : Nat → List (S82) → Int → Option (Bool)
 | 0, _, _ => none
 | k + 1, x0, x3 => if x3 < (x0.length : Int) then (if 0 ≤ x3 then ((spec_IsPoint.f ((rd_T82 x0 x3).f0) ((rd_T82 x0 x3).f1)).bind fun t147 => (if t147 = true then (if x3 > 0 then (if 0 ≤ (wrap64 (x3 - 1)) then (if (wrap64 (x3 - 1)) < (x0.length : Int) then (if (((rd_T82 x0 (wrap64 (x3 - 1))).f0) == ((rd_T82 x0 x3).f0) && (((rd_T82 x0 (wrap64 (x3 - 1))).f1) == ((rd_T82 x0 x3).f1))) = true then (some false) else (spec_IsLine.l0 k x0 (wrap64 (x3 + 1)))) else (none)) else (none)) else (spec_IsLine.l0 k x0 (wrap64 (x3 + 1)))) else (some false))) else (none)) else ((spec_l1In.f (x0.length : Int) 2 10).bind fun t150 => (some t150))
def spec_IsLine.f (k : Nat) (l0 : List (S82)) : Option (Bool) := spec_IsLine.l0 k l0 0
attribute [local go_sem] max2_int min2_int max_two min_two max_three min_three max_four min_four   -- for this text's walks alone
set_option linter.unusedVariables false
set_option linter.unusedSimpArgs false

/-! ### spec_SegmentsOf: function 119 -/
def spec_SegmentsOf.l0 : Nat → List (S82) → List (S85) → Int → Option ((List (S85)))
 | 0, _, _, _ => none
 | k + 1, x0, x3, x4 => if x4 < (x0.length : Int) then ((spec_IsLine.f k x0).bind fun t154 => (if t154 = true then (if 0 ≤ (wrap64 (x4 - 1)) then (if (wrap64 (x4 - 1)) < (x0.length : Int) then (if 0 ≤ x4 then (if x3.length < 4398046511104 then (spec_SegmentsOf.l0 k x0 (x3 ++ [(⟨(⟨(rd_T82 x0 (wrap64 (x4 - 1))).f0, (rd_T82 x0 (wrap64 (x4 - 1))).f1⟩ : S82), (⟨(rd_T82 x0 x4).f0, (rd_T82 x0 x4).f1⟩ : S82)⟩ : S85)]) (wrap64 (x4 + 1))) else (none)) else (none)) else (none)) else (none)) else (some x3))) else (some x3)
def spec_SegmentsOf.f (k : Nat) (l0 : List (S82)) : Option ((List (S85))) := spec_SegmentsOf.l0 k l0 (([] : List (S85))) 1
attribute [local go_sem] max2_int min2_int max_two min_two max_three min_three max_four min_four   -- for this text's walks alone
set_option linter.unusedVariables false
set_option linter.unusedSimpArgs false

/-! ### spec_IsSimple: function 118 -/
mutual
def spec_IsSimple.l0 : Nat → List (S82) → List (S85) → Int → Option (Bool)
 | 0, _, _, _ => none
 | k + 1, x0, x3, x4 => if x4 < (x3.length : Int) then (spec_IsSimple.l1 k x0 x3 x4 0) else ((spec_IsLine.f k x0).bind fun t163 => (some t163))
def spec_IsSimple.l1 : Nat → List (S82) → List (S85) → Int → Int → Option (Bool)
 | 0, _, _, _, _ => none
 | k + 1, x0, x3, x4, x5 => if x5 < x4 then (if (wrap64 (x5 + 1)) = x4 then (if 0 ≤ x4 then (if x4 < (x3.length : Int) then (if 0 ≤ x5 then (if x5 < (x3.length : Int) then ((spec_HowMeet.f ((rd_T85 x3 x4).f0.f0) ((rd_T85 x3 x4).f0.f1) ((rd_T85 x3 x4).f1.f0) ((rd_T85 x3 x4).f1.f1) ((rd_T85 x3 x5).f0.f0) ((rd_T85 x3 x5).f0.f1) ((rd_T85 x3 x5).f1.f0) ((rd_T85 x3 x5).f1.f1)).bind fun t166 => (if t166 = 1 then (spec_IsSimple.l1 k x0 x3 x4 (wrap64 (x5 + 1))) else (some false))) else (none)) else (none)) else (none)) else (none)) else (if 0 ≤ x4 then (if x4 < (x3.length : Int) then (if 0 ≤ x5 then (if x5 < (x3.length : Int) then ((spec_HowMeet.f ((rd_T85 x3 x4).f0.f0) ((rd_T85 x3 x4).f0.f1) ((rd_T85 x3 x4).f1.f0) ((rd_T85 x3 x4).f1.f1) ((rd_T85 x3 x5).f0.f0) ((rd_T85 x3 x5).f0.f1) ((rd_T85 x3 x5).f1.f0) ((rd_T85 x3 x5).f1.f1)).bind fun t169 => (if t169 = 0 then (spec_IsSimple.l1 k x0 x3 x4 (wrap64 (x5 + 1))) else (some false))) else (none)) else (none)) else (none)) else (none))) else (spec_IsSimple.l0 k x0 x3 (wrap64 (x4 + 1)))
end
def spec_IsSimple.f (k : Nat) (l0 : List (S82)) : Option (Bool) := (spec_SegmentsOf.f k l0).bind fun t160 => (spec_IsSimple.l0 k l0 t160 0)
attribute [local go_sem] max2_int min2_int max_two min_two max_three min_three max_four min_four   -- for this text's walks alone
set_option linter.unusedVariables false
set_option linter.unusedSimpArgs false

/-! ### spec_IsFeature: function 68 -/
def spec_IsFeature.j0 : Nat → Bool → Int → Int → Int → ByteArray → List (S82) → Option (Bool)
 | 0, _, _, _, _, _, _ => none
 | k + 1, x23, x171000, x171001, x171002, x171003, x171004 => if x23 = true then (some false) else (if x171001 = 1 then (if (x171004.length : Int) = 1 then (if 0 < (x171004.length : Int) then ((spec_IsPoint.f ((rd_T82 x171004 0).f0) ((rd_T82 x171004 0).f1)).bind fun t175 => (some t175)) else (none)) else (some false)) else (if x171001 = 2 then ((spec_IsSimple.f k x171004).bind fun t176 => (some t176)) else (if x171001 = 3 then ((spec_IsRing.f k x171004).bind fun t177 => (some t177)) else (some false))))
def spec_IsFeature.f (k : Nat) (a0_0 : Int) (a0_1 : Int) (a0_2 : Int) (a0_3 : ByteArray) (l0_4 : List (S82)) : Option (Bool) := (spec_l1In.f a0_0 1 99).bind fun t171 => (if t171 = true then ((spec_l1In.f a0_2 0 9).bind fun t172 => (if t172 = true then (if a0_3.toList = ([] : List UInt8) then (spec_IsFeature.j0 k false a0_0 a0_1 a0_2 a0_3 l0_4) else ((spec_IsName.f k a0_3).bind fun t173 => (spec_IsFeature.j0 k (!t173) a0_0 a0_1 a0_2 a0_3 l0_4))) else (spec_IsFeature.j0 k true a0_0 a0_1 a0_2 a0_3 l0_4))) else (spec_IsFeature.j0 k true a0_0 a0_1 a0_2 a0_3 l0_4))
attribute [local go_sem] max2_int min2_int max_two min_two max_three min_three max_four min_four   -- for this text's walks alone
set_option linter.unusedVariables false
set_option linter.unusedSimpArgs false

/-! ### spec_IsSource: function 83 -/
def spec_IsSource.l0 : Nat → List (S29) → Int → Option (Bool)
 | 0, _, _ => none
 | k + 1, x0, x3 => if x3 < (x0.length : Int) then (if 0 ≤ x3 then ((spec_IsFeature.f k ((rd_T29 x0 x3).f0) ((rd_T29 x0 x3).f1) ((rd_T29 x0 x3).f2) ((rd_T29 x0 x3).f3) ((rd_T29 x0 x3).f4)).bind fun t179 => (if t179 = true then (if x3 > 0 then (if 0 ≤ (wrap64 (x3 - 1)) then (if (wrap64 (x3 - 1)) < (x0.length : Int) then (if ((rd_T29 x0 (wrap64 (x3 - 1))).f0) ≥ ((rd_T29 x0 x3).f0) then (some false) else (spec_IsSource.l0 k x0 (wrap64 (x3 + 1)))) else (none)) else (none)) else (spec_IsSource.l0 k x0 (wrap64 (x3 + 1)))) else (some false))) else (none)) else (some (decide ((x0.length : Int) ≤ 16)))
def spec_IsSource.f (k : Nat) (l0 : List (S29)) : Option (Bool) := spec_IsSource.l0 k l0 0
attribute [local go_sem] max2_int min2_int max_two min_two max_three min_three max_four min_four   -- for this text's walks alone
set_option linter.unusedVariables false
set_option linter.unusedSimpArgs false

/-! ### spec_RingMiddle: function 84 -/
def spec_RingMiddle.l0 : Nat → List (S82) → Int → Int → Int → Option (Int × Int × Bool)
 | 0, _, _, _, _ => none
 | k + 1, x0, x5, x185000, x185001 => if x5 < (x0.length : Int) then (if 0 ≤ x5 then (spec_RingMiddle.l0 k x0 (wrap64 (x5 + 1)) (wrap64 (x185000 + ((rd_T82 x0 x5).f0))) (wrap64 (x185001 + ((rd_T82 x0 x5).f1)))) else (none)) else (if (x0.length : Int) = 0 then (none) else (some (wrap64 (Int.tdiv x185000 (x0.length : Int)), wrap64 (Int.tdiv x185001 (x0.length : Int)), true)))
def spec_RingMiddle.f (k : Nat) (l0 : List (S82)) : Option (Int × Int × Bool) := (spec_IsRing.f k l0).bind fun t183 => (if t183 = true then (spec_RingMiddle.l0 k l0 0 0 0) else (some (0, 0, false)))
/-! ### spec_AnchorsOf: function 27 -/
mutual
def spec_AnchorsOf.l0 : Nat → List (S29) → List (S93) → Int → Option ((List (S93)))
 | 0, _, _, _ => none
 | k + 1, x0, x3, x4 => if x4 < (x0.length : Int) then ((spec_IsSource.f k x0).bind fun t190 => (spec_AnchorsOf.j1 k x0 x3 x4 t190)) else (spec_AnchorsOf.j1 k x0 x3 x4 false)
def spec_AnchorsOf.j1 : Nat → List (S29) → List (S93) → Int → Bool → Option ((List (S93)))
 | 0, _, _, _, _ => none
 | k + 1, x0, x3, x4, x15 => if x15 = true then (if 0 ≤ x4 then (if x4 < (x0.length : Int) then (if ((rd_T29 x0 x4).f3).toList = ([] : List UInt8) then (spec_AnchorsOf.l0 k x0 x3 (wrap64 (x4 + 1))) else (if 0 ≤ (wrap64 ((((rd_T29 x0 x4).f4).length : Int) / 2)) then (if (wrap64 ((((rd_T29 x0 x4).f4).length : Int) / 2)) < (((rd_T29 x0 x4).f4).length : Int) then (if ((rd_T29 x0 x4).f1) = 3 then ((spec_RingMiddle.f k ((rd_T29 x0 x4).f4)).bind fun bt195 => (if x3.length < 4398046511104 then (spec_AnchorsOf.l0 k x0 (x3 ++ [(⟨(rd_T29 x0 x4).f0, (⟨bt195.1, bt195.2.1⟩ : S82), (rd_T29 x0 x4).f2⟩ : S93)]) (wrap64 (x4 + 1))) else (none))) else (if x3.length < 4398046511104 then (spec_AnchorsOf.l0 k x0 (x3 ++ [(⟨(rd_T29 x0 x4).f0, (⟨(rd_T82 ((rd_T29 x0 x4).f4) (wrap64 ((((rd_T29 x0 x4).f4).length : Int) / 2))).f0, (rd_T82 ((rd_T29 x0 x4).f4) (wrap64 ((((rd_T29 x0 x4).f4).length : Int) / 2))).f1⟩ : S82), (rd_T29 x0 x4).f2⟩ : S93)]) (wrap64 (x4 + 1))) else (none))) else (none)) else (none))) else (none)) else (none)) else (some x3)
end
def spec_AnchorsOf.f (k : Nat) (l0 : List (S29)) : Option ((List (S93))) := spec_AnchorsOf.l0 k l0 (([] : List (S93))) 0
/-! ### laws_toPoint: function 110 -/
def laws_toPoint.f (a0_0 : Int) (a0_1 : Int) : Option (Int × Int) := some (a0_0, a0_1)
attribute [local go_sem] max2_int min2_int max_two min_two max_three min_three max_four min_four   -- for this text's walks alone
set_option linter.unusedVariables false
set_option linter.unusedSimpArgs false

/-! ### laws_toPointS: function 64 -/
def laws_toPointS.l0 : Nat → List (S118) → List (S82) → Int → Option ((List (S82)))
 | 0, _, _, _ => none
 | k + 1, x0, x3, x4 => if x4 < (x0.length : Int) then (if 0 ≤ x4 then ((laws_toPoint.f ((rd_T118 x0 x4).f0) ((rd_T118 x0 x4).f1)).bind fun bt211 => (if x4 < (x3.length : Int) then (laws_toPointS.l0 k x0 (x3.set (x4 : Int).toNat (⟨bt211.1, bt211.2⟩ : S82)) (wrap64 (x4 + 1))) else (none))) else (none)) else (some x3)
def laws_toPointS.f (k : Nat) (l0 : List (S118)) : Option ((List (S82))) := if 0 ≤ (l0.length : Int) then (if ((l0.length : Int) : Int).toNat ≤ 17592186044416 then (laws_toPointS.l0 k l0 (List.replicate ((l0.length : Int) : Int).toNat z82) 0) else (none)) else (none)
/-! ### laws_toFeature: function 17 -/
def laws_toFeature.f (k : Nat) (a0_0 : Int) (a0_1 : Int) (a0_2 : Int) (a0_3 : ByteArray) (l0_4 : List (S118)) : Option (Int × Int × Int × ByteArray × (List (S82))) := (laws_toPointS.f k l0_4).bind fun t217 => (some (a0_0, a0_1, a0_2, a0_3, t217))
/-! ### laws_toFeatureS: function 28 -/
def laws_toFeatureS.l0 : Nat → List (S24) → List (S29) → Int → Option ((List (S29)))
 | 0, _, _, _ => none
 | k + 1, x0, x3, x4 => if x4 < (x0.length : Int) then (if 0 ≤ x4 then ((laws_toFeature.f k ((rd_T24 x0 x4).f0) ((rd_T24 x0 x4).f1) ((rd_T24 x0 x4).f2) ((rd_T24 x0 x4).f3) ((rd_T24 x0 x4).f4)).bind fun bt224 => (if x4 < (x3.length : Int) then (laws_toFeatureS.l0 k x0 (x3.set (x4 : Int).toNat (⟨bt224.1, bt224.2.1, bt224.2.2.1, bt224.2.2.2.1, bt224.2.2.2.2⟩ : S29)) (wrap64 (x4 + 1))) else (none))) else (none)) else (some x3)
def laws_toFeatureS.f (k : Nat) (l0 : List (S24)) : Option ((List (S29))) := if 0 ≤ (l0.length : Int) then (if ((l0.length : Int) : Int).toNat ≤ 4398046511104 then (laws_toFeatureS.l0 k l0 (List.replicate ((l0.length : Int) : Int).toNat z29) 0) else (none)) else (none)
/-! ### impl_InRange: function 112 -/
def impl_InRange.f (a0 : Int) (a1 : Int) (a2 : Int) : Option (Bool) := some (inR a0 a1 a2)
/-! ### impl_around: function 150 -/
def impl_around.l0 : Nat → List (S82) → List (S85) → List (S82) → Int → Int → Option ((List (S85)))
 | 0, _, _, _, _, _ => none
 | k + 1, x0, x3, x7, x8, x9 => if x9 < x8 then (if 0 ≤ x9 then (if x9 < (x7.length : Int) then (if (x0.length : Int) = 0 then (none) else (if 0 ≤ (Int.tmod (wrap64 (x9 + 1)) (x0.length : Int)) then (if (Int.tmod (wrap64 (x9 + 1)) (x0.length : Int)) < (x0.length : Int) then (if x3.length < 4398046511104 then (impl_around.l0 k x0 (x3 ++ [(⟨(⟨(rd_T82 x7 x9).f0, (rd_T82 x7 x9).f1⟩ : S82), (⟨(rd_T82 x0 (Int.tmod (wrap64 (x9 + 1)) (x0.length : Int))).f0, (rd_T82 x0 (Int.tmod (wrap64 (x9 + 1)) (x0.length : Int))).f1⟩ : S82)⟩ : S85)]) x7 x8 (wrap64 (x9 + 1))) else (none)) else (none)) else (none))) else (none)) else (none)) else (some x3)
def impl_around.f (k : Nat) (l0 : List (S82)) : Option ((List (S85))) := impl_around.l0 k l0 (([] : List (S85))) l0 (l0.length : Int) 0
/-! ### impl_IsPoint: function 123 -/
def impl_IsPoint.f (a0_0 : Int) (a0_1 : Int) : Option (Bool) := some (isPt a0_0 a0_1)
/-! ### impl_IsSegment: function 151 -/
def impl_IsSegment.f (a0_0 : Int) (a0_1 : Int) (a0_2 : Int) (a0_3 : Int) : Option (Bool) := some (isSeg a0_0 a0_1 a0_2 a0_3)
/-! ### cmp_isNaN_int: function 156 -/
def cmp_isNaN_int.f (a0 : Int) : Option (Bool) := some (false)
/-! ### cmp_Compare_int: function 131 -/
def cmp_Compare_int.f (a0 : Int) (a1 : Int) : Option (Int) := some (cmpI a0 a1)
/-! ### impl_cross: function 149 -/
def impl_cross.f (a0_0 : Int) (a0_1 : Int) (a1_0 : Int) (a1_1 : Int) (a2_0 : Int) (a2_1 : Int) : Option (Int) := some (crossI a0_0 a0_1 a1_0 a1_1 a2_0 a2_1)
/-! ### impl_SideOf: function 167 -/
def impl_SideOf.f (a0_0 : Int) (a0_1 : Int) (a1_0 : Int) (a1_1 : Int) (a2_0 : Int) (a2_1 : Int) : Option (Int) := some (sideI a0_0 a0_1 a1_0 a1_1 a2_0 a2_1)
/-! ### impl_BeforePoint: function 170 -/
def impl_BeforePoint.f (a0_0 : Int) (a0_1 : Int) (a1_0 : Int) (a1_1 : Int) : Option (Bool) := some (beforeI a0_0 a0_1 a1_0 a1_1)
/-! ### impl_TurnSegment: function 174 -/
def impl_TurnSegment.f (a0_0 : Int) (a0_1 : Int) (a0_2 : Int) (a0_3 : Int) : Option (Int × Int × Int × Int) := some (a0_2, a0_3, a0_0, a0_1)
/-! ### impl_forward: function 169 -/
def impl_forward.f (a0_0 : Int) (a0_1 : Int) (a0_2 : Int) (a0_3 : Int) : Option (Int × Int × Int × Int) := (impl_BeforePoint.f a0_2 a0_3 a0_0 a0_1).bind fun t245 => (if t245 = true then ((impl_TurnSegment.f a0_0 a0_1 a0_2 a0_3).bind fun bt246 => (some (bt246.1, bt246.2.1, bt246.2.2.1, bt246.2.2.2))) else (some (a0_0, a0_1, a0_2, a0_3)))
/-! ### impl_IsOn: function 171 -/
def impl_IsOn.f (a0_0 : Int) (a0_1 : Int) (a0_2 : Int) (a0_3 : Int) (a1_0 : Int) (a1_1 : Int) : Option (Bool) := some (isOnI a0_0 a0_1 a0_2 a0_3 a1_0 a1_1)
attribute [local go_sem] max2_int min2_int max_two min_two max_three min_three max_four min_four   -- for this text's walks alone
set_option linter.unusedVariables false
set_option linter.unusedSimpArgs false

attribute [local go_sem high] eqA82
/-! ### impl_HowMeet: function 152 -/
mutual
def impl_HowMeet.j0 : Nat → Bool → Int → Int → Int → Int → Int → Int → Int → Int → Option (Int)
 | 0, _, _, _, _, _, _, _, _, _ => none
 | k + 1, x16, x251000, x251001, x251002, x251003, x252000, x252001, x252002, x252003 => if x16 = true then (some 0) else ((impl_SideOf.f x251000 x251001 x251002 x251003 x252000 x252001).bind fun t254 => ((impl_SideOf.f x251000 x251001 x251002 x251003 x252002 x252003).bind fun t255 => (if t254 = 0 then (impl_HowMeet.j1 k t254 t255 (t255 == 0) x251000 x251001 x251002 x251003 x252000 x252001 x252002 x252003) else (impl_HowMeet.j1 k t254 t255 false x251000 x251001 x251002 x251003 x252000 x252001 x252002 x252003))))
def impl_HowMeet.j1 : Nat → Int → Int → Bool → Int → Int → Int → Int → Int → Int → Int → Int → Option (Int)
 | 0, _, _, _, _, _, _, _, _, _, _, _ => none
 | k + 1, x5, x6, x36, x251000, x251001, x251002, x251003, x252000, x252001, x252002, x252003 => if x36 = true then ((impl_forward.f x251000 x251001 x251002 x251003).bind fun bt256 => ((impl_forward.f x252000 x252001 x252002 x252003).bind fun bt260 => ((impl_BeforePoint.f bt256.1 bt256.2.1 bt260.1 bt260.2.1).bind fun t266 => (if t266 = true then (impl_HowMeet.j2 k bt260.1 bt260.2.1 bt260.2.2.1 bt260.2.2.2 bt260.1 bt260.2.1 bt256.2.2.1 bt256.2.2.2) else (impl_HowMeet.j2 k bt260.1 bt260.2.1 bt260.2.2.1 bt260.2.2.2 bt256.1 bt256.2.1 bt256.2.2.1 bt256.2.2.2))))) else (if (wrap64 (x5 * x6)) < 0 then ((impl_SideOf.f x252000 x252001 x252002 x252003 x251000 x251001).bind fun t269 => ((impl_SideOf.f x252000 x252001 x252002 x252003 x251002 x251003).bind fun t270 => (impl_HowMeet.j4 k (decide ((wrap64 (t269 * t270)) < 0)) x251000 x251001 x251002 x251003 x252000 x252001 x252002 x252003))) else (impl_HowMeet.j4 k false x251000 x251001 x251002 x251003 x252000 x252001 x252002 x252003))
def impl_HowMeet.j2 : Nat → Int → Int → Int → Int → Int → Int → Int → Int → Option (Int)
 | 0, _, _, _, _, _, _, _, _ => none
 | k + 1, x252000, x252001, x252002, x252003, x265000, x265001, x266000, x266001 => (impl_BeforePoint.f x252002 x252003 x266000 x266001).bind fun t267 => (if t267 = true then (impl_HowMeet.j3 k x265000 x265001 x252002 x252003) else (impl_HowMeet.j3 k x265000 x265001 x266000 x266001))
def impl_HowMeet.j3 : Nat → Int → Int → Int → Int → Option (Int)
 | 0, _, _, _, _ => none
 | k + 1, x265000, x265001, x266000, x266001 => (impl_BeforePoint.f x266000 x266001 x265000 x265001).bind fun t268 => (if t268 = true then (some 0) else (if (x265000 == x266000 && (x265001 == x266001)) = true then (some 1) else (some 3)))
def impl_HowMeet.j4 : Nat → Bool → Int → Int → Int → Int → Int → Int → Int → Int → Option (Int)
 | 0, _, _, _, _, _, _, _, _, _ => none
 | k + 1, x86, x251000, x251001, x251002, x251003, x252000, x252001, x252002, x252003 => if x86 = true then (some 2) else ((impl_IsOn.f x251000 x251001 x251002 x251003 x252000 x252001).bind fun t271 => (if t271 = true then (some 1) else ((impl_IsOn.f x251000 x251001 x251002 x251003 x252002 x252003).bind fun t272 => (if t272 = true then (some 1) else ((impl_IsOn.f x252000 x252001 x252002 x252003 x251000 x251001).bind fun t273 => (if t273 = true then (some 1) else ((impl_IsOn.f x252000 x252001 x252002 x252003 x251002 x251003).bind fun t274 => (if t274 = true then (some 1) else (some 0)))))))))
end
def impl_HowMeet.f (k : Nat) (a0_0 : Int) (a0_1 : Int) (a0_2 : Int) (a0_3 : Int) (a1_0 : Int) (a1_1 : Int) (a1_2 : Int) (a1_3 : Int) : Option (Int) := (impl_IsSegment.f a0_0 a0_1 a0_2 a0_3).bind fun t252 => (if t252 = true then ((impl_IsSegment.f a1_0 a1_1 a1_2 a1_3).bind fun t253 => (impl_HowMeet.j0 k (!t253) a0_0 a0_1 a0_2 a0_3 a1_0 a1_1 a1_2 a1_3)) else (impl_HowMeet.j0 k true a0_0 a0_1 a0_2 a0_3 a1_0 a1_1 a1_2 a1_3))
attribute [local go_sem] max2_int min2_int max_two min_two max_three min_three max_four min_four   -- for this text's walks alone
set_option linter.unusedVariables false
set_option linter.unusedSimpArgs false

/-! ### impl_IsRing: function 114 -/
mutual
def impl_IsRing.j0 : Nat → List (S82) → Bool → Option (Bool)
 | 0, _, _ => none
 | k + 1, x0, x14 => if x14 = true then (some false) else ((impl_around.f k x0).bind fun t275 => (impl_IsRing.l0 k t275 (t275.length : Int) 0))
def impl_IsRing.l0 : Nat → List (S85) → Int → Int → Option (Bool)
 | 0, _, _, _ => none
 | k + 1, x3, x18, x19 => if x19 < x18 then (if 0 ≤ x19 then (if x19 < (x3.length : Int) then ((impl_IsSegment.f ((rd_T85 x3 x19).f0.f0) ((rd_T85 x3 x19).f0.f1) ((rd_T85 x3 x19).f1.f0) ((rd_T85 x3 x19).f1.f1)).bind fun t279 => (if t279 = true then (impl_IsRing.l1 k x3 x19 x18 x19 x19 0) else (some false))) else (none)) else (none)) else (some true)
def impl_IsRing.l1 : Nat → List (S85) → Int → Int → Int → Int → Int → Option (Bool)
 | 0, _, _, _, _, _, _ => none
 | k + 1, x3, x4, x18, x19, x28, x29 => if x29 < x28 then (if x29 = (wrap64 (x4 - 1)) then (impl_IsRing.j3 k x3 x4 x29 0 x18 x19 x28 x29 true) else (if x29 = 0 then (impl_IsRing.j3 k x3 x4 x29 0 x18 x19 x28 x29 (x4 == (wrap64 ((x3.length : Int) - 1)))) else (impl_IsRing.j3 k x3 x4 x29 0 x18 x19 x28 x29 false))) else (impl_IsRing.l0 k x3 x18 (wrap64 (x19 + 1)))
def impl_IsRing.j3 : Nat → List (S85) → Int → Int → Int → Int → Int → Int → Int → Bool → Option (Bool)
 | 0, _, _, _, _, _, _, _, _, _ => none
 | k + 1, x3, x4, x5, x6, x18, x19, x28, x29, x46 => if x46 = true then (if 0 ≤ x4 then (if x4 < (x3.length : Int) then (if 0 ≤ x5 then (if x5 < (x3.length : Int) then ((impl_HowMeet.f k ((rd_T85 x3 x4).f0.f0) ((rd_T85 x3 x4).f0.f1) ((rd_T85 x3 x4).f1.f0) ((rd_T85 x3 x4).f1.f1) ((rd_T85 x3 x5).f0.f0) ((rd_T85 x3 x5).f0.f1) ((rd_T85 x3 x5).f1.f0) ((rd_T85 x3 x5).f1.f1)).bind fun t282 => (if t282 = 1 then (impl_IsRing.l1 k x3 x4 x18 x19 x28 (wrap64 (x29 + 1))) else (some false))) else (none)) else (none)) else (none)) else (none)) else (if 0 ≤ x4 then (if x4 < (x3.length : Int) then (if 0 ≤ x5 then (if x5 < (x3.length : Int) then ((impl_HowMeet.f k ((rd_T85 x3 x4).f0.f0) ((rd_T85 x3 x4).f0.f1) ((rd_T85 x3 x4).f1.f0) ((rd_T85 x3 x4).f1.f1) ((rd_T85 x3 x5).f0.f0) ((rd_T85 x3 x5).f0.f1) ((rd_T85 x3 x5).f1.f0) ((rd_T85 x3 x5).f1.f1)).bind fun t285 => (if t285 = x6 then (impl_IsRing.l1 k x3 x4 x18 x19 x28 (wrap64 (x29 + 1))) else (some false))) else (none)) else (none)) else (none)) else (none))
end
def impl_IsRing.f (k : Nat) (l0 : List (S82)) : Option (Bool) := if (l0.length : Int) < 3 then (impl_IsRing.j0 k l0 true) else (impl_IsRing.j0 k l0 (decide ((l0.length : Int) > 10)))
attribute [local go_sem] max2_int min2_int max_two min_two max_three min_three max_four min_four   -- for this text's walks alone
set_option linter.unusedVariables false
set_option linter.unusedSimpArgs false

/-! ### impl_IsName: function 122 -/
def impl_IsName.l0 : Nat → ByteArray → Int → Int → Option (Bool)
 | 0, _, _, _ => none
 | k + 1, x0, x5, x6 => if x6 < x5 then (if 0 ≤ x6 then (if x6 < (x0.size : Int) then (if (bt x0 x6) < 97 then (some false) else (if (bt x0 x6) > 122 then (some false) else (impl_IsName.l0 k x0 x5 (wrap64 (x6 + 1))))) else (none)) else (none)) else ((impl_InRange.f (x0.size : Int) 1 8).bind fun t286 => (some t286))
def impl_IsName.f (k : Nat) (a0 : ByteArray) : Option (Bool) := impl_IsName.l0 k a0 (a0.size : Int) 0
attribute [local go_sem] max2_int min2_int max_two min_two max_three min_three max_four min_four   -- for this text's walks alone
set_option linter.unusedVariables false
set_option linter.unusedSimpArgs false

attribute [local go_sem high] eqA82
/-! ### impl_IsLine: function 111 -/
mutual
def impl_IsLine.j0 : Nat → List (S82) → Bool → Option (Bool)
 | 0, _, _ => none
 | k + 1, x0, x12 => if x12 = true then (some false) else (impl_IsLine.l0 k x0 x0 (x0.length : Int) 0)
def impl_IsLine.l0 : Nat → List (S82) → List (S82) → Int → Int → Option (Bool)
 | 0, _, _, _, _ => none
 | k + 1, x0, x13, x14, x15 => if x15 < x14 then (if 0 ≤ x15 then (if x15 < (x13.length : Int) then ((impl_IsPoint.f ((rd_T82 x13 x15).f0) ((rd_T82 x13 x15).f1)).bind fun t289 => (if t289 = true then (if x15 > 0 then (if 0 ≤ (wrap64 (x15 - 1)) then (if (wrap64 (x15 - 1)) < (x0.length : Int) then (if (((rd_T82 x13 x15).f0) == ((rd_T82 x0 (wrap64 (x15 - 1))).f0) && (((rd_T82 x13 x15).f1) == ((rd_T82 x0 (wrap64 (x15 - 1))).f1))) = true then (some false) else (impl_IsLine.l0 k x0 x13 x14 (wrap64 (x15 + 1)))) else (none)) else (none)) else (impl_IsLine.l0 k x0 x13 x14 (wrap64 (x15 + 1)))) else (some false))) else (none)) else (none)) else (some true)
end
def impl_IsLine.f (k : Nat) (l0 : List (S82)) : Option (Bool) := if (l0.length : Int) < 2 then (impl_IsLine.j0 k l0 true) else (impl_IsLine.j0 k l0 (decide ((l0.length : Int) > 10)))
attribute [local go_sem] max2_int min2_int max_two min_two max_three min_three max_four min_four   -- for this text's walks alone
set_option linter.unusedVariables false
set_option linter.unusedSimpArgs false

/-! ### impl_SegmentsOf: function 126 -/
def impl_SegmentsOf.l0 : Nat → List (S82) → List (S85) → Int → Option ((List (S85)))
 | 0, _, _, _ => none
 | k + 1, x0, x3, x4 => if x4 < (x0.length : Int) then (if 0 ≤ (wrap64 (x4 - 1)) then (if (wrap64 (x4 - 1)) < (x0.length : Int) then (if 0 ≤ x4 then (if x3.length < 4398046511104 then (impl_SegmentsOf.l0 k x0 (x3 ++ [(⟨(⟨(rd_T82 x0 (wrap64 (x4 - 1))).f0, (rd_T82 x0 (wrap64 (x4 - 1))).f1⟩ : S82), (⟨(rd_T82 x0 x4).f0, (rd_T82 x0 x4).f1⟩ : S82)⟩ : S85)]) (wrap64 (x4 + 1))) else (none)) else (none)) else (none)) else (none)) else (some x3)
def impl_SegmentsOf.f (k : Nat) (l0 : List (S82)) : Option ((List (S85))) := (some (([] : List (S85)) : List (S85))).bind fun y291 => ((impl_IsLine.f k l0).bind fun t294 => (if t294 = true then (impl_SegmentsOf.l0 k l0 y291 1) else (some y291)))
attribute [local go_sem] max2_int min2_int max_two min_two max_three min_three max_four min_four   -- for this text's walks alone
set_option linter.unusedVariables false
set_option linter.unusedSimpArgs false

/-! ### impl_IsSimple: function 124 -/
mutual
def impl_IsSimple.l0 : Nat → List (S85) → Int → Int → Option (Bool)
 | 0, _, _, _ => none
 | k + 1, x3, x13, x14 => if x14 < x13 then (impl_IsSimple.l1 k x3 x14 x13 x14 x14 0) else (some true)
def impl_IsSimple.l1 : Nat → List (S85) → Int → Int → Int → Int → Int → Option (Bool)
 | 0, _, _, _, _, _, _ => none
 | k + 1, x3, x4, x13, x14, x17, x18 => if x18 < x17 then (if x18 = (wrap64 (x4 - 1)) then (if 0 ≤ x4 then (if x4 < (x3.length : Int) then (if 0 ≤ x18 then (if x18 < (x3.length : Int) then ((impl_HowMeet.f k ((rd_T85 x3 x4).f0.f0) ((rd_T85 x3 x4).f0.f1) ((rd_T85 x3 x4).f1.f0) ((rd_T85 x3 x4).f1.f1) ((rd_T85 x3 x18).f0.f0) ((rd_T85 x3 x18).f0.f1) ((rd_T85 x3 x18).f1.f0) ((rd_T85 x3 x18).f1.f1)).bind fun t306 => (if t306 = 1 then (impl_IsSimple.l1 k x3 x4 x13 x14 x17 (wrap64 (x18 + 1))) else (some false))) else (none)) else (none)) else (none)) else (none)) else (if 0 ≤ x4 then (if x4 < (x3.length : Int) then (if 0 ≤ x18 then (if x18 < (x3.length : Int) then ((impl_HowMeet.f k ((rd_T85 x3 x4).f0.f0) ((rd_T85 x3 x4).f0.f1) ((rd_T85 x3 x4).f1.f0) ((rd_T85 x3 x4).f1.f1) ((rd_T85 x3 x18).f0.f0) ((rd_T85 x3 x18).f0.f1) ((rd_T85 x3 x18).f1.f0) ((rd_T85 x3 x18).f1.f1)).bind fun t309 => (if t309 = 0 then (impl_IsSimple.l1 k x3 x4 x13 x14 x17 (wrap64 (x18 + 1))) else (some false))) else (none)) else (none)) else (none)) else (none))) else (impl_IsSimple.l0 k x3 x13 (wrap64 (x14 + 1)))
end
def impl_IsSimple.f (k : Nat) (l0 : List (S82)) : Option (Bool) := (impl_IsLine.f k l0).bind fun t300 => (if t300 = true then ((impl_SegmentsOf.f k l0).bind fun t301 => (impl_IsSimple.l0 k t301 (t301.length : Int) 0)) else (some false))
attribute [local go_sem] max2_int min2_int max_two min_two max_three min_three max_four min_four   -- for this text's walks alone
set_option linter.unusedVariables false
set_option linter.unusedSimpArgs false

/-! ### impl_IsFeature: function 72 -/
def impl_IsFeature.j0 : Nat → Bool → Int → Int → Int → ByteArray → List (S82) → Option (Bool)
 | 0, _, _, _, _, _, _ => none
 | k + 1, x23, x311000, x311001, x311002, x311003, x311004 => if x23 = true then (some false) else (if x311001 = 1 then (if (x311004.length : Int) = 1 then (if 0 < (x311004.length : Int) then ((impl_IsPoint.f ((rd_T82 x311004 0).f0) ((rd_T82 x311004 0).f1)).bind fun t315 => (some t315)) else (none)) else (some false)) else (if x311001 = 2 then ((impl_IsSimple.f k x311004).bind fun t316 => (some t316)) else (if x311001 = 3 then ((impl_IsRing.f k x311004).bind fun t317 => (some t317)) else (some false))))
def impl_IsFeature.f (k : Nat) (a0_0 : Int) (a0_1 : Int) (a0_2 : Int) (a0_3 : ByteArray) (l0_4 : List (S82)) : Option (Bool) := (impl_InRange.f a0_0 1 99).bind fun t311 => (if t311 = true then ((impl_InRange.f a0_2 0 9).bind fun t312 => (if t312 = true then (if a0_3.toList = ([] : List UInt8) then (impl_IsFeature.j0 k false a0_0 a0_1 a0_2 a0_3 l0_4) else ((impl_IsName.f k a0_3).bind fun t313 => (impl_IsFeature.j0 k (!t313) a0_0 a0_1 a0_2 a0_3 l0_4))) else (impl_IsFeature.j0 k true a0_0 a0_1 a0_2 a0_3 l0_4))) else (impl_IsFeature.j0 k true a0_0 a0_1 a0_2 a0_3 l0_4))
attribute [local go_sem] max2_int min2_int max_two min_two max_three min_three max_four min_four   -- for this text's walks alone
set_option linter.unusedVariables false
set_option linter.unusedSimpArgs false

/-! ### impl_IsSource: function 85 -/
def impl_IsSource.l0 : Nat → List (S29) → List (S29) → Int → Int → Option (Bool)
 | 0, _, _, _, _ => none
 | k + 1, x0, x8, x9, x10 => if x10 < x9 then (if 0 ≤ x10 then (if x10 < (x8.length : Int) then ((impl_IsFeature.f k ((rd_T29 x8 x10).f0) ((rd_T29 x8 x10).f1) ((rd_T29 x8 x10).f2) ((rd_T29 x8 x10).f3) ((rd_T29 x8 x10).f4)).bind fun t320 => (if t320 = true then (if x10 > 0 then (if 0 ≤ (wrap64 (x10 - 1)) then (if (wrap64 (x10 - 1)) < (x0.length : Int) then (if ((rd_T29 x8 x10).f0) ≤ ((rd_T29 x0 (wrap64 (x10 - 1))).f0) then (some false) else (impl_IsSource.l0 k x0 x8 x9 (wrap64 (x10 + 1)))) else (none)) else (none)) else (impl_IsSource.l0 k x0 x8 x9 (wrap64 (x10 + 1)))) else (some false))) else (none)) else (none)) else (some true)
def impl_IsSource.f (k : Nat) (l0 : List (S29)) : Option (Bool) := if (l0.length : Int) > 16 then (some false) else (impl_IsSource.l0 k l0 l0 (l0.length : Int) 0)
attribute [local go_sem] max2_int min2_int max_two min_two max_three min_three max_four min_four   -- for this text's walks alone
set_option linter.unusedVariables false
set_option linter.unusedSimpArgs false

/-! ### impl_RingMiddle: function 86 -/
def impl_RingMiddle.l0 : Nat → List (S82) → List (S82) → Int → Int → Int → Int → Option (Int × Int × Bool)
 | 0, _, _, _, _, _, _ => none
 | k + 1, x0, x12, x13, x14, x325000, x325001 => if x14 < x13 then (if 0 ≤ x14 then (if x14 < (x12.length : Int) then (impl_RingMiddle.l0 k x0 x12 x13 (wrap64 (x14 + 1)) (wrap64 (x325000 + ((rd_T82 x12 x14).f0))) (wrap64 (x325001 + ((rd_T82 x12 x14).f1)))) else (none)) else (none)) else (if (x0.length : Int) = 0 then (none) else (some (wrap64 (Int.tdiv x325000 (x0.length : Int)), wrap64 (Int.tdiv x325001 (x0.length : Int)), true)))
def impl_RingMiddle.f (k : Nat) (l0 : List (S82)) : Option (Int × Int × Bool) := (impl_IsRing.f k l0).bind fun t323 => (if t323 = true then (impl_RingMiddle.l0 k l0 l0 (l0.length : Int) 0 0 0) else (some (0, 0, false)))
/-! ### impl_AnchorsOf: function 29 -/
def impl_AnchorsOf.l0 : Nat → List (S93) → List (S29) → Int → Int → Option ((List (S93)))
 | 0, _, _, _, _ => none
 | k + 1, x3, x12, x13, x14 => if x14 < x13 then (if 0 ≤ x14 then (if x14 < (x12.length : Int) then (if ((rd_T29 x12 x14).f3).toList = ([] : List UInt8) then (impl_AnchorsOf.l0 k x3 x12 x13 (wrap64 (x14 + 1))) else (if ((rd_T29 x12 x14).f1) = 1 then (if 0 < (((rd_T29 x12 x14).f4).length : Int) then (if x3.length < 4398046511104 then (impl_AnchorsOf.l0 k (x3 ++ [(⟨(rd_T29 x12 x14).f0, (⟨(rd_T82 ((rd_T29 x12 x14).f4) 0).f0, (rd_T82 ((rd_T29 x12 x14).f4) 0).f1⟩ : S82), (rd_T29 x12 x14).f2⟩ : S93)]) x12 x13 (wrap64 (x14 + 1))) else (none)) else (none)) else (if ((rd_T29 x12 x14).f1) = 2 then (if 0 ≤ (wrap64 ((((rd_T29 x12 x14).f4).length : Int) / 2)) then (if (wrap64 ((((rd_T29 x12 x14).f4).length : Int) / 2)) < (((rd_T29 x12 x14).f4).length : Int) then (if x3.length < 4398046511104 then (impl_AnchorsOf.l0 k (x3 ++ [(⟨(rd_T29 x12 x14).f0, (⟨(rd_T82 ((rd_T29 x12 x14).f4) (wrap64 ((((rd_T29 x12 x14).f4).length : Int) / 2))).f0, (rd_T82 ((rd_T29 x12 x14).f4) (wrap64 ((((rd_T29 x12 x14).f4).length : Int) / 2))).f1⟩ : S82), (rd_T29 x12 x14).f2⟩ : S93)]) x12 x13 (wrap64 (x14 + 1))) else (none)) else (none)) else (none)) else (if ((rd_T29 x12 x14).f1) = 3 then ((impl_RingMiddle.f k ((rd_T29 x12 x14).f4)).bind fun bt342 => (if x3.length < 4398046511104 then (impl_AnchorsOf.l0 k (x3 ++ [(⟨(rd_T29 x12 x14).f0, (⟨bt342.1, bt342.2.1⟩ : S82), (rd_T29 x12 x14).f2⟩ : S93)]) x12 x13 (wrap64 (x14 + 1))) else (none))) else (if x3.length < 4398046511104 then (impl_AnchorsOf.l0 k (x3 ++ [(⟨(rd_T29 x12 x14).f0, (⟨0, 0⟩ : S82), (rd_T29 x12 x14).f2⟩ : S93)]) x12 x13 (wrap64 (x14 + 1))) else (none)))))) else (none)) else (none)) else (some x3)
def impl_AnchorsOf.f (k : Nat) (l0 : List (S29)) : Option ((List (S93))) := (some (([] : List (S93)) : List (S93))).bind fun y327 => ((impl_IsSource.f k l0).bind fun t330 => (if t330 = true then (impl_AnchorsOf.l0 k y327 l0 (l0.length : Int) 0) else (some y327)))
/-! ### laws_eqPoint: function 115 -/
def laws_eqPoint.f (a0_0 : Int) (a0_1 : Int) (a1_0 : Int) (a1_1 : Int) : Option (Bool) := if a0_0 = a1_0 then (if a0_1 = a1_1 then (some true) else (some false)) else (some false)
/-! ### laws_eqPlace: function 87 -/
def laws_eqPlace.f (a0_0 : Int) (a0_1 : Int) (a0_2 : Int) (a0_3 : Int) (a1_0 : Int) (a1_1 : Int) (a1_2 : Int) (a1_3 : Int) : Option (Bool) := if a0_0 = a1_0 then ((laws_eqPoint.f a0_1 a0_2 a1_1 a1_2).bind fun t355 => (if t355 = true then (if a0_3 = a1_3 then (some true) else (some false)) else (some false))) else (some false)
attribute [local go_sem] max2_int min2_int max_two min_two max_three min_three max_four min_four   -- for this text's walks alone
set_option linter.unusedVariables false
set_option linter.unusedSimpArgs false

/-! ### laws_eqPlaceS: function 30 -/
def laws_eqPlaceS.l0 : Nat → List (S93) → List (S93) → Int → Option (Bool)
 | 0, _, _, _ => none
 | k + 1, x0, x1, x5 => if x5 < (x0.length : Int) then (if 0 ≤ x5 then (if x5 < (x1.length : Int) then ((laws_eqPlace.f ((rd_T93 x0 x5).f0) ((rd_T93 x0 x5).f1.f0) ((rd_T93 x0 x5).f1.f1) ((rd_T93 x0 x5).f2) ((rd_T93 x1 x5).f0) ((rd_T93 x1 x5).f1.f0) ((rd_T93 x1 x5).f1.f1) ((rd_T93 x1 x5).f2)).bind fun t358 => (if t358 = true then (laws_eqPlaceS.l0 k x0 x1 (wrap64 (x5 + 1))) else (some false))) else (none)) else (none)) else (some true)
def laws_eqPlaceS.f (k : Nat) (l0 : List (S93)) (l1 : List (S93)) : Option (Bool) := if (l0.length : Int) = (l1.length : Int) then (laws_eqPlaceS.l0 k l0 l1 0) else (some false)
/-! ### laws_eqPointS: function 67 -/
def laws_eqPointS.l0 : Nat → List (S82) → List (S82) → Int → Option (Bool)
 | 0, _, _, _ => none
 | k + 1, x0, x1, x5 => if x5 < (x0.length : Int) then (if 0 ≤ x5 then (if x5 < (x1.length : Int) then ((laws_eqPoint.f ((rd_T82 x0 x5).f0) ((rd_T82 x0 x5).f1) ((rd_T82 x1 x5).f0) ((rd_T82 x1 x5).f1)).bind fun t361 => (if t361 = true then (laws_eqPointS.l0 k x0 x1 (wrap64 (x5 + 1))) else (some false))) else (none)) else (none)) else (some true)
def laws_eqPointS.f (k : Nat) (l0 : List (S82)) (l1 : List (S82)) : Option (Bool) := if (l0.length : Int) = (l1.length : Int) then (laws_eqPointS.l0 k l0 l1 0) else (some false)
/-! ### laws_eqFeature: function 19 -/
def laws_eqFeature.f (k : Nat) (a0_0 : Int) (a0_1 : Int) (a0_2 : Int) (a0_3 : ByteArray) (l0_4 : List (S82)) (a1_0 : Int) (a1_1 : Int) (a1_2 : Int) (a1_3 : ByteArray) (l1_4 : List (S82)) : Option (Bool) := if a0_0 = a1_0 then (if a0_1 = a1_1 then (if a0_2 = a1_2 then (if a0_3.toList = a1_3.toList then ((laws_eqPointS.f k l0_4 l1_4).bind fun t364 => (if t364 = true then (some true) else (some false))) else (some false)) else (some false)) else (some false)) else (some false)
attribute [local go_sem] max2_int min2_int max_two min_two max_three min_three max_four min_four   -- for this text's walks alone
set_option linter.unusedVariables false
set_option linter.unusedSimpArgs false

/-! ### laws_eqFeatureS: function 31 -/
def laws_eqFeatureS.l0 : Nat → List (S29) → List (S29) → Int → Option (Bool)
 | 0, _, _, _ => none
 | k + 1, x0, x1, x5 => if x5 < (x0.length : Int) then (if 0 ≤ x5 then (if x5 < (x1.length : Int) then ((laws_eqFeature.f k ((rd_T29 x0 x5).f0) ((rd_T29 x0 x5).f1) ((rd_T29 x0 x5).f2) ((rd_T29 x0 x5).f3) ((rd_T29 x0 x5).f4) ((rd_T29 x1 x5).f0) ((rd_T29 x1 x5).f1) ((rd_T29 x1 x5).f2) ((rd_T29 x1 x5).f3) ((rd_T29 x1 x5).f4)).bind fun t367 => (if t367 = true then (laws_eqFeatureS.l0 k x0 x1 (wrap64 (x5 + 1))) else (some false))) else (none)) else (none)) else (some true)
def laws_eqFeatureS.f (k : Nat) (l0 : List (S29)) (l1 : List (S29)) : Option (Bool) := if (l0.length : Int) = (l1.length : Int) then (laws_eqFeatureS.l0 k l0 l1 0) else (some false)
/-! ### laws_markText: function 88 -/
def laws_markText.l0 : Nat → Int → ByteArray → Option (ByteArray)
 | 0, _, _ => none
 | k + 1, x0, x3 => if x0 > 0 then ((some (([(wrap64 (48 + (Int.tmod x0 10))) % 256] : List Int) : List Int)).bind fun y368 => (if (strOfNums y368).size + x3.size ≤ 9223372036854775807 then (laws_markText.l0 k (wrap64 (Int.tdiv x0 10)) ((strOfNums y368) ++ x3)) else (none))) else (if 1 + x3.size ≤ 9223372036854775807 then (some ((⟨#[109]⟩ : ByteArray) ++ x3)) else (none))
def laws_markText.f (k : Nat) (a0 : Int) : Option (ByteArray) := if a0 ≤ 0 then (some (⟨#[109, 48]⟩ : ByteArray)) else (laws_markText.l0 k a0 (⟨#[]⟩ : ByteArray))
attribute [local go_sem] max2_int min2_int max_two min_two max_three min_three max_four min_four   -- for this text's walks alone
set_option linter.unusedVariables false
set_option linter.unusedSimpArgs false

/-- A state of type 29 at block g of W; what its slices lead to came in by w0. -/
def IsS29 (w0 W : World) (g : Nat) (f0 : Int) (f1 : Int) (f2 : Int) (f3 : ByteArray) (f4 : List (S82)) : Prop := ∃ A4 c4, W.heap[g]? = some (.cells #[.int .i64 f0, .int .i64 f1, .int .i64 f2, .string f3, .slice A4 f4.length c4] 29 (0, 0)) ∧ w0.heap.size ≤ g ∧ Kd.C k82 w0 A4 f4.length f4
theorem cellS29_0 {W : World} {g : Nat} {A4 : Option Addr} {c4 : Nat} {f0 : Int} {f1 : Int} {f2 : Int} {f3 : ByteArray} {f4 : List (S82)} (h : W.heap[g]? = some (.cells #[.int .i64 f0, .int .i64 f1, .int .i64 f2, .string f3, .slice A4 f4.length c4] 29 (0, 0))) : W.cell? ⟨g, 0, none⟩ = some (.int .i64 f0) := (blk_cell h 0).trans rfl
theorem cellS29_1 {W : World} {g : Nat} {A4 : Option Addr} {c4 : Nat} {f0 : Int} {f1 : Int} {f2 : Int} {f3 : ByteArray} {f4 : List (S82)} (h : W.heap[g]? = some (.cells #[.int .i64 f0, .int .i64 f1, .int .i64 f2, .string f3, .slice A4 f4.length c4] 29 (0, 0))) : W.cell? ⟨g, 1, none⟩ = some (.int .i64 f1) := (blk_cell h 1).trans rfl
theorem cellS29_2 {W : World} {g : Nat} {A4 : Option Addr} {c4 : Nat} {f0 : Int} {f1 : Int} {f2 : Int} {f3 : ByteArray} {f4 : List (S82)} (h : W.heap[g]? = some (.cells #[.int .i64 f0, .int .i64 f1, .int .i64 f2, .string f3, .slice A4 f4.length c4] 29 (0, 0))) : W.cell? ⟨g, 2, none⟩ = some (.int .i64 f2) := (blk_cell h 2).trans rfl
theorem cellS29_3 {W : World} {g : Nat} {A4 : Option Addr} {c4 : Nat} {f0 : Int} {f1 : Int} {f2 : Int} {f3 : ByteArray} {f4 : List (S82)} (h : W.heap[g]? = some (.cells #[.int .i64 f0, .int .i64 f1, .int .i64 f2, .string f3, .slice A4 f4.length c4] 29 (0, 0))) : W.cell? ⟨g, 3, none⟩ = some (.string f3) := (blk_cell h 3).trans rfl
theorem cellS29_4 {W : World} {g : Nat} {A4 : Option Addr} {c4 : Nat} {f0 : Int} {f1 : Int} {f2 : Int} {f3 : ByteArray} {f4 : List (S82)} (h : W.heap[g]? = some (.cells #[.int .i64 f0, .int .i64 f1, .int .i64 f2, .string f3, .slice A4 f4.length c4] 29 (0, 0))) : W.cell? ⟨g, 4, none⟩ = some (.slice A4 f4.length c4) := (blk_cell h 4).trans rfl
/-! ### laws_markFeatureS: function 32 -/
/-- A block of so many cells. -/
def Blk (w : World) (g m t : Nat) : Prop := ∃ c : Array Value, w.heap[g]? = some (.cells c t (0, 0)) ∧ c.size = m
theorem Blk.cell {w : World} {g m t : Nat} (h : Blk w g m t) {j : Nat} (hj : j < m) : ∃ v, w.cell? ⟨g, j, none⟩ = some v := by
  obtain ⟨c, h, rfl⟩ := h
  exact ⟨c[j], (blk_cell h j).trans (Array.getElem?_eq_getElem hj)⟩
theorem Blk.frozen {w : World} {g m t : Nat} (h : Blk w g m t) (j : Nat) : w.frozen? ⟨g, j, none⟩ = false := by
  obtain ⟨c, h, rfl⟩ := h
  exact blk_frozen h j
theorem Blk.set {w : World} {g m t : Nat} (h : Blk w g m t) (j : Nat) (u : Value) : Blk (w.setCell ⟨g, j, none⟩ u) g m t := by
  obtain ⟨c, h, rfl⟩ := h
  exact ⟨_, blk_set h j u, by simp⟩
theorem Blk.far {w : World} {g g' m t : Nat} (h : Blk w g m t) (hn : g ≠ g') (j : Nat) (u : Value) : Blk (w.setCell ⟨g', j, none⟩ u) g m t := by
  obtain ⟨c, h, rfl⟩ := h
  exact ⟨c, blk_far h hn u, rfl⟩
theorem grown_set {w W : World} {g : Nat} (h : w.grownBy W (some g)) (j : Nat) (u : Value) : w.grownBy (W.setCell ⟨g, j, none⟩ u) (some g) := by
  refine ⟨h.os, h.tape, h.output, ?_, ?_⟩
  · have := h.size; rw [World.size_setCell]; exact this
  · intro i hi hne; rw [Below.heap_setCell W ⟨g, j, none⟩ u i (fun e => hne (by rw [e]))]
    exact h.block i hi hne

/-- A feature's row, as far as marking it asks: so many cells, and where each feature's points lie. -/
def OutC (w : World) (g m n : Nat) (vs : Nat → Value) : Prop := ∃ c : Array Value, w.heap[g]? = some (.cells c 29 (0, 0)) ∧ c.size = m ∧ ∀ j, j < n → c[j * 5 + 4]? = some (vs j)
theorem OutC.blk {w : World} {g m n : Nat} {vs : Nat → Value} (h : OutC w g m n vs) : Blk w g m 29 := by
  obtain ⟨c, h, h', _⟩ := h; exact ⟨c, h, h'⟩
theorem OutC.at_ {w : World} {g m n : Nat} {vs : Nat → Value} (h : OutC w g m n vs) {j : Nat} (hj : j < n) : w.cell? ⟨g, j * 5 + 4, none⟩ = some (vs j) := by
  obtain ⟨c, h, _, h'⟩ := h; exact (blk_cell h _).trans (h' j hj)
theorem OutC.set {w : World} {g m n : Nat} {vs : Nat → Value} (h : OutC w g m n vs) (i d : Nat) (hd : d < 4) (u : Value) : OutC (w.setCell ⟨g, i * 5 + d, none⟩ u) g m n vs := by
  obtain ⟨c, h, h1, h2⟩ := h
  exact ⟨_, blk_set h _ u, by simpa using h1, fun j hj => by rw [Array.getElem?_setIfInBounds_ne (by omega)]; exact h2 j hj⟩
theorem OutC.below {w W : World} {g m n : Nat} {vs : Nat → Value} (h : OutC w g m n vs) (hb : Below w.heap.size w W) : OutC W g m n vs := by
  obtain ⟨c, h, h1, h2⟩ := h; exact ⟨c, blk_below h hb, h1, h2⟩
theorem OutC.grown {w W : World} {g m n : Nat} {vs : Nat → Value} (h : OutC w g m n vs) {g' : Nat} (hg : w.grownBy W (some g')) (hn : g ≠ g') : OutC W g m n vs := by
  obtain ⟨c, h, h1, h2⟩ := h; exact ⟨c, blk_grown h hg (fun e => hn (by injection e)), h1, h2⟩
/-- A row of points that is the call's own: nothing, or a block with room. -/
def Nst (w : World) (P : Nat → Prop) (base : Nat) (v : Value) (n : Nat) : Prop := (v = .slice none 0 0 ∧ n = 0) ∨ ∃ g cap m, v = .slice (some ⟨g, 0, none⟩) n cap ∧ P g ∧ base ≤ g ∧ 2 * n ≤ m ∧ Blk w g m 82
theorem Nst.move {w W : World} {P : Nat → Prop} {base n : Nat} {v : Value} (h : Nst w P base v n) (hm : ∀ g m, P g → Blk w g m 82 → Blk W g m 82) : Nst W P base v n := by
  rcases h with h | ⟨g, cap, m, h1, h2, h3, h4, h5⟩
  · exact .inl h
  · exact .inr ⟨g, cap, m, h1, h2, h3, h4, hm g m h2 h5⟩
theorem Blk.below {w W : World} {g m t : Nat} (h : Blk w g m t) (hb : Below w.heap.size w W) : Blk W g m t := by
  obtain ⟨c, h, rfl⟩ := h; exact ⟨c, blk_below h hb, rfl⟩
theorem Blk.grown {w W : World} {g g' m m' t : Nat} (h : Blk w g m t) (hg : w.grownBy W (some g')) (h0 : Blk w g' m' t) (h1 : Blk W g' m' t) : Blk W g m t := by
  by_cases e : g = g'
  · subst e; obtain ⟨c, h, rfl⟩ := h; obtain ⟨c', h', rfl⟩ := h0; rw [h] at h'; injection h' with h'; injection h' with h'; subst h'; exact h1
  · obtain ⟨c, h, rfl⟩ := h
    exact ⟨c, blk_grown h hg (fun q => e (by injection q)), rfl⟩
def mfT : List S29 → Nat
  | [] => 0
  | x :: r => 4 + 2 * x.f4.length + mfT r
theorem mfT_app (a b : List S29) : mfT (a ++ b) = mfT a + mfT b := by
  induction a with
  | nil => simp [mfT]
  | cons x a ih => simp [mfT, ih]; omega
theorem mfT_take (l : List S29) (i : Nat) (h : i < l.length) : mfT (l.take (i + 1)) = mfT (l.take i) + (4 + 2 * (l.getD i z29).f4.length) := by
  rw [List.take_succ_eq_append_getElem h, mfT_app, List.getD_eq_getElem?_getD, List.getElem?_eq_getElem h]; simp [mfT]
theorem mfT_le (l : List S29) (i : Nat) : mfT (l.take i) ≤ mfT l := by
  have := mfT_app (l.take i) (l.drop i); rw [List.take_append_drop] at this; omega
theorem nst_of {w : World} {base : Nat} {P : Nat → Prop} {v : Value} {xs : List S82} (h : Kd.R k82 82 w base P v xs) : Nst w P base v xs.length := by
  obtain ⟨hok, inner, ho, _⟩ := h; obtain ⟨hl, ho⟩ := ho; have hs : k82.sz = 2 := rfl; rw [hs] at hl ho
  rcases ho with ⟨rfl, h0⟩ | ⟨g, cap, cur, rfl, h1, h2, h3, h4, h5, h6⟩
  · exact .inl ⟨rfl, h0⟩
  · refine .inr ⟨g, cap, cur.size, rfl, hok g rfl, h1, by omega, cur, h2, rfl⟩
/-- What is known of a row of features that is the call's own. -/
theorem out_of {w : World} {base : Nat} {P : Nat → Prop} {u : Value} {l : List S29} (h : Kd.R k29 29 w base P u l) (hl : 0 < l.length) :
    ∃ g cap m, ∃ vs : Nat → Value, u = .slice (some ⟨g, 0, none⟩) l.length cap ∧ P g ∧ base ≤ g ∧ l.length * 5 ≤ m ∧ OutC w g m l.length vs ∧ ∀ j, j < l.length → Nst w (fun k => P k ∧ k ≠ g) base (vs j) (l.getD j z29).f4.length := by
  obtain ⟨g, cap, rfl, h1, h2, cells, h3⟩ := Kd.R_form h hl; have hok := h.1 g rfl; have hc : ∀ j : Nat, j < l.length → ∃ v, cells[j * 5 + 4]? = some v ∧ Nst w (fun k => P k ∧ k ≠ g) base v (l.getD j z29).f4.length := by
    intro j hj; obtain ⟨c, hcl, hM, hcc, _⟩ := Kd.R_elem h z29 (j : Int) (by omega) (by omega); obtain ⟨v4, rfl, g4⟩ := k29_openM hM; have := hcc 4 v4 rfl; rw [blk_cell h3] at this; rw [Int.toNat_natCast] at this g4
    exact ⟨v4, this, nst_of g4⟩
  have hm : l.length * 5 ≤ cells.size := by
    obtain ⟨v, hv, _⟩ := hc (l.length - 1) (by omega); have := (Array.getElem?_eq_some_iff.1 hv).1
    omega
  refine ⟨g, cap, cells.size, fun j => (cells[j * 5 + 4]?).getD undef, rfl, hok, h1, hm, ⟨cells, h3, rfl, fun j hj => ?_⟩, fun j hj => ?_⟩
  · obtain ⟨v, hv, _⟩ := hc j hj; simp only [hv]; rfl
  · obtain ⟨v, hv, hn⟩ := hc j hj; simp only [hv]; exact hn
theorem markText_l (n : Nat) : ∀ (x : Int) (b : ByteArray), 0 ≤ x → x ≤ 9223372036854775807 → x < (10 : Int) ^ n → b.size + n ≤ 1000 → ∃ r, Ev (fun k => laws_markText.l0 k x b) r := by
  induction n with
  | zero =>
    intro x b h0 hm h1 h2; have hx : x = 0 := by simp at h1; omega
    subst hx; refine ⟨(⟨#[109]⟩ : ByteArray) ++ b, Ev.step (f := fun _ => some ((⟨#[109]⟩ : ByteArray) ++ b)) (fun k => ?_) (Ev.now _)⟩; simp only [laws_markText.l0]; rw [if_neg (by omega), if_pos (by omega)]
  | succ n ih =>
    intro x b h0 hm h1 h2
    by_cases hx : x > 0
    · have hd : Int.tdiv x 10 = x / 10 := Int.tdiv_eq_ediv_of_nonneg h0; have hlt : x / 10 < (10 : Int) ^ n := by
        rw [Int.pow_succ] at h1
        omega
      have hs : (strOfNums [(wrap64 (48 + (Int.tmod x 10))) % 256]).size = 1 := by rw [strOfNums_size]; rfl
      have hw : wrap64 (x / 10) = x / 10 := by unfold wrap64; omega
      obtain ⟨r, hr⟩ := ih (x / 10) (strOfNums [(wrap64 (48 + (Int.tmod x 10))) % 256] ++ b) (by omega) (by omega) hlt (by rw [ByteArray.size_append, hs]; omega); refine ⟨r, Ev.step (fun k => ?_) hr⟩; simp only [laws_markText.l0, Option.bind_some]; rw [if_pos hx, if_pos (by rw [hs]; omega), hd, hw]
    · have hx0 : x = 0 := by omega
      subst hx0; refine ⟨(⟨#[109]⟩ : ByteArray) ++ b, Ev.step (f := fun _ => some ((⟨#[109]⟩ : ByteArray) ++ b)) (fun k => ?_) (Ev.now _)⟩; simp only [laws_markText.l0]; rw [if_neg (by omega), if_pos (by omega)]
theorem mfT_ge (l : List S29) : l.length ≤ mfT l := by
  induction l with
  | nil => simp [mfT]
  | cons x l ih => simp [mfT]; omega
theorem mf_pred {n i k : Nat} (h : n - i ≤ k) (h' : i < n) : ∃ k1, k = k1 + 1 ∧ n - (i + 1) ≤ k1 := ⟨k - 1, by omega, by omega⟩
theorem mf_w {x : Int} (h0 : 0 ≤ x) (h1 : x ≤ 9223372036854775806) : wrap64 (x + 1) = x + 1 := by unfold wrap64; omega
theorem mf_ar {a1 : Int} {T M R len : Nat} (h0 : 0 ≤ a1) (hb : a1 + (M : Int) < 4611686018427387904) (ht : R = T + (4 + 2 * len)) (hle : R ≤ M) :
    0 ≤ a1 + (T : Int) ∧ a1 + (T : Int) + 4 ≤ 4611686018427387904 ∧ a1 + (T : Int) + 1 + 1 + 1 + 1 + 2 * (len : Int) = a1 + (R : Int) ∧ a1 + (T : Int) + 1 + 1 + 1 + 1 + 2 * (len : Int) < 4611686018427387904 := by omega
theorem mf_ar4 {x : Int} (h0 : 0 ≤ x) (h : x + 4 ≤ 4611686018427387904) : (0 ≤ x + 1 ∧ 0 ≤ x + 1 + 1 ∧ 0 ≤ x + 1 + 1 + 1 ∧ 0 ≤ x + 1 + 1 + 1 + 1) ∧ (x + 1 ≤ 4611686018427387904 ∧ x + 1 + 1 ≤ 4611686018427387904 ∧ x + 1 + 1 + 1 ≤ 4611686018427387904 ∧ x + 1 + 1 + 1 + 1 ≤ 4611686018427387904) ∧ wrap64 (x + 1) = x + 1 ∧ wrap64 (x + 1 + 1) = x + 1 + 1 ∧ wrap64 (x + 1 + 1 + 1) = x + 1 + 1 + 1 ∧ wrap64 (x + 1 + 1 + 1 + 1) = x + 1 + 1 + 1 + 1 := by
  refine ⟨by omega, by omega, mf_w (by omega) (by omega), mf_w (by omega) (by omega), mf_w (by omega) (by omega), mf_w (by omega) (by omega)⟩
theorem mf_ar5 {i n M : Nat} {a1 : Int} (h0 : 0 ≤ a1) (hb : a1 + (M : Int) < 4611686018427387904) (hge : n ≤ M) (h : i < n) : wrap64 ((i : Int) + 1) = ((i + 1 : Nat) : Int) := by unfold wrap64; omega
def laws_markFeatureS.f (l0 : List S29) (a1 : Int) : Option (Int) := if 0 ≤ a1 ∧ a1 + (mfT l0 : Int) < 4611686018427387904 then some (a1 + (mfT l0 : Int)) else none
/-! ### laws_markPlaceS: function 33 -/
def laws_markPlaceS.l0 : Nat → List (S93) → Int → Int → Option (Int × (List (S93)))
 | 0, _, _, _ => none
 | k + 1, x0, x1, x5 => if x5 < (x0.length : Int) then (if 0 ≤ x5 then ((some (x0.set (x5 : Int).toNat (⟨x1, (⟨(rd_T93 x0 x5).f1.f0, (rd_T93 x0 x5).f1.f1⟩ : S82), (rd_T93 x0 x5).f2⟩ : S93) : List (S93))).bind fun y371 => ((some (y371.set (x5 : Int).toNat (⟨(rd_T93 y371 x5).f0, (⟨wrap64 (x1 + 1), (rd_T93 y371 x5).f1.f1⟩ : S82), (rd_T93 y371 x5).f2⟩ : S93) : List (S93))).bind fun y372 => ((some (y372.set (x5 : Int).toNat (⟨(rd_T93 y372 x5).f0, (⟨(rd_T93 y372 x5).f1.f0, wrap64 ((wrap64 (x1 + 1)) + 1)⟩ : S82), (rd_T93 y372 x5).f2⟩ : S93) : List (S93))).bind fun y373 => (laws_markPlaceS.l0 k (y373.set (x5 : Int).toNat (⟨(rd_T93 y373 x5).f0, (⟨(rd_T93 y373 x5).f1.f0, (rd_T93 y373 x5).f1.f1⟩ : S82), wrap64 ((wrap64 ((wrap64 (x1 + 1)) + 1)) + 1)⟩ : S93)) (wrap64 ((wrap64 ((wrap64 ((wrap64 (x1 + 1)) + 1)) + 1)) + 1)) (wrap64 (x5 + 1)))))) else (none)) else (some (x1, x0))
def laws_markPlaceS.f (k : Nat) (l0 : List (S93)) (a1 : Int) : Option (Int × (List (S93))) := laws_markPlaceS.l0 k l0 a1 0
/-! ### laws_heldPlaceS: function 34 -/
def laws_heldPlaceS.l0 : Nat → List (S93) → Int → Int → Option (Int)
 | 0, _, _, _ => none
 | k + 1, x0, x1, x5 => if x5 < (x0.length : Int) then (if 0 ≤ x5 then (if ((rd_T93 x0 x5).f0) = x1 then (if ((rd_T93 x0 x5).f1.f0) = (wrap64 (x1 + 1)) then (if ((rd_T93 x0 x5).f1.f1) = (wrap64 ((wrap64 (x1 + 1)) + 1)) then (if ((rd_T93 x0 x5).f2) = (wrap64 ((wrap64 ((wrap64 (x1 + 1)) + 1)) + 1)) then (laws_heldPlaceS.l0 k x0 (wrap64 ((wrap64 ((wrap64 ((wrap64 (x1 + 1)) + 1)) + 1)) + 1)) (wrap64 (x5 + 1))) else (some (-1))) else (some (-1))) else (some (-1))) else (some (-1))) else (none)) else (some x1)
def laws_heldPlaceS.f (k : Nat) (l0 : List (S93)) (a1 : Int) : Option (Int) := laws_heldPlaceS.l0 k l0 a1 0
attribute [local go_sem] max2_int min2_int max_two min_two max_three min_three max_four min_four   -- for this text's walks alone
set_option linter.unusedVariables false
set_option linter.unusedSimpArgs false

/-! ### laws_FnExactAnchorsOf: function 6 -/
def laws_FnExactAnchorsOf.j0 : Nat → List (S24) → List (S93) → List (S93) → Bool → Option (Bool)
 | 0, _, _, _, _ => none
 | k + 1, x0, x4, x6, x42 => if x42 = true then (some false) else ((laws_markPlaceS.f k x6 1).bind fun bt399 => ((laws_heldPlaceS.f k bt399.2 1).bind fun t401 => (if t401 < 0 then (some false) else (if t401 = bt399.1 then ((laws_toFeatureS.f k x0).bind fun t402 => ((impl_AnchorsOf.f k t402).bind fun t405 => ((laws_eqPlaceS.f k t405 x4).bind fun t408 => (if t408 = true then ((laws_heldPlaceS.f k bt399.2 1).bind fun t409 => (if t409 < 0 then (some false) else (if t409 = bt399.1 then (some true) else (some false)))) else (some false))))) else (some false)))))
def laws_FnExactAnchorsOf.f (k : Nat) (l0 : List (S24)) : Option (Bool) := (laws_szFeatureS.f k l0 1048576).bind fun t379 => (if t379 < 0 then (some true) else ((laws_toFeatureS.f k l0).bind fun t380 => ((spec_AnchorsOf.f k t380).bind fun t383 => ((laws_toFeatureS.f k l0).bind fun t386 => ((impl_AnchorsOf.f k t386).bind fun t389 => ((laws_eqPlaceS.f k t389 t383).bind fun t392 => (if t392 = true then ((laws_toFeatureS.f k l0).bind fun t393 => ((laws_eqFeatureS.f k t386 t393).bind fun t396 => (if t396 = true then ((laws_markFeatureS.f t386 1).bind fun t397 => (if t397 < 0 then (laws_FnExactAnchorsOf.j0 k l0 t383 t389 true) else ((laws_eqPlaceS.f k t389 t383).bind fun t398 => (laws_FnExactAnchorsOf.j0 k l0 t383 t389 (!t398))))) else (some false)))) else (some false))))))))
end Go.Proofs.Ytdfehjfmihokpaa.PFnExactAnchorsOf
