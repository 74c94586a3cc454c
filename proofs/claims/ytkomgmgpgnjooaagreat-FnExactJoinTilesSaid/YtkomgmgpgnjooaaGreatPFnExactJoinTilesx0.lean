-- Written by a program of this session's (evlaw.py).
import Derived.ArgAppend
import Derived.Below
import Derived.BigQuiet
import Derived.Deep.AppendLies
import Derived.Deep.CutBlock
import Derived.Deep.DeepCutAuto
import Derived.Deep.Draws
import Derived.Deep.LoopGhost
import Derived.Deep.OwnRows
import Derived.Deep.QuietTactic
import Derived.Deep.RegionHeld3
import Derived.KernelRfl
import Derived.Laws.BitsLemmas
import Derived.Laws.BytesArg
import Derived.Laws.IdiomCopy
import Derived.Laws.MakeOwn
import Derived.Laws.OwnMore
import Derived.Laws.Rows
import Derived.Laws.Slices
import Derived.Lib.AppendStr
import Derived.Lib.ConvBytes
import Derived.Maps.AppendAt
import Derived.OrdersHeld
import Derived.OwnWalk
import Derived.RowKit
import Derived.RowKit3
import Derived.Tactics
import Derived.Test.YtkomgmgpgnjooaaGreatGeo
import Derived.Test.YtkomgmgpgnjooaaGreatHand
import Derived.Test.YtkomgmgpgnjooaaGreatMeet
import Derived.Test.YtkomgmgpgnjooaaGreatProg
import Derived.Test.YtkomgmgpgnjooaaGreatQuiet
import Derived.Test.YtkomgmgpgnjooaaGreatRowK
import Derived.Test.YtkomgmgpgnjooaaGreatTwo
import Derived.Test.YtkomgmgpgnjooaaGreatWApart
import Derived.Test.YtkomgmgpgnjooaaGreatWArr
import Derived.Test.YtkomgmgpgnjooaaGreatWAt
import Derived.Test.YtkomgmgpgnjooaaGreatWEqStruct
import Derived.Test.YtkomgmgpgnjooaaGreatWFoot
import Derived.Test.YtkomgmgpgnjooaaGreatWFootNe
import Derived.Test.YtkomgmgpgnjooaaGreatWFour
import Derived.Test.YtkomgmgpgnjooaaGreatWGuard
import Derived.Test.YtkomgmgpgnjooaaGreatWInv
import Derived.Test.YtkomgmgpgnjooaaGreatWInvWords
import Derived.Test.YtkomgmgpgnjooaaGreatWKept
import Derived.Test.YtkomgmgpgnjooaaGreatWLast
import Derived.Test.YtkomgmgpgnjooaaGreatWMore
import Derived.Test.YtkomgmgpgnjooaaGreatWN
import Derived.Test.YtkomgmgpgnjooaaGreatWNEv
import Derived.Test.YtkomgmgpgnjooaaGreatWQPut
import Derived.Test.YtkomgmgpgnjooaaGreatWRepsOne
import Derived.Test.YtkomgmgpgnjooaaGreatWShare
import Derived.Test.YtkomgmgpgnjooaaGreatWTab
import Derived.Test.YtkomgmgpgnjooaaGreatWWords
import Derived.Test.YtkomgmgpgnjooaaGreatWZeros
import Derived.Test.YtkomgmgpgnjooaaGreatZ
import Derived.WalkKit
import Derived.WideLaws
namespace Go.Proofs.YtkomgmgpgnjooaaGreat.PFnExactJoinTiles
open Go.RowKit Go.Proofs.YtkomgmgpgnjooaaGreatW.PrintWords Go.Proofs.YtkomgmgpgnjooaaGreatW.PrintLast Go.Proofs.YtkomgmgpgnjooaaGreatW.PrintMore Go.Proofs.YtkomgmgpgnjooaaGreatGeo Go.Proofs.YtkomgmgpgnjooaaGreatHand Go.Proofs.YtkomgmgpgnjooaaGreatMeet Go.Proofs.YtkomgmgpgnjooaaGreatQuiet Go.Proofs.YtkomgmgpgnjooaaGreatZ Go.Proofs.YtkomgmgpgnjooaaGreatZ
attribute [local go_sem] max2_int min2_int max_two min_two max_three min_three max_four min_four   -- for this text's walks alone
set_option linter.unusedVariables false
set_option linter.unusedSimpArgs false
def errW : Option Int → Value
  | none => .nilIface
  | some c => .iface 0 (.int .i64 c)
theorem errW_none : errW none = .nilIface := rfl
theorem errW_some (c : Int) : errW (some c) = .iface 0 (.int .i64 c) := rfl
theorem info3 : (Tryz.prog.info? 3).map (fun i => (i.zero, i.size, i.bytes)) = some (some (.int .i64 0), 1, 8) := by kernel_rfl
theorem info5 : (Tryz.prog.info? 5).map (fun i => (i.zero, i.size, i.bytes)) = some (some (.int .u8 0), 1, 1) := by kernel_rfl
theorem info56 : (Tryz.prog.info? 56).map (fun i => (i.zero, i.size, i.bytes)) = some (some (.agg #[(.int .i64 0), (.int .i64 0)]), 2, 16) := by kernel_rfl
theorem info59 : (Tryz.prog.info? 59).map (fun i => (i.zero, i.size, i.bytes)) = some (some (.agg #[(.int .i64 0), (.int .i64 0), (.int .i64 0), (.string ⟨#[]⟩), (.slice none 0 0)]), 5, 64) := by kernel_rfl
theorem info75 : (Tryz.prog.info? 75).map (fun i => (i.zero, i.size, i.bytes)) = some (some (.agg #[(.int .i64 0), (.int .i64 0)]), 2, 16) := by kernel_rfl
theorem info133 : (Tryz.prog.info? 133).map (fun i => (i.zero, i.size, i.bytes)) = some (some (.agg #[(.int .i64 0), (.int .i64 0), (.int .i64 0), (.int .i64 0)]), 4, 32) := by kernel_rfl
-- the values' own types
structure S136 where
  f0 : Int
  f1 : Int
def z136 : S136 := ⟨(0 : Int), (0 : Int)⟩
def k136 : Kd S136 := Kd.iso (Kd.pair (Kd.int .i64) (Kd.int .i64)) (fun x : S136 => (x.f0, x.f1))
theorem k136_open {w : World} {x : S136} {cs : List Value} (h : k136.K w x cs) : cs = [.int .i64 x.f0, .int .i64 x.f1] := by
  obtain ⟨_, _, rfl, rfl, rfl⟩ := h
  exact rfl
theorem k136_openM {w : World} {base : Nat} {ok : Nat → Prop} {x : S136} {cs : List Value} (h : k136.M w base ok x cs) : cs = [.int .i64 x.f0, .int .i64 x.f1] := by
  obtain ⟨_, _, rfl, rfl, rfl⟩ := h
  exact rfl
theorem k136_mk (w : World) (x : S136)  : k136.K w x [.int .i64 x.f0, .int .i64 x.f1] := ⟨[.int .i64 x.f0], [.int .i64 x.f1], rfl, rfl, rfl⟩
theorem k136_mkM (w : World) (base : Nat) (ok : Nat → Prop) (x : S136)  : k136.M w base ok x [.int .i64 x.f0, .int .i64 x.f1] := ⟨[.int .i64 x.f0], [.int .i64 x.f1], rfl, rfl, rfl⟩
def rd_T136 (xs : List S136) (i : Int) : S136 := xs.getD i.toNat z136
theorem at_T136 {w : World} {A : Option Addr} {n : Nat} {xs : List S136} (h : Kd.C k136 w A n xs) (i : Int) (h0 : 0 ≤ i) (h1 : i < n) : ∃ ad , A = some ad ∧ w.cell? (ad.add (i.toNat * 2)) = some (.int .i64 (rd_T136 xs i).f0) ∧ w.cell? ⟨(ad.add (i.toNat * 2)).block, (ad.add (i.toNat * 2)).off + 1, none⟩ = some (.int .i64 (rd_T136 xs i).f1) := by
  obtain ⟨ad, c, e, _, hK, hc0⟩ := Kd.C_get h z136 i h0 h1
  have hc : ∀ j u, c[j]? = some u → w.cell? (ad.add (i.toNat * 2 + j)) = some u := hc0
  obtain rfl := k136_open hK
  exact ⟨ad, e, hc 0 _ rfl, by rw [← add_field _ _ 1 (by omega)]; exact hc 1 _ rfl⟩
def rd_L3 (xs : List (List S136)) (i : Int) : (List S136) := xs.getD i.toNat ([] : List S136)
theorem at_L3 {w : World} {A : Option Addr} {n : Nat} {xs : List (List S136)} (h : Kd.C (Kd.slice 136 k136) w A n xs) (i : Int) (h0 : 0 ≤ i) (h1 : i < n) : ∃ ad A0 c0, A = some ad ∧ w.cell? (ad.add i.toNat) = some (.slice A0 (rd_L3 xs i).length c0) ∧ (rd_L3 xs i).length ≤ c0 ∧ k136.C w A0 (rd_L3 xs i).length (rd_L3 xs i) := by
  obtain ⟨ad, c, e, _, hK, hc0⟩ := Kd.C_get h ([] : List S136) i h0 h1
  have hc : ∀ j u, c[j]? = some u → w.cell? (ad.add (i.toNat * 1 + j)) = some u := hc0
  obtain ⟨A0, c0, rfl, l0, g0⟩ := hK
  exact ⟨ad, A0, c0, e, by have hq := hc 0 _ rfl; rwa [Nat.mul_one, Nat.add_zero] at hq, l0, g0⟩
structure S52 where
  f0 : Int
  f1 : Int
  f2 : Int
  f3 : ByteArray
  f4 : (List S136)
def z52 : S52 := ⟨(0 : Int), (0 : Int), (0 : Int), (⟨#[]⟩ : ByteArray), ([] : List S136)⟩
def k52 : Kd S52 := Kd.iso (Kd.pair (Kd.int .i64) (Kd.pair (Kd.int .i64) (Kd.pair (Kd.int .i64) (Kd.pair Kd.string (Kd.slice 136 k136))))) (fun x : S52 => (x.f0, x.f1, x.f2, x.f3, x.f4))
theorem k52_open {w : World} {x : S52} {cs : List Value} (h : k52.K w x cs) : ∃ A4 c4, cs = [.int .i64 x.f0, .int .i64 x.f1, .int .i64 x.f2, .string x.f3, .slice A4 x.f4.length c4] ∧ x.f4.length ≤ c4 ∧ k136.C w A4 x.f4.length x.f4 := by
  obtain ⟨_, _, rfl, rfl, ⟨_, _, rfl, rfl, ⟨_, _, rfl, rfl, ⟨_, _, rfl, rfl, ⟨A4, c4, rfl, l4, g4⟩⟩⟩⟩⟩ := h
  exact ⟨A4, c4, rfl, l4, g4⟩
theorem k52_openM {w : World} {base : Nat} {ok : Nat → Prop} {x : S52} {cs : List Value} (h : k52.M w base ok x cs) : ∃ v4, cs = [.int .i64 x.f0, .int .i64 x.f1, .int .i64 x.f2, .string x.f3, v4] ∧ k136.R 136 w base ok v4 x.f4 := by
  obtain ⟨_, _, rfl, rfl, ⟨_, _, rfl, rfl, ⟨_, _, rfl, rfl, ⟨_, _, rfl, rfl, ⟨v4, rfl, g4⟩⟩⟩⟩⟩ := h
  exact ⟨v4, rfl, g4⟩
theorem k52_mk (w : World) (x : S52) {A4 : Option Addr} {c4 : Nat} (l4 : x.f4.length ≤ c4) (g4 : k136.C w A4 x.f4.length x.f4) : k52.K w x [.int .i64 x.f0, .int .i64 x.f1, .int .i64 x.f2, .string x.f3, .slice A4 x.f4.length c4] := ⟨[.int .i64 x.f0], [.int .i64 x.f1, .int .i64 x.f2, .string x.f3, .slice A4 x.f4.length c4], rfl, rfl, ⟨[.int .i64 x.f1], [.int .i64 x.f2, .string x.f3, .slice A4 x.f4.length c4], rfl, rfl, ⟨[.int .i64 x.f2], [.string x.f3, .slice A4 x.f4.length c4], rfl, rfl, ⟨[.string x.f3], [.slice A4 x.f4.length c4], rfl, rfl, ⟨A4, c4, rfl, l4, g4⟩⟩⟩⟩⟩
theorem k52_mkM (w : World) (base : Nat) (ok : Nat → Prop) (x : S52) {v4 : Value} (g4 : k136.R 136 w base ok v4 x.f4) : k52.M w base ok x [.int .i64 x.f0, .int .i64 x.f1, .int .i64 x.f2, .string x.f3, v4] := ⟨[.int .i64 x.f0], [.int .i64 x.f1, .int .i64 x.f2, .string x.f3, v4], rfl, rfl, ⟨[.int .i64 x.f1], [.int .i64 x.f2, .string x.f3, v4], rfl, rfl, ⟨[.int .i64 x.f2], [.string x.f3, v4], rfl, rfl, ⟨[.string x.f3], [v4], rfl, rfl, ⟨v4, rfl, g4⟩⟩⟩⟩⟩
def rd_T52 (xs : List S52) (i : Int) : S52 := xs.getD i.toNat z52
theorem at_T52 {w : World} {A : Option Addr} {n : Nat} {xs : List S52} (h : Kd.C k52 w A n xs) (i : Int) (h0 : 0 ≤ i) (h1 : i < n) : ∃ ad A4 c4, A = some ad ∧ w.cell? (ad.add (i.toNat * 5)) = some (.int .i64 (rd_T52 xs i).f0) ∧ w.cell? ⟨(ad.add (i.toNat * 5)).block, (ad.add (i.toNat * 5)).off + 1, none⟩ = some (.int .i64 (rd_T52 xs i).f1) ∧ w.cell? ⟨(ad.add (i.toNat * 5)).block, (ad.add (i.toNat * 5)).off + 2, none⟩ = some (.int .i64 (rd_T52 xs i).f2) ∧ w.cell? ⟨(ad.add (i.toNat * 5)).block, (ad.add (i.toNat * 5)).off + 3, none⟩ = some (.string (rd_T52 xs i).f3) ∧ w.cell? ⟨(ad.add (i.toNat * 5)).block, (ad.add (i.toNat * 5)).off + 4, none⟩ = some (.slice A4 (rd_T52 xs i).f4.length c4) ∧ (rd_T52 xs i).f4.length ≤ c4 ∧ k136.C w A4 (rd_T52 xs i).f4.length (rd_T52 xs i).f4 := by
  obtain ⟨ad, c, e, _, hK, hc0⟩ := Kd.C_get h z52 i h0 h1
  have hc : ∀ j u, c[j]? = some u → w.cell? (ad.add (i.toNat * 5 + j)) = some u := hc0
  obtain ⟨A4, c4, rfl, l4, g4⟩ := k52_open hK
  exact ⟨ad, A4, c4, e, hc 0 _ rfl, by rw [← add_field _ _ 1 (by omega)]; exact hc 1 _ rfl, by rw [← add_field _ _ 2 (by omega)]; exact hc 2 _ rfl, by rw [← add_field _ _ 3 (by omega)]; exact hc 3 _ rfl, by rw [← add_field _ _ 4 (by omega)]; exact hc 4 _ rfl, l4, g4⟩
structure S75 where
  f0 : Int
  f1 : Int
def z75 : S75 := ⟨(0 : Int), (0 : Int)⟩
def k75 : Kd S75 := Kd.iso (Kd.pair (Kd.int .i64) (Kd.int .i64)) (fun x : S75 => (x.f0, x.f1))
theorem k75_open {w : World} {x : S75} {cs : List Value} (h : k75.K w x cs) : cs = [.int .i64 x.f0, .int .i64 x.f1] := by
  obtain ⟨_, _, rfl, rfl, rfl⟩ := h
  exact rfl
theorem k75_openM {w : World} {base : Nat} {ok : Nat → Prop} {x : S75} {cs : List Value} (h : k75.M w base ok x cs) : cs = [.int .i64 x.f0, .int .i64 x.f1] := by
  obtain ⟨_, _, rfl, rfl, rfl⟩ := h
  exact rfl
theorem k75_mk (w : World) (x : S75)  : k75.K w x [.int .i64 x.f0, .int .i64 x.f1] := ⟨[.int .i64 x.f0], [.int .i64 x.f1], rfl, rfl, rfl⟩
theorem k75_mkM (w : World) (base : Nat) (ok : Nat → Prop) (x : S75)  : k75.M w base ok x [.int .i64 x.f0, .int .i64 x.f1] := ⟨[.int .i64 x.f0], [.int .i64 x.f1], rfl, rfl, rfl⟩
def rd_T75 (xs : List S75) (i : Int) : S75 := xs.getD i.toNat z75
theorem at_T75 {w : World} {A : Option Addr} {n : Nat} {xs : List S75} (h : Kd.C k75 w A n xs) (i : Int) (h0 : 0 ≤ i) (h1 : i < n) : ∃ ad , A = some ad ∧ w.cell? (ad.add (i.toNat * 2)) = some (.int .i64 (rd_T75 xs i).f0) ∧ w.cell? ⟨(ad.add (i.toNat * 2)).block, (ad.add (i.toNat * 2)).off + 1, none⟩ = some (.int .i64 (rd_T75 xs i).f1) := by
  obtain ⟨ad, c, e, _, hK, hc0⟩ := Kd.C_get h z75 i h0 h1
  have hc : ∀ j u, c[j]? = some u → w.cell? (ad.add (i.toNat * 2 + j)) = some u := hc0
  obtain rfl := k75_open hK
  exact ⟨ad, e, hc 0 _ rfl, by rw [← add_field _ _ 1 (by omega)]; exact hc 1 _ rfl⟩
structure S133 where
  f0 : S75
  f1 : S75
def z133 : S133 := ⟨z75, z75⟩
def k133 : Kd S133 := Kd.iso (Kd.pair k75 k75) (fun x : S133 => (x.f0, x.f1))
theorem k133_open {w : World} {x : S133} {cs : List Value} (h : k133.K w x cs) : cs = [.int .i64 x.f0.f0, .int .i64 x.f0.f1, .int .i64 x.f1.f0, .int .i64 x.f1.f1] := by
  obtain ⟨_, _, rfl, s0, s2⟩ := h
  obtain rfl := k75_open s0
  obtain rfl := k75_open s2
  exact rfl
theorem k133_openM {w : World} {base : Nat} {ok : Nat → Prop} {x : S133} {cs : List Value} (h : k133.M w base ok x cs) : cs = [.int .i64 x.f0.f0, .int .i64 x.f0.f1, .int .i64 x.f1.f0, .int .i64 x.f1.f1] := by
  obtain ⟨_, _, rfl, s0, s2⟩ := h
  obtain rfl := k75_openM s0
  obtain rfl := k75_openM s2
  exact rfl
theorem k133_mk (w : World) (x : S133)  : k133.K w x [.int .i64 x.f0.f0, .int .i64 x.f0.f1, .int .i64 x.f1.f0, .int .i64 x.f1.f1] := ⟨[.int .i64 x.f0.f0, .int .i64 x.f0.f1], [.int .i64 x.f1.f0, .int .i64 x.f1.f1], rfl, (k75_mk w x.f0 ), (k75_mk w x.f1 )⟩
theorem k133_mkM (w : World) (base : Nat) (ok : Nat → Prop) (x : S133)  : k133.M w base ok x [.int .i64 x.f0.f0, .int .i64 x.f0.f1, .int .i64 x.f1.f0, .int .i64 x.f1.f1] := ⟨[.int .i64 x.f0.f0, .int .i64 x.f0.f1], [.int .i64 x.f1.f0, .int .i64 x.f1.f1], rfl, (k75_mkM w base ok x.f0 ), (k75_mkM w base ok x.f1 )⟩
def rd_T133 (xs : List S133) (i : Int) : S133 := xs.getD i.toNat z133
theorem at_T133 {w : World} {A : Option Addr} {n : Nat} {xs : List S133} (h : Kd.C k133 w A n xs) (i : Int) (h0 : 0 ≤ i) (h1 : i < n) : ∃ ad , A = some ad ∧ w.cell? (ad.add (i.toNat * 4)) = some (.int .i64 (rd_T133 xs i).f0.f0) ∧ w.cell? ⟨(ad.add (i.toNat * 4)).block, (ad.add (i.toNat * 4)).off + 1, none⟩ = some (.int .i64 (rd_T133 xs i).f0.f1) ∧ w.cell? ⟨(ad.add (i.toNat * 4)).block, (ad.add (i.toNat * 4)).off + 2, none⟩ = some (.int .i64 (rd_T133 xs i).f1.f0) ∧ w.cell? ⟨(ad.add (i.toNat * 4)).block, (ad.add (i.toNat * 4)).off + 3, none⟩ = some (.int .i64 (rd_T133 xs i).f1.f1) := by
  obtain ⟨ad, c, e, _, hK, hc0⟩ := Kd.C_get h z133 i h0 h1
  have hc : ∀ j u, c[j]? = some u → w.cell? (ad.add (i.toNat * 4 + j)) = some u := hc0
  obtain rfl := k133_open hK
  exact ⟨ad, e, hc 0 _ rfl, by rw [← add_field _ _ 1 (by omega)]; exact hc 1 _ rfl, by rw [← add_field _ _ 2 (by omega)]; exact hc 2 _ rfl, by rw [← add_field _ _ 3 (by omega)]; exact hc 3 _ rfl⟩
def rd_L7 (xs : List (List S75)) (i : Int) : (List S75) := xs.getD i.toNat ([] : List S75)
theorem at_L7 {w : World} {A : Option Addr} {n : Nat} {xs : List (List S75)} (h : Kd.C (Kd.slice 75 k75) w A n xs) (i : Int) (h0 : 0 ≤ i) (h1 : i < n) : ∃ ad A0 c0, A = some ad ∧ w.cell? (ad.add i.toNat) = some (.slice A0 (rd_L7 xs i).length c0) ∧ (rd_L7 xs i).length ≤ c0 ∧ k75.C w A0 (rd_L7 xs i).length (rd_L7 xs i) := by
  obtain ⟨ad, c, e, _, hK, hc0⟩ := Kd.C_get h ([] : List S75) i h0 h1
  have hc : ∀ j u, c[j]? = some u → w.cell? (ad.add (i.toNat * 1 + j)) = some u := hc0
  obtain ⟨A0, c0, rfl, l0, g0⟩ := hK
  exact ⟨ad, A0, c0, e, by have hq := hc 0 _ rfl; rwa [Nat.mul_one, Nat.add_zero] at hq, l0, g0⟩
structure S59 where
  f0 : Int
  f1 : Int
  f2 : Int
  f3 : ByteArray
  f4 : (List S75)
def z59 : S59 := ⟨(0 : Int), (0 : Int), (0 : Int), (⟨#[]⟩ : ByteArray), ([] : List S75)⟩
def k59 : Kd S59 := Kd.iso (Kd.pair (Kd.int .i64) (Kd.pair (Kd.int .i64) (Kd.pair (Kd.int .i64) (Kd.pair Kd.string (Kd.slice 75 k75))))) (fun x : S59 => (x.f0, x.f1, x.f2, x.f3, x.f4))
theorem k59_open {w : World} {x : S59} {cs : List Value} (h : k59.K w x cs) : ∃ A4 c4, cs = [.int .i64 x.f0, .int .i64 x.f1, .int .i64 x.f2, .string x.f3, .slice A4 x.f4.length c4] ∧ x.f4.length ≤ c4 ∧ k75.C w A4 x.f4.length x.f4 := by
  obtain ⟨_, _, rfl, rfl, ⟨_, _, rfl, rfl, ⟨_, _, rfl, rfl, ⟨_, _, rfl, rfl, ⟨A4, c4, rfl, l4, g4⟩⟩⟩⟩⟩ := h
  exact ⟨A4, c4, rfl, l4, g4⟩
theorem k59_openM {w : World} {base : Nat} {ok : Nat → Prop} {x : S59} {cs : List Value} (h : k59.M w base ok x cs) : ∃ v4, cs = [.int .i64 x.f0, .int .i64 x.f1, .int .i64 x.f2, .string x.f3, v4] ∧ k75.R 75 w base ok v4 x.f4 := by
  obtain ⟨_, _, rfl, rfl, ⟨_, _, rfl, rfl, ⟨_, _, rfl, rfl, ⟨_, _, rfl, rfl, ⟨v4, rfl, g4⟩⟩⟩⟩⟩ := h
  exact ⟨v4, rfl, g4⟩
theorem k59_mk (w : World) (x : S59) {A4 : Option Addr} {c4 : Nat} (l4 : x.f4.length ≤ c4) (g4 : k75.C w A4 x.f4.length x.f4) : k59.K w x [.int .i64 x.f0, .int .i64 x.f1, .int .i64 x.f2, .string x.f3, .slice A4 x.f4.length c4] := ⟨[.int .i64 x.f0], [.int .i64 x.f1, .int .i64 x.f2, .string x.f3, .slice A4 x.f4.length c4], rfl, rfl, ⟨[.int .i64 x.f1], [.int .i64 x.f2, .string x.f3, .slice A4 x.f4.length c4], rfl, rfl, ⟨[.int .i64 x.f2], [.string x.f3, .slice A4 x.f4.length c4], rfl, rfl, ⟨[.string x.f3], [.slice A4 x.f4.length c4], rfl, rfl, ⟨A4, c4, rfl, l4, g4⟩⟩⟩⟩⟩
theorem k59_mkM (w : World) (base : Nat) (ok : Nat → Prop) (x : S59) {v4 : Value} (g4 : k75.R 75 w base ok v4 x.f4) : k59.M w base ok x [.int .i64 x.f0, .int .i64 x.f1, .int .i64 x.f2, .string x.f3, v4] := ⟨[.int .i64 x.f0], [.int .i64 x.f1, .int .i64 x.f2, .string x.f3, v4], rfl, rfl, ⟨[.int .i64 x.f1], [.int .i64 x.f2, .string x.f3, v4], rfl, rfl, ⟨[.int .i64 x.f2], [.string x.f3, v4], rfl, rfl, ⟨[.string x.f3], [v4], rfl, rfl, ⟨v4, rfl, g4⟩⟩⟩⟩⟩
def rd_T59 (xs : List S59) (i : Int) : S59 := xs.getD i.toNat z59
theorem at_T59 {w : World} {A : Option Addr} {n : Nat} {xs : List S59} (h : Kd.C k59 w A n xs) (i : Int) (h0 : 0 ≤ i) (h1 : i < n) : ∃ ad A4 c4, A = some ad ∧ w.cell? (ad.add (i.toNat * 5)) = some (.int .i64 (rd_T59 xs i).f0) ∧ w.cell? ⟨(ad.add (i.toNat * 5)).block, (ad.add (i.toNat * 5)).off + 1, none⟩ = some (.int .i64 (rd_T59 xs i).f1) ∧ w.cell? ⟨(ad.add (i.toNat * 5)).block, (ad.add (i.toNat * 5)).off + 2, none⟩ = some (.int .i64 (rd_T59 xs i).f2) ∧ w.cell? ⟨(ad.add (i.toNat * 5)).block, (ad.add (i.toNat * 5)).off + 3, none⟩ = some (.string (rd_T59 xs i).f3) ∧ w.cell? ⟨(ad.add (i.toNat * 5)).block, (ad.add (i.toNat * 5)).off + 4, none⟩ = some (.slice A4 (rd_T59 xs i).f4.length c4) ∧ (rd_T59 xs i).f4.length ≤ c4 ∧ k75.C w A4 (rd_T59 xs i).f4.length (rd_T59 xs i).f4 := by
  obtain ⟨ad, c, e, _, hK, hc0⟩ := Kd.C_get h z59 i h0 h1
  have hc : ∀ j u, c[j]? = some u → w.cell? (ad.add (i.toNat * 5 + j)) = some u := hc0
  obtain ⟨A4, c4, rfl, l4, g4⟩ := k59_open hK
  exact ⟨ad, A4, c4, e, hc 0 _ rfl, by rw [← add_field _ _ 1 (by omega)]; exact hc 1 _ rfl, by rw [← add_field _ _ 2 (by omega)]; exact hc 2 _ rfl, by rw [← add_field _ _ 3 (by omega)]; exact hc 3 _ rfl, by rw [← add_field _ _ 4 (by omega)]; exact hc 4 _ rfl, l4, g4⟩
structure S56 where
  f0 : Int
  f1 : Int
def z56 : S56 := ⟨(0 : Int), (0 : Int)⟩
def k56 : Kd S56 := Kd.iso (Kd.pair (Kd.int .i64) (Kd.int .i64)) (fun x : S56 => (x.f0, x.f1))
theorem k56_open {w : World} {x : S56} {cs : List Value} (h : k56.K w x cs) : cs = [.int .i64 x.f0, .int .i64 x.f1] := by
  obtain ⟨_, _, rfl, rfl, rfl⟩ := h
  exact rfl
theorem k56_openM {w : World} {base : Nat} {ok : Nat → Prop} {x : S56} {cs : List Value} (h : k56.M w base ok x cs) : cs = [.int .i64 x.f0, .int .i64 x.f1] := by
  obtain ⟨_, _, rfl, rfl, rfl⟩ := h
  exact rfl
theorem k56_mk (w : World) (x : S56)  : k56.K w x [.int .i64 x.f0, .int .i64 x.f1] := ⟨[.int .i64 x.f0], [.int .i64 x.f1], rfl, rfl, rfl⟩
theorem k56_mkM (w : World) (base : Nat) (ok : Nat → Prop) (x : S56)  : k56.M w base ok x [.int .i64 x.f0, .int .i64 x.f1] := ⟨[.int .i64 x.f0], [.int .i64 x.f1], rfl, rfl, rfl⟩
def rd_T56 (xs : List S56) (i : Int) : S56 := xs.getD i.toNat z56
theorem at_T56 {w : World} {A : Option Addr} {n : Nat} {xs : List S56} (h : Kd.C k56 w A n xs) (i : Int) (h0 : 0 ≤ i) (h1 : i < n) : ∃ ad , A = some ad ∧ w.cell? (ad.add (i.toNat * 2)) = some (.int .i64 (rd_T56 xs i).f0) ∧ w.cell? ⟨(ad.add (i.toNat * 2)).block, (ad.add (i.toNat * 2)).off + 1, none⟩ = some (.int .i64 (rd_T56 xs i).f1) := by
  obtain ⟨ad, c, e, _, hK, hc0⟩ := Kd.C_get h z56 i h0 h1
  have hc : ∀ j u, c[j]? = some u → w.cell? (ad.add (i.toNat * 2 + j)) = some u := hc0
  obtain rfl := k56_open hK
  exact ⟨ad, e, hc 0 _ rfl, by rw [← add_field _ _ 1 (by omega)]; exact hc 1 _ rfl⟩
theorem eqA75 (d : Nat) (w : World) (x0 y0 : Int) (x1 y1 : Int) :
    (Op.equalIn (d + 2) 75 (.agg #[.int .i64 x0, .int .i64 x1]) (.agg #[.int .i64 y0, .int .i64 y1])).run Tryz.prog w = .ok (x0 == y0 && (x1 == y1)) w := by
  refine eqA_of Tryz.underlying75 (by kernel_rfl) ?_; refine eqf_cons (by rfl) (by go_simp; rfl) (by go_simp; rfl) (by go_simp) ?_
  exact eqf_last (by rfl) (by go_simp; rfl) (by go_simp; rfl) (by go_simp)
def laws_szPointS.f (l0 : List (S136)) (a1 : Int) : Option (Int) := if (wrap64 (a1 - (l0.length : Int))) < 0 then (some (-1)) else (some (wrap64 (a1 - (l0.length : Int))))
def laws_szFeature.f (a0_0 : Int) (a0_1 : Int) (a0_2 : Int) (a0_3 : ByteArray) (l0_4 : List (S136)) (a1 : Int) : Option (Int) := if (wrap64 (a1 - (a0_3.size : Int))) < 0 then (some (-1)) else ((laws_szPointS.f l0_4 (wrap64 (a1 - (a0_3.size : Int)))).bind fun t102 => (if t102 < 0 then (some (-1)) else (some t102)))
def laws_szFeatureS.l0 : Nat → List (S52) → Int → Int → Option (Int)
 | 0, _, _, _ => none
 | k + 1, x0, x1, x5 => if x5 < (x0.length : Int) then (if 0 ≤ x5 then ((laws_szFeature.f ((rd_T52 x0 x5).f0) ((rd_T52 x0 x5).f1) ((rd_T52 x0 x5).f2) ((rd_T52 x0 x5).f3) ((rd_T52 x0 x5).f4) x1).bind fun t104 => (if t104 < 0 then (some (-1)) else (laws_szFeatureS.l0 k x0 t104 (wrap64 (x5 + 1))))) else (none)) else (some x1)
def laws_szFeatureS.f (k : Nat) (l0 : List (S52)) (a1 : Int) : Option (Int) := if (wrap64 (a1 - (l0.length : Int))) < 0 then (some (-1)) else (laws_szFeatureS.l0 k l0 (wrap64 (a1 - (l0.length : Int))) 0)
def impl_InRange.f (a0 : Int) (a1 : Int) (a2 : Int) : Option (Bool) := some (inR a0 a1 a2)
/-- A state of type 75 at block g of W; what its slices lead to came in by w0. -/
def IsS75 (w0 W : World) (g : Nat) (f0 : Int) (f1 : Int) : Prop := W.heap[g]? = some (.cells #[.int .i64 f0, .int .i64 f1] 75 (0, 0)) ∧ w0.heap.size ≤ g
theorem cellS75_0 {W : World} {g : Nat} {f0 : Int} {f1 : Int} (h : W.heap[g]? = some (.cells #[.int .i64 f0, .int .i64 f1] 75 (0, 0))) : W.cell? ⟨g, 0, none⟩ = some (.int .i64 f0) := (blk_cell h 0).trans rfl
theorem cellS75_1 {W : World} {g : Nat} {f0 : Int} {f1 : Int} (h : W.heap[g]? = some (.cells #[.int .i64 f0, .int .i64 f1] 75 (0, 0))) : W.cell? ⟨g, 1, none⟩ = some (.int .i64 f1) := (blk_cell h 1).trans rfl
def impl_IsPoint.f (a0_0 : Int) (a0_1 : Int) : Option (Bool) := some (isPt a0_0 a0_1)
def impl_IsName.l0 : Nat → ByteArray → Int → Int → Option (Bool)
 | 0, _, _, _ => none
 | k + 1, x0, x5, x6 => if x6 < x5 then (if 0 ≤ x6 then (if x6 < (x0.size : Int) then (if (bt x0 x6) < 97 then (some false) else (if (bt x0 x6) > 122 then (some false) else (impl_IsName.l0 k x0 x5 (wrap64 (x6 + 1))))) else (none)) else (none)) else ((impl_InRange.f (x0.size : Int) 1 8).bind fun t105 => (some t105))
def impl_IsName.f (k : Nat) (a0 : ByteArray) : Option (Bool) := impl_IsName.l0 k a0 (a0.size : Int) 0
/-- A state of type 133 at block g of W; what its slices lead to came in by w0. -/
def IsS133 (w0 W : World) (g : Nat) (f0 : Int) (f1 : Int) (f2 : Int) (f3 : Int) : Prop := W.heap[g]? = some (.cells #[.int .i64 f0, .int .i64 f1, .int .i64 f2, .int .i64 f3] 133 (0, 0)) ∧ w0.heap.size ≤ g
theorem cellS133_0 {W : World} {g : Nat} {f0 : Int} {f1 : Int} {f2 : Int} {f3 : Int} (h : W.heap[g]? = some (.cells #[.int .i64 f0, .int .i64 f1, .int .i64 f2, .int .i64 f3] 133 (0, 0))) : W.cell? ⟨g, 0, none⟩ = some (.int .i64 f0) := (blk_cell h 0).trans rfl
theorem cellS133_1 {W : World} {g : Nat} {f0 : Int} {f1 : Int} {f2 : Int} {f3 : Int} (h : W.heap[g]? = some (.cells #[.int .i64 f0, .int .i64 f1, .int .i64 f2, .int .i64 f3] 133 (0, 0))) : W.cell? ⟨g, 1, none⟩ = some (.int .i64 f1) := (blk_cell h 1).trans rfl
theorem cellS133_2 {W : World} {g : Nat} {f0 : Int} {f1 : Int} {f2 : Int} {f3 : Int} (h : W.heap[g]? = some (.cells #[.int .i64 f0, .int .i64 f1, .int .i64 f2, .int .i64 f3] 133 (0, 0))) : W.cell? ⟨g, 2, none⟩ = some (.int .i64 f2) := (blk_cell h 2).trans rfl
theorem cellS133_3 {W : World} {g : Nat} {f0 : Int} {f1 : Int} {f2 : Int} {f3 : Int} (h : W.heap[g]? = some (.cells #[.int .i64 f0, .int .i64 f1, .int .i64 f2, .int .i64 f3] 133 (0, 0))) : W.cell? ⟨g, 3, none⟩ = some (.int .i64 f3) := (blk_cell h 3).trans rfl
def impl_IsSegment.f (a0_0 : Int) (a0_1 : Int) (a0_2 : Int) (a0_3 : Int) : Option (Bool) := some (isSeg a0_0 a0_1 a0_2 a0_3)
def impl_around.l0 : Nat → List (S75) → List (S133) → List (S75) → Int → Int → Option ((List (S133)))
 | 0, _, _, _, _, _ => none
 | k + 1, x0, x3, x7, x8, x9 => if x9 < x8 then (if 0 ≤ x9 then (if x9 < (x7.length : Int) then (if (x0.length : Int) = 0 then (none) else (if 0 ≤ (Int.tmod (wrap64 (x9 + 1)) (x0.length : Int)) then (if (Int.tmod (wrap64 (x9 + 1)) (x0.length : Int)) < (x0.length : Int) then (if x3.length < 4398046511104 then (impl_around.l0 k x0 (x3 ++ [(⟨(⟨(rd_T75 x7 x9).f0, (rd_T75 x7 x9).f1⟩ : S75), (⟨(rd_T75 x0 (Int.tmod (wrap64 (x9 + 1)) (x0.length : Int))).f0, (rd_T75 x0 (Int.tmod (wrap64 (x9 + 1)) (x0.length : Int))).f1⟩ : S75)⟩ : S133)]) x7 x8 (wrap64 (x9 + 1))) else (none)) else (none)) else (none))) else (none)) else (none)) else (some x3)
def impl_around.f (k : Nat) (l0 : List (S75)) : Option ((List (S133))) := impl_around.l0 k l0 (([] : List (S133))) l0 (l0.length : Int) 0
def cmp_isNaN_int.f (a0 : Int) : Option (Bool) := some (false)
def cmp_Compare_int.f (a0 : Int) (a1 : Int) : Option (Int) := some (cmpI a0 a1)
def impl_cross.f (a0_0 : Int) (a0_1 : Int) (a1_0 : Int) (a1_1 : Int) (a2_0 : Int) (a2_1 : Int) : Option (Int) := some (crossI a0_0 a0_1 a1_0 a1_1 a2_0 a2_1)
def impl_SideOf.f (a0_0 : Int) (a0_1 : Int) (a1_0 : Int) (a1_1 : Int) (a2_0 : Int) (a2_1 : Int) : Option (Int) := some (sideI a0_0 a0_1 a1_0 a1_1 a2_0 a2_1)
def impl_BeforePoint.f (a0_0 : Int) (a0_1 : Int) (a1_0 : Int) (a1_1 : Int) : Option (Bool) := some (beforeI a0_0 a0_1 a1_0 a1_1)
def impl_TurnSegment.f (a0_0 : Int) (a0_1 : Int) (a0_2 : Int) (a0_3 : Int) : Option (Int × Int × Int × Int) := some (a0_2, a0_3, a0_0, a0_1)
def impl_forward.f (a0_0 : Int) (a0_1 : Int) (a0_2 : Int) (a0_3 : Int) : Option (Int × Int × Int × Int) := (impl_BeforePoint.f a0_2 a0_3 a0_0 a0_1).bind fun t119 => (if t119 = true then ((impl_TurnSegment.f a0_0 a0_1 a0_2 a0_3).bind fun bt120 => (some (bt120.1, bt120.2.1, bt120.2.2.1, bt120.2.2.2))) else (some (a0_0, a0_1, a0_2, a0_3)))
def impl_IsOn.f (a0_0 : Int) (a0_1 : Int) (a0_2 : Int) (a0_3 : Int) (a1_0 : Int) (a1_1 : Int) : Option (Bool) := some (isOnI a0_0 a0_1 a0_2 a0_3 a1_0 a1_1)
attribute [local go_sem high] eqA75
mutual
def impl_HowMeet.j0 : Nat → Bool → Int → Int → Int → Int → Int → Int → Int → Int → Option (Int)
 | 0, _, _, _, _, _, _, _, _, _ => none
 | k + 1, x16, x125000, x125001, x125002, x125003, x126000, x126001, x126002, x126003 => if x16 = true then (some 0) else ((impl_SideOf.f x125000 x125001 x125002 x125003 x126000 x126001).bind fun t128 => ((impl_SideOf.f x125000 x125001 x125002 x125003 x126002 x126003).bind fun t129 => (if t128 = 0 then (impl_HowMeet.j1 k t128 t129 (t129 == 0) x125000 x125001 x125002 x125003 x126000 x126001 x126002 x126003) else (impl_HowMeet.j1 k t128 t129 false x125000 x125001 x125002 x125003 x126000 x126001 x126002 x126003))))
def impl_HowMeet.j1 : Nat → Int → Int → Bool → Int → Int → Int → Int → Int → Int → Int → Int → Option (Int)
 | 0, _, _, _, _, _, _, _, _, _, _, _ => none
 | k + 1, x5, x6, x36, x125000, x125001, x125002, x125003, x126000, x126001, x126002, x126003 => if x36 = true then ((impl_forward.f x125000 x125001 x125002 x125003).bind fun bt130 => ((impl_forward.f x126000 x126001 x126002 x126003).bind fun bt134 => ((impl_BeforePoint.f bt130.1 bt130.2.1 bt134.1 bt134.2.1).bind fun t140 => (if t140 = true then (impl_HowMeet.j2 k bt134.1 bt134.2.1 bt134.2.2.1 bt134.2.2.2 bt134.1 bt134.2.1 bt130.2.2.1 bt130.2.2.2) else (impl_HowMeet.j2 k bt134.1 bt134.2.1 bt134.2.2.1 bt134.2.2.2 bt130.1 bt130.2.1 bt130.2.2.1 bt130.2.2.2))))) else (if (wrap64 (x5 * x6)) < 0 then ((impl_SideOf.f x126000 x126001 x126002 x126003 x125000 x125001).bind fun t143 => ((impl_SideOf.f x126000 x126001 x126002 x126003 x125002 x125003).bind fun t144 => (impl_HowMeet.j4 k (decide ((wrap64 (t143 * t144)) < 0)) x125000 x125001 x125002 x125003 x126000 x126001 x126002 x126003))) else (impl_HowMeet.j4 k false x125000 x125001 x125002 x125003 x126000 x126001 x126002 x126003))
def impl_HowMeet.j2 : Nat → Int → Int → Int → Int → Int → Int → Int → Int → Option (Int)
 | 0, _, _, _, _, _, _, _, _ => none
 | k + 1, x126000, x126001, x126002, x126003, x139000, x139001, x140000, x140001 => (impl_BeforePoint.f x126002 x126003 x140000 x140001).bind fun t141 => (if t141 = true then (impl_HowMeet.j3 k x139000 x139001 x126002 x126003) else (impl_HowMeet.j3 k x139000 x139001 x140000 x140001))
def impl_HowMeet.j3 : Nat → Int → Int → Int → Int → Option (Int)
 | 0, _, _, _, _ => none
 | k + 1, x139000, x139001, x140000, x140001 => (impl_BeforePoint.f x140000 x140001 x139000 x139001).bind fun t142 => (if t142 = true then (some 0) else (if (x139000 == x140000 && (x139001 == x140001)) = true then (some 1) else (some 3)))
def impl_HowMeet.j4 : Nat → Bool → Int → Int → Int → Int → Int → Int → Int → Int → Option (Int)
 | 0, _, _, _, _, _, _, _, _, _ => none
 | k + 1, x86, x125000, x125001, x125002, x125003, x126000, x126001, x126002, x126003 => if x86 = true then (some 2) else ((impl_IsOn.f x125000 x125001 x125002 x125003 x126000 x126001).bind fun t145 => (if t145 = true then (some 1) else ((impl_IsOn.f x125000 x125001 x125002 x125003 x126002 x126003).bind fun t146 => (if t146 = true then (some 1) else ((impl_IsOn.f x126000 x126001 x126002 x126003 x125000 x125001).bind fun t147 => (if t147 = true then (some 1) else ((impl_IsOn.f x126000 x126001 x126002 x126003 x125002 x125003).bind fun t148 => (if t148 = true then (some 1) else (some 0)))))))))
end
def impl_HowMeet.f (k : Nat) (a0_0 : Int) (a0_1 : Int) (a0_2 : Int) (a0_3 : Int) (a1_0 : Int) (a1_1 : Int) (a1_2 : Int) (a1_3 : Int) : Option (Int) := (impl_IsSegment.f a0_0 a0_1 a0_2 a0_3).bind fun t126 => (if t126 = true then ((impl_IsSegment.f a1_0 a1_1 a1_2 a1_3).bind fun t127 => (impl_HowMeet.j0 k (!t127) a0_0 a0_1 a0_2 a0_3 a1_0 a1_1 a1_2 a1_3)) else (impl_HowMeet.j0 k true a0_0 a0_1 a0_2 a0_3 a1_0 a1_1 a1_2 a1_3))
mutual
def impl_IsRing.j0 : Nat → List (S75) → Bool → Option (Bool)
 | 0, _, _ => none
 | k + 1, x0, x14 => if x14 = true then (some false) else ((impl_around.f k x0).bind fun t149 => (impl_IsRing.l0 k t149 (t149.length : Int) 0))
def impl_IsRing.l0 : Nat → List (S133) → Int → Int → Option (Bool)
 | 0, _, _, _ => none
 | k + 1, x3, x18, x19 => if x19 < x18 then (if 0 ≤ x19 then (if x19 < (x3.length : Int) then ((impl_IsSegment.f ((rd_T133 x3 x19).f0.f0) ((rd_T133 x3 x19).f0.f1) ((rd_T133 x3 x19).f1.f0) ((rd_T133 x3 x19).f1.f1)).bind fun t153 => (if t153 = true then (impl_IsRing.l1 k x3 x19 x18 x19 x19 0) else (some false))) else (none)) else (none)) else (some true)
def impl_IsRing.l1 : Nat → List (S133) → Int → Int → Int → Int → Int → Option (Bool)
 | 0, _, _, _, _, _, _ => none
 | k + 1, x3, x4, x18, x19, x28, x29 => if x29 < x28 then (if x29 = (wrap64 (x4 - 1)) then (impl_IsRing.j3 k x3 x4 x29 0 x18 x19 x28 x29 true) else (if x29 = 0 then (impl_IsRing.j3 k x3 x4 x29 0 x18 x19 x28 x29 (x4 == (wrap64 ((x3.length : Int) - 1)))) else (impl_IsRing.j3 k x3 x4 x29 0 x18 x19 x28 x29 false))) else (impl_IsRing.l0 k x3 x18 (wrap64 (x19 + 1)))
def impl_IsRing.j3 : Nat → List (S133) → Int → Int → Int → Int → Int → Int → Int → Bool → Option (Bool)
 | 0, _, _, _, _, _, _, _, _, _ => none
 | k + 1, x3, x4, x5, x6, x18, x19, x28, x29, x46 => if x46 = true then (if 0 ≤ x4 then (if x4 < (x3.length : Int) then (if 0 ≤ x5 then (if x5 < (x3.length : Int) then ((impl_HowMeet.f k ((rd_T133 x3 x4).f0.f0) ((rd_T133 x3 x4).f0.f1) ((rd_T133 x3 x4).f1.f0) ((rd_T133 x3 x4).f1.f1) ((rd_T133 x3 x5).f0.f0) ((rd_T133 x3 x5).f0.f1) ((rd_T133 x3 x5).f1.f0) ((rd_T133 x3 x5).f1.f1)).bind fun t156 => (if t156 = 1 then (impl_IsRing.l1 k x3 x4 x18 x19 x28 (wrap64 (x29 + 1))) else (some false))) else (none)) else (none)) else (none)) else (none)) else (if 0 ≤ x4 then (if x4 < (x3.length : Int) then (if 0 ≤ x5 then (if x5 < (x3.length : Int) then ((impl_HowMeet.f k ((rd_T133 x3 x4).f0.f0) ((rd_T133 x3 x4).f0.f1) ((rd_T133 x3 x4).f1.f0) ((rd_T133 x3 x4).f1.f1) ((rd_T133 x3 x5).f0.f0) ((rd_T133 x3 x5).f0.f1) ((rd_T133 x3 x5).f1.f0) ((rd_T133 x3 x5).f1.f1)).bind fun t159 => (if t159 = x6 then (impl_IsRing.l1 k x3 x4 x18 x19 x28 (wrap64 (x29 + 1))) else (some false))) else (none)) else (none)) else (none)) else (none))
end
def impl_IsRing.f (k : Nat) (l0 : List (S75)) : Option (Bool) := if (l0.length : Int) < 3 then (impl_IsRing.j0 k l0 true) else (impl_IsRing.j0 k l0 (decide ((l0.length : Int) > 10)))
attribute [local go_sem high] eqA75
mutual
def impl_IsLine.j0 : Nat → List (S75) → Bool → Option (Bool)
 | 0, _, _ => none
 | k + 1, x0, x12 => if x12 = true then (some false) else (impl_IsLine.l0 k x0 x0 (x0.length : Int) 0)
def impl_IsLine.l0 : Nat → List (S75) → List (S75) → Int → Int → Option (Bool)
 | 0, _, _, _, _ => none
 | k + 1, x0, x13, x14, x15 => if x15 < x14 then (if 0 ≤ x15 then (if x15 < (x13.length : Int) then ((impl_IsPoint.f ((rd_T75 x13 x15).f0) ((rd_T75 x13 x15).f1)).bind fun t162 => (if t162 = true then (if x15 > 0 then (if 0 ≤ (wrap64 (x15 - 1)) then (if (wrap64 (x15 - 1)) < (x0.length : Int) then (if (((rd_T75 x13 x15).f0) == ((rd_T75 x0 (wrap64 (x15 - 1))).f0) && (((rd_T75 x13 x15).f1) == ((rd_T75 x0 (wrap64 (x15 - 1))).f1))) = true then (some false) else (impl_IsLine.l0 k x0 x13 x14 (wrap64 (x15 + 1)))) else (none)) else (none)) else (impl_IsLine.l0 k x0 x13 x14 (wrap64 (x15 + 1)))) else (some false))) else (none)) else (none)) else (some true)
end
def impl_IsLine.f (k : Nat) (l0 : List (S75)) : Option (Bool) := if (l0.length : Int) < 2 then (impl_IsLine.j0 k l0 true) else (impl_IsLine.j0 k l0 (decide ((l0.length : Int) > 10)))
def impl_SegmentsOf.l0 : Nat → List (S75) → List (S133) → Int → Option ((List (S133)))
 | 0, _, _, _ => none
 | k + 1, x0, x3, x4 => if x4 < (x0.length : Int) then (if 0 ≤ (wrap64 (x4 - 1)) then (if (wrap64 (x4 - 1)) < (x0.length : Int) then (if 0 ≤ x4 then (if x3.length < 4398046511104 then (impl_SegmentsOf.l0 k x0 (x3 ++ [(⟨(⟨(rd_T75 x0 (wrap64 (x4 - 1))).f0, (rd_T75 x0 (wrap64 (x4 - 1))).f1⟩ : S75), (⟨(rd_T75 x0 x4).f0, (rd_T75 x0 x4).f1⟩ : S75)⟩ : S133)]) (wrap64 (x4 + 1))) else (none)) else (none)) else (none)) else (none)) else (some x3)
def impl_SegmentsOf.f (k : Nat) (l0 : List (S75)) : Option ((List (S133))) := (some (([] : List (S133)) : List (S133))).bind fun y164 => ((impl_IsLine.f k l0).bind fun t167 => (if t167 = true then (impl_SegmentsOf.l0 k l0 y164 1) else (some y164)))
mutual
def impl_IsSimple.l0 : Nat → List (S133) → Int → Int → Option (Bool)
 | 0, _, _, _ => none
 | k + 1, x3, x13, x14 => if x14 < x13 then (impl_IsSimple.l1 k x3 x14 x13 x14 x14 0) else (some true)
def impl_IsSimple.l1 : Nat → List (S133) → Int → Int → Int → Int → Int → Option (Bool)
 | 0, _, _, _, _, _, _ => none
 | k + 1, x3, x4, x13, x14, x17, x18 => if x18 < x17 then (if x18 = (wrap64 (x4 - 1)) then (if 0 ≤ x4 then (if x4 < (x3.length : Int) then (if 0 ≤ x18 then (if x18 < (x3.length : Int) then ((impl_HowMeet.f k ((rd_T133 x3 x4).f0.f0) ((rd_T133 x3 x4).f0.f1) ((rd_T133 x3 x4).f1.f0) ((rd_T133 x3 x4).f1.f1) ((rd_T133 x3 x18).f0.f0) ((rd_T133 x3 x18).f0.f1) ((rd_T133 x3 x18).f1.f0) ((rd_T133 x3 x18).f1.f1)).bind fun t179 => (if t179 = 1 then (impl_IsSimple.l1 k x3 x4 x13 x14 x17 (wrap64 (x18 + 1))) else (some false))) else (none)) else (none)) else (none)) else (none)) else (if 0 ≤ x4 then (if x4 < (x3.length : Int) then (if 0 ≤ x18 then (if x18 < (x3.length : Int) then ((impl_HowMeet.f k ((rd_T133 x3 x4).f0.f0) ((rd_T133 x3 x4).f0.f1) ((rd_T133 x3 x4).f1.f0) ((rd_T133 x3 x4).f1.f1) ((rd_T133 x3 x18).f0.f0) ((rd_T133 x3 x18).f0.f1) ((rd_T133 x3 x18).f1.f0) ((rd_T133 x3 x18).f1.f1)).bind fun t182 => (if t182 = 0 then (impl_IsSimple.l1 k x3 x4 x13 x14 x17 (wrap64 (x18 + 1))) else (some false))) else (none)) else (none)) else (none)) else (none))) else (impl_IsSimple.l0 k x3 x13 (wrap64 (x14 + 1)))
end
def impl_IsSimple.f (k : Nat) (l0 : List (S75)) : Option (Bool) := (impl_IsLine.f k l0).bind fun t173 => (if t173 = true then ((impl_SegmentsOf.f k l0).bind fun t174 => (impl_IsSimple.l0 k t174 (t174.length : Int) 0)) else (some false))
def impl_IsFeature.j0 : Nat → Bool → Int → Int → Int → ByteArray → List (S75) → Option (Bool)
 | 0, _, _, _, _, _, _ => none
 | k + 1, x23, x184000, x184001, x184002, x184003, x184004 => if x23 = true then (some false) else (if x184001 = 1 then (if (x184004.length : Int) = 1 then (if 0 < (x184004.length : Int) then ((impl_IsPoint.f ((rd_T75 x184004 0).f0) ((rd_T75 x184004 0).f1)).bind fun t188 => (some t188)) else (none)) else (some false)) else (if x184001 = 2 then ((impl_IsSimple.f k x184004).bind fun t189 => (some t189)) else (if x184001 = 3 then ((impl_IsRing.f k x184004).bind fun t190 => (some t190)) else (some false))))
def impl_IsFeature.f (k : Nat) (a0_0 : Int) (a0_1 : Int) (a0_2 : Int) (a0_3 : ByteArray) (l0_4 : List (S75)) : Option (Bool) := (impl_InRange.f a0_0 1 99).bind fun t184 => (if t184 = true then ((impl_InRange.f a0_2 0 9).bind fun t185 => (if t185 = true then (if a0_3.toList = ([] : List UInt8) then (impl_IsFeature.j0 k false a0_0 a0_1 a0_2 a0_3 l0_4) else ((impl_IsName.f k a0_3).bind fun t186 => (impl_IsFeature.j0 k (!t186) a0_0 a0_1 a0_2 a0_3 l0_4))) else (impl_IsFeature.j0 k true a0_0 a0_1 a0_2 a0_3 l0_4))) else (impl_IsFeature.j0 k true a0_0 a0_1 a0_2 a0_3 l0_4))
def impl_IsSource.l0 : Nat → List (S59) → List (S59) → Int → Int → Option (Bool)
 | 0, _, _, _, _ => none
 | k + 1, x0, x8, x9, x10 => if x10 < x9 then (if 0 ≤ x10 then (if x10 < (x8.length : Int) then ((impl_IsFeature.f k ((rd_T59 x8 x10).f0) ((rd_T59 x8 x10).f1) ((rd_T59 x8 x10).f2) ((rd_T59 x8 x10).f3) ((rd_T59 x8 x10).f4)).bind fun t193 => (if t193 = true then (if x10 > 0 then (if 0 ≤ (wrap64 (x10 - 1)) then (if (wrap64 (x10 - 1)) < (x0.length : Int) then (if ((rd_T59 x8 x10).f0) ≤ ((rd_T59 x0 (wrap64 (x10 - 1))).f0) then (some false) else (impl_IsSource.l0 k x0 x8 x9 (wrap64 (x10 + 1)))) else (none)) else (none)) else (impl_IsSource.l0 k x0 x8 x9 (wrap64 (x10 + 1)))) else (some false))) else (none)) else (none)) else (some true)
def impl_IsSource.f (k : Nat) (l0 : List (S59)) : Option (Bool) := if (l0.length : Int) > 16 then (some false) else (impl_IsSource.l0 k l0 l0 (l0.length : Int) 0)
def impl_TileBox.f (a0 : Int) : Option (Int × Int × Int × Int × Bool) := (impl_InRange.f a0 0 440).bind fun t196 => (if t196 = true then (some (wrap64 ((Int.tmod a0 21) * 10), wrap64 ((wrap64 (Int.tdiv a0 21)) * 10), mn (wrap64 ((wrap64 ((Int.tmod a0 21) * 10)) + 10)) 200, mn (wrap64 ((wrap64 ((wrap64 (Int.tdiv a0 21)) * 10)) + 10)) 200, true)) else (some (0, 0, 0, 0, false)))
def impl_IsBox.f (a0_0 : Int) (a0_1 : Int) (a0_2 : Int) (a0_3 : Int) : Option (Bool) := (impl_IsPoint.f a0_0 a0_1).bind fun t198 => (if t198 = true then ((impl_IsPoint.f a0_2 a0_3).bind fun t199 => (if t199 = true then (if a0_0 ≤ a0_2 then (some (decide (a0_1 ≤ a0_3))) else (some false)) else (some false))) else (some false))
def impl_InBox.f (a0_0 : Int) (a0_1 : Int) (a0_2 : Int) (a0_3 : Int) (a1_0 : Int) (a1_1 : Int) : Option (Bool) := (impl_IsBox.f a0_0 a0_1 a0_2 a0_3).bind fun t202 => (if t202 = true then ((impl_InRange.f a1_0 a0_0 a0_2).bind fun t203 => (if t203 = true then ((impl_InRange.f a1_1 a0_1 a0_3).bind fun t204 => (some t204)) else (some false))) else (some false))
def impl_RingSegments.f (k : Nat) (l0 : List (S75)) : Option ((List (S133))) := (impl_IsRing.f k l0).bind fun t205 => (if t205 = true then ((impl_around.f k l0).bind fun t206 => (some t206)) else (some (([] : List (S133)))))
def impl_PartsOf.f (k : Nat) (a0_0 : Int) (a0_1 : Int) (a0_2 : Int) (a0_3 : ByteArray) (l0_4 : List (S75)) : Option ((List (S133))) := (impl_IsFeature.f k a0_0 a0_1 a0_2 a0_3 l0_4).bind fun t213 => (if t213 = true then (if a0_1 = 2 then ((impl_SegmentsOf.f k l0_4).bind fun t214 => (some t214)) else (if a0_1 = 3 then ((impl_RingSegments.f k l0_4).bind fun t217 => (some t217)) else (some (([] : List (S133)))))) else (some (([] : List (S133)))))
def impl_BoxOf.l0 : Nat → List (S75) → Int → Int → Int → Int → Int → Int → Option (Int × Int × Int × Int × Bool)
 | 0, _, _, _, _, _, _, _ => none
 | k + 1, x18, x19, x20, x230000, x230001, x230002, x230003 => if x20 < x19 then (if 0 ≤ x20 then (if x20 < (x18.length : Int) then ((impl_IsPoint.f ((rd_T75 x18 x20).f0) ((rd_T75 x18 x20).f1)).bind fun t232 => (if t232 = true then (impl_BoxOf.l0 k x18 x19 (wrap64 (x20 + 1)) (mn x230000 ((rd_T75 x18 x20).f0)) (mn x230001 ((rd_T75 x18 x20).f1)) (mx x230002 ((rd_T75 x18 x20).f0)) (mx x230003 ((rd_T75 x18 x20).f1))) else (some (0, 0, 0, 0, false)))) else (none)) else (none)) else (some (x230000, x230001, x230002, x230003, true))
def impl_BoxOf.f (k : Nat) (l0 : List (S75)) : Option (Int × Int × Int × Int × Bool) := if (l0.length : Int) = 0 then (some (0, 0, 0, 0, false)) else (if 0 < (l0.length : Int) then (impl_BoxOf.l0 k l0 (l0.length : Int) 0 ((rd_T75 l0 0).f0) ((rd_T75 l0 0).f1) ((rd_T75 l0 0).f0) ((rd_T75 l0 0).f1)) else (none))
def impl_common.f (a0_0 : Int) (a0_1 : Int) (a0_2 : Int) (a0_3 : Int) (a1_0 : Int) (a1_1 : Int) (a1_2 : Int) (a1_3 : Int) : Option (Int × Int) := some (wrap64 ((mn a0_2 a1_2) - (mx a0_0 a1_0)), wrap64 ((mn a0_3 a1_3) - (mx a0_1 a1_1)))
def impl_BoxesMeet.f (a0_0 : Int) (a0_1 : Int) (a0_2 : Int) (a0_3 : Int) (a1_0 : Int) (a1_1 : Int) (a1_2 : Int) (a1_3 : Int) : Option (Bool) := (impl_common.f a0_0 a0_1 a0_2 a0_3 a1_0 a1_1 a1_2 a1_3).bind fun bt237 => ((impl_IsBox.f a0_0 a0_1 a0_2 a0_3).bind fun t239 => (if t239 = true then ((impl_IsBox.f a1_0 a1_1 a1_2 a1_3).bind fun t240 => (if t240 = true then (if bt237.1 ≥ 0 then (some (decide (bt237.2 ≥ 0))) else (some false)) else (some false))) else (some false)))
mutual
def impl_MeetsBox.j0 : Nat → Bool → Int → Int → Int → Int → Int → Int → Int → Int → Option (Bool)
 | 0, _, _, _, _, _, _, _, _, _ => none
 | k + 1, x18, x242000, x242001, x242002, x242003, x243000, x243001, x243002, x243003 => if x18 = true then (some false) else ((impl_BoxOf.f k (([(⟨x242000, x242001⟩ : S75), (⟨x242002, x242003⟩ : S75)] : List (S75)))).bind fun bt248 => ((impl_BoxesMeet.f bt248.1 bt248.2.1 bt248.2.2.1 bt248.2.2.2.1 x243000 x243001 x243002 x243003).bind fun t254 => (if t254 = true then ((some (([(⟨x243000, x243001⟩ : S75), (⟨x243002, x243003⟩ : S75), (⟨x243000, x243003⟩ : S75), (⟨x243002, x243001⟩ : S75)] : List (S75)) : List (S75))).bind fun y255 => (impl_MeetsBox.l0 k 0 0 y255 (y255.length : Int) 0 x242000 x242001 x242002 x242003)) else (some false))))
def impl_MeetsBox.l0 : Nat → Int → Int → List (S75) → Int → Int → Int → Int → Int → Int → Option (Bool)
 | 0, _, _, _, _, _, _, _, _, _ => none
 | k + 1, x7, x8, x50, x51, x52, x242000, x242001, x242002, x242003 => if x52 < x51 then (if 0 ≤ x52 then (if x52 < (x50.length : Int) then ((impl_SideOf.f x242000 x242001 x242002 x242003 ((rd_T75 x50 x52).f0) ((rd_T75 x50 x52).f1)).bind fun t260 => (if t260 = 1 then (impl_MeetsBox.l0 k (wrap64 (x7 + 1)) x8 x50 x51 (wrap64 (x52 + 1)) x242000 x242001 x242002 x242003) else (if t260 = (-1) then (impl_MeetsBox.l0 k x7 (wrap64 (x8 + 1)) x50 x51 (wrap64 (x52 + 1)) x242000 x242001 x242002 x242003) else (impl_MeetsBox.l0 k x7 x8 x50 x51 (wrap64 (x52 + 1)) x242000 x242001 x242002 x242003)))) else (none)) else (none)) else (if x7 < 4 then (some (decide (x8 < 4))) else (some false))
end
def impl_MeetsBox.f (k : Nat) (a0_0 : Int) (a0_1 : Int) (a0_2 : Int) (a0_3 : Int) (a1_0 : Int) (a1_1 : Int) (a1_2 : Int) (a1_3 : Int) : Option (Bool) := (impl_IsSegment.f a0_0 a0_1 a0_2 a0_3).bind fun t243 => (if t243 = true then ((impl_IsBox.f a1_0 a1_1 a1_2 a1_3).bind fun t244 => (impl_MeetsBox.j0 k (!t244) a0_0 a0_1 a0_2 a0_3 a1_0 a1_1 a1_2 a1_3)) else (impl_MeetsBox.j0 k true a0_0 a0_1 a0_2 a0_3 a1_0 a1_1 a1_2 a1_3))
mutual
def impl_piecesOf.j0 : Nat → Bool → List (S56) → Bool → Int → Int → Int → ByteArray → List (S75) → Int → Int → Int → Int → Option ((List (S56)))
 | 0, _, _, _, _, _, _, _, _, _, _, _, _ => none
 | k + 1, x2, x7, x24, x262000, x262001, x262002, x262003, x262004, x263000, x263001, x263002, x263003 => if x24 = true then (if x7.length < 8796093022208 then (impl_piecesOf.j1 k x2 (x7 ++ [(⟨x262000, 0⟩ : S56)]) x262000 x262001 x262002 x262003 x262004 x263000 x263001 x263002 x263003) else (none)) else (impl_piecesOf.j1 k x2 x7 x262000 x262001 x262002 x262003 x262004 x263000 x263001 x263002 x263003)
def impl_piecesOf.j1 : Nat → Bool → List (S56) → Int → Int → Int → ByteArray → List (S75) → Int → Int → Int → Int → Option ((List (S56)))
 | 0, _, _, _, _, _, _, _, _, _, _, _ => none
 | k + 1, x2, x7, x262000, x262001, x262002, x262003, x262004, x263000, x263001, x263002, x263003 => (impl_PartsOf.f k x262000 x262001 x262002 x262003 x262004).bind fun t271 => (impl_piecesOf.l0 k x2 x7 t271 (t271.length : Int) 0 x262000 x262001 x262002 x262003 x262004 x263000 x263001 x263002 x263003)
def impl_piecesOf.l0 : Nat → Bool → List (S56) → List (S133) → Int → Int → Int → Int → Int → ByteArray → List (S75) → Int → Int → Int → Int → Option ((List (S56)))
 | 0, _, _, _, _, _, _, _, _, _, _, _, _, _, _ => none
 | k + 1, x2, x7, x32, x33, x34, x262000, x262001, x262002, x262003, x262004, x263000, x263001, x263002, x263003 => if x34 < x33 then (if 0 ≤ x34 then (if x34 < (x32.length : Int) then (if x2 = true then (if x7.length < 8796093022208 then (impl_piecesOf.l0 k x2 (x7 ++ [(⟨x262000, x34⟩ : S56)]) x32 x33 (wrap64 (x34 + 1)) x262000 x262001 x262002 x262003 x262004 x263000 x263001 x263002 x263003) else (none)) else ((impl_MeetsBox.f k ((rd_T133 x32 x34).f0.f0) ((rd_T133 x32 x34).f0.f1) ((rd_T133 x32 x34).f1.f0) ((rd_T133 x32 x34).f1.f1) x263000 x263001 x263002 x263003).bind fun t279 => (if t279 = true then (if x7.length < 8796093022208 then (impl_piecesOf.l0 k x2 (x7 ++ [(⟨x262000, x34⟩ : S56)]) x32 x33 (wrap64 (x34 + 1)) x262000 x262001 x262002 x262003 x262004 x263000 x263001 x263002 x263003) else (none)) else (impl_piecesOf.l0 k x2 x7 x32 x33 (wrap64 (x34 + 1)) x262000 x262001 x262002 x262003 x262004 x263000 x263001 x263002 x263003)))) else (none)) else (none)) else (some x7)
end
def impl_piecesOf.f (k : Nat) (a0_0 : Int) (a0_1 : Int) (a0_2 : Int) (a0_3 : ByteArray) (l0_4 : List (S75)) (a1_0 : Int) (a1_1 : Int) (a1_2 : Int) (a1_3 : Int) (a2 : Bool) : Option ((List (S56))) := (some (([] : List (S56)) : List (S56))).bind fun y263 => (if a0_1 = 1 then (if a2 = true then (impl_piecesOf.j0 k a2 y263 true a0_0 a0_1 a0_2 a0_3 l0_4 a1_0 a1_1 a1_2 a1_3) else (if 0 < (l0_4.length : Int) then ((impl_InBox.f a1_0 a1_1 a1_2 a1_3 ((rd_T75 l0_4 0).f0) ((rd_T75 l0_4 0).f1)).bind fun t267 => (impl_piecesOf.j0 k a2 y263 t267 a0_0 a0_1 a0_2 a0_3 l0_4 a1_0 a1_1 a1_2 a1_3)) else (none))) else (impl_piecesOf.j0 k a2 y263 false a0_0 a0_1 a0_2 a0_3 l0_4 a1_0 a1_1 a1_2 a1_3))
mutual
def impl_PiecesIn.j0 : Nat → List (S59) → List (S56) → Bool → Int → Int → Int → Int → Option ((List (S56)))
 | 0, _, _, _, _, _, _, _ => none
 | k + 1, x0, x5, x22, x292000, x292001, x292002, x292003 => if x22 = true then (some x5) else (impl_PiecesIn.l0 k x5 x0 (x0.length : Int) 0 x292000 x292001 x292002 x292003)
def impl_PiecesIn.l0 : Nat → List (S56) → List (S59) → Int → Int → Int → Int → Int → Int → Option ((List (S56)))
 | 0, _, _, _, _, _, _, _, _ => none
 | k + 1, x5, x24, x25, x26, x292000, x292001, x292002, x292003 => if x26 < x25 then (if 0 ≤ x26 then (if x26 < (x24.length : Int) then ((impl_piecesOf.f k ((rd_T59 x24 x26).f0) ((rd_T59 x24 x26).f1) ((rd_T59 x24 x26).f2) ((rd_T59 x24 x26).f3) ((rd_T59 x24 x26).f4) x292000 x292001 x292002 x292003 false).bind fun t295 => (if x5.length + t295.length < 8796093022208 then (impl_PiecesIn.l0 k (x5 ++ t295) x24 x25 (wrap64 (x26 + 1)) x292000 x292001 x292002 x292003) else (none))) else (none)) else (none)) else (some x5)
end
def impl_PiecesIn.f (k : Nat) (l0 : List (S59)) (a1 : Int) : Option ((List (S56))) := (some (([] : List (S56)) : List (S56))).bind fun y283 => ((impl_TileBox.f a1).bind fun bt286 => (if bt286.2.2.2.2 = true then ((impl_IsSource.f k l0).bind fun t292 => (impl_PiecesIn.j0 k l0 y283 (!t292) bt286.1 bt286.2.1 bt286.2.2.1 bt286.2.2.2.1)) else (impl_PiecesIn.j0 k l0 y283 true bt286.1 bt286.2.1 bt286.2.2.1 bt286.2.2.2.1)))
/-- A state of type 56 at block g of W; what its slices lead to came in by w0. -/
def IsS56 (w0 W : World) (g : Nat) (f0 : Int) (f1 : Int) : Prop := W.heap[g]? = some (.cells #[.int .i64 f0, .int .i64 f1] 56 (0, 0)) ∧ w0.heap.size ≤ g
theorem cellS56_0 {W : World} {g : Nat} {f0 : Int} {f1 : Int} (h : W.heap[g]? = some (.cells #[.int .i64 f0, .int .i64 f1] 56 (0, 0))) : W.cell? ⟨g, 0, none⟩ = some (.int .i64 f0) := (blk_cell h 0).trans rfl
theorem cellS56_1 {W : World} {g : Nat} {f0 : Int} {f1 : Int} (h : W.heap[g]? = some (.cells #[.int .i64 f0, .int .i64 f1] 56 (0, 0))) : W.cell? ⟨g, 1, none⟩ = some (.int .i64 f1) := (blk_cell h 1).trans rfl
/-- A state of type 59 at block g of W; what its slices lead to came in by w0. -/
def IsS59 (w0 W : World) (g : Nat) (f0 : Int) (f1 : Int) (f2 : Int) (f3 : ByteArray) (f4 : List (S75)) : Prop := ∃ A4 c4, W.heap[g]? = some (.cells #[.int .i64 f0, .int .i64 f1, .int .i64 f2, .string f3, .slice A4 f4.length c4] 59 (0, 0)) ∧ w0.heap.size ≤ g ∧ Kd.C k75 w0 A4 f4.length f4
theorem cellS59_0 {W : World} {g : Nat} {A4 : Option Addr} {c4 : Nat} {f0 : Int} {f1 : Int} {f2 : Int} {f3 : ByteArray} {f4 : List (S75)} (h : W.heap[g]? = some (.cells #[.int .i64 f0, .int .i64 f1, .int .i64 f2, .string f3, .slice A4 f4.length c4] 59 (0, 0))) : W.cell? ⟨g, 0, none⟩ = some (.int .i64 f0) := (blk_cell h 0).trans rfl
theorem cellS59_1 {W : World} {g : Nat} {A4 : Option Addr} {c4 : Nat} {f0 : Int} {f1 : Int} {f2 : Int} {f3 : ByteArray} {f4 : List (S75)} (h : W.heap[g]? = some (.cells #[.int .i64 f0, .int .i64 f1, .int .i64 f2, .string f3, .slice A4 f4.length c4] 59 (0, 0))) : W.cell? ⟨g, 1, none⟩ = some (.int .i64 f1) := (blk_cell h 1).trans rfl
theorem cellS59_2 {W : World} {g : Nat} {A4 : Option Addr} {c4 : Nat} {f0 : Int} {f1 : Int} {f2 : Int} {f3 : ByteArray} {f4 : List (S75)} (h : W.heap[g]? = some (.cells #[.int .i64 f0, .int .i64 f1, .int .i64 f2, .string f3, .slice A4 f4.length c4] 59 (0, 0))) : W.cell? ⟨g, 2, none⟩ = some (.int .i64 f2) := (blk_cell h 2).trans rfl
theorem cellS59_3 {W : World} {g : Nat} {A4 : Option Addr} {c4 : Nat} {f0 : Int} {f1 : Int} {f2 : Int} {f3 : ByteArray} {f4 : List (S75)} (h : W.heap[g]? = some (.cells #[.int .i64 f0, .int .i64 f1, .int .i64 f2, .string f3, .slice A4 f4.length c4] 59 (0, 0))) : W.cell? ⟨g, 3, none⟩ = some (.string f3) := (blk_cell h 3).trans rfl
theorem cellS59_4 {W : World} {g : Nat} {A4 : Option Addr} {c4 : Nat} {f0 : Int} {f1 : Int} {f2 : Int} {f3 : ByteArray} {f4 : List (S75)} (h : W.heap[g]? = some (.cells #[.int .i64 f0, .int .i64 f1, .int .i64 f2, .string f3, .slice A4 f4.length c4] 59 (0, 0))) : W.cell? ⟨g, 4, none⟩ = some (.slice A4 f4.length c4) := (blk_cell h 4).trans rfl
def encP (x : S56) : List Value := [.int .i64 x.f0, .int .i64 x.f1]
theorem flatP : Go.Proofs.YtkomgmgpgnjooaaGreatRowK.Flat k56 encP where
  pos := by decide
  len := fun _ => rfl
  one := fun x v hv => by simp [encP] at hv; rcases hv with rfl | rfl <;> rfl
  of := fun h => k56_openM h
  put := fun w base ok x => k56_mkM w base ok x
instance : Inhabited S56 := ⟨z56⟩
instance : DecidableEq S56 := fun a b => decidable_of_iff (a.f0 = b.f0 ∧ a.f1 = b.f1) ⟨fun h => by cases a; cases b; cases h.1; cases h.2; rfl, fun h => by cases h; exact ⟨rfl, rfl⟩⟩
/-- The first of the two that is not 0. -/
def cfP (x y : S56) : Int := if cmpI x.f0 y.f0 = 0 then cmpI x.f1 y.f1 else cmpI x.f0 y.f0
def clT : Bool × List (List Nat × List Nat) := (true, [([], []), ([0], [0]), ([], []), ([2], [2]), ([1, 3], [1, 3]), ([], []), ([5], [5]), ([], []), ([7], [7]), ([6, 8, 4], [6, 8]), ([4, 9], [4, 9]), ([10, 9], [10]), ([11, 11, 0, 1, 2, 3, 4, 5, 6, 7, 8, 9, 10, 11], [11])])
def clB : List Nat := [0, 1, 0, 4, 15, 0, 32, 0, 128, 511, 1023, 2047, 4095]
theorem cl_tab : rtab .any (opsOf Tryz.f36 1) = clT := by kernel_rfl
theorem cl_bits : waitsOk clT.2 clB = true := by kernel_rfl
/-- A row of two written down in a region. -/
theorem build2 {P : Program} {ops : Array Oper} {o : Oper} {a : Act} {W : World} {K : Act → World → Prop} {Q : Exit → Act → World → Prop} {v : Value} {w1 : World} (hw : Region.wanted o (yielded ops a.tmps) = true)
  (hrun : (execOp a.eval o).run P W = .ok (.value v) w1) (h : K (a.put o.dst v) w1) : if Region.wanted o (yielded ops a.tmps) = true then Oper.wp P o a W K Q else K (a.put o.dst undef) W := by
  rw [if_pos hw]; unfold Oper.wp; rw [hrun, Oper.upon_value]; exact h
def pltb (x y : S56) : Bool := decide (x.f0 < y.f0 ∨ (x.f0 = y.f0 ∧ x.f1 < y.f1))
def sortPc (l : List S56) : List S56 := l.mergeSort fun x y => !(pltb y x)
theorem sortPc_len (l : List S56) : (sortPc l).length = l.length := List.length_mergeSort _
theorem eqAP (d : Nat) (w : World) (x y : S56) :
    (Op.equalIn (d + 2) 56 (.agg #[.int .i64 x.f0, .int .i64 x.f1]) (.agg #[.int .i64 y.f0, .int .i64 y.f1])).run Tryz.prog w = .ok (decide (x = y)) w := by
  have e : decide (x = y) = (x.f0 == y.f0 && (x.f1 == y.f1)) := by
    cases x with | mk a b => cases y with | mk c d => by_cases h1 : a = c <;> by_cases h2 : b = d <;> simp [h1, h2]
  rw [e]
  refine eqA_of Tryz.underlying56 (by kernel_rfl) ?_; refine eqf_cons (by rfl) (by go_simp; rfl) (by go_simp; rfl) (by go_simp) ?_
  exact eqf_last (by rfl) (by go_simp; rfl) (by go_simp; rfl) (by go_simp)
theorem wr_sub (n : Nat) (h1 : 1 ≤ n) (h : n ≤ 9223372036854775807) : wrap64 ((n : Int) - 1) = ((n - 1 : Nat) : Int) := by unfold wrap64; omega
theorem wr_add (n : Nat) (h : n < 9223372036854775807) : wrap64 ((n : Int) + 1) = ((n + 1 : Nat) : Int) := by unfold wrap64; omega
theorem store2 {w wr : World} {g q2 kk : Nat} {dk : Array S56} (hk : kk < dk.size) (hwr : wr = Go.Sort.putRow id (Go.Sort.ahead w q2) g 0 (Go.Sort.flatK encP 2 dk)) (u : S56) :
    ((wr.setCell ⟨g, kk * 2, none⟩ (.int .i64 u.f0)).setCell ⟨g, kk * 2 + 1, none⟩ (.int .i64 u.f1)).drew = Go.Sort.putRow id (Go.Sort.ahead w (q2 + 1)) g 0 (Go.Sort.flatK encP 2 (dk.setIfInBounds kk u)) := by
  subst hwr
  have h := Go.Sort.setCells_putRow (Go.Sort.ahead w q2) g 0 (encP u) (kk * 2) (Go.Sort.flatK encP 2 dk) (by simp [encP]; omega)
  rw [Go.Proofs.YtkomgmgpgnjooaaGreatRowK.setMany_flatK encP 2 (fun _ => rfl) dk kk u hk, Nat.zero_add] at h
  have h2 := congrArg World.drew h
  exact h2
def zsP (n : Nat) : List Value := (Builtin.zeroCells #[.int .i64 0, .int .i64 0] n).toList
theorem zsP_len (n : Nat) : (zsP n).length = n * 2 := by simp [zsP, Builtin.zeroCells]
theorem run_clearP (w : World) (ty : TypeId) (g o n c : Nat) (hn : 0 < n) (hc : ∀ j, j < n * 2 → (w.cell? ⟨g, o + j, none⟩).isSome = true) (hf : ∀ j, j < n * 2 → w.frozen? ⟨g, o + j, none⟩ = false) :
    (Builtin.clear_ #[25] ty #[.slice (some ⟨g, o, none⟩) n c]).run Tryz.prog w = .ok (.tuple #[]) (w.setCells g o (zsP n)) := by
  have hst := run_storeCells_cells (P := Tryz.prog) g o (zsP n) 0 w (by simpa [zsP_len] using hc) (by simpa [zsP_len] using hf) (by
    intro v hv
    simp only [zsP, Builtin.zeroCells, Array.toList_map, List.mem_map] at hv
    obtain ⟨i, _, rfl⟩ := hv
    have : i % 2 = 0 ∨ i % 2 = 1 := by omega
    rcases this with h | h <;> simp [h] <;> rfl)
  simp only [Nat.add_zero] at hst
  have hz : ∀ w, (zeroValue 56).run Tryz.prog w = .ok (.agg #[.int .i64 0, .int .i64 0]) w := Tryz.zeroValue56
  obtain ⟨m, rfl⟩ : ∃ m, n = m + 1 := ⟨n - 1, by omega⟩
  have e : Builtin.zeroCells (Value.agg #[.int .i64 0, .int .i64 0]).cells (m + 1) = Builtin.zeroCells #[.int .i64 0, .int .i64 0] (m + 1) := rfl
  simp [Builtin.clear_, run_underlying Tryz.underlying25, hz, e]
  unfold zsP at hst
  rw [hst]
  rfl
attribute [local go_sem high] eqAP
/-- The cells of the element at j. -/
theorem hk_at {w : World} {g : Nat} {d : Array S56} (h : Go.Sort.HoldsK encP 2 w g 0 d) {j : Nat} (hj : j < d.size) :
    w.cell? ⟨g, j * 2, none⟩ = some (.int .i64 d[j]!.f0) ∧ w.cell? ⟨g, j * 2 + 1, none⟩ = some (.int .i64 d[j]!.f1) ∧ w.frozen? ⟨g, j * 2, none⟩ = false ∧ w.frozen? ⟨g, j * 2 + 1, none⟩ = false := by
  obtain ⟨h0, h0'⟩ := h (j * 2) (by simp; omega)
  obtain ⟨h1, h1'⟩ := h (j * 2 + 1) (by simp; omega)
  rw [Go.Sort.get_flatK _ _ _ _ (by omega), Nat.zero_add] at h0 h1
  rw [Nat.zero_add] at h0' h1'
  have e0 : j * 2 / 2 = j := by omega
  have e1 : (j * 2 + 1) / 2 = j := by omega
  have e2 : j * 2 % 2 = 0 := by omega
  have e3 : (j * 2 + 1) % 2 = 1 := by omega
  rw [e0, e2] at h0
  rw [e1, e3] at h1
  exact ⟨h0, h1, h0', h1'⟩
def compP (l : List S56) : List S56 := Go.Lib.compactUpTo l.toArray l.length
theorem compP_le (l : List S56) : (compP l).length ≤ l.length := by
  unfold compP Go.Lib.compactUpTo
  rw [List.length_map]
  exact Nat.le_trans (List.length_filter_le _ _) (by simp)
def jl (k : Nat) (l : List S59) : List Int → List S56 → Option (List S56)
  | [], out => some out
  | t :: r, out => (impl_PiecesIn.f k l t).bind fun p => if out.length + p.length < 8796093022208 then jl k l r (out ++ p) else none
def impl_JoinTiles.f (k : Nat) (l0 : List S59) (l1 : List Int) : Option (List S56) :=
  (jl k l0 l1 []).bind fun xs => if xs.length < 4611686018427387904 then some (compP (sortPc xs)) else none
theorem jl_drop {k : Nat} {l : List S59} {l1 : List Int} {j : Nat} {out : List S56} (h : j < l1.length) : jl k l (l1.drop j) out = (impl_PiecesIn.f k l (l1.getD j 0)).bind fun p => if out.length + p.length < 8796093022208 then jl k l (l1.drop (j + 1)) (out ++ p) else none := by
  rw [List.drop_eq_getElem_cons h, jl]
  simp [h]
def spec_l1In.f (a0 : Int) (a1 : Int) (a2 : Int) : Option (Bool) := some (inR a0 a1 a2)
def spec_IsPoint.f (a0_0 : Int) (a0_1 : Int) : Option (Bool) := some (isPt a0_0 a0_1)
def spec_IsName.l0 : Nat → ByteArray → Int → Option (Bool)
 | 0, _, _ => none
 | k + 1, x0, x3 => if x3 < (x0.size : Int) then (if 0 ≤ x3 then (if (bt x0 x3) < 97 then (some false) else (if (bt x0 x3) > 122 then (some false) else (spec_IsName.l0 k x0 (wrap64 (x3 + 1))))) else (none)) else ((spec_l1In.f (x0.size : Int) 1 8).bind fun t301 => (some t301))
def spec_IsName.f (k : Nat) (a0 : ByteArray) : Option (Bool) := spec_IsName.l0 k a0 0
def spec_IsSegment.f (a0_0 : Int) (a0_1 : Int) (a0_2 : Int) (a0_3 : Int) : Option (Bool) := some (isSeg a0_0 a0_1 a0_2 a0_3)
def spec_l7Segments.l0 : Nat → List (S75) → List (S133) → Int → Option ((List (S133)))
 | 0, _, _, _ => none
 | k + 1, x0, x3, x4 => if x4 < (x0.length : Int) then (if 0 ≤ x4 then (if (x0.length : Int) = 0 then (none) else (if 0 ≤ (Int.tmod (wrap64 (x4 + 1)) (x0.length : Int)) then (if (Int.tmod (wrap64 (x4 + 1)) (x0.length : Int)) < (x0.length : Int) then (if x3.length < 4398046511104 then (spec_l7Segments.l0 k x0 (x3 ++ [(⟨(⟨(rd_T75 x0 x4).f0, (rd_T75 x0 x4).f1⟩ : S75), (⟨(rd_T75 x0 (Int.tmod (wrap64 (x4 + 1)) (x0.length : Int))).f0, (rd_T75 x0 (Int.tmod (wrap64 (x4 + 1)) (x0.length : Int))).f1⟩ : S75)⟩ : S133)]) (wrap64 (x4 + 1))) else (none)) else (none)) else (none))) else (none)) else (some x3)
def spec_l7Segments.f (k : Nat) (l0 : List (S75)) : Option ((List (S133))) := spec_l7Segments.l0 k l0 (([] : List (S133))) 0
def spec_Min.f (a0 : Int) (a1 : Int) : Option (Int) := some (mn a0 a1)
def spec_Max.f (a0 : Int) (a1 : Int) : Option (Int) := some (mx a0 a1)
def spec_l4Cross.f (a0_0 : Int) (a0_1 : Int) (a1_0 : Int) (a1_1 : Int) (a2_0 : Int) (a2_1 : Int) : Option (Int) := some (crossI a0_0 a0_1 a1_0 a1_1 a2_0 a2_1)
def spec_SideOf.f (a0_0 : Int) (a0_1 : Int) (a1_0 : Int) (a1_1 : Int) (a2_0 : Int) (a2_1 : Int) : Option (Int) := some (sideI a0_0 a0_1 a1_0 a1_1 a2_0 a2_1)
def spec_IsOn.f (a0_0 : Int) (a0_1 : Int) (a0_2 : Int) (a0_3 : Int) (a1_0 : Int) (a1_1 : Int) : Option (Bool) := some (isOnI a0_0 a0_1 a0_2 a0_3 a1_0 a1_1)
attribute [local go_sem high] eqA75
mutual
def spec_l5Shared.l0 : Nat → List (S75) → List (S75) → Int → Int → Int → Int → Int → Int → Int → Int → Int → Option (Int)
 | 0, _, _, _, _, _, _, _, _, _, _, _ => none
 | k + 1, x5, x6, x7, x311000, x311001, x311002, x311003, x312000, x312001, x312002, x312003 => if x7 < 4 then (if x7 < 2 then (if 0 ≤ x7 then (if x7 < (x6.length : Int) then ((spec_IsOn.f x312000 x312001 x312002 x312003 ((rd_T75 x6 x7).f0) ((rd_T75 x6 x7).f1)).bind fun t319 => (if t319 = true then (spec_l5Shared.j1 k x5 x6 x7 true x311000 x311001 x311002 x311003 x312000 x312001 x312002 x312003) else (if x7 ≥ 2 then ((spec_IsOn.f x311000 x311001 x311002 x311003 ((rd_T75 x6 x7).f0) ((rd_T75 x6 x7).f1)).bind fun t321 => (spec_l5Shared.j1 k x5 x6 x7 t321 x311000 x311001 x311002 x311003 x312000 x312001 x312002 x312003)) else (spec_l5Shared.j1 k x5 x6 x7 false x311000 x311001 x311002 x311003 x312000 x312001 x312002 x312003)))) else (none)) else (none)) else (if x7 ≥ 2 then (if 0 ≤ x7 then (if x7 < (x6.length : Int) then ((spec_IsOn.f x311000 x311001 x311002 x311003 ((rd_T75 x6 x7).f0) ((rd_T75 x6 x7).f1)).bind fun t323 => (spec_l5Shared.j1 k x5 x6 x7 t323 x311000 x311001 x311002 x311003 x312000 x312001 x312002 x312003)) else (none)) else (none)) else (spec_l5Shared.j1 k x5 x6 x7 false x311000 x311001 x311002 x311003 x312000 x312001 x312002 x312003))) else (some (x5.length : Int))
def spec_l5Shared.j1 : Nat → List (S75) → List (S75) → Int → Bool → Int → Int → Int → Int → Int → Int → Int → Int → Option (Int)
 | 0, _, _, _, _, _, _, _, _, _, _, _, _ => none
 | k + 1, x5, x6, x7, x8, x311000, x311001, x311002, x311003, x312000, x312001, x312002, x312003 => spec_l5Shared.l1 k x5 x6 x7 x8 0 x311000 x311001 x311002 x311003 x312000 x312001 x312002 x312003
def spec_l5Shared.l1 : Nat → List (S75) → List (S75) → Int → Bool → Int → Int → Int → Int → Int → Int → Int → Int → Int → Option (Int)
 | 0, _, _, _, _, _, _, _, _, _, _, _, _, _ => none
 | k + 1, x5, x6, x7, x8, x9, x311000, x311001, x311002, x311003, x312000, x312001, x312002, x312003 => if x9 < (x5.length : Int) then (if x8 = true then (if 0 ≤ x9 then (if 0 ≤ x7 then (if x7 < (x6.length : Int) then (spec_l5Shared.l1 k x5 x6 x7 (!(((rd_T75 x5 x9).f0) == ((rd_T75 x6 x7).f0)) || (!(((rd_T75 x5 x9).f1) == ((rd_T75 x6 x7).f1)))) (wrap64 (x9 + 1)) x311000 x311001 x311002 x311003 x312000 x312001 x312002 x312003) else (none)) else (none)) else (none)) else (spec_l5Shared.l1 k x5 x6 x7 false (wrap64 (x9 + 1)) x311000 x311001 x311002 x311003 x312000 x312001 x312002 x312003)) else (if x8 = true then (if 0 ≤ x7 then (if x7 < (x6.length : Int) then (if x5.length < 8796093022208 then (spec_l5Shared.l0 k (x5 ++ [(⟨(rd_T75 x6 x7).f0, (rd_T75 x6 x7).f1⟩ : S75)]) x6 (wrap64 (x7 + 1)) x311000 x311001 x311002 x311003 x312000 x312001 x312002 x312003) else (none)) else (none)) else (none)) else (spec_l5Shared.l0 k x5 x6 (wrap64 (x7 + 1)) x311000 x311001 x311002 x311003 x312000 x312001 x312002 x312003))
end
def spec_l5Shared.f (k : Nat) (a0_0 : Int) (a0_1 : Int) (a0_2 : Int) (a0_3 : Int) (a1_0 : Int) (a1_1 : Int) (a1_2 : Int) (a1_3 : Int) : Option (Int) := spec_l5Shared.l0 k (([] : List (S75))) (([(⟨a0_0, a0_1⟩ : S75), (⟨a0_2, a0_3⟩ : S75), (⟨a1_0, a1_1⟩ : S75), (⟨a1_2, a1_3⟩ : S75)] : List (S75))) 0 a0_0 a0_1 a0_2 a0_3 a1_0 a1_1 a1_2 a1_3
theorem on_s (a b c d x y : Int) : spec_IsOn.f a b c d x y = some (isOnI a b c d x y) := rfl
def eqP (p q : S75) : Bool := decide (p.f0 = q.f0) && decide (p.f1 = q.f1)
theorem nep (p q : S75) : (!((p.f0) == (q.f0)) || (!((p.f1) == (q.f1)))) = !eqP p q := by
  unfold eqP
  by_cases h : p.f0 = q.f0 <;> by_cases h' : p.f1 = q.f1 <;> simp [h, h']
theorem rdPt (l : List S75) (i : Nat) (h : i < l.length) : rd_T75 l (i : Int) = l[i] := by
  unfold rd_T75
  rw [Int.toNat_natCast, List.getD_eq_getElem?_getD, List.getElem?_eq_getElem h]
  rfl
theorem w1' (i : Nat) (h : i < 9223372036854775807) : wrap64 ((i : Int) + 1) = ((i + 1 : Nat) : Int) := by unfold wrap64; omega
theorem all_if (x : Bool) (L : List S75) (y : S75) (q : S75 → Bool) : (if x = true then L ++ [y] else L).all q = (L.all q && (!x || q y)) := by cases x <;> simp
theorem len_if (x : Bool) (L : List S75) (y : S75) : (if x = true then L ++ [y] else L).length = L.length + (if x = true then 1 else 0) := by cases x <;> simp
section
variable (a b c d e f g h : Int)
theorem sh_l1 (xs es : List S75) (i : Nat) (hi : i < es.length) (hes : es.length ≤ 4) (hx : xs.length ≤ 4) (m : Nat) : ∀ (j : Nat) (on : Bool), j + m = xs.length → ∀ r,
    Ev (fun k => spec_l5Shared.l0 k (if on && (xs.drop j).all (fun p => !eqP p es[i]) then xs ++ [es[i]] else xs) es ((i + 1 : Nat) : Int) a b c d e f g h) r → Ev (fun k => spec_l5Shared.l1 k xs es (i : Int) on (j : Int) a b c d e f g h) r := by
  induction m with
  | zero =>
    intro j on hj r hr; rw [List.drop_of_length_le (by omega)] at hr; refine Ev.step (fun k => ?_) hr; simp only [spec_l5Shared.l1]; rw [if_neg (by omega)]; simp only [List.all_nil, Bool.and_true]
    cases on
    · simp only [Bool.false_eq_true, if_false, w1' i (by omega)]
    · simp only [if_true]; rw [if_pos (by omega), if_pos (by omega), if_pos (by omega), w1' i (by omega), rdPt es i hi]
  | succ m ih =>
    intro j on hj r hr; have hj1 : j < xs.length := by omega
    have hd := List.drop_eq_getElem_cons hj1; rw [hd, List.all_cons] at hr; refine Ev.step (fun k => ?_) (ih (j + 1) (on && !eqP xs[j] es[i]) (by omega) r (by rw [Bool.and_assoc]; exact hr)); simp only [spec_l5Shared.l1]; rw [if_pos (by omega)]
    cases on
    · simp only [Bool.false_eq_true, if_false, w1' j (by omega), Bool.false_and]
    · simp only [if_true]; rw [if_pos (by omega), if_pos (by omega), if_pos (by omega), w1' j (by omega), rdPt es i hi, rdPt xs j hj1, nep, Bool.true_and]
/-- Which segment an end is held against. -/
def onI (i : Nat) (p : S75) : Bool := if i < 2 then isOnI e f g h p.f0 p.f1 else isOnI a b c d p.f0 p.f1
theorem sh_l0 (xs es : List S75) (i : Nat) (hi : i < es.length) (hes : es.length = 4) (hx : xs.length ≤ 4) (r : Int)
    (hr : Ev (fun k => spec_l5Shared.l0 k (if onI a b c d e f g h i es[i] && xs.all (fun p => !eqP p es[i]) then xs ++ [es[i]] else xs) es ((i + 1 : Nat) : Int) a b c d e f g h) r) : Ev (fun k => spec_l5Shared.l0 k xs es (i : Int) a b c d e f g h) r := by
  have go : ∀ on : Bool, on = onI a b c d e f g h i es[i] → Ev (fun k => spec_l5Shared.j1 k xs es (i : Int) on a b c d e f g h) r := by
    intro on hon; refine Ev.step (f := fun k => spec_l5Shared.l1 k xs es (i : Int) on ((0 : Nat) : Int) a b c d e f g h) (fun k => by rw [spec_l5Shared.j1]; rfl) (sh_l1 a b c d e f g h xs es i hi (by omega) hx xs.length 0 on (by omega) r ?_); rw [hon, List.drop_zero]
    exact hr
  have step : ∀ k, spec_l5Shared.l0 (k + 1) xs es (i : Int) a b c d e f g h = spec_l5Shared.j1 k xs es (i : Int) (onI a b c d e f g h i es[i]) a b c d e f g h := by
    intro k; simp only [spec_l5Shared.l0]; rw [if_pos (by omega)]
    by_cases h2 : i < 2
    · rw [if_pos (by omega), if_pos (by omega), if_pos (by omega), rdPt es i hi, on_s, onI, if_pos h2]; simp only [Option.bind_some]
      cases isOnI e f g h es[i].f0 es[i].f1
      · rw [if_neg (by simp), if_neg (by omega)]
      · rw [if_pos rfl]
    · rw [if_neg (by omega), if_pos (by omega), if_pos (by omega), if_pos (by omega), rdPt es i hi, on_s, onI, if_neg h2]; simp only [Option.bind_some]
  exact Ev.step step (go _ rfl)
theorem share_s : Ev (fun k => spec_l5Shared.f k a b c d e f g h) (shareI a b c d e f g h) := by
  unfold spec_l5Shared.f
  generalize hes : ([(⟨a, b⟩ : S75), ⟨c, d⟩, ⟨e, f⟩, ⟨g, h⟩] : List S75) = es; have h4 : es.length = 4 := by subst hes; rfl
  have e0 : es[0]'(by omega) = ⟨a, b⟩ := by subst hes; rfl
  have e1 : es[1]'(by omega) = ⟨c, d⟩ := by subst hes; rfl
  have e2 : es[2]'(by omega) = ⟨e, f⟩ := by subst hes; rfl
  have e3 : es[3]'(by omega) = ⟨g, h⟩ := by subst hes; rfl
  refine sh_l0 a b c d e f g h [] es 0 (by omega) h4 (by simp) _ ?_; refine sh_l0 a b c d e f g h _ es 1 (by omega) h4 (by split <;> simp) _ ?_; refine sh_l0 a b c d e f g h _ es 2 (by omega) h4 (by split <;> split <;> simp) _ ?_; refine sh_l0 a b c d e f g h _ es 3 (by omega) h4 (by split <;> split <;> split <;> simp) _ ?_; rw [e0, e1, e2, e3]; have q0 : onI a b c d e f g h 0 ⟨a, b⟩ = isOnI e f g h a b := rfl; have q1 : onI a b c d e f g h 1 ⟨c, d⟩ = isOnI e f g h c d := rfl; have q2 : onI a b c d e f g h 2 ⟨e, f⟩ = isOnI a b c d e f := rfl; have q3 : onI a b c d e f g h 3 ⟨g, h⟩ = isOnI a b c d g h := rfl; rw [q0, q1, q2, q3]
  unfold shareI
  generalize isOnI e f g h a b = o0; generalize isOnI e f g h c d = o1; generalize isOnI a b c d e f = o2; generalize isOnI a b c d g h = o3; refine Ev.step (f := fun _ => some _) (fun k => ?_) (Ev.now _); simp only [spec_l5Shared.l0]; rw [if_neg (by omega)]
  congr 1
  have E : ∀ x y x' y' : Int, eqP ⟨x, y⟩ ⟨x', y'⟩ = (decide (x = x') && decide (y = y')) := fun _ _ _ _ => rfl
  generalize hA : (decide (a = c) && decide (b = d)) = eab; generalize hB : (decide (a = e) && decide (b = f)) = eac; generalize hC : (decide (c = e) && decide (d = f)) = ebc; generalize hD : (decide (a = g) && decide (b = h)) = ead; generalize hE : (decide (c = g) && decide (d = h)) = ebd; generalize hF : (decide (e = g) && decide (f = h)) = ecd; simp only [all_if, len_if, List.all_nil, List.length_nil, E, hA, hB, hC, hD, hE, hF]; have n1 : (o1 && (true && (!(o0 && true) || !eab))) = (o1 && !(o0 && eab)) := by cases o0 <;> cases eab <;> rfl
  rw [n1]; generalize (o1 && !(o0 && eab)) = p1; have n2 : (o2 && (true && (!(o0 && true) || !eac) && (!p1 || !ebc))) = (o2 && !(o0 && eac) && !(p1 && ebc)) := by cases o0 <;> cases eac <;> cases p1 <;> cases ebc <;> cases o2 <;> rfl
  rw [n2]; generalize (o2 && !(o0 && eac) && !(p1 && ebc)) = p2; have n3 : (o3 && (true && (!(o0 && true) || !ead) && (!p1 || !ebd) && (!p2 || !ecd))) = (o3 && !(o0 && ead) && !(p1 && ebd) && !(p2 && ecd)) := by cases o0 <;> cases ead <;> cases p1 <;> cases ebd <;> cases p2 <;> cases ecd <;> cases o3 <;> rfl
  rw [n3]; generalize (o3 && !(o0 && ead) && !(p1 && ebd) && !(p2 && ecd)) = p3
  cases o0 <;> cases p1 <;> cases p2 <;> cases p3 <;> rfl
end
theorem wrap_sd (x y : Int) (hx : -1 ≤ x ∧ x ≤ 1) (hy : -1 ≤ y ∧ y ≤ 1) : wrap64 (x * y) = x * y := by
  have : x = -1 ∨ x = 0 ∨ x = 1 := by omega
  rcases this with rfl | rfl | rfl <;> unfold wrap64 <;> omega
theorem sd_bd (a b c d e f : Int) : -1 ≤ sideI a b c d e f ∧ sideI a b c d e f ≤ 1 := by
  unfold sideI cmpI; (repeat' split) <;> omega
theorem wrap_three (x y : Int) (hx : -1 ≤ x ∧ x ≤ 1) (hy : -1 ≤ y ∧ y ≤ 1) : IntKind.i64.wrap (x * y) = x * y ∧ (IntKind.i64.wrap (x * y) = -1 ∨ IntKind.i64.wrap (x * y) = 0 ∨ IntKind.i64.wrap (x * y) = 1) := by
  rw [i64_w, wrap_sd x y hx hy]; refine ⟨rfl, ?_⟩; have h1 : x = -1 ∨ x = 0 ∨ x = 1 := by omega
  rcases h1 with rfl | rfl | rfl <;> omega
def spec_HowMeet.f (a0_0 a0_1 a0_2 a0_3 a1_0 a1_1 a1_2 a1_3 : Int) : Option (Int) := some (howS a0_0 a0_1 a0_2 a0_3 a1_0 a1_1 a1_2 a1_3)
mutual
def spec_IsRing.l0 : Nat → List (S133) → Int → Option (Bool)
 | 0, _, _ => none
 | k + 1, x3, x4 => if x4 < (x3.length : Int) then (if 0 ≤ x4 then ((spec_IsSegment.f ((rd_T133 x3 x4).f0.f0) ((rd_T133 x3 x4).f0.f1) ((rd_T133 x3 x4).f1.f0) ((rd_T133 x3 x4).f1.f1)).bind fun t335 => (if t335 = true then (spec_IsRing.l1 k x3 x4 0) else (some false))) else (none)) else (some true)
def spec_IsRing.l1 : Nat → List (S133) → Int → Int → Option (Bool)
 | 0, _, _, _ => none
 | k + 1, x3, x4, x5 => if x5 < x4 then (if (wrap64 (x5 + 1)) = x4 then (spec_IsRing.j2 k x3 x4 x5 0 true) else (if x5 = 0 then (spec_IsRing.j2 k x3 x4 x5 0 ((wrap64 (x4 + 1)) == (x3.length : Int))) else (spec_IsRing.j2 k x3 x4 x5 0 false))) else (spec_IsRing.l0 k x3 (wrap64 (x4 + 1)))
def spec_IsRing.j2 : Nat → List (S133) → Int → Int → Int → Bool → Option (Bool)
 | 0, _, _, _, _, _ => none
 | k + 1, x3, x4, x5, x6, x44 => if x44 = true then (if 0 ≤ x4 then (if x4 < (x3.length : Int) then (if 0 ≤ x5 then (if x5 < (x3.length : Int) then ((spec_HowMeet.f ((rd_T133 x3 x4).f0.f0) ((rd_T133 x3 x4).f0.f1) ((rd_T133 x3 x4).f1.f0) ((rd_T133 x3 x4).f1.f1) ((rd_T133 x3 x5).f0.f0) ((rd_T133 x3 x5).f0.f1) ((rd_T133 x3 x5).f1.f0) ((rd_T133 x3 x5).f1.f1)).bind fun t338 => (if t338 = 1 then (spec_IsRing.l1 k x3 x4 (wrap64 (x5 + 1))) else (some false))) else (none)) else (none)) else (none)) else (none)) else (if 0 ≤ x4 then (if x4 < (x3.length : Int) then (if 0 ≤ x5 then (if x5 < (x3.length : Int) then ((spec_HowMeet.f ((rd_T133 x3 x4).f0.f0) ((rd_T133 x3 x4).f0.f1) ((rd_T133 x3 x4).f1.f0) ((rd_T133 x3 x4).f1.f1) ((rd_T133 x3 x5).f0.f0) ((rd_T133 x3 x5).f0.f1) ((rd_T133 x3 x5).f1.f0) ((rd_T133 x3 x5).f1.f1)).bind fun t341 => (if t341 = x6 then (spec_IsRing.l1 k x3 x4 (wrap64 (x5 + 1))) else (some false))) else (none)) else (none)) else (none)) else (none))
end
def spec_IsRing.f (k : Nat) (l0 : List (S75)) : Option (Bool) := (spec_l1In.f (l0.length : Int) 3 10).bind fun t330 => (if t330 = true then ((spec_l7Segments.f k l0).bind fun t331 => (spec_IsRing.l0 k t331 0)) else (some false))
attribute [local go_sem high] eqA75
def spec_IsLine.l0 : Nat → List (S75) → Int → Option (Bool)
 | 0, _, _ => none
 | k + 1, x0, x3 => if x3 < (x0.length : Int) then (if 0 ≤ x3 then ((spec_IsPoint.f ((rd_T75 x0 x3).f0) ((rd_T75 x0 x3).f1)).bind fun t343 => (if t343 = true then (if x3 > 0 then (if 0 ≤ (wrap64 (x3 - 1)) then (if (wrap64 (x3 - 1)) < (x0.length : Int) then (if (((rd_T75 x0 (wrap64 (x3 - 1))).f0) == ((rd_T75 x0 x3).f0) && (((rd_T75 x0 (wrap64 (x3 - 1))).f1) == ((rd_T75 x0 x3).f1))) = true then (some false) else (spec_IsLine.l0 k x0 (wrap64 (x3 + 1)))) else (none)) else (none)) else (spec_IsLine.l0 k x0 (wrap64 (x3 + 1)))) else (some false))) else (none)) else ((spec_l1In.f (x0.length : Int) 2 10).bind fun t346 => (some t346))
def spec_IsLine.f (k : Nat) (l0 : List (S75)) : Option (Bool) := spec_IsLine.l0 k l0 0
def spec_SegmentsOf.l0 : Nat → List (S75) → List (S133) → Int → Option ((List (S133)))
 | 0, _, _, _ => none
 | k + 1, x0, x3, x4 => if x4 < (x0.length : Int) then ((spec_IsLine.f k x0).bind fun t350 => (if t350 = true then (if 0 ≤ (wrap64 (x4 - 1)) then (if (wrap64 (x4 - 1)) < (x0.length : Int) then (if 0 ≤ x4 then (if x3.length < 4398046511104 then (spec_SegmentsOf.l0 k x0 (x3 ++ [(⟨(⟨(rd_T75 x0 (wrap64 (x4 - 1))).f0, (rd_T75 x0 (wrap64 (x4 - 1))).f1⟩ : S75), (⟨(rd_T75 x0 x4).f0, (rd_T75 x0 x4).f1⟩ : S75)⟩ : S133)]) (wrap64 (x4 + 1))) else (none)) else (none)) else (none)) else (none)) else (some x3))) else (some x3)
def spec_SegmentsOf.f (k : Nat) (l0 : List (S75)) : Option ((List (S133))) := spec_SegmentsOf.l0 k l0 (([] : List (S133))) 1
mutual
def spec_IsSimple.l0 : Nat → List (S75) → List (S133) → Int → Option (Bool)
 | 0, _, _, _ => none
 | k + 1, x0, x3, x4 => if x4 < (x3.length : Int) then (spec_IsSimple.l1 k x0 x3 x4 0) else ((spec_IsLine.f k x0).bind fun t359 => (some t359))
def spec_IsSimple.l1 : Nat → List (S75) → List (S133) → Int → Int → Option (Bool)
 | 0, _, _, _, _ => none
 | k + 1, x0, x3, x4, x5 => if x5 < x4 then (if (wrap64 (x5 + 1)) = x4 then (if 0 ≤ x4 then (if x4 < (x3.length : Int) then (if 0 ≤ x5 then (if x5 < (x3.length : Int) then ((spec_HowMeet.f ((rd_T133 x3 x4).f0.f0) ((rd_T133 x3 x4).f0.f1) ((rd_T133 x3 x4).f1.f0) ((rd_T133 x3 x4).f1.f1) ((rd_T133 x3 x5).f0.f0) ((rd_T133 x3 x5).f0.f1) ((rd_T133 x3 x5).f1.f0) ((rd_T133 x3 x5).f1.f1)).bind fun t362 => (if t362 = 1 then (spec_IsSimple.l1 k x0 x3 x4 (wrap64 (x5 + 1))) else (some false))) else (none)) else (none)) else (none)) else (none)) else (if 0 ≤ x4 then (if x4 < (x3.length : Int) then (if 0 ≤ x5 then (if x5 < (x3.length : Int) then ((spec_HowMeet.f ((rd_T133 x3 x4).f0.f0) ((rd_T133 x3 x4).f0.f1) ((rd_T133 x3 x4).f1.f0) ((rd_T133 x3 x4).f1.f1) ((rd_T133 x3 x5).f0.f0) ((rd_T133 x3 x5).f0.f1) ((rd_T133 x3 x5).f1.f0) ((rd_T133 x3 x5).f1.f1)).bind fun t365 => (if t365 = 0 then (spec_IsSimple.l1 k x0 x3 x4 (wrap64 (x5 + 1))) else (some false))) else (none)) else (none)) else (none)) else (none))) else (spec_IsSimple.l0 k x0 x3 (wrap64 (x4 + 1)))
end
def spec_IsSimple.f (k : Nat) (l0 : List (S75)) : Option (Bool) := (spec_SegmentsOf.f k l0).bind fun t356 => (spec_IsSimple.l0 k l0 t356 0)
def spec_IsFeature.j0 : Nat → Bool → Int → Int → Int → ByteArray → List (S75) → Option (Bool)
 | 0, _, _, _, _, _, _ => none
 | k + 1, x23, x367000, x367001, x367002, x367003, x367004 => if x23 = true then (some false) else (if x367001 = 1 then (if (x367004.length : Int) = 1 then (if 0 < (x367004.length : Int) then ((spec_IsPoint.f ((rd_T75 x367004 0).f0) ((rd_T75 x367004 0).f1)).bind fun t371 => (some t371)) else (none)) else (some false)) else (if x367001 = 2 then ((spec_IsSimple.f k x367004).bind fun t372 => (some t372)) else (if x367001 = 3 then ((spec_IsRing.f k x367004).bind fun t373 => (some t373)) else (some false))))
def spec_IsFeature.f (k : Nat) (a0_0 : Int) (a0_1 : Int) (a0_2 : Int) (a0_3 : ByteArray) (l0_4 : List (S75)) : Option (Bool) := (spec_l1In.f a0_0 1 99).bind fun t367 => (if t367 = true then ((spec_l1In.f a0_2 0 9).bind fun t368 => (if t368 = true then (if a0_3.toList = ([] : List UInt8) then (spec_IsFeature.j0 k false a0_0 a0_1 a0_2 a0_3 l0_4) else ((spec_IsName.f k a0_3).bind fun t369 => (spec_IsFeature.j0 k (!t369) a0_0 a0_1 a0_2 a0_3 l0_4))) else (spec_IsFeature.j0 k true a0_0 a0_1 a0_2 a0_3 l0_4))) else (spec_IsFeature.j0 k true a0_0 a0_1 a0_2 a0_3 l0_4))
def spec_IsSource.l0 : Nat → List (S59) → Int → Option (Bool)
 | 0, _, _ => none
 | k + 1, x0, x3 => if x3 < (x0.length : Int) then (if 0 ≤ x3 then ((spec_IsFeature.f k ((rd_T59 x0 x3).f0) ((rd_T59 x0 x3).f1) ((rd_T59 x0 x3).f2) ((rd_T59 x0 x3).f3) ((rd_T59 x0 x3).f4)).bind fun t375 => (if t375 = true then (if x3 > 0 then (if 0 ≤ (wrap64 (x3 - 1)) then (if (wrap64 (x3 - 1)) < (x0.length : Int) then (if ((rd_T59 x0 (wrap64 (x3 - 1))).f0) ≥ ((rd_T59 x0 x3).f0) then (some false) else (spec_IsSource.l0 k x0 (wrap64 (x3 + 1)))) else (none)) else (none)) else (spec_IsSource.l0 k x0 (wrap64 (x3 + 1)))) else (some false))) else (none)) else (some (decide ((x0.length : Int) ≤ 16)))
def spec_IsSource.f (k : Nat) (l0 : List (S59)) : Option (Bool) := spec_IsSource.l0 k l0 0
def spec_TileBox.f (a0 : Int) : Option (Int × Int × Int × Int × Bool) := (spec_l1In.f a0 0 440).bind fun t379 => (if t379 = true then ((spec_Min.f 200 (wrap64 ((wrap64 ((Int.tmod a0 21) * 10)) + 10))).bind fun t380 => ((spec_Min.f 200 (wrap64 ((wrap64 ((wrap64 (Int.tdiv a0 21)) * 10)) + 10))).bind fun t381 => (some (wrap64 ((Int.tmod a0 21) * 10), wrap64 ((wrap64 (Int.tdiv a0 21)) * 10), t380, t381, true)))) else (some (0, 0, 0, 0, false)))
def spec_IsBox.f (a0_0 : Int) (a0_1 : Int) (a0_2 : Int) (a0_3 : Int) : Option (Bool) := (spec_IsPoint.f a0_0 a0_1).bind fun t383 => (if t383 = true then ((spec_IsPoint.f a0_2 a0_3).bind fun t384 => (if t384 = true then (if a0_0 ≤ a0_2 then (some (decide (a0_1 ≤ a0_3))) else (some false)) else (some false))) else (some false))
def spec_InBox.f (a0_0 : Int) (a0_1 : Int) (a0_2 : Int) (a0_3 : Int) (a1_0 : Int) (a1_1 : Int) : Option (Bool) := (spec_IsBox.f a0_0 a0_1 a0_2 a0_3).bind fun t387 => (if t387 = true then ((spec_l1In.f a1_0 a0_0 a0_2).bind fun t388 => (if t388 = true then ((spec_l1In.f a1_1 a0_1 a0_3).bind fun t389 => (some t389)) else (some false))) else (some false))
def spec_BoxOf.l0 : Nat → List (S75) → Int → Int → Int → Int → Int → Option (Int × Int × Int × Int × Bool)
 | 0, _, _, _, _, _, _ => none
 | k + 1, x0, x5, x394000, x394001, x394002, x394003 => if x5 < (x0.length : Int) then (if 0 ≤ x5 then ((spec_IsPoint.f ((rd_T75 x0 x5).f0) ((rd_T75 x0 x5).f1)).bind fun t395 => (if t395 = true then ((spec_Min.f x394000 ((rd_T75 x0 x5).f0)).bind fun t397 => ((spec_Min.f x394001 ((rd_T75 x0 x5).f1)).bind fun t399 => ((spec_Max.f x394002 ((rd_T75 x0 x5).f0)).bind fun t401 => ((spec_Max.f x394003 ((rd_T75 x0 x5).f1)).bind fun t403 => (spec_BoxOf.l0 k x0 (wrap64 (x5 + 1)) t397 t399 t401 t403))))) else (some (0, 0, 0, 0, false)))) else (none)) else (some (x394000, x394001, x394002, x394003, true))
def spec_BoxOf.f (k : Nat) (l0 : List (S75)) : Option (Int × Int × Int × Int × Bool) := if (l0.length : Int) = 0 then (some (0, 0, 0, 0, false)) else (if 0 < (l0.length : Int) then (spec_BoxOf.l0 k l0 0 ((rd_T75 l0 0).f0) ((rd_T75 l0 0).f1) ((rd_T75 l0 0).f0) ((rd_T75 l0 0).f1)) else (none))
def spec_BoxesMeet.f (a0_0 : Int) (a0_1 : Int) (a0_2 : Int) (a0_3 : Int) (a1_0 : Int) (a1_1 : Int) (a1_2 : Int) (a1_3 : Int) : Option (Bool) := (spec_IsBox.f a0_0 a0_1 a0_2 a0_3).bind fun t406 => (if t406 = true then ((spec_IsBox.f a1_0 a1_1 a1_2 a1_3).bind fun t407 => (if t407 = true then (if a0_0 ≤ a1_2 then (if a1_0 ≤ a0_2 then (if a0_1 ≤ a1_3 then (some (decide (a1_1 ≤ a0_3))) else (some false)) else (some false)) else (some false)) else (some false))) else (some false))
mutual
def spec_MeetsBox.j0 : Nat → Bool → Int → Int → Int → Int → Int → Int → Int → Int → Option (Bool)
 | 0, _, _, _, _, _, _, _, _, _ => none
 | k + 1, x28, x409000, x409001, x409002, x409003, x410000, x410001, x410002, x410003 => if x28 = true then (some false) else (spec_MeetsBox.l0 k (([(⟨x410000, x410001⟩ : S75), (⟨x410000, x410003⟩ : S75), (⟨x410002, x410003⟩ : S75), (⟨x410002, x410001⟩ : S75)] : List (S75))) 0 0 0 x409000 x409001 x409002 x409003)
def spec_MeetsBox.l0 : Nat → List (S75) → Int → Int → Int → Int → Int → Int → Int → Option (Bool)
 | 0, _, _, _, _, _, _, _, _ => none
 | k + 1, x7, x8, x9, x10, x409000, x409001, x409002, x409003 => if x10 < 4 then (if 0 ≤ x10 then (if x10 < (x7.length : Int) then ((spec_SideOf.f x409000 x409001 x409002 x409003 ((rd_T75 x7 x10).f0) ((rd_T75 x7 x10).f1)).bind fun t425 => (if t425 = 1 then (spec_MeetsBox.l0 k x7 (wrap64 (x8 + 1)) x9 (wrap64 (x10 + 1)) x409000 x409001 x409002 x409003) else (if t425 = (-1) then (spec_MeetsBox.l0 k x7 x8 (wrap64 (x9 + 1)) (wrap64 (x10 + 1)) x409000 x409001 x409002 x409003) else (spec_MeetsBox.l0 k x7 x8 x9 (wrap64 (x10 + 1)) x409000 x409001 x409002 x409003)))) else (none)) else (none)) else (if x8 < 4 then (some (decide (x9 < 4))) else (some false))
end
def spec_MeetsBox.f (k : Nat) (a0_0 : Int) (a0_1 : Int) (a0_2 : Int) (a0_3 : Int) (a1_0 : Int) (a1_1 : Int) (a1_2 : Int) (a1_3 : Int) : Option (Bool) := (spec_BoxOf.f k (([(⟨a0_0, a0_1⟩ : S75), (⟨a0_2, a0_3⟩ : S75)] : List (S75)))).bind fun bt413 => ((spec_IsSegment.f a0_0 a0_1 a0_2 a0_3).bind fun t419 => (if t419 = true then ((spec_BoxesMeet.f bt413.1 bt413.2.1 bt413.2.2.1 bt413.2.2.2.1 a1_0 a1_1 a1_2 a1_3).bind fun t420 => (spec_MeetsBox.j0 k (!t420) a0_0 a0_1 a0_2 a0_3 a1_0 a1_1 a1_2 a1_3)) else (spec_MeetsBox.j0 k true a0_0 a0_1 a0_2 a0_3 a1_0 a1_1 a1_2 a1_3)))
mutual
def spec_l20Pieces.j0 : Nat → List (S133) → List (S56) → Bool → Int → Int → Int → ByteArray → List (S75) → Int → Int → Int → Int → Option ((List (S56)))
 | 0, _, _, _, _, _, _, _, _, _, _, _, _ => none
 | k + 1, x1, x7, x20, x427000, x427001, x427002, x427003, x427004, x428000, x428001, x428002, x428003 => if x20 = true then (some (([(⟨x427000, 0⟩ : S56)] : List (S56)))) else (spec_l20Pieces.l0 k x1 x7 0 x427000 x427001 x427002 x427003 x427004 x428000 x428001 x428002 x428003)
def spec_l20Pieces.l0 : Nat → List (S133) → List (S56) → Int → Int → Int → Int → ByteArray → List (S75) → Int → Int → Int → Int → Option ((List (S56)))
 | 0, _, _, _, _, _, _, _, _, _, _, _, _ => none
 | k + 1, x1, x7, x8, x427000, x427001, x427002, x427003, x427004, x428000, x428001, x428002, x428003 => if x8 < (x1.length : Int) then (if 0 ≤ x8 then ((spec_MeetsBox.f k ((rd_T133 x1 x8).f0.f0) ((rd_T133 x1 x8).f0.f1) ((rd_T133 x1 x8).f1.f0) ((rd_T133 x1 x8).f1.f1) x428000 x428001 x428002 x428003).bind fun t437 => (if t437 = true then (if x7.length < 8796093022208 then (spec_l20Pieces.l0 k x1 (x7 ++ [(⟨x427000, x8⟩ : S56)]) (wrap64 (x8 + 1)) x427000 x427001 x427002 x427003 x427004 x428000 x428001 x428002 x428003) else (none)) else (spec_l20Pieces.l0 k x1 x7 (wrap64 (x8 + 1)) x427000 x427001 x427002 x427003 x427004 x428000 x428001 x428002 x428003))) else (none)) else (some x7)
end
def spec_l20Pieces.f (k : Nat) (a0_0 : Int) (a0_1 : Int) (a0_2 : Int) (a0_3 : ByteArray) (l0_4 : List (S75)) (l1 : List (S133)) (a2_0 : Int) (a2_1 : Int) (a2_2 : Int) (a2_3 : Int) : Option ((List (S56))) := (some (([] : List (S56)) : List (S56))).bind fun y428 => (if a0_1 = 1 then (if 0 < (l0_4.length : Int) then ((spec_InBox.f a2_0 a2_1 a2_2 a2_3 ((rd_T75 l0_4 0).f0) ((rd_T75 l0_4 0).f1)).bind fun t432 => (spec_l20Pieces.j0 k l1 y428 t432 a0_0 a0_1 a0_2 a0_3 l0_4 a2_0 a2_1 a2_2 a2_3)) else (none)) else (spec_l20Pieces.j0 k l1 y428 false a0_0 a0_1 a0_2 a0_3 l0_4 a2_0 a2_1 a2_2 a2_3))
def spec_RingSegments.f (k : Nat) (l0 : List (S75)) : Option ((List (S133))) := (spec_IsRing.f k l0).bind fun t441 => (if t441 = true then ((spec_l7Segments.f k l0).bind fun t442 => (some t442)) else (some (([] : List (S133)))))
def spec_PartsOf.f (k : Nat) (a0_0 : Int) (a0_1 : Int) (a0_2 : Int) (a0_3 : ByteArray) (l0_4 : List (S75)) : Option ((List (S133))) := (spec_IsFeature.f k a0_0 a0_1 a0_2 a0_3 l0_4).bind fun t449 => (if t449 = true then (if a0_1 = 2 then ((spec_SegmentsOf.f k l0_4).bind fun t453 => (some t453)) else (if a0_1 = 3 then ((spec_RingSegments.f k l0_4).bind fun t456 => (some t456)) else (some (([] : List (S133)))))) else (some (([] : List (S133)))))
mutual
def spec_PiecesIn.l0 : Nat → List (S59) → List (S56) → Bool → Int → Int → Int → Int → Int → Option ((List (S56)))
 | 0, _, _, _, _, _, _, _, _ => none
 | k + 1, x0, x5, x7, x8, x471000, x471001, x471002, x471003 => if x8 < (x0.length : Int) then (if x7 = true then ((spec_IsSource.f k x0).bind fun t471 => (spec_PiecesIn.j1 k x0 x5 x7 x8 t471 x471000 x471001 x471002 x471003)) else (spec_PiecesIn.j1 k x0 x5 x7 x8 false x471000 x471001 x471002 x471003)) else (spec_PiecesIn.j1 k x0 x5 x7 x8 false x471000 x471001 x471002 x471003)
def spec_PiecesIn.j1 : Nat → List (S59) → List (S56) → Bool → Int → Bool → Int → Int → Int → Int → Option ((List (S56)))
 | 0, _, _, _, _, _, _, _, _, _ => none
 | k + 1, x0, x5, x7, x8, x25, x471000, x471001, x471002, x471003 => if x25 = true then (if 0 ≤ x8 then (if x8 < (x0.length : Int) then ((spec_PartsOf.f k ((rd_T59 x0 x8).f0) ((rd_T59 x0 x8).f1) ((rd_T59 x0 x8).f2) ((rd_T59 x0 x8).f3) ((rd_T59 x0 x8).f4)).bind fun t474 => ((spec_l20Pieces.f k ((rd_T59 x0 x8).f0) ((rd_T59 x0 x8).f1) ((rd_T59 x0 x8).f2) ((rd_T59 x0 x8).f3) ((rd_T59 x0 x8).f4) t474 x471000 x471001 x471002 x471003).bind fun t477 => (if x5.length + t477.length < 8796093022208 then (spec_PiecesIn.l0 k x0 (x5 ++ t477) x7 (wrap64 (x8 + 1)) x471000 x471001 x471002 x471003) else (none)))) else (none)) else (none)) else (some x5)
end
def spec_PiecesIn.f (k : Nat) (l0 : List (S59)) (a1 : Int) : Option ((List (S56))) := (spec_TileBox.f a1).bind fun bt465 => (spec_PiecesIn.l0 k l0 (([] : List (S56))) bt465.2.2.2.2 0 bt465.1 bt465.2.1 bt465.2.2.1 bt465.2.2.2.1)
def posQ (l : List S56) (a b : Int) : Nat → Nat
  | 0 => 0
  | k + 1 => if a < (l.getD k z56).f0 ∨ ((l.getD k z56).f0 = a ∧ b < (l.getD k z56).f1) then posQ l a b k else k + 1
theorem posQ_le (l : List S56) (a b : Int) : ∀ k, posQ l a b k ≤ k
  | 0 => Nat.le_refl _
  | k + 1 => by unfold posQ; split; exact Nat.le_succ_of_le (posQ_le l a b k); exact Nat.le_refl _
def putQ (l : List S56) (x : S56) : List S56 := if 0 < posQ l x.f0 x.f1 l.length ∧ l.getD (posQ l x.f0 x.f1 l.length - 1) z56 = x then l else (l.take (posQ l x.f0 x.f1 l.length) ++ [x]) ++ l.drop (posQ l x.f0 x.f1 l.length)
theorem putQ_len (l : List S56) (x : S56) : (putQ l x).length ≤ l.length + 1 := by
  have := posQ_le l x.f0 x.f1 l.length
  unfold putQ
  split
  · omega
  · simp only [List.length_append, List.length_take, List.length_drop, List.length_singleton]; omega
theorem eqA4 (d : Nat) (w : World) (a b x y : Int) :
    (Op.equalIn (d + 2) 56 (.agg #[.int .i64 a, .int .i64 b]) (.agg #[.int .i64 x, .int .i64 y])).run Tryz.prog w = .ok (decide (a = x ∧ b = y)) w := by
  have e : decide (a = x ∧ b = y) = (a == x && (b == y)) := by by_cases h1 : a = x <;> by_cases h2 : b = y <;> simp [h1, h2]
  rw [e]
  refine eqA_of Tryz.underlying56 (by kernel_rfl) ?_; refine eqf_cons (by rfl) (by go_simp; rfl) (by go_simp; rfl) (by go_simp) ?_
  exact eqf_last (by rfl) (by go_simp; rfl) (by go_simp; rfl) (by go_simp)
theorem qcell {w : World} {p : Addr} {v : Value} (h : w.cell? p = some v) (d : Nat) (os : Array Obj) : (Go.Sort.grow (redrawn w d) os).cell? p = some v := ((below_regrown w d os).cell (World.block_lt_of_cell? w p h)).trans h
theorem wr_sub1 (n : Nat) (h1 : 1 ≤ n) (h : n ≤ 9223372036854775807) : wrap64 ((n : Int) - 1) = ((n - 1 : Nat) : Int) := by unfold wrap64; omega
def js (k : Nat) (l : List S59) : List Int → List S56 → Option (List S56)
  | [], out => some out
  | t :: r, out => (spec_PiecesIn.f k l t).bind fun p => if out.length + p.length < 4398046511104 then js k l r (p.foldl putQ out) else none
def spec_JoinTiles.f (k : Nat) (l0 : List S59) (l1 : List Int) : Option (List S56) := js k l0 l1 []
theorem js_drop {k : Nat} {l : List S59} {l1 : List Int} {j : Nat} {out : List S56} (h : j < l1.length) : js k l (l1.drop j) out = (spec_PiecesIn.f k l (l1.getD j 0)).bind fun p => if out.length + p.length < 4398046511104 then js k l (l1.drop (j + 1)) (p.foldl putQ out) else none := by
  rw [List.drop_eq_getElem_cons h, js]
  simp [h]
theorem fq_drop {l : List S56} {j : Nat} {out : List S56} (h : j < l.length) : (l.drop j).foldl putQ out = (l.drop (j + 1)).foldl putQ (putQ out (l.getD j z56)) := by
  rw [List.drop_eq_getElem_cons h, List.foldl_cons]
  simp [h]
def laws_toPoint.f (a0_0 : Int) (a0_1 : Int) : Option (Int × Int) := some (a0_0, a0_1)
def laws_toPointS.l0 : Nat → List (S136) → List (S75) → Int → Option ((List (S75)))
 | 0, _, _, _ => none
 | k + 1, x0, x3, x4 => if x4 < (x0.length : Int) then (if 0 ≤ x4 then ((laws_toPoint.f ((rd_T136 x0 x4).f0) ((rd_T136 x0 x4).f1)).bind fun bt490 => (if x4 < (x3.length : Int) then (laws_toPointS.l0 k x0 (x3.set (x4 : Int).toNat (⟨bt490.1, bt490.2⟩ : S75)) (wrap64 (x4 + 1))) else (none))) else (none)) else (some x3)
def laws_toPointS.f (k : Nat) (l0 : List (S136)) : Option ((List (S75))) := if 0 ≤ (l0.length : Int) then (if ((l0.length : Int) : Int).toNat ≤ 17592186044416 then (laws_toPointS.l0 k l0 (List.replicate ((l0.length : Int) : Int).toNat z75) 0) else (none)) else (none)
def laws_toFeature.f (k : Nat) (a0_0 : Int) (a0_1 : Int) (a0_2 : Int) (a0_3 : ByteArray) (l0_4 : List (S136)) : Option (Int × Int × Int × ByteArray × (List (S75))) := (laws_toPointS.f k l0_4).bind fun t496 => (some (a0_0, a0_1, a0_2, a0_3, t496))
def laws_toFeatureS.l0 : Nat → List (S52) → List (S59) → Int → Option ((List (S59)))
 | 0, _, _, _ => none
 | k + 1, x0, x3, x4 => if x4 < (x0.length : Int) then (if 0 ≤ x4 then ((laws_toFeature.f k ((rd_T52 x0 x4).f0) ((rd_T52 x0 x4).f1) ((rd_T52 x0 x4).f2) ((rd_T52 x0 x4).f3) ((rd_T52 x0 x4).f4)).bind fun bt503 => (if x4 < (x3.length : Int) then (laws_toFeatureS.l0 k x0 (x3.set (x4 : Int).toNat (⟨bt503.1, bt503.2.1, bt503.2.2.1, bt503.2.2.2.1, bt503.2.2.2.2⟩ : S59)) (wrap64 (x4 + 1))) else (none))) else (none)) else (some x3)
def laws_toFeatureS.f (k : Nat) (l0 : List (S52)) : Option ((List (S59))) := if 0 ≤ (l0.length : Int) then (if ((l0.length : Int) : Int).toNat ≤ 4398046511104 then (laws_toFeatureS.l0 k l0 (List.replicate ((l0.length : Int) : Int).toNat z59) 0) else (none)) else (none)
def laws_toIntS.l0 : Nat → List Int → List Int → Int → Option (List Int)
 | 0, _, _, _ => none
 | k + 1, x0, x3, x4 => if x4 < (x0.length : Int) then (if 0 ≤ x4 then (if x4 < (x3.length : Int) then (laws_toIntS.l0 k x0 (x3.set (x4 : Int).toNat (rd x0 x4)) (wrap64 (x4 + 1))) else (none)) else (none)) else (some x3)
def laws_toIntS.f (k : Nat) (l0 : List Int) : Option (List Int) := if 0 ≤ (l0.length : Int) then (if ((l0.length : Int) : Int).toNat ≤ 35184372088832 then (laws_toIntS.l0 k l0 (List.replicate ((l0.length : Int) : Int).toNat 0) 0) else (none)) else (none)
def laws_eqPiece.f (a0_0 : Int) (a0_1 : Int) (a1_0 : Int) (a1_1 : Int) : Option (Bool) := if a0_0 = a1_0 then (if a0_1 = a1_1 then (some true) else (some false)) else (some false)
def laws_eqPieceS.l0 : Nat → List (S56) → List (S56) → Int → Option (Bool)
 | 0, _, _, _ => none
 | k + 1, x0, x1, x5 => if x5 < (x0.length : Int) then (if 0 ≤ x5 then (if x5 < (x1.length : Int) then ((laws_eqPiece.f ((rd_T56 x0 x5).f0) ((rd_T56 x0 x5).f1) ((rd_T56 x1 x5).f0) ((rd_T56 x1 x5).f1)).bind fun t520 => (if t520 = true then (laws_eqPieceS.l0 k x0 x1 (wrap64 (x5 + 1))) else (some false))) else (none)) else (none)) else (some true)
def laws_eqPieceS.f (k : Nat) (l0 : List (S56)) (l1 : List (S56)) : Option (Bool) := if (l0.length : Int) = (l1.length : Int) then (laws_eqPieceS.l0 k l0 l1 0) else (some false)
def laws_eqPoint.f (a0_0 : Int) (a0_1 : Int) (a1_0 : Int) (a1_1 : Int) : Option (Bool) := if a0_0 = a1_0 then (if a0_1 = a1_1 then (some true) else (some false)) else (some false)
def laws_eqPointS.l0 : Nat → List (S75) → List (S75) → Int → Option (Bool)
 | 0, _, _, _ => none
 | k + 1, x0, x1, x5 => if x5 < (x0.length : Int) then (if 0 ≤ x5 then (if x5 < (x1.length : Int) then ((laws_eqPoint.f ((rd_T75 x0 x5).f0) ((rd_T75 x0 x5).f1) ((rd_T75 x1 x5).f0) ((rd_T75 x1 x5).f1)).bind fun t525 => (if t525 = true then (laws_eqPointS.l0 k x0 x1 (wrap64 (x5 + 1))) else (some false))) else (none)) else (none)) else (some true)
def laws_eqPointS.f (k : Nat) (l0 : List (S75)) (l1 : List (S75)) : Option (Bool) := if (l0.length : Int) = (l1.length : Int) then (laws_eqPointS.l0 k l0 l1 0) else (some false)
def laws_eqFeature.f (k : Nat) (a0_0 : Int) (a0_1 : Int) (a0_2 : Int) (a0_3 : ByteArray) (l0_4 : List (S75)) (a1_0 : Int) (a1_1 : Int) (a1_2 : Int) (a1_3 : ByteArray) (l1_4 : List (S75)) : Option (Bool) := if a0_0 = a1_0 then (if a0_1 = a1_1 then (if a0_2 = a1_2 then (if a0_3.toList = a1_3.toList then ((laws_eqPointS.f k l0_4 l1_4).bind fun t528 => (if t528 = true then (some true) else (some false))) else (some false)) else (some false)) else (some false)) else (some false)
def laws_eqFeatureS.l0 : Nat → List (S59) → List (S59) → Int → Option (Bool)
 | 0, _, _, _ => none
 | k + 1, x0, x1, x5 => if x5 < (x0.length : Int) then (if 0 ≤ x5 then (if x5 < (x1.length : Int) then ((laws_eqFeature.f k ((rd_T59 x0 x5).f0) ((rd_T59 x0 x5).f1) ((rd_T59 x0 x5).f2) ((rd_T59 x0 x5).f3) ((rd_T59 x0 x5).f4) ((rd_T59 x1 x5).f0) ((rd_T59 x1 x5).f1) ((rd_T59 x1 x5).f2) ((rd_T59 x1 x5).f3) ((rd_T59 x1 x5).f4)).bind fun t531 => (if t531 = true then (laws_eqFeatureS.l0 k x0 x1 (wrap64 (x5 + 1))) else (some false))) else (none)) else (none)) else (some true)
def laws_eqFeatureS.f (k : Nat) (l0 : List (S59)) (l1 : List (S59)) : Option (Bool) := if (l0.length : Int) = (l1.length : Int) then (laws_eqFeatureS.l0 k l0 l1 0) else (some false)
def laws_eqIntS.l0 : Nat → List Int → List Int → Int → Option (Bool)
 | 0, _, _, _ => none
 | k + 1, x0, x1, x5 => if x5 < (x0.length : Int) then (if 0 ≤ x5 then (if x5 < (x1.length : Int) then (if (rd x0 x5) = (rd x1 x5) then (laws_eqIntS.l0 k x0 x1 (wrap64 (x5 + 1))) else (some false)) else (none)) else (none)) else (some true)
def laws_eqIntS.f (k : Nat) (l0 : List Int) (l1 : List Int) : Option (Bool) := if (l0.length : Int) = (l1.length : Int) then (laws_eqIntS.l0 k l0 l1 0) else (some false)
def laws_markText.l0 : Nat → Int → ByteArray → Option (ByteArray)
 | 0, _, _ => none
 | k + 1, x0, x3 => if x0 > 0 then ((some (([(wrap64 (48 + (Int.tmod x0 10))) % 256] : List Int) : List Int)).bind fun y534 => (if (strOfNums y534).size + x3.size ≤ 9223372036854775807 then (laws_markText.l0 k (wrap64 (Int.tdiv x0 10)) ((strOfNums y534) ++ x3)) else (none))) else (if 1 + x3.size ≤ 9223372036854775807 then (some ((⟨#[109]⟩ : ByteArray) ++ x3)) else (none))
def laws_markText.f (k : Nat) (a0 : Int) : Option (ByteArray) := if a0 ≤ 0 then (some (⟨#[109, 48]⟩ : ByteArray)) else (laws_markText.l0 k a0 (⟨#[]⟩ : ByteArray))
/-- A block of so many cells. -/
def Blk (w : World) (g m t : Nat) : Prop := ∃ c : Array Value, w.heap[g]? = some (.cells c t (0, 0)) ∧ c.size = m
theorem Blk.cell {w : World} {g m t : Nat} (h : Blk w g m t) {j : Nat} (hj : j < m) : ∃ v, w.cell? ⟨g, j, none⟩ = some v := by
  obtain ⟨c, h, rfl⟩ := h
  exact ⟨c[j], (blk_cell h j).trans (Array.getElem?_eq_getElem hj)⟩
theorem Blk.frozen {w : World} {g m t : Nat} (h : Blk w g m t) (j : Nat) : w.frozen? ⟨g, j, none⟩ = false := by
  obtain ⟨c, h, rfl⟩ := h
  exact blk_frozen h j
theorem Blk.set {w : World} {g m t : Nat} (h : Blk w g m t) (j : Nat) (u : Value) : Blk (w.setCell ⟨g, j, none⟩ u) g m t := by
  obtain ⟨c, h, rfl⟩ := h
  exact ⟨_, blk_set h j u, by simp⟩
theorem Blk.far {w : World} {g g' m t : Nat} (h : Blk w g m t) (hn : g ≠ g') (j : Nat) (u : Value) : Blk (w.setCell ⟨g', j, none⟩ u) g m t := by
  obtain ⟨c, h, rfl⟩ := h
  exact ⟨c, blk_far h hn u, rfl⟩
theorem grown_set {w W : World} {g : Nat} (h : w.grownBy W (some g)) (j : Nat) (u : Value) : w.grownBy (W.setCell ⟨g, j, none⟩ u) (some g) := by
  refine ⟨h.os, h.tape, h.output, ?_, ?_⟩
  · have := h.size; rw [World.size_setCell]; exact this
  · intro i hi hne; rw [Below.heap_setCell W ⟨g, j, none⟩ u i (fun e => hne (by rw [e]))]
    exact h.block i hi hne
/-- A feature's row, as far as marking it asks: so many cells, and where each feature's points lie. -/
def OutC (w : World) (g m n : Nat) (vs : Nat → Value) : Prop := ∃ c : Array Value, w.heap[g]? = some (.cells c 59 (0, 0)) ∧ c.size = m ∧ ∀ j, j < n → c[j * 5 + 4]? = some (vs j)
theorem OutC.blk {w : World} {g m n : Nat} {vs : Nat → Value} (h : OutC w g m n vs) : Blk w g m 59 := by
  obtain ⟨c, h, h', _⟩ := h; exact ⟨c, h, h'⟩
theorem OutC.at_ {w : World} {g m n : Nat} {vs : Nat → Value} (h : OutC w g m n vs) {j : Nat} (hj : j < n) : w.cell? ⟨g, j * 5 + 4, none⟩ = some (vs j) := by
  obtain ⟨c, h, _, h'⟩ := h; exact (blk_cell h _).trans (h' j hj)
theorem OutC.set {w : World} {g m n : Nat} {vs : Nat → Value} (h : OutC w g m n vs) (i d : Nat) (hd : d < 4) (u : Value) : OutC (w.setCell ⟨g, i * 5 + d, none⟩ u) g m n vs := by
  obtain ⟨c, h, h1, h2⟩ := h
  exact ⟨_, blk_set h _ u, by simpa using h1, fun j hj => by rw [Array.getElem?_setIfInBounds_ne (by omega)]; exact h2 j hj⟩
theorem OutC.below {w W : World} {g m n : Nat} {vs : Nat → Value} (h : OutC w g m n vs) (hb : Below w.heap.size w W) : OutC W g m n vs := by
  obtain ⟨c, h, h1, h2⟩ := h; exact ⟨c, blk_below h hb, h1, h2⟩
theorem OutC.grown {w W : World} {g m n : Nat} {vs : Nat → Value} (h : OutC w g m n vs) {g' : Nat} (hg : w.grownBy W (some g')) (hn : g ≠ g') : OutC W g m n vs := by
  obtain ⟨c, h, h1, h2⟩ := h; exact ⟨c, blk_grown h hg (fun e => hn (by injection e)), h1, h2⟩
/-- A row of points that is the call's own: nothing, or a block with room. -/
def Nst (w : World) (P : Nat → Prop) (base : Nat) (v : Value) (n : Nat) : Prop := (v = .slice none 0 0 ∧ n = 0) ∨ ∃ g cap m, v = .slice (some ⟨g, 0, none⟩) n cap ∧ P g ∧ base ≤ g ∧ 2 * n ≤ m ∧ Blk w g m 75
theorem Nst.move {w W : World} {P : Nat → Prop} {base n : Nat} {v : Value} (h : Nst w P base v n) (hm : ∀ g m, P g → Blk w g m 75 → Blk W g m 75) : Nst W P base v n := by
  rcases h with h | ⟨g, cap, m, h1, h2, h3, h4, h5⟩
  · exact .inl h
  · exact .inr ⟨g, cap, m, h1, h2, h3, h4, hm g m h2 h5⟩
theorem Blk.below {w W : World} {g m t : Nat} (h : Blk w g m t) (hb : Below w.heap.size w W) : Blk W g m t := by
  obtain ⟨c, h, rfl⟩ := h; exact ⟨c, blk_below h hb, rfl⟩
theorem Blk.grown {w W : World} {g g' m m' t : Nat} (h : Blk w g m t) (hg : w.grownBy W (some g')) (h0 : Blk w g' m' t) (h1 : Blk W g' m' t) : Blk W g m t := by
  by_cases e : g = g'
  · subst e; obtain ⟨c, h, rfl⟩ := h; obtain ⟨c', h', rfl⟩ := h0; rw [h] at h'; injection h' with h'; injection h' with h'; subst h'; exact h1
  · obtain ⟨c, h, rfl⟩ := h
    exact ⟨c, blk_grown h hg (fun q => e (by injection q)), rfl⟩
def mfT : List S59 → Nat
  | [] => 0
  | x :: r => 4 + 2 * x.f4.length + mfT r
theorem mfT_app (a b : List S59) : mfT (a ++ b) = mfT a + mfT b := by
  induction a with
  | nil => simp [mfT]
  | cons x a ih => simp [mfT, ih]; omega
theorem mfT_take (l : List S59) (i : Nat) (h : i < l.length) : mfT (l.take (i + 1)) = mfT (l.take i) + (4 + 2 * (l.getD i z59).f4.length) := by
  rw [List.take_succ_eq_append_getElem h, mfT_app, List.getD_eq_getElem?_getD, List.getElem?_eq_getElem h]; simp [mfT]
theorem mfT_le (l : List S59) (i : Nat) : mfT (l.take i) ≤ mfT l := by
  have := mfT_app (l.take i) (l.drop i); rw [List.take_append_drop] at this; omega
theorem nst_of {w : World} {base : Nat} {P : Nat → Prop} {v : Value} {xs : List S75} (h : Kd.R k75 75 w base P v xs) : Nst w P base v xs.length := by
  obtain ⟨hok, inner, ho, _⟩ := h; obtain ⟨hl, ho⟩ := ho; have hs : k75.sz = 2 := rfl; rw [hs] at hl ho
  rcases ho with ⟨rfl, h0⟩ | ⟨g, cap, cur, rfl, h1, h2, h3, h4, h5, h6⟩
  · exact .inl ⟨rfl, h0⟩
  · refine .inr ⟨g, cap, cur.size, rfl, hok g rfl, h1, by omega, cur, h2, rfl⟩
/-- What is known of a row of features that is the call's own. -/
theorem out_of {w : World} {base : Nat} {P : Nat → Prop} {u : Value} {l : List S59} (h : Kd.R k59 59 w base P u l) (hl : 0 < l.length) :
    ∃ g cap m, ∃ vs : Nat → Value, u = .slice (some ⟨g, 0, none⟩) l.length cap ∧ P g ∧ base ≤ g ∧ l.length * 5 ≤ m ∧ OutC w g m l.length vs ∧ ∀ j, j < l.length → Nst w (fun k => P k ∧ k ≠ g) base (vs j) (l.getD j z59).f4.length := by
  obtain ⟨g, cap, rfl, h1, h2, cells, h3⟩ := Kd.R_form h hl; have hok := h.1 g rfl; have hc : ∀ j : Nat, j < l.length → ∃ v, cells[j * 5 + 4]? = some v ∧ Nst w (fun k => P k ∧ k ≠ g) base v (l.getD j z59).f4.length := by
    intro j hj; obtain ⟨c, hcl, hM, hcc, _⟩ := Kd.R_elem h z59 (j : Int) (by omega) (by omega); obtain ⟨v4, rfl, g4⟩ := k59_openM hM; have := hcc 4 v4 rfl; rw [blk_cell h3] at this; rw [Int.toNat_natCast] at this g4
    exact ⟨v4, this, nst_of g4⟩
  have hm : l.length * 5 ≤ cells.size := by
    obtain ⟨v, hv, _⟩ := hc (l.length - 1) (by omega); have := (Array.getElem?_eq_some_iff.1 hv).1
    omega
  refine ⟨g, cap, cells.size, fun j => (cells[j * 5 + 4]?).getD undef, rfl, hok, h1, hm, ⟨cells, h3, rfl, fun j hj => ?_⟩, fun j hj => ?_⟩
  · obtain ⟨v, hv, _⟩ := hc j hj; simp only [hv]; rfl
  · obtain ⟨v, hv, hn⟩ := hc j hj; simp only [hv]; exact hn
theorem markText_l (n : Nat) : ∀ (x : Int) (b : ByteArray), 0 ≤ x → x ≤ 9223372036854775807 → x < (10 : Int) ^ n → b.size + n ≤ 1000 → ∃ r, Ev (fun k => laws_markText.l0 k x b) r := by
  induction n with
  | zero =>
    intro x b h0 hm h1 h2; have hx : x = 0 := by simp at h1; omega
    subst hx; refine ⟨(⟨#[109]⟩ : ByteArray) ++ b, Ev.step (f := fun _ => some ((⟨#[109]⟩ : ByteArray) ++ b)) (fun k => ?_) (Ev.now _)⟩; simp only [laws_markText.l0]; rw [if_neg (by omega), if_pos (by omega)]
  | succ n ih =>
    intro x b h0 hm h1 h2
    by_cases hx : x > 0
    · have hd : Int.tdiv x 10 = x / 10 := Int.tdiv_eq_ediv_of_nonneg h0; have hlt : x / 10 < (10 : Int) ^ n := by
        rw [Int.pow_succ] at h1
        omega
      have hs : (strOfNums [(wrap64 (48 + (Int.tmod x 10))) % 256]).size = 1 := by rw [strOfNums_size]; rfl
      have hw : wrap64 (x / 10) = x / 10 := by unfold wrap64; omega
      obtain ⟨r, hr⟩ := ih (x / 10) (strOfNums [(wrap64 (48 + (Int.tmod x 10))) % 256] ++ b) (by omega) (by omega) hlt (by rw [ByteArray.size_append, hs]; omega); refine ⟨r, Ev.step (fun k => ?_) hr⟩; simp only [laws_markText.l0, Option.bind_some]; rw [if_pos hx, if_pos (by rw [hs]; omega), hd, hw]
    · have hx0 : x = 0 := by omega
      subst hx0; refine ⟨(⟨#[109]⟩ : ByteArray) ++ b, Ev.step (f := fun _ => some ((⟨#[109]⟩ : ByteArray) ++ b)) (fun k => ?_) (Ev.now _)⟩; simp only [laws_markText.l0]; rw [if_neg (by omega), if_pos (by omega)]
theorem mfT_ge (l : List S59) : l.length ≤ mfT l := by
  induction l with
  | nil => simp [mfT]
  | cons x l ih => simp [mfT]; omega
theorem mf_pred {n i k : Nat} (h : n - i ≤ k) (h' : i < n) : ∃ k1, k = k1 + 1 ∧ n - (i + 1) ≤ k1 := ⟨k - 1, by omega, by omega⟩
theorem mf_w {x : Int} (h0 : 0 ≤ x) (h1 : x ≤ 9223372036854775806) : wrap64 (x + 1) = x + 1 := by unfold wrap64; omega
theorem mf_ar {a1 : Int} {T M R len : Nat} (h0 : 0 ≤ a1) (hb : a1 + (M : Int) < 4611686018427387904) (ht : R = T + (4 + 2 * len)) (hle : R ≤ M) :
    0 ≤ a1 + (T : Int) ∧ a1 + (T : Int) + 4 ≤ 4611686018427387904 ∧ a1 + (T : Int) + 1 + 1 + 1 + 1 + 2 * (len : Int) = a1 + (R : Int) ∧ a1 + (T : Int) + 1 + 1 + 1 + 1 + 2 * (len : Int) < 4611686018427387904 := by omega
theorem mf_ar4 {x : Int} (h0 : 0 ≤ x) (h : x + 4 ≤ 4611686018427387904) : (0 ≤ x + 1 ∧ 0 ≤ x + 1 + 1 ∧ 0 ≤ x + 1 + 1 + 1 ∧ 0 ≤ x + 1 + 1 + 1 + 1) ∧ (x + 1 ≤ 4611686018427387904 ∧ x + 1 + 1 ≤ 4611686018427387904 ∧ x + 1 + 1 + 1 ≤ 4611686018427387904 ∧ x + 1 + 1 + 1 + 1 ≤ 4611686018427387904) ∧ wrap64 (x + 1) = x + 1 ∧ wrap64 (x + 1 + 1) = x + 1 + 1 ∧ wrap64 (x + 1 + 1 + 1) = x + 1 + 1 + 1 ∧ wrap64 (x + 1 + 1 + 1 + 1) = x + 1 + 1 + 1 + 1 := by
  refine ⟨by omega, by omega, mf_w (by omega) (by omega), mf_w (by omega) (by omega), mf_w (by omega) (by omega), mf_w (by omega) (by omega)⟩
theorem mf_ar5 {i n M : Nat} {a1 : Int} (h0 : 0 ≤ a1) (hb : a1 + (M : Int) < 4611686018427387904) (hge : n ≤ M) (h : i < n) : wrap64 ((i : Int) + 1) = ((i + 1 : Nat) : Int) := by unfold wrap64; omega
def laws_markFeatureS.f (l0 : List S59) (a1 : Int) : Option (Int) := if 0 ≤ a1 ∧ a1 + (mfT l0 : Int) < 4611686018427387904 then some (a1 + (mfT l0 : Int)) else none
def laws_markIntS.l0 : Nat → List Int → Int → Int → Option (Int × List Int)
 | 0, _, _, _ => none
 | k + 1, x0, x1, x5 => if x5 < (x0.length : Int) then (if 0 ≤ x5 then (laws_markIntS.l0 k (x0.set (x5 : Int).toNat x1) (wrap64 (x1 + 1)) (wrap64 (x5 + 1))) else (none)) else (some (x1, x0))
def laws_markIntS.f (k : Nat) (l0 : List Int) (a1 : Int) : Option (Int × List Int) := laws_markIntS.l0 k l0 a1 0
def laws_markPieceS.l0 : Nat → List (S56) → Int → Int → Option (Int × (List (S56)))
 | 0, _, _, _ => none
 | k + 1, x0, x1, x5 => if x5 < (x0.length : Int) then (if 0 ≤ x5 then ((some (x0.set (x5 : Int).toNat (⟨x1, (rd_T56 x0 x5).f1⟩ : S56) : List (S56))).bind fun y538 => (laws_markPieceS.l0 k (y538.set (x5 : Int).toNat (⟨(rd_T56 y538 x5).f0, wrap64 (x1 + 1)⟩ : S56)) (wrap64 ((wrap64 (x1 + 1)) + 1)) (wrap64 (x5 + 1)))) else (none)) else (some (x1, x0))
def laws_markPieceS.f (k : Nat) (l0 : List (S56)) (a1 : Int) : Option (Int × (List (S56))) := laws_markPieceS.l0 k l0 a1 0
def laws_heldPieceS.l0 : Nat → List (S56) → Int → Int → Option (Int)
 | 0, _, _, _ => none
 | k + 1, x0, x1, x5 => if x5 < (x0.length : Int) then (if 0 ≤ x5 then (if ((rd_T56 x0 x5).f0) = x1 then (if ((rd_T56 x0 x5).f1) = (wrap64 (x1 + 1)) then (laws_heldPieceS.l0 k x0 (wrap64 ((wrap64 (x1 + 1)) + 1)) (wrap64 (x5 + 1))) else (some (-1))) else (some (-1))) else (none)) else (some x1)
def laws_heldPieceS.f (k : Nat) (l0 : List (S56)) (a1 : Int) : Option (Int) := laws_heldPieceS.l0 k l0 a1 0
/-- A state of type 52 at block g of W; what its slices lead to came in by w0. -/
def IsS52 (w0 W : World) (g : Nat) (f0 : Int) (f1 : Int) (f2 : Int) (f3 : ByteArray) (f4 : List (S136)) : Prop := ∃ A4 c4, W.heap[g]? = some (.cells #[.int .i64 f0, .int .i64 f1, .int .i64 f2, .string f3, .slice A4 f4.length c4] 52 (0, 0)) ∧ w0.heap.size ≤ g ∧ Kd.C k136 w0 A4 f4.length f4
theorem cellS52_0 {W : World} {g : Nat} {A4 : Option Addr} {c4 : Nat} {f0 : Int} {f1 : Int} {f2 : Int} {f3 : ByteArray} {f4 : List (S136)} (h : W.heap[g]? = some (.cells #[.int .i64 f0, .int .i64 f1, .int .i64 f2, .string f3, .slice A4 f4.length c4] 52 (0, 0))) : W.cell? ⟨g, 0, none⟩ = some (.int .i64 f0) := (blk_cell h 0).trans rfl
theorem cellS52_1 {W : World} {g : Nat} {A4 : Option Addr} {c4 : Nat} {f0 : Int} {f1 : Int} {f2 : Int} {f3 : ByteArray} {f4 : List (S136)} (h : W.heap[g]? = some (.cells #[.int .i64 f0, .int .i64 f1, .int .i64 f2, .string f3, .slice A4 f4.length c4] 52 (0, 0))) : W.cell? ⟨g, 1, none⟩ = some (.int .i64 f1) := (blk_cell h 1).trans rfl
theorem cellS52_2 {W : World} {g : Nat} {A4 : Option Addr} {c4 : Nat} {f0 : Int} {f1 : Int} {f2 : Int} {f3 : ByteArray} {f4 : List (S136)} (h : W.heap[g]? = some (.cells #[.int .i64 f0, .int .i64 f1, .int .i64 f2, .string f3, .slice A4 f4.length c4] 52 (0, 0))) : W.cell? ⟨g, 2, none⟩ = some (.int .i64 f2) := (blk_cell h 2).trans rfl
theorem cellS52_3 {W : World} {g : Nat} {A4 : Option Addr} {c4 : Nat} {f0 : Int} {f1 : Int} {f2 : Int} {f3 : ByteArray} {f4 : List (S136)} (h : W.heap[g]? = some (.cells #[.int .i64 f0, .int .i64 f1, .int .i64 f2, .string f3, .slice A4 f4.length c4] 52 (0, 0))) : W.cell? ⟨g, 3, none⟩ = some (.string f3) := (blk_cell h 3).trans rfl
theorem cellS52_4 {W : World} {g : Nat} {A4 : Option Addr} {c4 : Nat} {f0 : Int} {f1 : Int} {f2 : Int} {f3 : ByteArray} {f4 : List (S136)} (h : W.heap[g]? = some (.cells #[.int .i64 f0, .int .i64 f1, .int .i64 f2, .string f3, .slice A4 f4.length c4] 52 (0, 0))) : W.cell? ⟨g, 4, none⟩ = some (.slice A4 f4.length c4) := (blk_cell h 4).trans rfl
def laws_FnExactJoinTiles.f (k : Nat) (l0 : List S52) (l1 : List Int) : Option Bool :=
  if 1048576 < l1.length then some true else (laws_szFeatureS.f k l0 1048576).bind fun left => if left < 0 then some true else
  (laws_toFeatureS.f k l0).bind fun x => (laws_toIntS.f k l1).bind fun t => (spec_JoinTiles.f k x t).bind fun s => (impl_JoinTiles.f k x t).bind fun g =>
  (laws_eqPieceS.f k g s).bind fun e1 => (laws_eqFeatureS.f k x x).bind fun e2 => (laws_eqIntS.f k t t).bind fun e3 => (laws_markFeatureS.f x 1).bind fun m1 => (laws_markIntS.f k t m1).bind fun m2 => (laws_markPieceS.f k g 1).bind fun m3 => (laws_heldPieceS.f k m3.2 1).bind fun q =>
  if e1 = true ∧ e2 = true ∧ e3 = true ∧ 0 ≤ m2.1 ∧ 0 ≤ q ∧ q = m3.1 then some true else none
end Go.Proofs.YtkomgmgpgnjooaaGreat.PFnExactJoinTiles
