
-- Written by a program of this session's (evlaw.py).
import Derived.ArgAppend
import Derived.Below
import Derived.BigQuiet
import Derived.Deep.AppendLies
import Derived.Deep.CutBlock
import Derived.Deep.DeepCutAuto
import Derived.Deep.Draws
import Derived.Deep.LoopGhost
import Derived.Deep.OwnRows
import Derived.Deep.QuietTactic
import Derived.Deep.RegionHeld3
import Derived.KernelRfl
import Derived.Laws.BitsLemmas
import Derived.Laws.BytesArg
import Derived.Laws.IdiomCopy
import Derived.Laws.MakeOwn
import Derived.Laws.OwnMore
import Derived.Laws.Rows
import Derived.Laws.Slices
import Derived.Lib.AppendStr
import Derived.Lib.ConvBytes
import Derived.Maps.AppendAt
import Derived.OrdersHeld
import Derived.OwnWalk
import Derived.RowKit
import Derived.RowKit3
import Derived.Tactics
import Derived.Test.YtkebhlkbnnlegaaGeo
import Derived.Test.YtkebhlkbnnlegaaHand
import Derived.Test.YtkebhlkbnnlegaaMeet
import Derived.Test.YtkebhlkbnnlegaaProg
import Derived.Test.YtkebhlkbnnlegaaQuiet
import Derived.Test.YtkebhlkbnnlegaaWApart
import Derived.Test.YtkebhlkbnnlegaaWArr
import Derived.Test.YtkebhlkbnnlegaaWAt
import Derived.Test.YtkebhlkbnnlegaaWEqStruct
import Derived.Test.YtkebhlkbnnlegaaWFoot
import Derived.Test.YtkebhlkbnnlegaaWFootNe
import Derived.Test.YtkebhlkbnnlegaaWFour
import Derived.Test.YtkebhlkbnnlegaaWGuard
import Derived.Test.YtkebhlkbnnlegaaWInv
import Derived.Test.YtkebhlkbnnlegaaWInvWords
import Derived.Test.YtkebhlkbnnlegaaWKept
import Derived.Test.YtkebhlkbnnlegaaWLast
import Derived.Test.YtkebhlkbnnlegaaWMore
import Derived.Test.YtkebhlkbnnlegaaWN
import Derived.Test.YtkebhlkbnnlegaaWNEv
import Derived.Test.YtkebhlkbnnlegaaWQPut
import Derived.Test.YtkebhlkbnnlegaaWRepsOne
import Derived.Test.YtkebhlkbnnlegaaWShare
import Derived.Test.YtkebhlkbnnlegaaWTab
import Derived.Test.YtkebhlkbnnlegaaWWords
import Derived.Test.YtkebhlkbnnlegaaWZeros
import Derived.Test.YtkebhlkbnnlegaaZ
import Derived.WalkKit
import Derived.WideLaws
namespace Go.Proofs.Ytkebhlkbnnlegaa.PFnExactShrinkAll
open Go.RowKit Go.Proofs.YtkebhlkbnnlegaaW.PrintWords Go.Proofs.YtkebhlkbnnlegaaW.PrintLast Go.Proofs.YtkebhlkbnnlegaaW.PrintMore Go.Proofs.YtkebhlkbnnlegaaGeo Go.Proofs.YtkebhlkbnnlegaaHand Go.Proofs.YtkebhlkbnnlegaaMeet Go.Proofs.YtkebhlkbnnlegaaQuiet Go.Proofs.YtkebhlkbnnlegaaZ
attribute [local go_sem] max2_int min2_int max_two min_two max_three min_three max_four min_four   -- for this text's walks alone
set_option linter.unusedVariables false
set_option linter.unusedSimpArgs false
def errW : Option Int → Value
  | none => .nilIface
  | some c => .iface 0 (.int .i64 c)
theorem errW_none : errW none = .nilIface := rfl
theorem errW_some (c : Int) : errW (some c) = .iface 0 (.int .i64 c) := rfl
theorem info28 : (Try.prog.info? 28).map (fun i => (i.zero, i.size, i.bytes)) = some (some (.agg #[(.int .i64 0), (.int .i64 0), (.int .i64 0), (.string ⟨#[]⟩), (.slice none 0 0)]), 5, 64) := by kernel_rfl
theorem info77 : (Try.prog.info? 77).map (fun i => (i.zero, i.size, i.bytes)) = some (some (.agg #[(.int .i64 0), (.int .i64 0)]), 2, 16) := by kernel_rfl
-- the values' own types
structure S85 where
  f0 : Int
  f1 : Int
def z85 : S85 := ⟨(0 : Int), (0 : Int)⟩
def k85 : Kd S85 := Kd.iso (Kd.pair (Kd.int .i64) (Kd.int .i64)) (fun x : S85 => (x.f0, x.f1))
def rd_T85 (xs : List S85) (i : Int) : S85 := xs.getD i.toNat z85
structure S24 where
  f0 : Int
  f1 : Int
  f2 : Int
  f3 : ByteArray
  f4 : (List S85)
def z24 : S24 := ⟨(0 : Int), (0 : Int), (0 : Int), (⟨#[]⟩ : ByteArray), ([] : List S85)⟩
def k24 : Kd S24 := Kd.iso (Kd.pair (Kd.int .i64) (Kd.pair (Kd.int .i64) (Kd.pair (Kd.int .i64) (Kd.pair Kd.string (Kd.slice 85 k85))))) (fun x : S24 => (x.f0, x.f1, x.f2, x.f3, x.f4))
theorem k24_open {w : World} {x : S24} {cs : List Value} (h : k24.K w x cs) : ∃ A4 c4, cs = [.int .i64 x.f0, .int .i64 x.f1, .int .i64 x.f2, .string x.f3, .slice A4 x.f4.length c4] ∧ x.f4.length ≤ c4 ∧ k85.C w A4 x.f4.length x.f4 := by
  obtain ⟨_, _, rfl, rfl, ⟨_, _, rfl, rfl, ⟨_, _, rfl, rfl, ⟨_, _, rfl, rfl, ⟨A4, c4, rfl, l4, g4⟩⟩⟩⟩⟩ := h
  exact ⟨A4, c4, rfl, l4, g4⟩
def rd_T24 (xs : List S24) (i : Int) : S24 := xs.getD i.toNat z24
theorem at_T24 {w : World} {A : Option Addr} {n : Nat} {xs : List S24} (h : Kd.C k24 w A n xs) (i : Int) (h0 : 0 ≤ i) (h1 : i < n) : ∃ ad A4 c4, A = some ad ∧ w.cell? (ad.add (i.toNat * 5)) = some (.int .i64 (rd_T24 xs i).f0) ∧ w.cell? ⟨(ad.add (i.toNat * 5)).block, (ad.add (i.toNat * 5)).off + 1, none⟩ = some (.int .i64 (rd_T24 xs i).f1) ∧ w.cell? ⟨(ad.add (i.toNat * 5)).block, (ad.add (i.toNat * 5)).off + 2, none⟩ = some (.int .i64 (rd_T24 xs i).f2) ∧ w.cell? ⟨(ad.add (i.toNat * 5)).block, (ad.add (i.toNat * 5)).off + 3, none⟩ = some (.string (rd_T24 xs i).f3) ∧ w.cell? ⟨(ad.add (i.toNat * 5)).block, (ad.add (i.toNat * 5)).off + 4, none⟩ = some (.slice A4 (rd_T24 xs i).f4.length c4) ∧ (rd_T24 xs i).f4.length ≤ c4 ∧ k85.C w A4 (rd_T24 xs i).f4.length (rd_T24 xs i).f4 := by
  obtain ⟨ad, c, e, _, hK, hc0⟩ := Kd.C_get h z24 i h0 h1; have hc : ∀ j u, c[j]? = some u → w.cell? (ad.add (i.toNat * 5 + j)) = some u := hc0; obtain ⟨A4, c4, rfl, l4, g4⟩ := k24_open hK
  exact ⟨ad, A4, c4, e, hc 0 _ rfl, by rw [← add_field _ _ 1 (by omega)]; exact hc 1 _ rfl, by rw [← add_field _ _ 2 (by omega)]; exact hc 2 _ rfl, by rw [← add_field _ _ 3 (by omega)]; exact hc 3 _ rfl, by rw [← add_field _ _ 4 (by omega)]; exact hc 4 _ rfl, l4, g4⟩
structure S77 where
  f0 : Int
  f1 : Int
def z77 : S77 := ⟨(0 : Int), (0 : Int)⟩
def k77 : Kd S77 := Kd.iso (Kd.pair (Kd.int .i64) (Kd.int .i64)) (fun x : S77 => (x.f0, x.f1))
theorem k77_open {w : World} {x : S77} {cs : List Value} (h : k77.K w x cs) : cs = [.int .i64 x.f0, .int .i64 x.f1] := by
  obtain ⟨_, _, rfl, rfl, rfl⟩ := h
  exact rfl
theorem k77_openM {w : World} {base : Nat} {ok : Nat → Prop} {x : S77} {cs : List Value} (h : k77.M w base ok x cs) : cs = [.int .i64 x.f0, .int .i64 x.f1] := by
  obtain ⟨_, _, rfl, rfl, rfl⟩ := h
  exact rfl
theorem k77_mkM (w : World) (base : Nat) (ok : Nat → Prop) (x : S77)  : k77.M w base ok x [.int .i64 x.f0, .int .i64 x.f1] := ⟨[.int .i64 x.f0], [.int .i64 x.f1], rfl, rfl, rfl⟩
def rd_T77 (xs : List S77) (i : Int) : S77 := xs.getD i.toNat z77
theorem at_T77 {w : World} {A : Option Addr} {n : Nat} {xs : List S77} (h : Kd.C k77 w A n xs) (i : Int) (h0 : 0 ≤ i) (h1 : i < n) : ∃ ad , A = some ad ∧ w.cell? (ad.add (i.toNat * 2)) = some (.int .i64 (rd_T77 xs i).f0) ∧ w.cell? ⟨(ad.add (i.toNat * 2)).block, (ad.add (i.toNat * 2)).off + 1, none⟩ = some (.int .i64 (rd_T77 xs i).f1) := by
  obtain ⟨ad, c, e, _, hK, hc0⟩ := Kd.C_get h z77 i h0 h1; have hc : ∀ j u, c[j]? = some u → w.cell? (ad.add (i.toNat * 2 + j)) = some u := hc0; obtain rfl := k77_open hK
  exact ⟨ad, e, hc 0 _ rfl, by rw [← add_field _ _ 1 (by omega)]; exact hc 1 _ rfl⟩
structure S28 where
  f0 : Int
  f1 : Int
  f2 : Int
  f3 : ByteArray
  f4 : (List S77)
def z28 : S28 := ⟨(0 : Int), (0 : Int), (0 : Int), (⟨#[]⟩ : ByteArray), ([] : List S77)⟩
def k28 : Kd S28 := Kd.iso (Kd.pair (Kd.int .i64) (Kd.pair (Kd.int .i64) (Kd.pair (Kd.int .i64) (Kd.pair Kd.string (Kd.slice 77 k77))))) (fun x : S28 => (x.f0, x.f1, x.f2, x.f3, x.f4))
theorem k28_open {w : World} {x : S28} {cs : List Value} (h : k28.K w x cs) : ∃ A4 c4, cs = [.int .i64 x.f0, .int .i64 x.f1, .int .i64 x.f2, .string x.f3, .slice A4 x.f4.length c4] ∧ x.f4.length ≤ c4 ∧ k77.C w A4 x.f4.length x.f4 := by
  obtain ⟨_, _, rfl, rfl, ⟨_, _, rfl, rfl, ⟨_, _, rfl, rfl, ⟨_, _, rfl, rfl, ⟨A4, c4, rfl, l4, g4⟩⟩⟩⟩⟩ := h
  exact ⟨A4, c4, rfl, l4, g4⟩
theorem k28_openM {w : World} {base : Nat} {ok : Nat → Prop} {x : S28} {cs : List Value} (h : k28.M w base ok x cs) : ∃ v4, cs = [.int .i64 x.f0, .int .i64 x.f1, .int .i64 x.f2, .string x.f3, v4] ∧ k77.R 77 w base ok v4 x.f4 := by
  obtain ⟨_, _, rfl, rfl, ⟨_, _, rfl, rfl, ⟨_, _, rfl, rfl, ⟨_, _, rfl, rfl, ⟨v4, rfl, g4⟩⟩⟩⟩⟩ := h
  exact ⟨v4, rfl, g4⟩
theorem k28_mk (w : World) (x : S28) {A4 : Option Addr} {c4 : Nat} (l4 : x.f4.length ≤ c4) (g4 : k77.C w A4 x.f4.length x.f4) : k28.K w x [.int .i64 x.f0, .int .i64 x.f1, .int .i64 x.f2, .string x.f3, .slice A4 x.f4.length c4] := ⟨[.int .i64 x.f0], [.int .i64 x.f1, .int .i64 x.f2, .string x.f3, .slice A4 x.f4.length c4], rfl, rfl, ⟨[.int .i64 x.f1], [.int .i64 x.f2, .string x.f3, .slice A4 x.f4.length c4], rfl, rfl, ⟨[.int .i64 x.f2], [.string x.f3, .slice A4 x.f4.length c4], rfl, rfl, ⟨[.string x.f3], [.slice A4 x.f4.length c4], rfl, rfl, ⟨A4, c4, rfl, l4, g4⟩⟩⟩⟩⟩
theorem k28_mkM (w : World) (base : Nat) (ok : Nat → Prop) (x : S28) {v4 : Value} (g4 : k77.R 77 w base ok v4 x.f4) : k28.M w base ok x [.int .i64 x.f0, .int .i64 x.f1, .int .i64 x.f2, .string x.f3, v4] := ⟨[.int .i64 x.f0], [.int .i64 x.f1, .int .i64 x.f2, .string x.f3, v4], rfl, rfl, ⟨[.int .i64 x.f1], [.int .i64 x.f2, .string x.f3, v4], rfl, rfl, ⟨[.int .i64 x.f2], [.string x.f3, v4], rfl, rfl, ⟨[.string x.f3], [v4], rfl, rfl, ⟨v4, rfl, g4⟩⟩⟩⟩⟩
def rd_T28 (xs : List S28) (i : Int) : S28 := xs.getD i.toNat z28
theorem at_T28 {w : World} {A : Option Addr} {n : Nat} {xs : List S28} (h : Kd.C k28 w A n xs) (i : Int) (h0 : 0 ≤ i) (h1 : i < n) : ∃ ad A4 c4, A = some ad ∧ w.cell? (ad.add (i.toNat * 5)) = some (.int .i64 (rd_T28 xs i).f0) ∧ w.cell? ⟨(ad.add (i.toNat * 5)).block, (ad.add (i.toNat * 5)).off + 1, none⟩ = some (.int .i64 (rd_T28 xs i).f1) ∧ w.cell? ⟨(ad.add (i.toNat * 5)).block, (ad.add (i.toNat * 5)).off + 2, none⟩ = some (.int .i64 (rd_T28 xs i).f2) ∧ w.cell? ⟨(ad.add (i.toNat * 5)).block, (ad.add (i.toNat * 5)).off + 3, none⟩ = some (.string (rd_T28 xs i).f3) ∧ w.cell? ⟨(ad.add (i.toNat * 5)).block, (ad.add (i.toNat * 5)).off + 4, none⟩ = some (.slice A4 (rd_T28 xs i).f4.length c4) ∧ (rd_T28 xs i).f4.length ≤ c4 ∧ k77.C w A4 (rd_T28 xs i).f4.length (rd_T28 xs i).f4 := by
  obtain ⟨ad, c, e, _, hK, hc0⟩ := Kd.C_get h z28 i h0 h1; have hc : ∀ j u, c[j]? = some u → w.cell? (ad.add (i.toNat * 5 + j)) = some u := hc0; obtain ⟨A4, c4, rfl, l4, g4⟩ := k28_open hK
  exact ⟨ad, A4, c4, e, hc 0 _ rfl, by rw [← add_field _ _ 1 (by omega)]; exact hc 1 _ rfl, by rw [← add_field _ _ 2 (by omega)]; exact hc 2 _ rfl, by rw [← add_field _ _ 3 (by omega)]; exact hc 3 _ rfl, by rw [← add_field _ _ 4 (by omega)]; exact hc 4 _ rfl, l4, g4⟩
structure S95 where
  f0 : S77
  f1 : S77
def z95 : S95 := ⟨z77, z77⟩
def k95 : Kd S95 := Kd.iso (Kd.pair k77 k77) (fun x : S95 => (x.f0, x.f1))
def rd_T95 (xs : List S95) (i : Int) : S95 := xs.getD i.toNat z95
theorem eqA77 (d : Nat) (w : World) (x0 y0 : Int) (x1 y1 : Int) :
    (Op.equalIn (d + 2) 77 (.agg #[.int .i64 x0, .int .i64 x1]) (.agg #[.int .i64 y0, .int .i64 y1])).run Try.prog w = .ok (x0 == y0 && (x1 == y1)) w := by
  refine eqA_of Try.underlying77 (by kernel_rfl) ?_; refine eqf_cons (by rfl) (by go_simp; rfl) (by go_simp; rfl) (by go_simp) ?_
  exact eqf_last (by rfl) (by go_simp; rfl) (by go_simp; rfl) (by go_simp)
def laws_szPointS.f (l0 : List (S85)) (a1 : Int) : Option (Int) := if (wrap64 (a1 - (l0.length : Int))) < 0 then (some (-1)) else (some (wrap64 (a1 - (l0.length : Int))))
def laws_szFeature.f (a0_0 : Int) (a0_1 : Int) (a0_2 : Int) (a0_3 : ByteArray) (l0_4 : List (S85)) (a1 : Int) : Option (Int) := if (wrap64 (a1 - (a0_3.size : Int))) < 0 then (some (-1)) else ((laws_szPointS.f l0_4 (wrap64 (a1 - (a0_3.size : Int)))).bind fun t102 => (if t102 < 0 then (some (-1)) else (some t102)))
def laws_szFeatureS.l0 : Nat → List (S24) → Int → Int → Option (Int)
 | 0, _, _, _ => none
 | k + 1, x0, x1, x5 => if x5 < (x0.length : Int) then (if 0 ≤ x5 then ((laws_szFeature.f ((rd_T24 x0 x5).f0) ((rd_T24 x0 x5).f1) ((rd_T24 x0 x5).f2) ((rd_T24 x0 x5).f3) ((rd_T24 x0 x5).f4) x1).bind fun t104 => (if t104 < 0 then (some (-1)) else (laws_szFeatureS.l0 k x0 t104 (wrap64 (x5 + 1))))) else (none)) else (some x1)
def laws_szFeatureS.f (k : Nat) (l0 : List (S24)) (a1 : Int) : Option (Int) := if (wrap64 (a1 - (l0.length : Int))) < 0 then (some (-1)) else (laws_szFeatureS.l0 k l0 (wrap64 (a1 - (l0.length : Int))) 0)
def laws_toPoint.f (a0_0 : Int) (a0_1 : Int) : Option (Int × Int) := some (a0_0, a0_1)
def laws_toPointS.l0 : Nat → List (S85) → List (S77) → Int → Option ((List (S77)))
 | 0, _, _, _ => none
 | k + 1, x0, x3, x4 => if x4 < (x0.length : Int) then (if 0 ≤ x4 then ((laws_toPoint.f ((rd_T85 x0 x4).f0) ((rd_T85 x0 x4).f1)).bind fun bt112 => (if x4 < (x3.length : Int) then (laws_toPointS.l0 k x0 (x3.set (x4 : Int).toNat (⟨bt112.1, bt112.2⟩ : S77)) (wrap64 (x4 + 1))) else (none))) else (none)) else (some x3)
def laws_toPointS.f (k : Nat) (l0 : List (S85)) : Option ((List (S77))) := if 0 ≤ (l0.length : Int) then (if ((l0.length : Int) : Int).toNat ≤ 17592186044416 then (laws_toPointS.l0 k l0 (List.replicate ((l0.length : Int) : Int).toNat z77) 0) else (none)) else (none)
def laws_toFeature.f (k : Nat) (a0_0 : Int) (a0_1 : Int) (a0_2 : Int) (a0_3 : ByteArray) (l0_4 : List (S85)) : Option (Int × Int × Int × ByteArray × (List (S77))) := (laws_toPointS.f k l0_4).bind fun t118 => (some (a0_0, a0_1, a0_2, a0_3, t118))
def laws_toFeatureS.l0 : Nat → List (S24) → List (S28) → Int → Option ((List (S28)))
 | 0, _, _, _ => none
 | k + 1, x0, x3, x4 => if x4 < (x0.length : Int) then (if 0 ≤ x4 then ((laws_toFeature.f k ((rd_T24 x0 x4).f0) ((rd_T24 x0 x4).f1) ((rd_T24 x0 x4).f2) ((rd_T24 x0 x4).f3) ((rd_T24 x0 x4).f4)).bind fun bt125 => (if x4 < (x3.length : Int) then (laws_toFeatureS.l0 k x0 (x3.set (x4 : Int).toNat (⟨bt125.1, bt125.2.1, bt125.2.2.1, bt125.2.2.2.1, bt125.2.2.2.2⟩ : S28)) (wrap64 (x4 + 1))) else (none))) else (none)) else (some x3)
def laws_toFeatureS.f (k : Nat) (l0 : List (S24)) : Option ((List (S28))) := if 0 ≤ (l0.length : Int) then (if ((l0.length : Int) : Int).toNat ≤ 4398046511104 then (laws_toFeatureS.l0 k l0 (List.replicate ((l0.length : Int) : Int).toNat z28) 0) else (none)) else (none)
def laws_eqPoint.f (a0_0 : Int) (a0_1 : Int) (a1_0 : Int) (a1_1 : Int) : Option (Bool) := if a0_0 = a1_0 then (if a0_1 = a1_1 then (some true) else (some false)) else (some false)
def laws_eqPointS.l0 : Nat → List (S77) → List (S77) → Int → Option (Bool)
 | 0, _, _, _ => none
 | k + 1, x0, x1, x5 => if x5 < (x0.length : Int) then (if 0 ≤ x5 then (if x5 < (x1.length : Int) then ((laws_eqPoint.f ((rd_T77 x0 x5).f0) ((rd_T77 x0 x5).f1) ((rd_T77 x1 x5).f0) ((rd_T77 x1 x5).f1)).bind fun t137 => (if t137 = true then (laws_eqPointS.l0 k x0 x1 (wrap64 (x5 + 1))) else (some false))) else (none)) else (none)) else (some true)
def laws_eqPointS.f (k : Nat) (l0 : List (S77)) (l1 : List (S77)) : Option (Bool) := if (l0.length : Int) = (l1.length : Int) then (laws_eqPointS.l0 k l0 l1 0) else (some false)
def laws_eqFeature.f (k : Nat) (a0_0 : Int) (a0_1 : Int) (a0_2 : Int) (a0_3 : ByteArray) (l0_4 : List (S77)) (a1_0 : Int) (a1_1 : Int) (a1_2 : Int) (a1_3 : ByteArray) (l1_4 : List (S77)) : Option (Bool) := if a0_0 = a1_0 then (if a0_1 = a1_1 then (if a0_2 = a1_2 then (if a0_3.toList = a1_3.toList then ((laws_eqPointS.f k l0_4 l1_4).bind fun t140 => (if t140 = true then (some true) else (some false))) else (some false)) else (some false)) else (some false)) else (some false)
def laws_eqFeatureS.l0 : Nat → List (S28) → List (S28) → Int → Option (Bool)
 | 0, _, _, _ => none
 | k + 1, x0, x1, x5 => if x5 < (x0.length : Int) then (if 0 ≤ x5 then (if x5 < (x1.length : Int) then ((laws_eqFeature.f k ((rd_T28 x0 x5).f0) ((rd_T28 x0 x5).f1) ((rd_T28 x0 x5).f2) ((rd_T28 x0 x5).f3) ((rd_T28 x0 x5).f4) ((rd_T28 x1 x5).f0) ((rd_T28 x1 x5).f1) ((rd_T28 x1 x5).f2) ((rd_T28 x1 x5).f3) ((rd_T28 x1 x5).f4)).bind fun t143 => (if t143 = true then (laws_eqFeatureS.l0 k x0 x1 (wrap64 (x5 + 1))) else (some false))) else (none)) else (none)) else (some true)
def laws_eqFeatureS.f (k : Nat) (l0 : List (S28)) (l1 : List (S28)) : Option (Bool) := if (l0.length : Int) = (l1.length : Int) then (laws_eqFeatureS.l0 k l0 l1 0) else (some false)
def laws_markPointS.l0 : Nat → List (S77) → Int → Int → Option (Int × (List (S77)))
 | 0, _, _, _ => none
 | k + 1, x0, x1, x5 => if x5 < (x0.length : Int) then (if 0 ≤ x5 then ((some (x0.set (x5 : Int).toNat (⟨x1, (rd_T77 x0 x5).f1⟩ : S77) : List (S77))).bind fun y144 => (laws_markPointS.l0 k (y144.set (x5 : Int).toNat (⟨(rd_T77 y144 x5).f0, wrap64 (x1 + 1)⟩ : S77)) (wrap64 ((wrap64 (x1 + 1)) + 1)) (wrap64 (x5 + 1)))) else (none)) else (some (x1, x0))
def laws_markPointS.f (k : Nat) (l0 : List (S77)) (a1 : Int) : Option (Int × (List (S77))) := laws_markPointS.l0 k l0 a1 0
def laws_markText.l0 : Nat → Int → ByteArray → Option (ByteArray)
 | 0, _, _ => none
 | k + 1, x0, x3 => if x0 > 0 then ((some (([(wrap64 (48 + (Int.tmod x0 10))) % 256] : List Int) : List Int)).bind fun y146 => (if (strOfNums y146).size + x3.size ≤ 9223372036854775807 then (laws_markText.l0 k (wrap64 (Int.tdiv x0 10)) ((strOfNums y146) ++ x3)) else (none))) else (if 1 + x3.size ≤ 9223372036854775807 then (some ((⟨#[109]⟩ : ByteArray) ++ x3)) else (none))
def laws_markText.f (k : Nat) (a0 : Int) : Option (ByteArray) := if a0 ≤ 0 then (some (⟨#[109, 48]⟩ : ByteArray)) else (laws_markText.l0 k a0 (⟨#[]⟩ : ByteArray))
/-- What a mark's text is. -/
def mtF (x : Int) : ByteArray := (laws_markText.f 20 x).getD ⟨#[]⟩
theorem markText_n (n : Nat) : ∀ (x : Int) (b : ByteArray), 0 ≤ x → x ≤ 9223372036854775807 → x < (10 : Int) ^ n → b.size + n ≤ 1000 → ∃ r, laws_markText.l0 (n + 1) x b = some r := by
  induction n with
  | zero =>
    intro x b h0 hm h1 h2; have hx : x = 0 := by simp at h1; omega
    subst hx; refine ⟨(⟨#[109]⟩ : ByteArray) ++ b, ?_⟩; simp only [laws_markText.l0]; rw [if_neg (by omega), if_pos (by omega)]
  | succ n ih =>
    intro x b h0 hm h1 h2
    by_cases hx : x > 0
    · have hd : Int.tdiv x 10 = x / 10 := Int.tdiv_eq_ediv_of_nonneg h0; have hlt : x / 10 < (10 : Int) ^ n := by
        rw [Int.pow_succ] at h1
        omega
      have hs : (strOfNums [(wrap64 (48 + (Int.tmod x 10))) % 256]).size = 1 := by rw [strOfNums_size]; rfl
      have hw : wrap64 (x / 10) = x / 10 := by unfold wrap64; omega
      obtain ⟨r, hr⟩ := ih (x / 10) (strOfNums [(wrap64 (48 + (Int.tmod x 10))) % 256] ++ b) (by omega) (by omega) hlt (by rw [ByteArray.size_append, hs]; omega); refine ⟨r, ?_⟩; rw [laws_markText.l0]; simp only [Option.bind_some]; rw [if_pos hx, if_pos (by rw [hs]; omega), hd, hw]
      exact hr
    · have hx0 : x = 0 := by omega
      subst hx0; refine ⟨(⟨#[109]⟩ : ByteArray) ++ b, ?_⟩; rw [laws_markText.l0]; rw [if_neg (by omega), if_pos (by omega)]
theorem mtF_eq (x : Int) (h0 : 0 ≤ x) (h1 : x ≤ 4611686018427387904) : laws_markText.f 20 x = some (mtF x) := by
  have hx : ∃ r, laws_markText.f 20 x = some r := by
    unfold laws_markText.f
    by_cases h : x ≤ 0
    · exact ⟨_, by rw [if_pos h]⟩
    · simp only [if_neg h]
      exact markText_n 19 x (⟨#[]⟩ : ByteArray) h0 (by omega) (by have : (10 : Int) ^ 19 = 10000000000000000000 := by decide
                                                                  omega) (by decide)
  obtain ⟨r, hr⟩ := hx
  unfold mtF
  rw [hr]
  rfl
def mkP (n : Nat) (x : Int) : List S77 := (List.range n).map fun (i : Nat) => (⟨x + 2 * (i : Int), x + 2 * (i : Int) + 1⟩ : S77)
theorem mkP_len (n : Nat) (x : Int) : (mkP n x).length = n := by simp [mkP]
theorem mkP_l (n : Nat) (x : Int) (h0 : 0 ≤ x) (hb : x + 2 * (n : Int) < 4611686018427387904) (d : Nat) : ∀ (i : Nat) (M : List S77), i + d = n → M.length = n → (∀ j, j < i → M[j]? = (mkP n x)[j]?) → laws_markPointS.l0 (d + 1) M (x + 2 * (i : Int)) (i : Int) = some (x + 2 * (n : Int), mkP n x) := by
  induction d with
  | zero =>
    intro i M hi hl hM; have hin : i = n := by omega
    subst hin; have e : M = mkP i x := by
      apply List.ext_getElem?
      intro j
      by_cases hj : j < i
      · exact hM j hj
      · rw [List.getElem?_eq_none (by omega), List.getElem?_eq_none (by rw [mkP_len]; omega)]
    simp only [laws_markPointS.l0]; rw [if_neg (by omega), e]
  | succ d ih =>
    intro i M hi hl hM; have w0 : wrap64 (x + 2 * (i : Int) + 1) = x + 2 * (i : Int) + 1 := by unfold wrap64; omega
    have w2 : wrap64 (x + 2 * (i : Int) + 1 + 1) = x + 2 * ((i + 1 : Nat) : Int) := by unfold wrap64; omega
    have w3 : wrap64 ((i : Int) + 1) = ((i + 1 : Nat) : Int) := by unfold wrap64; omega
    have hL : ((M.set i (⟨x + 2 * (i : Int), (rd_T77 M (i : Int)).f1⟩ : S77)).set i (⟨(rd_T77 (M.set i (⟨x + 2 * (i : Int), (rd_T77 M (i : Int)).f1⟩ : S77)) (i : Int)).f0, x + 2 * (i : Int) + 1⟩ : S77)) = M.set i ⟨x + 2 * (i : Int), x + 2 * (i : Int) + 1⟩ := by
      rw [List.set_set]; have : rd_T77 (M.set i (⟨x + 2 * (i : Int), (rd_T77 M (i : Int)).f1⟩ : S77)) (i : Int) = ⟨x + 2 * (i : Int), (rd_T77 M (i : Int)).f1⟩ := by
        unfold rd_T77
        rw [Int.toNat_natCast, List.getD_eq_getElem?_getD, List.getElem?_set, if_pos rfl, if_pos (by omega)]; rfl
      rw [this]
    obtain ⟨D, hD⟩ : ∃ D, D = d + 1 := ⟨_, rfl⟩
    rw [← hD] at ih ⊢; simp only [laws_markPointS.l0, Option.bind_some]; rw [if_pos (by omega), if_pos (by omega), Int.toNat_natCast, w0, w2, w3, hL]; refine ih (i + 1) _ (by omega) (by rw [List.length_set]; exact hl) (fun j hj => ?_)
    by_cases hji : j = i
    · subst hji; rw [List.getElem?_set, if_pos rfl, if_pos (by omega)]; simp [mkP, List.getElem?_range (show j < n by omega)]
    · rw [List.getElem?_set, if_neg (fun h => hji h.symm)]
      exact hM j (by omega)
theorem mkP_ev (l : List S77) (x : Int) (h0 : 0 ≤ x) (hb : x + 2 * (l.length : Int) < 4611686018427387904) : laws_markPointS.f (l.length + 1) l x = some (x + 2 * (l.length : Int), mkP l.length x) := by
  have := mkP_l l.length x h0 hb l.length 0 l (by omega) rfl (fun j hj => by omega)
  unfold laws_markPointS.f
  simpa using this
def mkL : List S28 → Int → List S28
  | [], _ => []
  | x :: r, a => ⟨a, a + 1, a + 1 + 1, mtF (a + 1 + 1 + 1), mkP x.f4.length (a + 1 + 1 + 1 + 1)⟩ :: mkL r (a + 1 + 1 + 1 + 1 + 2 * (x.f4.length : Int))
def mfT : List S28 → Nat
  | [] => 0
  | x :: r => 4 + 2 * x.f4.length + mfT r
theorem mfT_app (a b : List S28) : mfT (a ++ b) = mfT a + mfT b := by
  induction a with
  | nil => simp [mfT]
  | cons x a ih => simp [mfT, ih]; omega
theorem mfT_take (l : List S28) (i : Nat) (h : i < l.length) : mfT (l.take (i + 1)) = mfT (l.take i) + (4 + 2 * (l.getD i z28).f4.length) := by
  rw [List.take_succ_eq_append_getElem h, mfT_app, List.getD_eq_getElem?_getD, List.getElem?_eq_getElem h]; simp [mfT]
theorem mfT_le (l : List S28) (i : Nat) : mfT (l.take i) ≤ mfT l := by
  have := mfT_app (l.take i) (l.drop i); rw [List.take_append_drop] at this; omega
theorem mfT_ge (l : List S28) : l.length ≤ mfT l := by
  induction l with
  | nil => simp [mfT]
  | cons x l ih => simp [mfT]; omega
theorem mkL_len (l : List S28) : ∀ a : Int, (mkL l a).length = l.length := by
  induction l with
  | nil => intro a; rfl
  | cons x l ih => intro a; simp [mkL, ih]
theorem mkL_at (l : List S28) : ∀ (a : Int) (j : Nat), j < l.length → (mkL l a)[j]? = some ⟨a + (mfT (l.take j) : Int), a + (mfT (l.take j) : Int) + 1, a + (mfT (l.take j) : Int) + 1 + 1, mtF (a + (mfT (l.take j) : Int) + 1 + 1 + 1), mkP (l.getD j z28).f4.length (a + (mfT (l.take j) : Int) + 1 + 1 + 1 + 1)⟩ := by
  induction l with
  | nil => intro a j h; simp at h
  | cons x l ih =>
    intro a j h
    cases j with
    | zero => simp [mkL, mfT]
    | succ j =>
      have := ih (a + 1 + 1 + 1 + 1 + 2 * (x.f4.length : Int)) j (by simpa using h); have e : a + 1 + 1 + 1 + 1 + 2 * (x.f4.length : Int) + (mfT (l.take j) : Int) = a + (mfT ((x :: l).take (j + 1)) : Int) := by simp [mfT]; omega
      rw [e] at this; simpa [mkL] using this
/-- What a marked cell holds. -/
def wantV (A : Nat → Int) (p : Nat) : Value := if p % 5 = 0 then .int .i64 (A (p / 5)) else if p % 5 = 1 then .int .i64 (A (p / 5) + 1) else if p % 5 = 2 then .int .i64 (A (p / 5) + 1 + 1) else .string (mtF (A (p / 5) + 1 + 1 + 1))
theorem want0 (A : Nat → Int) (i : Nat) : wantV A (i * 5) = .int .i64 (A i) := by unfold wantV; rw [show i * 5 / 5 = i by omega, if_pos (by omega)]
theorem want1 (A : Nat → Int) (i : Nat) : wantV A (i * 5 + 1) = .int .i64 (A i + 1) := by unfold wantV; rw [show (i * 5 + 1) / 5 = i by omega, if_neg (by omega), if_pos (by omega)]
theorem want2 (A : Nat → Int) (i : Nat) : wantV A (i * 5 + 2) = .int .i64 (A i + 1 + 1) := by unfold wantV; rw [show (i * 5 + 2) / 5 = i by omega, if_neg (by omega), if_neg (by omega), if_pos (by omega)]
theorem want3 (A : Nat → Int) (i : Nat) : wantV A (i * 5 + 3) = .string (mtF (A i + 1 + 1 + 1)) := by unfold wantV; rw [show (i * 5 + 3) / 5 = i by omega, if_neg (by omega), if_neg (by omega), if_neg (by omega)]
/-- A feature's row whose first q cells are marked. -/
def OutM (w : World) (g m n : Nat) (vs : Nat → Value) (A : Nat → Int) (q : Nat) : Prop := ∃ c : Array Value, w.heap[g]? = some (.cells c 28 (0, 0)) ∧ c.size = m ∧ (∀ j, j < n → c[j * 5 + 4]? = some (vs j)) ∧ ∀ p, p < q → p % 5 ≠ 4 → c[p]? = some (wantV A p)
section
variable {w W : World} {g g' m n q : Nat} {vs : Nat → Value} {A : Nat → Int}
theorem OutM.cell (h : OutM w g m n vs A q) {j : Nat} (hj : j < m) : ∃ v, w.cell? ⟨g, j, none⟩ = some v := by
  obtain ⟨c, h, rfl, _⟩ := h
  exact ⟨c[j], (blk_cell h j).trans (Array.getElem?_eq_getElem hj)⟩
theorem OutM.frozen (h : OutM w g m n vs A q) (j : Nat) : w.frozen? ⟨g, j, none⟩ = false := by
  obtain ⟨c, h, _⟩ := h
  exact blk_frozen h j
theorem OutM.at_ (h : OutM w g m n vs A q) {j : Nat} (hj : j < n) : w.cell? ⟨g, j * 5 + 4, none⟩ = some (vs j) := by
  obtain ⟨c, h, _, h', _⟩ := h; exact (blk_cell h _).trans (h' j hj)
theorem OutM.mk_ (h : OutM w g m n vs A q) {p : Nat} (hp : p < q) (h4 : p % 5 ≠ 4) : w.cell? ⟨g, p, none⟩ = some (wantV A p) := by
  obtain ⟨c, h, _, _, h'⟩ := h; exact (blk_cell h _).trans (h' p hp h4)
theorem OutM.set (h : OutM w g m n vs A q) (h4 : q % 5 ≠ 4) (hm : q < m) : OutM (w.setCell ⟨g, q, none⟩ (wantV A q)) g m n vs A (q + 1) := by
  obtain ⟨c, h, h1, h2, h3⟩ := h; refine ⟨_, blk_set h q _, by simpa using h1, fun j hj => by rw [Array.getElem?_setIfInBounds_ne (by omega)]; exact h2 j hj, fun p hp hp4 => ?_⟩
  by_cases e : p = q
  · subst e; rw [Array.getElem?_setIfInBounds_self, if_pos (by omega)]
  · rw [Array.getElem?_setIfInBounds_ne (fun h => e h.symm)]; exact h3 p (by omega) hp4
theorem OutM.next (h : OutM w g m n vs A q) (h4 : q % 5 = 4) : OutM w g m n vs A (q + 1) := by
  obtain ⟨c, h, h1, h2, h3⟩ := h
  exact ⟨c, h, h1, h2, fun p hp hp4 => h3 p (by omega) hp4⟩
theorem OutM.below (h : OutM w g m n vs A q) (hb : Below w.heap.size w W) : OutM W g m n vs A q := by
  obtain ⟨c, h, h1⟩ := h; exact ⟨c, blk_below h hb, h1⟩
theorem OutM.kept {S : Nat → Prop} (h : OutM w g m n vs A q) (hk : Kept w W S) (hs : ¬ S g) : OutM W g m n vs A q := by
  obtain ⟨c, h, h1⟩ := h; exact ⟨c, (hk.2 g (blk_lt h) hs).trans h, h1⟩
end
/-- What is known of a row of features that is the call's own, and whose elements lead to blocks apart. -/
theorem outS_of {w : World} {base : Nat} {P : Nat → Prop} {u : Value} {l : List S28} (h : Kd.S k28 28 w base P u l) (hl : 0 < l.length) (A : Nat → Int) :
    ∃ g cap m, ∃ vs : Nat → Value, ∃ F : Nat → Nat, u = .slice (some ⟨g, 0, none⟩) l.length cap ∧ l.length ≤ cap ∧ P g ∧ base ≤ g ∧ l.length * 5 ≤ m ∧ OutM w g m l.length vs A 0 ∧ ∀ j, j < l.length → Kd.R k77 77 w base (fun k => (P k ∧ k ≠ g) ∧ F k = j) (vs j) (l.getD j z28).f4 := by
  obtain ⟨g, cap, rfl, h1, h2, cells, h3⟩ := Kd.R_form (Kd.S_R h) hl; have hcap := (Kd.S_reads' h).2.1; have hok := (Kd.S_R h).1 g rfl; obtain ⟨F, hR⟩ := h; have hc : ∀ j : Nat, j < l.length → ∃ v, cells[j * 5 + 4]? = some v ∧ Kd.R k77 77 w base (fun k => (P k ∧ k ≠ g) ∧ F k = j) v (l.getD j z28).f4 := by
    intro j hj; obtain ⟨c, hcl, hM, hcc, _⟩ := Kd.R_elem hR (z28, 0) (j : Int) (by omega) (by omega); rw [Int.toNat_natCast, List.getD_eq_getElem?_getD, Kd.zip_at (List.getElem?_eq_getElem hj)] at hM; have hM' : k28.M w base (fun k => (P k ∧ k ≠ g) ∧ F k = j) l[j] c := hM; obtain ⟨v4, rfl, g4⟩ := k28_openM hM'; have := hcc 4 v4 rfl; rw [blk_cell h3] at this; rw [Int.toNat_natCast] at this; refine ⟨v4, this, ?_⟩; rw [List.getD_eq_getElem?_getD, List.getElem?_eq_getElem hj]
    exact g4
  have hm : l.length * 5 ≤ cells.size := by
    obtain ⟨v, hv, _⟩ := hc (l.length - 1) (by omega); have := (Array.getElem?_eq_some_iff.1 hv).1
    omega
  refine ⟨g, cap, cells.size, fun j => (cells[j * 5 + 4]?).getD undef, F, rfl, hcap, hok, h1, hm, ⟨cells, h3, rfl, fun j hj => ?_, fun p hp => by omega⟩, fun j hj => ?_⟩
  · obtain ⟨v, hv, _⟩ := hc j hj; simp only [hv]; rfl
  · obtain ⟨v, hv, hn⟩ := hc j hj; simp only [hv]; exact hn
theorem mf_pred {n i k : Nat} (h : n - i ≤ k) (h' : i < n) : ∃ k1, k = k1 + 1 ∧ n - (i + 1) ≤ k1 := ⟨k - 1, by omega, by omega⟩
theorem mf_w {x : Int} (h0 : 0 ≤ x) (h1 : x ≤ 9223372036854775806) : wrap64 (x + 1) = x + 1 := by unfold wrap64; omega
theorem mf_ar {a1 : Int} {T M R len : Nat} (h0 : 0 ≤ a1) (hb : a1 + (M : Int) < 4611686018427387904) (ht : R = T + (4 + 2 * len)) (hle : R ≤ M) :
    0 ≤ a1 + (T : Int) ∧ a1 + (T : Int) + 4 ≤ 4611686018427387904 ∧ a1 + (T : Int) + 1 + 1 + 1 + 1 + 2 * (len : Int) = a1 + (R : Int) ∧ a1 + (T : Int) + 1 + 1 + 1 + 1 + 2 * (len : Int) < 4611686018427387904 := by omega
theorem mf_ar4 {x : Int} (h0 : 0 ≤ x) (h : x + 4 ≤ 4611686018427387904) : (0 ≤ x + 1 ∧ 0 ≤ x + 1 + 1 ∧ 0 ≤ x + 1 + 1 + 1 ∧ 0 ≤ x + 1 + 1 + 1 + 1) ∧ (x + 1 ≤ 4611686018427387904 ∧ x + 1 + 1 ≤ 4611686018427387904 ∧ x + 1 + 1 + 1 ≤ 4611686018427387904 ∧ x + 1 + 1 + 1 + 1 ≤ 4611686018427387904) ∧ wrap64 (x + 1) = x + 1 ∧ wrap64 (x + 1 + 1) = x + 1 + 1 ∧ wrap64 (x + 1 + 1 + 1) = x + 1 + 1 + 1 ∧ wrap64 (x + 1 + 1 + 1 + 1) = x + 1 + 1 + 1 + 1 := by
  refine ⟨by omega, by omega, mf_w (by omega) (by omega), mf_w (by omega) (by omega), mf_w (by omega) (by omega), mf_w (by omega) (by omega)⟩
theorem mf_ar5 {i n M : Nat} {a1 : Int} (h0 : 0 ≤ a1) (hb : a1 + (M : Int) < 4611686018427387904) (hge : n ≤ M) (h : i < n) : wrap64 ((i : Int) + 1) = ((i + 1 : Nat) : Int) := by unfold wrap64; omega
theorem mo_3 {w0 wr : World} {g m n i : Nat} {vs : Nat → Value} {A : Nat → Int} {x : Int} (h : OutM wr g m n vs A (i * 5)) (hx : A i = x) (hi : i < n) (hm : n * 5 ≤ m) : OutM (((wr.setCell ⟨g, i * 5, none⟩ (.int .i64 x)).setCell ⟨g, i * 5 + 1, none⟩ (.int .i64 (x + 1))).setCell ⟨g, i * 5 + 2, none⟩ (.int .i64 (x + 1 + 1))) g m n vs A (i * 5 + 3) := by
  have h3 := ((h.set (by omega) (by omega)).set (by omega) (by omega)).set (by omega) (by omega); rw [want0, want1, want2, hx] at h3
  exact h3
theorem mo_5 {w : World} {g m n i : Nat} {vs : Nat → Value} {A : Nat → Int} {x : Int} (h : OutM w g m n vs A (i * 5 + 3)) (hx : A i = x) (hi : i < n) (hm : n * 5 ≤ m) : OutM (w.setCell ⟨g, i * 5 + 3, none⟩ (.string (mtF (x + 1 + 1 + 1)))) g m n vs A ((i + 1) * 5) := by
  have h3 := (h.set (by omega) (by omega)).next (by omega); rw [want3, hx] at h3; rw [show (i + 1) * 5 = i * 5 + 3 + 1 + 1 by omega]
  exact h3
/-- The points of feature j, the first i features being marked. -/
def ptM (l : List S28) (a : Int) (i j : Nat) : List S77 := if j < i then mkP (l.getD j z28).f4.length (a + (mfT (l.take j) : Int) + 1 + 1 + 1 + 1) else (l.getD j z28).f4
def okM (P : Nat → Prop) (g : Nat) (F : Nat → Nat) (j k : Nat) : Prop := (P k ∧ k ≠ g) ∧ F k = j
theorem mn_5 {wr w1 : World} {base g i n : Nat} {vs : Nat → Value} {P : Nat → Prop} {F : Nat → Nat} {L : Nat → List S77} {u0 u1 u2 u3 : Value} (hN : ∀ j, j < n → Kd.R k77 77 wr base (okM P g F j) (vs j) (L j)) (hb : Below (((wr.setCell ⟨g, i * 5, none⟩ u0).setCell ⟨g, i * 5 + 1, none⟩ u1).setCell ⟨g, i * 5 + 2, none⟩ u2).heap.size (((wr.setCell ⟨g, i * 5, none⟩ u0).setCell ⟨g, i * 5 + 1, none⟩ u1).setCell ⟨g, i * 5 + 2, none⟩ u2) w1) : ∀ j, j < n → Kd.R k77 77 (w1.setCell ⟨g, i * 5 + 3, none⟩ u3) base (okM P g F j) (vs j) (L j) := by
  intro j hj; have hne : ∀ k, okM P g F j k → k ≠ g := fun k hk => hk.1.2
  exact Kd.R_far (p := ⟨g, i * 5 + 3, none⟩) (Kd.R_below (Kd.R_far (p := ⟨g, i * 5 + 2, none⟩) (Kd.R_far (p := ⟨g, i * 5 + 1, none⟩) (Kd.R_far (p := ⟨g, i * 5, none⟩) (hN j hj) hne u0) hne u1) hne u2) hb) hne u3
theorem mn_6 {W w2 w0 : World} {g n i : Nat} {v : Value} {vs : Nat → Value} {P : Nat → Prop} {F : Nat → Nat} {l : List S28} {a : Int} (hi : i < n) (hv : vs i = v) (hN : ∀ j, j < n → Kd.R k77 77 W w0.heap.size (okM P g F j) (vs j) (ptM l a i j)) (hR : Kd.R k77 77 w2 w0.heap.size (fun k_ => okM P g F i k_ ∨ W.heap.size ≤ k_) v (mkP (l.getD i z28).f4.length (a + (mfT (l.take i) : Int) + 1 + 1 + 1 + 1))) (hk : Kept W w2 (okM P g F i)) : ∀ j, j < n → Kd.R k77 77 w2 w0.heap.size (okM P g F j) (vs j) (ptM l a (i + 1) j) := by
  intro j hj
  by_cases e : j = i
  · subst e; have h1 := Kd.R_mono (Kd.R_tight rfl hR) (ok' := okM P g F j) (fun k hk => (hN j hj).1 k (by rw [hv]; exact hk.symm))
    unfold ptM
    rw [if_pos (by omega), hv]
    exact h1
  · have h1 := Kd.R_kept (hN j hj) hk (fun k hk hs => e (hk.2.symm.trans hs.2)); have e2 : ptM l a (i + 1) j = ptM l a i j := by
      unfold ptM
      by_cases h : j < i
      · rw [if_pos (by omega), if_pos h]
      · rw [if_neg (by omega), if_neg h]
    rw [e2]; exact h1
theorem mc_n {w : World} {base g m : Nat} {vs : Nat → Value} {P : Nat → Prop} {F : Nat → Nat} {l : List S28} {a : Int} {A : Nat → Int} (hl : 0 < l.length) (hA : ∀ j, A j = a + (mfT (l.take j) : Int)) (hmx : l.length ≤ 9223372036854775807) (hO : OutM w g m l.length vs A (l.length * 5)) (hN : ∀ j, j < l.length → Kd.R k77 77 w base (okM P g F j) (vs j) (ptM l a l.length j)) : Kd.C k28 w (some ⟨g, 0, none⟩) l.length (mkL l a) := by
  refine ⟨mkL_len l a, hmx, fun _ => ⟨_, rfl, fun j p hj => ?_⟩⟩; have hjl : j < l.length := by
    have := (List.getElem?_eq_some_iff.1 hj).1; rwa [mkL_len] at this
  rw [mkL_at l a j hjl] at hj; obtain rfl := Option.some.inj hj; have hR := hN j hjl
  unfold ptM at hR
  rw [if_pos hjl] at hR; obtain ⟨A4, c4, hv⟩ := Kd.R_slice hR; rw [hv] at hR; obtain ⟨_, hcap, hC⟩ := Kd.R_reads' hR; refine ⟨_, rfl, k28_mk w (⟨a + (mfT (l.take j) : Int), a + (mfT (l.take j) : Int) + 1, a + (mfT (l.take j) : Int) + 1 + 1, mtF (a + (mfT (l.take j) : Int) + 1 + 1 + 1), mkP (l.getD j z28).f4.length (a + (mfT (l.take j) : Int) + 1 + 1 + 1 + 1)⟩ : S28) (c4 := c4) hcap hC, fun d u hd => ?_⟩; have c0 := hO.mk_ (p := j * 5) (by omega) (by omega); have c1 := hO.mk_ (p := j * 5 + 1) (by omega) (by omega); have c2 := hO.mk_ (p := j * 5 + 2) (by omega) (by omega); have c3 := hO.mk_ (p := j * 5 + 3) (by omega) (by omega); have c4' := hO.at_ hjl; rw [want0, hA] at c0; rw [want1, hA] at c1; rw [want2, hA] at c2; rw [want3, hA] at c3; rw [hv] at c4'; rw [add_plain]; have hs : k28.sz = 5 := rfl; rw [hs]
  match d, hd with
  | 0, hd => rw [← Option.some.inj hd, Nat.add_zero]; exact c0
  | 1, hd => rw [← Option.some.inj hd]; exact c1
  | 2, hd => rw [← Option.some.inj hd]; exact c2
  | 3, hd => rw [← Option.some.inj hd]; exact c3
  | 4, hd => rw [← Option.some.inj hd]; exact c4'
  | d + 5, hd => simp at hd
def laws_markFeatureS.f (l0 : List S28) (a1 : Int) : Option (Int) := if 0 ≤ a1 ∧ a1 + (mfT l0 : Int) < 4611686018427387904 then some (a1 + (mfT l0 : Int)) else none
def spec_l9Feature.f (a0_0 : Int) (a0_1 : Int) (a0_2 : Int) (a0_3 : ByteArray) (l0_4 : List (S77)) : Option (Int × Int × Int × ByteArray × (List (S77))) := (some (([] : List (S77)) : List (S77))).bind fun y151 => (if y151.length + l0_4.length < 8796093022208 then (some (a0_0, a0_1, a0_2, a0_3, (y151 ++ l0_4))) else (none))
def spec_l1In.f (a0 : Int) (a1 : Int) (a2 : Int) : Option (Bool) := some (inR a0 a1 a2)
def spec_IsPoint.f (a0_0 : Int) (a0_1 : Int) : Option (Bool) := some (isPt a0_0 a0_1)
attribute [local go_sem high] eqA77
def spec_IsLine.l0 : Nat → List (S77) → Int → Option (Bool)
 | 0, _, _ => none
 | k + 1, x0, x3 => if x3 < (x0.length : Int) then (if 0 ≤ x3 then ((spec_IsPoint.f ((rd_T77 x0 x3).f0) ((rd_T77 x0 x3).f1)).bind fun t158 => (if t158 = true then (if x3 > 0 then (if 0 ≤ (wrap64 (x3 - 1)) then (if (wrap64 (x3 - 1)) < (x0.length : Int) then (if (((rd_T77 x0 (wrap64 (x3 - 1))).f0) == ((rd_T77 x0 x3).f0) && (((rd_T77 x0 (wrap64 (x3 - 1))).f1) == ((rd_T77 x0 x3).f1))) = true then (some false) else (spec_IsLine.l0 k x0 (wrap64 (x3 + 1)))) else (none)) else (none)) else (spec_IsLine.l0 k x0 (wrap64 (x3 + 1)))) else (some false))) else (none)) else ((spec_l1In.f (x0.length : Int) 2 10).bind fun t161 => (some t161))
def spec_IsLine.f (k : Nat) (l0 : List (S77)) : Option (Bool) := spec_IsLine.l0 k l0 0
def spec_DropPoint.j0 : Nat → List (S77) → Int → Bool → Option ((List (S77)) × Bool)
 | 0, _, _, _ => none
 | k + 1, x0, x1, x17 => if x17 = true then ((some (([] : List (S77)) : List (S77))).bind fun y164 => (if y164.length + x0.length < 8796093022208 then (some ((y164 ++ x0), false)) else (none))) else ((some (([] : List (S77)) : List (S77))).bind fun y170 => (if 0 ≤ x1 then (if x1 ≤ (x0.length : Int) then ((some (x0.take (x1 : Int).toNat : List (S77))).bind fun y173 => (if y170.length + y173.length < 8796093022208 then ((some (y170 ++ y173 : List (S77))).bind fun y177 => (if 0 ≤ (wrap64 (x1 + 1)) then (if (wrap64 (x1 + 1)) ≤ (x0.length : Int) then ((some (x0.drop ((wrap64 (x1 + 1)) : Int).toNat : List (S77))).bind fun y180 => (if y177.length + y180.length < 8796093022208 then ((some (y177 ++ y180 : List (S77))).bind fun y184 => ((spec_IsLine.f k y184).bind fun t187 => (if t187 = true then (some (y184, true)) else ((some (([] : List (S77)) : List (S77))).bind fun y188 => (if y188.length + x0.length < 8796093022208 then (some ((y188 ++ x0), false)) else (none)))))) else (none))) else (none)) else (none))) else (none))) else (none)) else (none)))
def spec_DropPoint.f (k : Nat) (l0 : List (S77)) (a1 : Int) : Option ((List (S77)) × Bool) := (spec_IsLine.f k l0).bind fun t162 => (if t162 = true then ((spec_l1In.f a1 1 (wrap64 ((l0.length : Int) - 2))).bind fun t163 => (spec_DropPoint.j0 k l0 a1 (!t163))) else (spec_DropPoint.j0 k l0 a1 true))
def spec_Max.f (a0 : Int) (a1 : Int) : Option (Int) := some (mx a0 a1)
def spec_IsSegment.f (a0_0 : Int) (a0_1 : Int) (a0_2 : Int) (a0_3 : Int) : Option (Bool) := some (isSeg a0_0 a0_1 a0_2 a0_3)
def spec_Min.f (a0 : Int) (a1 : Int) : Option (Int) := some (mn a0 a1)
def spec_l4Cross.f (a0_0 : Int) (a0_1 : Int) (a1_0 : Int) (a1_1 : Int) (a2_0 : Int) (a2_1 : Int) : Option (Int) := some (crossI a0_0 a0_1 a1_0 a1_1 a2_0 a2_1)
def spec_IsOn.f (a0_0 : Int) (a0_1 : Int) (a0_2 : Int) (a0_3 : Int) (a1_0 : Int) (a1_1 : Int) : Option (Bool) := some (isOnI a0_0 a0_1 a0_2 a0_3 a1_0 a1_1)
attribute [local go_sem high] eqA77
mutual
def spec_l5Shared.l0 : Nat → List (S77) → List (S77) → Int → Int → Int → Int → Int → Int → Int → Int → Int → Option (Int)
 | 0, _, _, _, _, _, _, _, _, _, _, _ => none
 | k + 1, x5, x6, x7, x163000, x163001, x163002, x163003, x164000, x164001, x164002, x164003 => if x7 < 4 then (if x7 < 2 then (if 0 ≤ x7 then (if x7 < (x6.length : Int) then ((spec_IsOn.f x164000 x164001 x164002 x164003 ((rd_T77 x6 x7).f0) ((rd_T77 x6 x7).f1)).bind fun t171 => (if t171 = true then (spec_l5Shared.j1 k x5 x6 x7 true x163000 x163001 x163002 x163003 x164000 x164001 x164002 x164003) else (if x7 ≥ 2 then ((spec_IsOn.f x163000 x163001 x163002 x163003 ((rd_T77 x6 x7).f0) ((rd_T77 x6 x7).f1)).bind fun t173 => (spec_l5Shared.j1 k x5 x6 x7 t173 x163000 x163001 x163002 x163003 x164000 x164001 x164002 x164003)) else (spec_l5Shared.j1 k x5 x6 x7 false x163000 x163001 x163002 x163003 x164000 x164001 x164002 x164003)))) else (none)) else (none)) else (if x7 ≥ 2 then (if 0 ≤ x7 then (if x7 < (x6.length : Int) then ((spec_IsOn.f x163000 x163001 x163002 x163003 ((rd_T77 x6 x7).f0) ((rd_T77 x6 x7).f1)).bind fun t175 => (spec_l5Shared.j1 k x5 x6 x7 t175 x163000 x163001 x163002 x163003 x164000 x164001 x164002 x164003)) else (none)) else (none)) else (spec_l5Shared.j1 k x5 x6 x7 false x163000 x163001 x163002 x163003 x164000 x164001 x164002 x164003))) else (some (x5.length : Int))
def spec_l5Shared.j1 : Nat → List (S77) → List (S77) → Int → Bool → Int → Int → Int → Int → Int → Int → Int → Int → Option (Int)
 | 0, _, _, _, _, _, _, _, _, _, _, _, _ => none
 | k + 1, x5, x6, x7, x8, x163000, x163001, x163002, x163003, x164000, x164001, x164002, x164003 => spec_l5Shared.l1 k x5 x6 x7 x8 0 x163000 x163001 x163002 x163003 x164000 x164001 x164002 x164003
def spec_l5Shared.l1 : Nat → List (S77) → List (S77) → Int → Bool → Int → Int → Int → Int → Int → Int → Int → Int → Int → Option (Int)
 | 0, _, _, _, _, _, _, _, _, _, _, _, _, _ => none
 | k + 1, x5, x6, x7, x8, x9, x163000, x163001, x163002, x163003, x164000, x164001, x164002, x164003 => if x9 < (x5.length : Int) then (if x8 = true then (if 0 ≤ x9 then (if 0 ≤ x7 then (if x7 < (x6.length : Int) then (spec_l5Shared.l1 k x5 x6 x7 (!(((rd_T77 x5 x9).f0) == ((rd_T77 x6 x7).f0)) || (!(((rd_T77 x5 x9).f1) == ((rd_T77 x6 x7).f1)))) (wrap64 (x9 + 1)) x163000 x163001 x163002 x163003 x164000 x164001 x164002 x164003) else (none)) else (none)) else (none)) else (spec_l5Shared.l1 k x5 x6 x7 false (wrap64 (x9 + 1)) x163000 x163001 x163002 x163003 x164000 x164001 x164002 x164003)) else (if x8 = true then (if 0 ≤ x7 then (if x7 < (x6.length : Int) then (if x5.length < 8796093022208 then (spec_l5Shared.l0 k (x5 ++ [(⟨(rd_T77 x6 x7).f0, (rd_T77 x6 x7).f1⟩ : S77)]) x6 (wrap64 (x7 + 1)) x163000 x163001 x163002 x163003 x164000 x164001 x164002 x164003) else (none)) else (none)) else (none)) else (spec_l5Shared.l0 k x5 x6 (wrap64 (x7 + 1)) x163000 x163001 x163002 x163003 x164000 x164001 x164002 x164003))
end
def spec_l5Shared.f (k : Nat) (a0_0 : Int) (a0_1 : Int) (a0_2 : Int) (a0_3 : Int) (a1_0 : Int) (a1_1 : Int) (a1_2 : Int) (a1_3 : Int) : Option (Int) := spec_l5Shared.l0 k (([] : List (S77))) (([(⟨a0_0, a0_1⟩ : S77), (⟨a0_2, a0_3⟩ : S77), (⟨a1_0, a1_1⟩ : S77), (⟨a1_2, a1_3⟩ : S77)] : List (S77))) 0 a0_0 a0_1 a0_2 a0_3 a1_0 a1_1 a1_2 a1_3
def spec_SideOf.f (a0_0 : Int) (a0_1 : Int) (a1_0 : Int) (a1_1 : Int) (a2_0 : Int) (a2_1 : Int) : Option (Int) := some (sideI a0_0 a0_1 a1_0 a1_1 a2_0 a2_1)
theorem on_s (a b c d x y : Int) : spec_IsOn.f a b c d x y = some (isOnI a b c d x y) := rfl
def eqP (p q : S77) : Bool := decide (p.f0 = q.f0) && decide (p.f1 = q.f1)
theorem nep (p q : S77) : (!((p.f0) == (q.f0)) || (!((p.f1) == (q.f1)))) = !eqP p q := by
  unfold eqP
  by_cases h : p.f0 = q.f0 <;> by_cases h' : p.f1 = q.f1 <;> simp [h, h']
theorem rdPt (l : List S77) (i : Nat) (h : i < l.length) : rd_T77 l (i : Int) = l[i] := by
  unfold rd_T77
  rw [Int.toNat_natCast, List.getD_eq_getElem?_getD, List.getElem?_eq_getElem h]
  rfl
theorem w1' (i : Nat) (h : i < 9223372036854775807) : wrap64 ((i : Int) + 1) = ((i + 1 : Nat) : Int) := by unfold wrap64; omega
theorem all_if (x : Bool) (L : List S77) (y : S77) (q : S77 → Bool) : (if x = true then L ++ [y] else L).all q = (L.all q && (!x || q y)) := by cases x <;> simp
theorem len_if (x : Bool) (L : List S77) (y : S77) : (if x = true then L ++ [y] else L).length = L.length + (if x = true then 1 else 0) := by cases x <;> simp
section
variable (a b c d e f g h : Int)
theorem sh_l1 (xs es : List S77) (i : Nat) (hi : i < es.length) (hes : es.length ≤ 4) (hx : xs.length ≤ 4) (m : Nat) : ∀ (j : Nat) (on : Bool), j + m = xs.length → ∀ r,
    Ev (fun k => spec_l5Shared.l0 k (if on && (xs.drop j).all (fun p => !eqP p es[i]) then xs ++ [es[i]] else xs) es ((i + 1 : Nat) : Int) a b c d e f g h) r → Ev (fun k => spec_l5Shared.l1 k xs es (i : Int) on (j : Int) a b c d e f g h) r := by
  induction m with
  | zero =>
    intro j on hj r hr; rw [List.drop_of_length_le (by omega)] at hr; refine Ev.step (fun k => ?_) hr; simp only [spec_l5Shared.l1]; rw [if_neg (by omega)]; simp only [List.all_nil, Bool.and_true]
    cases on
    · simp only [Bool.false_eq_true, if_false, w1' i (by omega)]
    · simp only [if_true]; rw [if_pos (by omega), if_pos (by omega), if_pos (by omega), w1' i (by omega), rdPt es i hi]
  | succ m ih =>
    intro j on hj r hr; have hj1 : j < xs.length := by omega
    have hd := List.drop_eq_getElem_cons hj1; rw [hd, List.all_cons] at hr; refine Ev.step (fun k => ?_) (ih (j + 1) (on && !eqP xs[j] es[i]) (by omega) r (by rw [Bool.and_assoc]; exact hr)); simp only [spec_l5Shared.l1]; rw [if_pos (by omega)]
    cases on
    · simp only [Bool.false_eq_true, if_false, w1' j (by omega), Bool.false_and]
    · simp only [if_true]; rw [if_pos (by omega), if_pos (by omega), if_pos (by omega), w1' j (by omega), rdPt es i hi, rdPt xs j hj1, nep, Bool.true_and]
/-- Which segment an end is held against. -/
def onI (i : Nat) (p : S77) : Bool := if i < 2 then isOnI e f g h p.f0 p.f1 else isOnI a b c d p.f0 p.f1
theorem sh_l0 (xs es : List S77) (i : Nat) (hi : i < es.length) (hes : es.length = 4) (hx : xs.length ≤ 4) (r : Int)
    (hr : Ev (fun k => spec_l5Shared.l0 k (if onI a b c d e f g h i es[i] && xs.all (fun p => !eqP p es[i]) then xs ++ [es[i]] else xs) es ((i + 1 : Nat) : Int) a b c d e f g h) r) : Ev (fun k => spec_l5Shared.l0 k xs es (i : Int) a b c d e f g h) r := by
  have go : ∀ on : Bool, on = onI a b c d e f g h i es[i] → Ev (fun k => spec_l5Shared.j1 k xs es (i : Int) on a b c d e f g h) r := by
    intro on hon; refine Ev.step (f := fun k => spec_l5Shared.l1 k xs es (i : Int) on ((0 : Nat) : Int) a b c d e f g h) (fun k => by rw [spec_l5Shared.j1]; rfl) (sh_l1 a b c d e f g h xs es i hi (by omega) hx xs.length 0 on (by omega) r ?_); rw [hon, List.drop_zero]
    exact hr
  have step : ∀ k, spec_l5Shared.l0 (k + 1) xs es (i : Int) a b c d e f g h = spec_l5Shared.j1 k xs es (i : Int) (onI a b c d e f g h i es[i]) a b c d e f g h := by
    intro k; simp only [spec_l5Shared.l0]; rw [if_pos (by omega)]
    by_cases h2 : i < 2
    · rw [if_pos (by omega), if_pos (by omega), if_pos (by omega), rdPt es i hi, on_s, onI, if_pos h2]; simp only [Option.bind_some]
      cases isOnI e f g h es[i].f0 es[i].f1
      · rw [if_neg (by simp), if_neg (by omega)]
      · rw [if_pos rfl]
    · rw [if_neg (by omega), if_pos (by omega), if_pos (by omega), if_pos (by omega), rdPt es i hi, on_s, onI, if_neg h2]; simp only [Option.bind_some]
  exact Ev.step step (go _ rfl)
theorem share_s : Ev (fun k => spec_l5Shared.f k a b c d e f g h) (shareI a b c d e f g h) := by
  unfold spec_l5Shared.f
  generalize hes : ([(⟨a, b⟩ : S77), ⟨c, d⟩, ⟨e, f⟩, ⟨g, h⟩] : List S77) = es; have h4 : es.length = 4 := by subst hes; rfl
  have e0 : es[0]'(by omega) = ⟨a, b⟩ := by subst hes; rfl
  have e1 : es[1]'(by omega) = ⟨c, d⟩ := by subst hes; rfl
  have e2 : es[2]'(by omega) = ⟨e, f⟩ := by subst hes; rfl
  have e3 : es[3]'(by omega) = ⟨g, h⟩ := by subst hes; rfl
  refine sh_l0 a b c d e f g h [] es 0 (by omega) h4 (by simp) _ ?_; refine sh_l0 a b c d e f g h _ es 1 (by omega) h4 (by split <;> simp) _ ?_; refine sh_l0 a b c d e f g h _ es 2 (by omega) h4 (by split <;> split <;> simp) _ ?_; refine sh_l0 a b c d e f g h _ es 3 (by omega) h4 (by split <;> split <;> split <;> simp) _ ?_; rw [e0, e1, e2, e3]; have q0 : onI a b c d e f g h 0 ⟨a, b⟩ = isOnI e f g h a b := rfl; have q1 : onI a b c d e f g h 1 ⟨c, d⟩ = isOnI e f g h c d := rfl; have q2 : onI a b c d e f g h 2 ⟨e, f⟩ = isOnI a b c d e f := rfl; have q3 : onI a b c d e f g h 3 ⟨g, h⟩ = isOnI a b c d g h := rfl; rw [q0, q1, q2, q3]
  unfold shareI
  generalize isOnI e f g h a b = o0; generalize isOnI e f g h c d = o1; generalize isOnI a b c d e f = o2; generalize isOnI a b c d g h = o3; refine Ev.step (f := fun _ => some _) (fun k => ?_) (Ev.now _); simp only [spec_l5Shared.l0]; rw [if_neg (by omega)]
  congr 1
  have E : ∀ x y x' y' : Int, eqP ⟨x, y⟩ ⟨x', y'⟩ = (decide (x = x') && decide (y = y')) := fun _ _ _ _ => rfl
  generalize hA : (decide (a = c) && decide (b = d)) = eab; generalize hB : (decide (a = e) && decide (b = f)) = eac; generalize hC : (decide (c = e) && decide (d = f)) = ebc; generalize hD : (decide (a = g) && decide (b = h)) = ead; generalize hE : (decide (c = g) && decide (d = h)) = ebd; generalize hF : (decide (e = g) && decide (f = h)) = ecd; simp only [all_if, len_if, List.all_nil, List.length_nil, E, hA, hB, hC, hD, hE, hF]; have n1 : (o1 && (true && (!(o0 && true) || !eab))) = (o1 && !(o0 && eab)) := by cases o0 <;> cases eab <;> rfl
  rw [n1]; generalize (o1 && !(o0 && eab)) = p1; have n2 : (o2 && (true && (!(o0 && true) || !eac) && (!p1 || !ebc))) = (o2 && !(o0 && eac) && !(p1 && ebc)) := by cases o0 <;> cases eac <;> cases p1 <;> cases ebc <;> cases o2 <;> rfl
  rw [n2]; generalize (o2 && !(o0 && eac) && !(p1 && ebc)) = p2; have n3 : (o3 && (true && (!(o0 && true) || !ead) && (!p1 || !ebd) && (!p2 || !ecd))) = (o3 && !(o0 && ead) && !(p1 && ebd) && !(p2 && ecd)) := by cases o0 <;> cases ead <;> cases p1 <;> cases ebd <;> cases p2 <;> cases ecd <;> cases o3 <;> rfl
  rw [n3]; generalize (o3 && !(o0 && ead) && !(p1 && ebd) && !(p2 && ecd)) = p3
  cases o0 <;> cases p1 <;> cases p2 <;> cases p3 <;> rfl
end
theorem wrap_sd (x y : Int) (hx : -1 ≤ x ∧ x ≤ 1) (hy : -1 ≤ y ∧ y ≤ 1) : wrap64 (x * y) = x * y := by
  have : x = -1 ∨ x = 0 ∨ x = 1 := by omega
  rcases this with rfl | rfl | rfl <;> unfold wrap64 <;> omega
theorem sd_bd (a b c d e f : Int) : -1 ≤ sideI a b c d e f ∧ sideI a b c d e f ≤ 1 := by
  unfold sideI cmpI; (repeat' split) <;> omega
theorem wrap_three (x y : Int) (hx : -1 ≤ x ∧ x ≤ 1) (hy : -1 ≤ y ∧ y ≤ 1) : IntKind.i64.wrap (x * y) = x * y ∧ (IntKind.i64.wrap (x * y) = -1 ∨ IntKind.i64.wrap (x * y) = 0 ∨ IntKind.i64.wrap (x * y) = 1) := by
  rw [i64_w, wrap_sd x y hx hy]; refine ⟨rfl, ?_⟩; have h1 : x = -1 ∨ x = 0 ∨ x = 1 := by omega
  rcases h1 with rfl | rfl | rfl <;> omega
def spec_HowMeet.f (a0_0 a0_1 a0_2 a0_3 a1_0 a1_1 a1_2 a1_3 : Int) : Option (Int) := some (howS a0_0 a0_1 a0_2 a0_3 a1_0 a1_1 a1_2 a1_3)
def spec_l7Segments.l0 : Nat → List (S77) → List (S95) → Int → Option ((List (S95)))
 | 0, _, _, _ => none
 | k + 1, x0, x3, x4 => if x4 < (x0.length : Int) then (if 0 ≤ x4 then (if (x0.length : Int) = 0 then (none) else (if 0 ≤ (Int.tmod (wrap64 (x4 + 1)) (x0.length : Int)) then (if (Int.tmod (wrap64 (x4 + 1)) (x0.length : Int)) < (x0.length : Int) then (if x3.length < 4398046511104 then (spec_l7Segments.l0 k x0 (x3 ++ [(⟨(⟨(rd_T77 x0 x4).f0, (rd_T77 x0 x4).f1⟩ : S77), (⟨(rd_T77 x0 (Int.tmod (wrap64 (x4 + 1)) (x0.length : Int))).f0, (rd_T77 x0 (Int.tmod (wrap64 (x4 + 1)) (x0.length : Int))).f1⟩ : S77)⟩ : S95)]) (wrap64 (x4 + 1))) else (none)) else (none)) else (none))) else (none)) else (some x3)
def spec_l7Segments.f (k : Nat) (l0 : List (S77)) : Option ((List (S95))) := spec_l7Segments.l0 k l0 (([] : List (S95))) 0
mutual
def spec_IsRing.l0 : Nat → List (S95) → Int → Option (Bool)
 | 0, _, _ => none
 | k + 1, x3, x4 => if x4 < (x3.length : Int) then (if 0 ≤ x4 then ((spec_IsSegment.f ((rd_T95 x3 x4).f0.f0) ((rd_T95 x3 x4).f0.f1) ((rd_T95 x3 x4).f1.f0) ((rd_T95 x3 x4).f1.f1)).bind fun t195 => (if t195 = true then (spec_IsRing.l1 k x3 x4 0) else (some false))) else (none)) else (some true)
def spec_IsRing.l1 : Nat → List (S95) → Int → Int → Option (Bool)
 | 0, _, _, _ => none
 | k + 1, x3, x4, x5 => if x5 < x4 then (if (wrap64 (x5 + 1)) = x4 then (spec_IsRing.j2 k x3 x4 x5 0 true) else (if x5 = 0 then (spec_IsRing.j2 k x3 x4 x5 0 ((wrap64 (x4 + 1)) == (x3.length : Int))) else (spec_IsRing.j2 k x3 x4 x5 0 false))) else (spec_IsRing.l0 k x3 (wrap64 (x4 + 1)))
def spec_IsRing.j2 : Nat → List (S95) → Int → Int → Int → Bool → Option (Bool)
 | 0, _, _, _, _, _ => none
 | k + 1, x3, x4, x5, x6, x44 => if x44 = true then (if 0 ≤ x4 then (if x4 < (x3.length : Int) then (if 0 ≤ x5 then (if x5 < (x3.length : Int) then ((spec_HowMeet.f ((rd_T95 x3 x4).f0.f0) ((rd_T95 x3 x4).f0.f1) ((rd_T95 x3 x4).f1.f0) ((rd_T95 x3 x4).f1.f1) ((rd_T95 x3 x5).f0.f0) ((rd_T95 x3 x5).f0.f1) ((rd_T95 x3 x5).f1.f0) ((rd_T95 x3 x5).f1.f1)).bind fun t198 => (if t198 = 1 then (spec_IsRing.l1 k x3 x4 (wrap64 (x5 + 1))) else (some false))) else (none)) else (none)) else (none)) else (none)) else (if 0 ≤ x4 then (if x4 < (x3.length : Int) then (if 0 ≤ x5 then (if x5 < (x3.length : Int) then ((spec_HowMeet.f ((rd_T95 x3 x4).f0.f0) ((rd_T95 x3 x4).f0.f1) ((rd_T95 x3 x4).f1.f0) ((rd_T95 x3 x4).f1.f1) ((rd_T95 x3 x5).f0.f0) ((rd_T95 x3 x5).f0.f1) ((rd_T95 x3 x5).f1.f0) ((rd_T95 x3 x5).f1.f1)).bind fun t201 => (if t201 = x6 then (spec_IsRing.l1 k x3 x4 (wrap64 (x5 + 1))) else (some false))) else (none)) else (none)) else (none)) else (none))
end
def spec_IsRing.f (k : Nat) (l0 : List (S77)) : Option (Bool) := (spec_l1In.f (l0.length : Int) 3 10).bind fun t190 => (if t190 = true then ((spec_l7Segments.f k l0).bind fun t191 => (spec_IsRing.l0 k t191 0)) else (some false))
def spec_TwiceArea.l0 : Nat → List (S77) → Int → List (S95) → Int → Option (Int)
 | 0, _, _, _, _ => none
 | k + 1, x0, x3, x4, x5 => if x5 < (x4.length : Int) then ((spec_IsRing.f k x0).bind fun t205 => (if t205 = true then (if 0 ≤ x5 then (spec_TwiceArea.l0 k x0 (wrap64 ((wrap64 (x3 + (wrap64 (((rd_T95 x4 x5).f0.f0) * ((rd_T95 x4 x5).f1.f1))))) - (wrap64 (((rd_T95 x4 x5).f0.f1) * ((rd_T95 x4 x5).f1.f0))))) x4 (wrap64 (x5 + 1))) else (none)) else (some x3))) else (some x3)
def spec_TwiceArea.f (k : Nat) (l0 : List (S77)) : Option (Int) := (spec_l7Segments.f k l0).bind fun t202 => (spec_TwiceArea.l0 k l0 0 t202 0)
def spec_SameTurn.f (k : Nat) (l0 : List (S77)) (l1 : List (S77)) : Option (Bool) := (spec_TwiceArea.f k l0).bind fun t210 => ((spec_TwiceArea.f k l1).bind fun t211 => (if t210 > 0 then (if t211 > 0 then (some true) else (if t210 < 0 then (some (decide (t211 < 0))) else (some false))) else (if t210 < 0 then (some (decide (t211 < 0))) else (some false))))
def spec_DropCorner.j0 : Nat → List (S77) → Int → Bool → Option ((List (S77)) × Bool)
 | 0, _, _, _ => none
 | k + 1, x0, x1, x17 => if x17 = true then ((some (([] : List (S77)) : List (S77))).bind fun y246 => (if y246.length + x0.length < 8796093022208 then (some ((y246 ++ x0), false)) else (none))) else ((some (([] : List (S77)) : List (S77))).bind fun y252 => (if 0 ≤ x1 then (if x1 ≤ (x0.length : Int) then ((some (x0.take (x1 : Int).toNat : List (S77))).bind fun y255 => (if y252.length + y255.length < 8796093022208 then ((some (y252 ++ y255 : List (S77))).bind fun y259 => (if 0 ≤ (wrap64 (x1 + 1)) then (if (wrap64 (x1 + 1)) ≤ (x0.length : Int) then ((some (x0.drop ((wrap64 (x1 + 1)) : Int).toNat : List (S77))).bind fun y262 => (if y259.length + y262.length < 8796093022208 then ((some (y259 ++ y262 : List (S77))).bind fun y266 => ((spec_IsRing.f k y266).bind fun t269 => (if t269 = true then ((spec_SameTurn.f k x0 y266).bind fun t270 => (if t270 = true then (some (y266, true)) else ((some (([] : List (S77)) : List (S77))).bind fun y271 => (if y271.length + x0.length < 8796093022208 then (some ((y271 ++ x0), false)) else (none))))) else ((some (([] : List (S77)) : List (S77))).bind fun y277 => (if y277.length + x0.length < 8796093022208 then (some ((y277 ++ x0), false)) else (none)))))) else (none))) else (none)) else (none))) else (none))) else (none)) else (none)))
def spec_DropCorner.f (k : Nat) (l0 : List (S77)) (a1 : Int) : Option ((List (S77)) × Bool) := (spec_IsRing.f k l0).bind fun t244 => (if t244 = true then ((spec_l1In.f a1 0 (wrap64 ((l0.length : Int) - 1))).bind fun t245 => (spec_DropCorner.j0 k l0 a1 (!t245))) else (spec_DropCorner.j0 k l0 a1 true))
def spec_IsName.l0 : Nat → ByteArray → Int → Option (Bool)
 | 0, _, _ => none
 | k + 1, x0, x3 => if x3 < (x0.size : Int) then (if 0 ≤ x3 then (if (bt x0 x3) < 97 then (some false) else (if (bt x0 x3) > 122 then (some false) else (spec_IsName.l0 k x0 (wrap64 (x3 + 1))))) else (none)) else ((spec_l1In.f (x0.size : Int) 1 8).bind fun t212 => (some t212))
def spec_IsName.f (k : Nat) (a0 : ByteArray) : Option (Bool) := spec_IsName.l0 k a0 0
def spec_SegmentsOf.l0 : Nat → List (S77) → List (S95) → Int → Option ((List (S95)))
 | 0, _, _, _ => none
 | k + 1, x0, x3, x4 => if x4 < (x0.length : Int) then ((spec_IsLine.f k x0).bind fun t216 => (if t216 = true then (if 0 ≤ (wrap64 (x4 - 1)) then (if (wrap64 (x4 - 1)) < (x0.length : Int) then (if 0 ≤ x4 then (if x3.length < 4398046511104 then (spec_SegmentsOf.l0 k x0 (x3 ++ [(⟨(⟨(rd_T77 x0 (wrap64 (x4 - 1))).f0, (rd_T77 x0 (wrap64 (x4 - 1))).f1⟩ : S77), (⟨(rd_T77 x0 x4).f0, (rd_T77 x0 x4).f1⟩ : S77)⟩ : S95)]) (wrap64 (x4 + 1))) else (none)) else (none)) else (none)) else (none)) else (some x3))) else (some x3)
def spec_SegmentsOf.f (k : Nat) (l0 : List (S77)) : Option ((List (S95))) := spec_SegmentsOf.l0 k l0 (([] : List (S95))) 1
mutual
def spec_IsSimple.l0 : Nat → List (S77) → List (S95) → Int → Option (Bool)
 | 0, _, _, _ => none
 | k + 1, x0, x3, x4 => if x4 < (x3.length : Int) then (spec_IsSimple.l1 k x0 x3 x4 0) else ((spec_IsLine.f k x0).bind fun t225 => (some t225))
def spec_IsSimple.l1 : Nat → List (S77) → List (S95) → Int → Int → Option (Bool)
 | 0, _, _, _, _ => none
 | k + 1, x0, x3, x4, x5 => if x5 < x4 then (if (wrap64 (x5 + 1)) = x4 then (if 0 ≤ x4 then (if x4 < (x3.length : Int) then (if 0 ≤ x5 then (if x5 < (x3.length : Int) then ((spec_HowMeet.f ((rd_T95 x3 x4).f0.f0) ((rd_T95 x3 x4).f0.f1) ((rd_T95 x3 x4).f1.f0) ((rd_T95 x3 x4).f1.f1) ((rd_T95 x3 x5).f0.f0) ((rd_T95 x3 x5).f0.f1) ((rd_T95 x3 x5).f1.f0) ((rd_T95 x3 x5).f1.f1)).bind fun t228 => (if t228 = 1 then (spec_IsSimple.l1 k x0 x3 x4 (wrap64 (x5 + 1))) else (some false))) else (none)) else (none)) else (none)) else (none)) else (if 0 ≤ x4 then (if x4 < (x3.length : Int) then (if 0 ≤ x5 then (if x5 < (x3.length : Int) then ((spec_HowMeet.f ((rd_T95 x3 x4).f0.f0) ((rd_T95 x3 x4).f0.f1) ((rd_T95 x3 x4).f1.f0) ((rd_T95 x3 x4).f1.f1) ((rd_T95 x3 x5).f0.f0) ((rd_T95 x3 x5).f0.f1) ((rd_T95 x3 x5).f1.f0) ((rd_T95 x3 x5).f1.f1)).bind fun t231 => (if t231 = 0 then (spec_IsSimple.l1 k x0 x3 x4 (wrap64 (x5 + 1))) else (some false))) else (none)) else (none)) else (none)) else (none))) else (spec_IsSimple.l0 k x0 x3 (wrap64 (x4 + 1)))
end
def spec_IsSimple.f (k : Nat) (l0 : List (S77)) : Option (Bool) := (spec_SegmentsOf.f k l0).bind fun t222 => (spec_IsSimple.l0 k l0 t222 0)
def spec_IsFeature.j0 : Nat → Bool → Int → Int → Int → ByteArray → List (S77) → Option (Bool)
 | 0, _, _, _, _, _, _ => none
 | k + 1, x23, x233000, x233001, x233002, x233003, x233004 => if x23 = true then (some false) else (if x233001 = 1 then (if (x233004.length : Int) = 1 then (if 0 < (x233004.length : Int) then ((spec_IsPoint.f ((rd_T77 x233004 0).f0) ((rd_T77 x233004 0).f1)).bind fun t237 => (some t237)) else (none)) else (some false)) else (if x233001 = 2 then ((spec_IsSimple.f k x233004).bind fun t238 => (some t238)) else (if x233001 = 3 then ((spec_IsRing.f k x233004).bind fun t239 => (some t239)) else (some false))))
def spec_IsFeature.f (k : Nat) (a0_0 : Int) (a0_1 : Int) (a0_2 : Int) (a0_3 : ByteArray) (l0_4 : List (S77)) : Option (Bool) := (spec_l1In.f a0_0 1 99).bind fun t233 => (if t233 = true then ((spec_l1In.f a0_2 0 9).bind fun t234 => (if t234 = true then (if a0_3.toList = ([] : List UInt8) then (spec_IsFeature.j0 k false a0_0 a0_1 a0_2 a0_3 l0_4) else ((spec_IsName.f k a0_3).bind fun t235 => (spec_IsFeature.j0 k (!t235) a0_0 a0_1 a0_2 a0_3 l0_4))) else (spec_IsFeature.j0 k true a0_0 a0_1 a0_2 a0_3 l0_4))) else (spec_IsFeature.j0 k true a0_0 a0_1 a0_2 a0_3 l0_4))
def spec_DropFrom.j0 : Nat → Bool → Int → Int → Int → ByteArray → List (S77) → Int → Int → Int → ByteArray → List (S77) → Option (Int × Int × Int × ByteArray × (List (S77)) × Bool)
 | 0, _, _, _, _, _, _, _, _, _, _, _ => none
 | k + 1, x7, x241000, x241001, x241002, x241003, x241004, x250000, x250001, x250002, x250003, x250004 => if x7 = true then ((spec_IsFeature.f k x250000 x250001 x250002 x250003 x250004).bind fun t258 => (if t258 = true then (some (x250000, x250001, x250002, x250003, x250004, true)) else ((spec_l9Feature.f x241000 x241001 x241002 x241003 x241004).bind fun bt259 => (some (bt259.1, bt259.2.1, bt259.2.2.1, bt259.2.2.2.1, bt259.2.2.2.2, false))))) else ((spec_l9Feature.f x241000 x241001 x241002 x241003 x241004).bind fun bt266 => (some (bt266.1, bt266.2.1, bt266.2.2.1, bt266.2.2.2.1, bt266.2.2.2.2, false)))
def spec_DropFrom.f (k : Nat) (a0_0 : Int) (a0_1 : Int) (a0_2 : Int) (a0_3 : ByteArray) (l0_4 : List (S77)) (a1 : Int) : Option (Int × Int × Int × ByteArray × (List (S77)) × Bool) := (spec_l9Feature.f a0_0 a0_1 a0_2 a0_3 l0_4).bind fun bt242 => (if a0_1 = 2 then ((spec_DropPoint.f k l0_4 a1).bind fun bt250 => (spec_DropFrom.j0 k bt250.2 a0_0 a0_1 a0_2 a0_3 l0_4 bt242.1 bt242.2.1 bt242.2.2.1 bt242.2.2.2.1 bt250.1)) else (if a0_1 = 3 then ((spec_DropCorner.f k l0_4 a1).bind fun bt254 => (spec_DropFrom.j0 k bt254.2 a0_0 a0_1 a0_2 a0_3 l0_4 bt242.1 bt242.2.1 bt242.2.2.1 bt242.2.2.2.1 bt254.1)) else (spec_DropFrom.j0 k false a0_0 a0_1 a0_2 a0_3 l0_4 bt242.1 bt242.2.1 bt242.2.2.1 bt242.2.2.2.1 bt242.2.2.2.2)))
def spec_RingSegments.f (k : Nat) (l0 : List (S77)) : Option ((List (S95))) := (spec_IsRing.f k l0).bind fun t273 => (if t273 = true then ((spec_l7Segments.f k l0).bind fun t274 => (some t274)) else (some (([] : List (S95)))))
def spec_PartsOf.f (k : Nat) (a0_0 : Int) (a0_1 : Int) (a0_2 : Int) (a0_3 : ByteArray) (l0_4 : List (S77)) : Option ((List (S95))) := (spec_IsFeature.f k a0_0 a0_1 a0_2 a0_3 l0_4).bind fun t281 => (if t281 = true then (if a0_1 = 2 then ((spec_SegmentsOf.f k l0_4).bind fun t285 => (some t285)) else (if a0_1 = 3 then ((spec_RingSegments.f k l0_4).bind fun t288 => (some t288)) else (some (([] : List (S95)))))) else (some (([] : List (S95)))))
mutual
def spec_FeaturesMeet.l0 : Nat → Int → List (S95) → List (S95) → Int → Option (Int)
 | 0, _, _, _, _ => none
 | k + 1, x5, x6, x7, x8 => if x8 < (x6.length : Int) then (spec_FeaturesMeet.l1 k x5 x6 x7 x8 0) else (some x5)
def spec_FeaturesMeet.l1 : Nat → Int → List (S95) → List (S95) → Int → Int → Option (Int)
 | 0, _, _, _, _, _ => none
 | k + 1, x5, x6, x7, x8, x9 => if x9 < (x7.length : Int) then (if 0 ≤ x8 then (if x8 < (x6.length : Int) then (if 0 ≤ x9 then ((spec_HowMeet.f ((rd_T95 x6 x8).f0.f0) ((rd_T95 x6 x8).f0.f1) ((rd_T95 x6 x8).f1.f0) ((rd_T95 x6 x8).f1.f1) ((rd_T95 x7 x9).f0.f0) ((rd_T95 x7 x9).f0.f1) ((rd_T95 x7 x9).f1.f0) ((rd_T95 x7 x9).f1.f1)).bind fun t304 => ((spec_Max.f x5 t304).bind fun t305 => (spec_FeaturesMeet.l1 k t305 x6 x7 x8 (wrap64 (x9 + 1))))) else (none)) else (none)) else (none)) else (spec_FeaturesMeet.l0 k x5 x6 x7 (wrap64 (x8 + 1)))
end
def spec_FeaturesMeet.f (k : Nat) (a0_0 : Int) (a0_1 : Int) (a0_2 : Int) (a0_3 : ByteArray) (l0_4 : List (S77)) (a1_0 : Int) (a1_1 : Int) (a1_2 : Int) (a1_3 : ByteArray) (l1_4 : List (S77)) : Option (Int) := (spec_PartsOf.f k a0_0 a0_1 a0_2 a0_3 l0_4).bind fun t296 => ((spec_PartsOf.f k a1_0 a1_1 a1_2 a1_3 l1_4).bind fun t299 => (spec_FeaturesMeet.l0 k 0 t296 t299 0))
mutual
def spec_CanShrink.l0 : Nat → List (S28) → Bool → Int → Int → Int → Int → ByteArray → List (S77) → Int → Int → Int → ByteArray → List (S77) → Option (Bool)
 | 0, _, _, _, _, _, _, _, _, _, _, _, _, _ => none
 | k + 1, x2, x8, x9, x307000, x307001, x307002, x307003, x307004, x316000, x316001, x316002, x316003, x316004 => if x9 < (x2.length : Int) then (spec_CanShrink.j1 k x2 x8 x9 x8 x307000 x307001 x307002 x307003 x307004 x316000 x316001 x316002 x316003 x316004) else (spec_CanShrink.j1 k x2 x8 x9 false x307000 x307001 x307002 x307003 x307004 x316000 x316001 x316002 x316003 x316004)
def spec_CanShrink.j1 : Nat → List (S28) → Bool → Int → Bool → Int → Int → Int → ByteArray → List (S77) → Int → Int → Int → ByteArray → List (S77) → Option (Bool)
 | 0, _, _, _, _, _, _, _, _, _, _, _, _, _, _ => none
 | k + 1, x2, x8, x9, x22, x307000, x307001, x307002, x307003, x307004, x316000, x316001, x316002, x316003, x316004 => if x22 = true then (if 0 ≤ x9 then (if x9 < (x2.length : Int) then ((spec_FeaturesMeet.f k x316000 x316001 x316002 x316003 x316004 ((rd_T28 x2 x9).f0) ((rd_T28 x2 x9).f1) ((rd_T28 x2 x9).f2) ((rd_T28 x2 x9).f3) ((rd_T28 x2 x9).f4)).bind fun t317 => ((spec_FeaturesMeet.f k x307000 x307001 x307002 x307003 x307004 ((rd_T28 x2 x9).f0) ((rd_T28 x2 x9).f1) ((rd_T28 x2 x9).f2) ((rd_T28 x2 x9).f3) ((rd_T28 x2 x9).f4)).bind fun t319 => (spec_CanShrink.l0 k x2 (decide (t317 ≤ t319)) (wrap64 (x9 + 1)) x307000 x307001 x307002 x307003 x307004 x316000 x316001 x316002 x316003 x316004))) else (none)) else (none)) else (some x8)
end
def spec_CanShrink.f (k : Nat) (a0_0 : Int) (a0_1 : Int) (a0_2 : Int) (a0_3 : ByteArray) (l0_4 : List (S77)) (a1 : Int) (l2 : List (S28)) : Option (Bool) := (spec_DropFrom.f k a0_0 a0_1 a0_2 a0_3 l0_4 a1).bind fun bt307 => (spec_CanShrink.l0 k l2 bt307.2.2.2.2.2 0 a0_0 a0_1 a0_2 a0_3 l0_4 bt307.1 bt307.2.1 bt307.2.2.1 bt307.2.2.2.1 bt307.2.2.2.2.1)
def spec_CornerArea.j0 : Nat → List (S77) → Int → Bool → Option (Int)
 | 0, _, _, _ => none
 | k + 1, x0, x1, x16 => if x16 = true then (some (-1)) else (if 0 ≤ (wrap64 (x1 - 1)) then (if (wrap64 (x1 - 1)) < (x0.length : Int) then (if 0 ≤ x1 then (if x1 < (x0.length : Int) then (if 0 ≤ (wrap64 (x1 + 1)) then (if (wrap64 (x1 + 1)) < (x0.length : Int) then ((spec_l4Cross.f ((rd_T77 x0 (wrap64 (x1 - 1))).f0) ((rd_T77 x0 (wrap64 (x1 - 1))).f1) ((rd_T77 x0 x1).f0) ((rd_T77 x0 x1).f1) ((rd_T77 x0 (wrap64 (x1 + 1))).f0) ((rd_T77 x0 (wrap64 (x1 + 1))).f1)).bind fun t325 => ((spec_Max.f t325 (wrap64 (-t325))).bind fun t326 => (some t326))) else (none)) else (none)) else (none)) else (none)) else (none)) else (none))
def spec_CornerArea.f (k : Nat) (l0 : List (S77)) (a1 : Int) : Option (Int) := (spec_IsLine.f k l0).bind fun t320 => (if t320 = true then ((spec_l1In.f a1 1 (wrap64 ((l0.length : Int) - 2))).bind fun t321 => (spec_CornerArea.j0 k l0 a1 (!t321))) else (spec_CornerArea.j0 k l0 a1 true))
def spec_CornerSize.j0 : Nat → List (S77) → Int → Bool → Option (Int)
 | 0, _, _, _ => none
 | k + 1, x0, x1, x16 => if x16 = true then (some (-1)) else (if (x0.length : Int) = 0 then (none) else (if 0 ≤ (Int.tmod (wrap64 ((wrap64 (x1 + (x0.length : Int))) - 1)) (x0.length : Int)) then (if (Int.tmod (wrap64 ((wrap64 (x1 + (x0.length : Int))) - 1)) (x0.length : Int)) < (x0.length : Int) then (if 0 ≤ x1 then (if x1 < (x0.length : Int) then (if 0 ≤ (Int.tmod (wrap64 (x1 + 1)) (x0.length : Int)) then (if (Int.tmod (wrap64 (x1 + 1)) (x0.length : Int)) < (x0.length : Int) then ((spec_l4Cross.f ((rd_T77 x0 (Int.tmod (wrap64 ((wrap64 (x1 + (x0.length : Int))) - 1)) (x0.length : Int))).f0) ((rd_T77 x0 (Int.tmod (wrap64 ((wrap64 (x1 + (x0.length : Int))) - 1)) (x0.length : Int))).f1) ((rd_T77 x0 x1).f0) ((rd_T77 x0 x1).f1) ((rd_T77 x0 (Int.tmod (wrap64 (x1 + 1)) (x0.length : Int))).f0) ((rd_T77 x0 (Int.tmod (wrap64 (x1 + 1)) (x0.length : Int))).f1)).bind fun t332 => ((spec_Max.f t332 (wrap64 (-t332))).bind fun t333 => (some t333))) else (none)) else (none)) else (none)) else (none)) else (none)) else (none)))
def spec_CornerSize.f (k : Nat) (l0 : List (S77)) (a1 : Int) : Option (Int) := (spec_IsRing.f k l0).bind fun t327 => (if t327 = true then ((spec_l1In.f a1 0 (wrap64 ((l0.length : Int) - 1))).bind fun t328 => (spec_CornerSize.j0 k l0 a1 (!t328))) else (spec_CornerSize.j0 k l0 a1 true))
def spec_SizeAt.f (k : Nat) (a0_0 : Int) (a0_1 : Int) (a0_2 : Int) (a0_3 : ByteArray) (l0_4 : List (S77)) (a1 : Int) : Option (Int) := if a0_1 = 2 then ((spec_CornerArea.f k l0_4 a1).bind fun t335 => (some t335)) else (if a0_1 = 3 then ((spec_CornerSize.f k l0_4 a1).bind fun t336 => (some t336)) else (some (-1)))
mutual
def spec_ShrinkFeature.l0 : Nat → List (S28) → Int → Int → Int → Int → ByteArray → List (S77) → Int → Int → Int → ByteArray → List (S77) → Option (Int × Int × Int × ByteArray × (List (S77)))
 | 0, _, _, _, _, _, _, _, _, _, _, _, _ => none
 | k + 1, x1, x2, x338000, x338001, x338002, x338003, x338004, x347000, x347001, x347002, x347003, x347004 => (spec_IsFeature.f k x338000 x338001 x338002 x338003 x338004).bind fun t347 => (if t347 = true then (spec_ShrinkFeature.l1 k x1 x2 (-1) 0 x338000 x338001 x338002 x338003 x338004 x347000 x347001 x347002 x347003 x347004) else (some (x347000, x347001, x347002, x347003, x347004)))
def spec_ShrinkFeature.l1 : Nat → List (S28) → Int → Int → Int → Int → Int → Int → ByteArray → List (S77) → Int → Int → Int → ByteArray → List (S77) → Option (Int × Int × Int × ByteArray × (List (S77)))
 | 0, _, _, _, _, _, _, _, _, _, _, _, _, _, _ => none
 | k + 1, x1, x2, x8, x9, x338000, x338001, x338002, x338003, x338004, x347000, x347001, x347002, x347003, x347004 => if x9 < (x347004.length : Int) then ((spec_SizeAt.f k x347000 x347001 x347002 x347003 x347004 x9).bind fun t356 => (if t356 ≥ 0 then (if t356 < x2 then (if x8 < 0 then ((spec_CanShrink.f k x347000 x347001 x347002 x347003 x347004 x9 x1).bind fun t357 => (if t357 = true then (spec_ShrinkFeature.l1 k x1 x2 x9 (wrap64 (x9 + 1)) x338000 x338001 x338002 x338003 x338004 x347000 x347001 x347002 x347003 x347004) else (spec_ShrinkFeature.l1 k x1 x2 x8 (wrap64 (x9 + 1)) x338000 x338001 x338002 x338003 x338004 x347000 x347001 x347002 x347003 x347004))) else ((spec_SizeAt.f k x347000 x347001 x347002 x347003 x347004 x8).bind fun t358 => (if t356 < t358 then ((spec_CanShrink.f k x347000 x347001 x347002 x347003 x347004 x9 x1).bind fun t359 => (if t359 = true then (spec_ShrinkFeature.l1 k x1 x2 x9 (wrap64 (x9 + 1)) x338000 x338001 x338002 x338003 x338004 x347000 x347001 x347002 x347003 x347004) else (spec_ShrinkFeature.l1 k x1 x2 x8 (wrap64 (x9 + 1)) x338000 x338001 x338002 x338003 x338004 x347000 x347001 x347002 x347003 x347004))) else (spec_ShrinkFeature.l1 k x1 x2 x8 (wrap64 (x9 + 1)) x338000 x338001 x338002 x338003 x338004 x347000 x347001 x347002 x347003 x347004)))) else (spec_ShrinkFeature.l1 k x1 x2 x8 (wrap64 (x9 + 1)) x338000 x338001 x338002 x338003 x338004 x347000 x347001 x347002 x347003 x347004)) else (spec_ShrinkFeature.l1 k x1 x2 x8 (wrap64 (x9 + 1)) x338000 x338001 x338002 x338003 x338004 x347000 x347001 x347002 x347003 x347004))) else (if x8 < 0 then (some (x347000, x347001, x347002, x347003, x347004)) else ((spec_DropFrom.f k x347000 x347001 x347002 x347003 x347004 x8).bind fun bt348 => (spec_ShrinkFeature.l0 k x1 x2 x338000 x338001 x338002 x338003 x338004 bt348.1 bt348.2.1 bt348.2.2.1 bt348.2.2.2.1 bt348.2.2.2.2.1)))
end
def spec_ShrinkFeature.f (k : Nat) (a0_0 : Int) (a0_1 : Int) (a0_2 : Int) (a0_3 : ByteArray) (l0_4 : List (S77)) (l1 : List (S28)) (a2 : Int) : Option (Int × Int × Int × ByteArray × (List (S77))) := (spec_l9Feature.f a0_0 a0_1 a0_2 a0_3 l0_4).bind fun bt339 => (spec_ShrinkFeature.l0 k l1 a2 a0_0 a0_1 a0_2 a0_3 l0_4 bt339.1 bt339.2.1 bt339.2.2.1 bt339.2.2.2.1 bt339.2.2.2.2)
def spec_l9Copy.l0 : Nat → List (S28) → List (S28) → Int → Option ((List (S28)))
 | 0, _, _, _ => none
 | k + 1, x0, x3, x4 => if x4 < (x0.length : Int) then (if 0 ≤ x4 then ((spec_l9Feature.f ((rd_T28 x0 x4).f0) ((rd_T28 x0 x4).f1) ((rd_T28 x0 x4).f2) ((rd_T28 x0 x4).f3) ((rd_T28 x0 x4).f4)).bind fun bt364 => (if x3.length < 2199023255552 then (spec_l9Copy.l0 k x0 (x3 ++ [(⟨bt364.1, bt364.2.1, bt364.2.2.1, bt364.2.2.2.1, bt364.2.2.2.2⟩ : S28)]) (wrap64 (x4 + 1))) else (none))) else (none)) else (some x3)
def spec_l9Copy.f (k : Nat) (l0 : List (S28)) : Option ((List (S28))) := spec_l9Copy.l0 k l0 (([] : List (S28))) 0
def spec_IsSource.l0 : Nat → List (S28) → Int → Option (Bool)
 | 0, _, _ => none
 | k + 1, x0, x3 => if x3 < (x0.length : Int) then (if 0 ≤ x3 then ((spec_IsFeature.f k ((rd_T28 x0 x3).f0) ((rd_T28 x0 x3).f1) ((rd_T28 x0 x3).f2) ((rd_T28 x0 x3).f3) ((rd_T28 x0 x3).f4)).bind fun t375 => (if t375 = true then (if x3 > 0 then (if 0 ≤ (wrap64 (x3 - 1)) then (if (wrap64 (x3 - 1)) < (x0.length : Int) then (if ((rd_T28 x0 (wrap64 (x3 - 1))).f0) ≥ ((rd_T28 x0 x3).f0) then (some false) else (spec_IsSource.l0 k x0 (wrap64 (x3 + 1)))) else (none)) else (none)) else (spec_IsSource.l0 k x0 (wrap64 (x3 + 1)))) else (some false))) else (none)) else (some (decide ((x0.length : Int) ≤ 16)))
def spec_IsSource.f (k : Nat) (l0 : List (S28)) : Option (Bool) := spec_IsSource.l0 k l0 0
mutual
def spec_ShrinkAll.l0 : Nat → List (S28) → Int → List (S28) → Int → Option ((List (S28)))
 | 0, _, _, _, _ => none
 | k + 1, x0, x1, x5, x6 => if x6 < (x5.length : Int) then ((spec_IsSource.f k x0).bind fun t452 => (spec_ShrinkAll.j1 k x0 x1 x5 x6 t452)) else (spec_ShrinkAll.j1 k x0 x1 x5 x6 false)
def spec_ShrinkAll.j1 : Nat → List (S28) → Int → List (S28) → Int → Bool → Option ((List (S28)))
 | 0, _, _, _, _, _ => none
 | k + 1, x0, x1, x5, x6, x17 => if x17 = true then (if 0 ≤ x6 then (if x6 ≤ (x5.length : Int) then ((spec_l9Copy.f k (x5.take (x6 : Int).toNat)).bind fun t458 => (if 0 ≤ (wrap64 (x6 + 1)) then (if (wrap64 (x6 + 1)) ≤ (x5.length : Int) then ((spec_l9Copy.f k (x5.drop ((wrap64 (x6 + 1)) : Int).toNat)).bind fun t466 => (if t458.length + t466.length < 2199023255552 then (if x6 < (x5.length : Int) then ((spec_ShrinkFeature.f k ((rd_T28 x5 x6).f0) ((rd_T28 x5 x6).f1) ((rd_T28 x5 x6).f2) ((rd_T28 x5 x6).f3) ((rd_T28 x5 x6).f4) (t458 ++ t466) x1).bind fun bt473 => (spec_ShrinkAll.l0 k x0 x1 (x5.set (x6 : Int).toNat (⟨bt473.1, bt473.2.1, bt473.2.2.1, bt473.2.2.2.1, bt473.2.2.2.2⟩ : S28)) (wrap64 (x6 + 1)))) else (none)) else (none))) else (none)) else (none))) else (none)) else (none)) else (some x5)
end
def spec_ShrinkAll.f (k : Nat) (l0 : List (S28)) (a1 : Int) : Option ((List (S28))) := (spec_l9Copy.f k l0).bind fun t449 => (spec_ShrinkAll.l0 k l0 a1 t449 0)
def impl_Point.f (l0 : List S77) : Option (List S77) := if l0.length < 8796093022208 then some l0 else none
def impl_cloneFeature.f (a0_0 : Int) (a0_1 : Int) (a0_2 : Int) (a0_3 : ByteArray) (l0_4 : List (S77)) : Option (Int × Int × Int × ByteArray × (List (S77))) := (impl_Point.f l0_4).bind fun t380 => (some (a0_0, a0_1, a0_2, a0_3, t380))
def impl_InRange.f (a0 : Int) (a1 : Int) (a2 : Int) : Option (Bool) := some (inR a0 a1 a2)
def impl_IsPoint.f (a0_0 : Int) (a0_1 : Int) : Option (Bool) := some (isPt a0_0 a0_1)
attribute [local go_sem high] eqA77
mutual
def impl_IsLine.j0 : Nat → List (S77) → Bool → Option (Bool)
 | 0, _, _ => none
 | k + 1, x0, x12 => if x12 = true then (some false) else (impl_IsLine.l0 k x0 x0 (x0.length : Int) 0)
def impl_IsLine.l0 : Nat → List (S77) → List (S77) → Int → Int → Option (Bool)
 | 0, _, _, _, _ => none
 | k + 1, x0, x13, x14, x15 => if x15 < x14 then (if 0 ≤ x15 then (if x15 < (x13.length : Int) then ((impl_IsPoint.f ((rd_T77 x13 x15).f0) ((rd_T77 x13 x15).f1)).bind fun t385 => (if t385 = true then (if x15 > 0 then (if 0 ≤ (wrap64 (x15 - 1)) then (if (wrap64 (x15 - 1)) < (x0.length : Int) then (if (((rd_T77 x13 x15).f0) == ((rd_T77 x0 (wrap64 (x15 - 1))).f0) && (((rd_T77 x13 x15).f1) == ((rd_T77 x0 (wrap64 (x15 - 1))).f1))) = true then (some false) else (impl_IsLine.l0 k x0 x13 x14 (wrap64 (x15 + 1)))) else (none)) else (none)) else (impl_IsLine.l0 k x0 x13 x14 (wrap64 (x15 + 1)))) else (some false))) else (none)) else (none)) else (some true)
end
def impl_IsLine.f (k : Nat) (l0 : List (S77)) : Option (Bool) := if (l0.length : Int) < 2 then (impl_IsLine.j0 k l0 true) else (impl_IsLine.j0 k l0 (decide ((l0.length : Int) > 10)))
def impl_without.f (l0 : List S77) (a1 : Int) : Option (List S77) := if 0 ≤ a1 then if a1 < (l0.length : Int) then if l0.length < 8796093022208 then some (l0.take a1.toNat ++ l0.drop (a1.toNat + 1)) else none else none else none
def impl_DropPoint.j0 : Nat → List (S77) → Int → Bool → Option ((List (S77)) × Bool)
 | 0, _, _, _ => none
 | k + 1, x0, x1, x17 => if x17 = true then ((impl_Point.f x0).bind fun t389 => (some (t389, false))) else ((impl_without.f x0 x1).bind fun t392 => ((impl_IsLine.f k t392).bind fun t395 => (if t395 = true then (some (t392, true)) else ((impl_Point.f x0).bind fun t396 => (some (t396, false))))))
def impl_DropPoint.f (k : Nat) (l0 : List (S77)) (a1 : Int) : Option ((List (S77)) × Bool) := (impl_IsLine.f k l0).bind fun t387 => (if t387 = true then ((impl_InRange.f a1 1 (wrap64 ((l0.length : Int) - 2))).bind fun t388 => (impl_DropPoint.j0 k l0 a1 (!t388))) else (impl_DropPoint.j0 k l0 a1 true))
def impl_around.l0 : Nat → List (S77) → List (S95) → List (S77) → Int → Int → Option ((List (S95)))
 | 0, _, _, _, _, _ => none
 | k + 1, x0, x3, x7, x8, x9 => if x9 < x8 then (if 0 ≤ x9 then (if x9 < (x7.length : Int) then (if (x0.length : Int) = 0 then (none) else (if 0 ≤ (Int.tmod (wrap64 (x9 + 1)) (x0.length : Int)) then (if (Int.tmod (wrap64 (x9 + 1)) (x0.length : Int)) < (x0.length : Int) then (if x3.length < 4398046511104 then (impl_around.l0 k x0 (x3 ++ [(⟨(⟨(rd_T77 x7 x9).f0, (rd_T77 x7 x9).f1⟩ : S77), (⟨(rd_T77 x0 (Int.tmod (wrap64 (x9 + 1)) (x0.length : Int))).f0, (rd_T77 x0 (Int.tmod (wrap64 (x9 + 1)) (x0.length : Int))).f1⟩ : S77)⟩ : S95)]) x7 x8 (wrap64 (x9 + 1))) else (none)) else (none)) else (none))) else (none)) else (none)) else (some x3)
def impl_around.f (k : Nat) (l0 : List (S77)) : Option ((List (S95))) := impl_around.l0 k l0 (([] : List (S95))) l0 (l0.length : Int) 0
def impl_IsSegment.f (a0_0 : Int) (a0_1 : Int) (a0_2 : Int) (a0_3 : Int) : Option (Bool) := some (isSeg a0_0 a0_1 a0_2 a0_3)
def cmp_isNaN_int.f (a0 : Int) : Option (Bool) := some (false)
def cmp_Compare_int.f (a0 : Int) (a1 : Int) : Option (Int) := some (cmpI a0 a1)
def impl_cross.f (a0_0 : Int) (a0_1 : Int) (a1_0 : Int) (a1_1 : Int) (a2_0 : Int) (a2_1 : Int) : Option (Int) := some (crossI a0_0 a0_1 a1_0 a1_1 a2_0 a2_1)
def impl_SideOf.f (a0_0 : Int) (a0_1 : Int) (a1_0 : Int) (a1_1 : Int) (a2_0 : Int) (a2_1 : Int) : Option (Int) := some (sideI a0_0 a0_1 a1_0 a1_1 a2_0 a2_1)
def impl_BeforePoint.f (a0_0 : Int) (a0_1 : Int) (a1_0 : Int) (a1_1 : Int) : Option (Bool) := some (beforeI a0_0 a0_1 a1_0 a1_1)
def impl_TurnSegment.f (a0_0 : Int) (a0_1 : Int) (a0_2 : Int) (a0_3 : Int) : Option (Int × Int × Int × Int) := some (a0_2, a0_3, a0_0, a0_1)
def impl_forward.f (a0_0 : Int) (a0_1 : Int) (a0_2 : Int) (a0_3 : Int) : Option (Int × Int × Int × Int) := (impl_BeforePoint.f a0_2 a0_3 a0_0 a0_1).bind fun t412 => (if t412 = true then ((impl_TurnSegment.f a0_0 a0_1 a0_2 a0_3).bind fun bt413 => (some (bt413.1, bt413.2.1, bt413.2.2.1, bt413.2.2.2))) else (some (a0_0, a0_1, a0_2, a0_3)))
def impl_IsOn.f (a0_0 : Int) (a0_1 : Int) (a0_2 : Int) (a0_3 : Int) (a1_0 : Int) (a1_1 : Int) : Option (Bool) := some (isOnI a0_0 a0_1 a0_2 a0_3 a1_0 a1_1)
attribute [local go_sem high] eqA77
mutual
def impl_HowMeet.j0 : Nat → Bool → Int → Int → Int → Int → Int → Int → Int → Int → Option (Int)
 | 0, _, _, _, _, _, _, _, _, _ => none
 | k + 1, x16, x418000, x418001, x418002, x418003, x419000, x419001, x419002, x419003 => if x16 = true then (some 0) else ((impl_SideOf.f x418000 x418001 x418002 x418003 x419000 x419001).bind fun t421 => ((impl_SideOf.f x418000 x418001 x418002 x418003 x419002 x419003).bind fun t422 => (if t421 = 0 then (impl_HowMeet.j1 k t421 t422 (t422 == 0) x418000 x418001 x418002 x418003 x419000 x419001 x419002 x419003) else (impl_HowMeet.j1 k t421 t422 false x418000 x418001 x418002 x418003 x419000 x419001 x419002 x419003))))
def impl_HowMeet.j1 : Nat → Int → Int → Bool → Int → Int → Int → Int → Int → Int → Int → Int → Option (Int)
 | 0, _, _, _, _, _, _, _, _, _, _, _ => none
 | k + 1, x5, x6, x36, x418000, x418001, x418002, x418003, x419000, x419001, x419002, x419003 => if x36 = true then ((impl_forward.f x418000 x418001 x418002 x418003).bind fun bt423 => ((impl_forward.f x419000 x419001 x419002 x419003).bind fun bt427 => ((impl_BeforePoint.f bt423.1 bt423.2.1 bt427.1 bt427.2.1).bind fun t433 => (if t433 = true then (impl_HowMeet.j2 k bt427.1 bt427.2.1 bt427.2.2.1 bt427.2.2.2 bt427.1 bt427.2.1 bt423.2.2.1 bt423.2.2.2) else (impl_HowMeet.j2 k bt427.1 bt427.2.1 bt427.2.2.1 bt427.2.2.2 bt423.1 bt423.2.1 bt423.2.2.1 bt423.2.2.2))))) else (if (wrap64 (x5 * x6)) < 0 then ((impl_SideOf.f x419000 x419001 x419002 x419003 x418000 x418001).bind fun t436 => ((impl_SideOf.f x419000 x419001 x419002 x419003 x418002 x418003).bind fun t437 => (impl_HowMeet.j4 k (decide ((wrap64 (t436 * t437)) < 0)) x418000 x418001 x418002 x418003 x419000 x419001 x419002 x419003))) else (impl_HowMeet.j4 k false x418000 x418001 x418002 x418003 x419000 x419001 x419002 x419003))
def impl_HowMeet.j2 : Nat → Int → Int → Int → Int → Int → Int → Int → Int → Option (Int)
 | 0, _, _, _, _, _, _, _, _ => none
 | k + 1, x419000, x419001, x419002, x419003, x432000, x432001, x433000, x433001 => (impl_BeforePoint.f x419002 x419003 x433000 x433001).bind fun t434 => (if t434 = true then (impl_HowMeet.j3 k x432000 x432001 x419002 x419003) else (impl_HowMeet.j3 k x432000 x432001 x433000 x433001))
def impl_HowMeet.j3 : Nat → Int → Int → Int → Int → Option (Int)
 | 0, _, _, _, _ => none
 | k + 1, x432000, x432001, x433000, x433001 => (impl_BeforePoint.f x433000 x433001 x432000 x432001).bind fun t435 => (if t435 = true then (some 0) else (if (x432000 == x433000 && (x432001 == x433001)) = true then (some 1) else (some 3)))
def impl_HowMeet.j4 : Nat → Bool → Int → Int → Int → Int → Int → Int → Int → Int → Option (Int)
 | 0, _, _, _, _, _, _, _, _, _ => none
 | k + 1, x86, x418000, x418001, x418002, x418003, x419000, x419001, x419002, x419003 => if x86 = true then (some 2) else ((impl_IsOn.f x418000 x418001 x418002 x418003 x419000 x419001).bind fun t438 => (if t438 = true then (some 1) else ((impl_IsOn.f x418000 x418001 x418002 x418003 x419002 x419003).bind fun t439 => (if t439 = true then (some 1) else ((impl_IsOn.f x419000 x419001 x419002 x419003 x418000 x418001).bind fun t440 => (if t440 = true then (some 1) else ((impl_IsOn.f x419000 x419001 x419002 x419003 x418002 x418003).bind fun t441 => (if t441 = true then (some 1) else (some 0)))))))))
end
def impl_HowMeet.f (k : Nat) (a0_0 : Int) (a0_1 : Int) (a0_2 : Int) (a0_3 : Int) (a1_0 : Int) (a1_1 : Int) (a1_2 : Int) (a1_3 : Int) : Option (Int) := (impl_IsSegment.f a0_0 a0_1 a0_2 a0_3).bind fun t419 => (if t419 = true then ((impl_IsSegment.f a1_0 a1_1 a1_2 a1_3).bind fun t420 => (impl_HowMeet.j0 k (!t420) a0_0 a0_1 a0_2 a0_3 a1_0 a1_1 a1_2 a1_3)) else (impl_HowMeet.j0 k true a0_0 a0_1 a0_2 a0_3 a1_0 a1_1 a1_2 a1_3))
mutual
def impl_IsRing.j0 : Nat → List (S77) → Bool → Option (Bool)
 | 0, _, _ => none
 | k + 1, x0, x14 => if x14 = true then (some false) else ((impl_around.f k x0).bind fun t442 => (impl_IsRing.l0 k t442 (t442.length : Int) 0))
def impl_IsRing.l0 : Nat → List (S95) → Int → Int → Option (Bool)
 | 0, _, _, _ => none
 | k + 1, x3, x18, x19 => if x19 < x18 then (if 0 ≤ x19 then (if x19 < (x3.length : Int) then ((impl_IsSegment.f ((rd_T95 x3 x19).f0.f0) ((rd_T95 x3 x19).f0.f1) ((rd_T95 x3 x19).f1.f0) ((rd_T95 x3 x19).f1.f1)).bind fun t446 => (if t446 = true then (impl_IsRing.l1 k x3 x19 x18 x19 x19 0) else (some false))) else (none)) else (none)) else (some true)
def impl_IsRing.l1 : Nat → List (S95) → Int → Int → Int → Int → Int → Option (Bool)
 | 0, _, _, _, _, _, _ => none
 | k + 1, x3, x4, x18, x19, x28, x29 => if x29 < x28 then (if x29 = (wrap64 (x4 - 1)) then (impl_IsRing.j3 k x3 x4 x29 0 x18 x19 x28 x29 true) else (if x29 = 0 then (impl_IsRing.j3 k x3 x4 x29 0 x18 x19 x28 x29 (x4 == (wrap64 ((x3.length : Int) - 1)))) else (impl_IsRing.j3 k x3 x4 x29 0 x18 x19 x28 x29 false))) else (impl_IsRing.l0 k x3 x18 (wrap64 (x19 + 1)))
def impl_IsRing.j3 : Nat → List (S95) → Int → Int → Int → Int → Int → Int → Int → Bool → Option (Bool)
 | 0, _, _, _, _, _, _, _, _, _ => none
 | k + 1, x3, x4, x5, x6, x18, x19, x28, x29, x46 => if x46 = true then (if 0 ≤ x4 then (if x4 < (x3.length : Int) then (if 0 ≤ x5 then (if x5 < (x3.length : Int) then ((impl_HowMeet.f k ((rd_T95 x3 x4).f0.f0) ((rd_T95 x3 x4).f0.f1) ((rd_T95 x3 x4).f1.f0) ((rd_T95 x3 x4).f1.f1) ((rd_T95 x3 x5).f0.f0) ((rd_T95 x3 x5).f0.f1) ((rd_T95 x3 x5).f1.f0) ((rd_T95 x3 x5).f1.f1)).bind fun t449 => (if t449 = 1 then (impl_IsRing.l1 k x3 x4 x18 x19 x28 (wrap64 (x29 + 1))) else (some false))) else (none)) else (none)) else (none)) else (none)) else (if 0 ≤ x4 then (if x4 < (x3.length : Int) then (if 0 ≤ x5 then (if x5 < (x3.length : Int) then ((impl_HowMeet.f k ((rd_T95 x3 x4).f0.f0) ((rd_T95 x3 x4).f0.f1) ((rd_T95 x3 x4).f1.f0) ((rd_T95 x3 x4).f1.f1) ((rd_T95 x3 x5).f0.f0) ((rd_T95 x3 x5).f0.f1) ((rd_T95 x3 x5).f1.f0) ((rd_T95 x3 x5).f1.f1)).bind fun t452 => (if t452 = x6 then (impl_IsRing.l1 k x3 x4 x18 x19 x28 (wrap64 (x29 + 1))) else (some false))) else (none)) else (none)) else (none)) else (none))
end
def impl_IsRing.f (k : Nat) (l0 : List (S77)) : Option (Bool) := if (l0.length : Int) < 3 then (impl_IsRing.j0 k l0 true) else (impl_IsRing.j0 k l0 (decide ((l0.length : Int) > 10)))
def impl_RingSegments.f (k : Nat) (l0 : List (S77)) : Option ((List (S95))) := (impl_IsRing.f k l0).bind fun t453 => (if t453 = true then ((impl_around.f k l0).bind fun t454 => (some t454)) else (some (([] : List (S95)))))
def impl_TwiceArea.l0 : Nat → Int → List (S95) → Int → Int → Option (Int)
 | 0, _, _, _, _ => none
 | k + 1, x3, x7, x8, x9 => if x9 < x8 then (if 0 ≤ x9 then (if x9 < (x7.length : Int) then (impl_TwiceArea.l0 k (wrap64 (x3 + (wrap64 ((wrap64 (((rd_T95 x7 x9).f0.f0) * ((rd_T95 x7 x9).f1.f1))) - (wrap64 (((rd_T95 x7 x9).f0.f1) * ((rd_T95 x7 x9).f1.f0))))))) x7 x8 (wrap64 (x9 + 1))) else (none)) else (none)) else (some x3)
def impl_TwiceArea.f (k : Nat) (l0 : List (S77)) : Option (Int) := (impl_RingSegments.f k l0).bind fun t460 => (impl_TwiceArea.l0 k 0 t460 (t460.length : Int) 0)
def impl_DropCorner.j0 : Nat → List (S77) → Int → Bool → Option ((List (S77)) × Bool)
 | 0, _, _, _ => none
 | k + 1, x0, x1, x17 => if x17 = true then ((impl_Point.f x0).bind fun t467 => (some (t467, false))) else ((impl_without.f x0 x1).bind fun t470 => ((impl_IsRing.f k t470).bind fun t473 => (if t473 = true then ((impl_TwiceArea.f k t470).bind fun t474 => ((cmp_Compare_int.f t474 0).bind fun t475 => ((impl_TwiceArea.f k x0).bind fun t476 => ((cmp_Compare_int.f t476 0).bind fun t477 => (if t475 = t477 then (some (t470, true)) else ((impl_Point.f x0).bind fun t478 => (some (t478, false)))))))) else ((impl_Point.f x0).bind fun t481 => (some (t481, false))))))
def impl_DropCorner.f (k : Nat) (l0 : List (S77)) (a1 : Int) : Option ((List (S77)) × Bool) := (impl_IsRing.f k l0).bind fun t465 => (if t465 = true then ((impl_InRange.f a1 0 (wrap64 ((l0.length : Int) - 1))).bind fun t466 => (impl_DropCorner.j0 k l0 a1 (!t466))) else (impl_DropCorner.j0 k l0 a1 true))
def impl_IsName.l0 : Nat → ByteArray → Int → Int → Option (Bool)
 | 0, _, _, _ => none
 | k + 1, x0, x5, x6 => if x6 < x5 then (if 0 ≤ x6 then (if x6 < (x0.size : Int) then (if (bt x0 x6) < 97 then (some false) else (if (bt x0 x6) > 122 then (some false) else (impl_IsName.l0 k x0 x5 (wrap64 (x6 + 1))))) else (none)) else (none)) else ((impl_InRange.f (x0.size : Int) 1 8).bind fun t484 => (some t484))
def impl_IsName.f (k : Nat) (a0 : ByteArray) : Option (Bool) := impl_IsName.l0 k a0 (a0.size : Int) 0
def impl_SegmentsOf.l0 : Nat → List (S77) → List (S95) → Int → Option ((List (S95)))
 | 0, _, _, _ => none
 | k + 1, x0, x3, x4 => if x4 < (x0.length : Int) then (if 0 ≤ (wrap64 (x4 - 1)) then (if (wrap64 (x4 - 1)) < (x0.length : Int) then (if 0 ≤ x4 then (if x3.length < 4398046511104 then (impl_SegmentsOf.l0 k x0 (x3 ++ [(⟨(⟨(rd_T77 x0 (wrap64 (x4 - 1))).f0, (rd_T77 x0 (wrap64 (x4 - 1))).f1⟩ : S77), (⟨(rd_T77 x0 x4).f0, (rd_T77 x0 x4).f1⟩ : S77)⟩ : S95)]) (wrap64 (x4 + 1))) else (none)) else (none)) else (none)) else (none)) else (some x3)
def impl_SegmentsOf.f (k : Nat) (l0 : List (S77)) : Option ((List (S95))) := (some (([] : List (S95)) : List (S95))).bind fun y485 => ((impl_IsLine.f k l0).bind fun t488 => (if t488 = true then (impl_SegmentsOf.l0 k l0 y485 1) else (some y485)))
mutual
def impl_IsSimple.l0 : Nat → List (S95) → Int → Int → Option (Bool)
 | 0, _, _, _ => none
 | k + 1, x3, x13, x14 => if x14 < x13 then (impl_IsSimple.l1 k x3 x14 x13 x14 x14 0) else (some true)
def impl_IsSimple.l1 : Nat → List (S95) → Int → Int → Int → Int → Int → Option (Bool)
 | 0, _, _, _, _, _, _ => none
 | k + 1, x3, x4, x13, x14, x17, x18 => if x18 < x17 then (if x18 = (wrap64 (x4 - 1)) then (if 0 ≤ x4 then (if x4 < (x3.length : Int) then (if 0 ≤ x18 then (if x18 < (x3.length : Int) then ((impl_HowMeet.f k ((rd_T95 x3 x4).f0.f0) ((rd_T95 x3 x4).f0.f1) ((rd_T95 x3 x4).f1.f0) ((rd_T95 x3 x4).f1.f1) ((rd_T95 x3 x18).f0.f0) ((rd_T95 x3 x18).f0.f1) ((rd_T95 x3 x18).f1.f0) ((rd_T95 x3 x18).f1.f1)).bind fun t500 => (if t500 = 1 then (impl_IsSimple.l1 k x3 x4 x13 x14 x17 (wrap64 (x18 + 1))) else (some false))) else (none)) else (none)) else (none)) else (none)) else (if 0 ≤ x4 then (if x4 < (x3.length : Int) then (if 0 ≤ x18 then (if x18 < (x3.length : Int) then ((impl_HowMeet.f k ((rd_T95 x3 x4).f0.f0) ((rd_T95 x3 x4).f0.f1) ((rd_T95 x3 x4).f1.f0) ((rd_T95 x3 x4).f1.f1) ((rd_T95 x3 x18).f0.f0) ((rd_T95 x3 x18).f0.f1) ((rd_T95 x3 x18).f1.f0) ((rd_T95 x3 x18).f1.f1)).bind fun t503 => (if t503 = 0 then (impl_IsSimple.l1 k x3 x4 x13 x14 x17 (wrap64 (x18 + 1))) else (some false))) else (none)) else (none)) else (none)) else (none))) else (impl_IsSimple.l0 k x3 x13 (wrap64 (x14 + 1)))
end
def impl_IsSimple.f (k : Nat) (l0 : List (S77)) : Option (Bool) := (impl_IsLine.f k l0).bind fun t494 => (if t494 = true then ((impl_SegmentsOf.f k l0).bind fun t495 => (impl_IsSimple.l0 k t495 (t495.length : Int) 0)) else (some false))
def impl_IsFeature.j0 : Nat → Bool → Int → Int → Int → ByteArray → List (S77) → Option (Bool)
 | 0, _, _, _, _, _, _ => none
 | k + 1, x23, x505000, x505001, x505002, x505003, x505004 => if x23 = true then (some false) else (if x505001 = 1 then (if (x505004.length : Int) = 1 then (if 0 < (x505004.length : Int) then ((impl_IsPoint.f ((rd_T77 x505004 0).f0) ((rd_T77 x505004 0).f1)).bind fun t509 => (some t509)) else (none)) else (some false)) else (if x505001 = 2 then ((impl_IsSimple.f k x505004).bind fun t510 => (some t510)) else (if x505001 = 3 then ((impl_IsRing.f k x505004).bind fun t511 => (some t511)) else (some false))))
def impl_IsFeature.f (k : Nat) (a0_0 : Int) (a0_1 : Int) (a0_2 : Int) (a0_3 : ByteArray) (l0_4 : List (S77)) : Option (Bool) := (impl_InRange.f a0_0 1 99).bind fun t505 => (if t505 = true then ((impl_InRange.f a0_2 0 9).bind fun t506 => (if t506 = true then (if a0_3.toList = ([] : List UInt8) then (impl_IsFeature.j0 k false a0_0 a0_1 a0_2 a0_3 l0_4) else ((impl_IsName.f k a0_3).bind fun t507 => (impl_IsFeature.j0 k (!t507) a0_0 a0_1 a0_2 a0_3 l0_4))) else (impl_IsFeature.j0 k true a0_0 a0_1 a0_2 a0_3 l0_4))) else (impl_IsFeature.j0 k true a0_0 a0_1 a0_2 a0_3 l0_4))
def impl_DropFrom.j0 : Nat → Bool → Int → Int → Int → ByteArray → List (S77) → Int → Int → Int → ByteArray → List (S77) → Option (Int × Int × Int × ByteArray × (List (S77)) × Bool)
 | 0, _, _, _, _, _, _, _, _, _, _, _ => none
 | k + 1, x7, x513000, x513001, x513002, x513003, x513004, x522000, x522001, x522002, x522003, x522004 => if x7 = true then ((impl_IsFeature.f k x522000 x522001 x522002 x522003 x522004).bind fun t530 => (if t530 = true then (some (x522000, x522001, x522002, x522003, x522004, true)) else ((impl_cloneFeature.f x513000 x513001 x513002 x513003 x513004).bind fun bt531 => (some (bt531.1, bt531.2.1, bt531.2.2.1, bt531.2.2.2.1, bt531.2.2.2.2, false))))) else ((impl_cloneFeature.f x513000 x513001 x513002 x513003 x513004).bind fun bt538 => (some (bt538.1, bt538.2.1, bt538.2.2.1, bt538.2.2.2.1, bt538.2.2.2.2, false)))
def impl_DropFrom.f (k : Nat) (a0_0 : Int) (a0_1 : Int) (a0_2 : Int) (a0_3 : ByteArray) (l0_4 : List (S77)) (a1 : Int) : Option (Int × Int × Int × ByteArray × (List (S77)) × Bool) := (impl_cloneFeature.f a0_0 a0_1 a0_2 a0_3 l0_4).bind fun bt514 => (if a0_1 = 2 then ((impl_DropPoint.f k l0_4 a1).bind fun bt522 => (impl_DropFrom.j0 k bt522.2 a0_0 a0_1 a0_2 a0_3 l0_4 bt514.1 bt514.2.1 bt514.2.2.1 bt514.2.2.2.1 bt522.1)) else (if a0_1 = 3 then ((impl_DropCorner.f k l0_4 a1).bind fun bt526 => (impl_DropFrom.j0 k bt526.2 a0_0 a0_1 a0_2 a0_3 l0_4 bt514.1 bt514.2.1 bt514.2.2.1 bt514.2.2.2.1 bt526.1)) else (impl_DropFrom.j0 k false a0_0 a0_1 a0_2 a0_3 l0_4 bt514.1 bt514.2.1 bt514.2.2.1 bt514.2.2.2.1 bt514.2.2.2.2)))
mutual
def impl_greatest.l0 : Nat → List (S95) → Int → List (S95) → Int → Int → Option (Int)
 | 0, _, _, _, _, _ => none
 | k + 1, x1, x5, x10, x11, x12 => if x12 < x11 then (if 0 ≤ x12 then (if x12 < (x10.length : Int) then (impl_greatest.l1 k x1 x5 x10 x11 x12 x1 (x1.length : Int) 0 ((rd_T95 x10 x12).f0.f0) ((rd_T95 x10 x12).f0.f1) ((rd_T95 x10 x12).f1.f0) ((rd_T95 x10 x12).f1.f1)) else (none)) else (none)) else (some x5)
def impl_greatest.l1 : Nat → List (S95) → Int → List (S95) → Int → Int → List (S95) → Int → Int → Int → Int → Int → Int → Option (Int)
 | 0, _, _, _, _, _, _, _, _, _, _, _, _ => none
 | k + 1, x1, x5, x10, x11, x12, x16, x17, x18, x547000, x547001, x547002, x547003 => if x18 < x17 then (if 0 ≤ x18 then (if x18 < (x16.length : Int) then ((impl_HowMeet.f k x547000 x547001 x547002 x547003 ((rd_T95 x16 x18).f0.f0) ((rd_T95 x16 x18).f0.f1) ((rd_T95 x16 x18).f1.f0) ((rd_T95 x16 x18).f1.f1)).bind fun t549 => (impl_greatest.l1 k x1 (mx x5 t549) x10 x11 x12 x16 x17 (wrap64 (x18 + 1)) x547000 x547001 x547002 x547003)) else (none)) else (none)) else (impl_greatest.l0 k x1 x5 x10 x11 (wrap64 (x12 + 1)))
end
def impl_greatest.f (k : Nat) (l0 : List (S95)) (l1 : List (S95)) : Option (Int) := impl_greatest.l0 k l1 0 l0 (l0.length : Int) 0
def impl_PartsOf.f (k : Nat) (a0_0 : Int) (a0_1 : Int) (a0_2 : Int) (a0_3 : ByteArray) (l0_4 : List (S77)) : Option ((List (S95))) := (impl_IsFeature.f k a0_0 a0_1 a0_2 a0_3 l0_4).bind fun t551 => (if t551 = true then (if a0_1 = 2 then ((impl_SegmentsOf.f k l0_4).bind fun t552 => (some t552)) else (if a0_1 = 3 then ((impl_RingSegments.f k l0_4).bind fun t555 => (some t555)) else (some (([] : List (S95)))))) else (some (([] : List (S95)))))
def impl_FeaturesMeet.f (k : Nat) (a0_0 : Int) (a0_1 : Int) (a0_2 : Int) (a0_3 : ByteArray) (l0_4 : List (S77)) (a1_0 : Int) (a1_1 : Int) (a1_2 : Int) (a1_3 : ByteArray) (l1_4 : List (S77)) : Option (Int) := (impl_PartsOf.f k a0_0 a0_1 a0_2 a0_3 l0_4).bind fun t566 => ((impl_PartsOf.f k a1_0 a1_1 a1_2 a1_3 l1_4).bind fun t569 => ((impl_greatest.f k t566 t569).bind fun t572 => (some t572)))
def impl_CanShrink.l0 : Nat → List (S28) → Int → Int → Int → Int → Int → ByteArray → List (S77) → Int → Int → Int → ByteArray → List (S77) → Option (Bool)
 | 0, _, _, _, _, _, _, _, _, _, _, _, _, _ => none
 | k + 1, x19, x20, x21, x574000, x574001, x574002, x574003, x574004, x583000, x583001, x583002, x583003, x583004 => if x21 < x20 then (if 0 ≤ x21 then (if x21 < (x19.length : Int) then ((impl_FeaturesMeet.f k x583000 x583001 x583002 x583003 x583004 ((rd_T28 x19 x21).f0) ((rd_T28 x19 x21).f1) ((rd_T28 x19 x21).f2) ((rd_T28 x19 x21).f3) ((rd_T28 x19 x21).f4)).bind fun t585 => ((impl_FeaturesMeet.f k x574000 x574001 x574002 x574003 x574004 ((rd_T28 x19 x21).f0) ((rd_T28 x19 x21).f1) ((rd_T28 x19 x21).f2) ((rd_T28 x19 x21).f3) ((rd_T28 x19 x21).f4)).bind fun t586 => (if t585 > t586 then (some false) else (impl_CanShrink.l0 k x19 x20 (wrap64 (x21 + 1)) x574000 x574001 x574002 x574003 x574004 x583000 x583001 x583002 x583003 x583004)))) else (none)) else (none)) else (some true)
def impl_CanShrink.f (k : Nat) (a0_0 : Int) (a0_1 : Int) (a0_2 : Int) (a0_3 : ByteArray) (l0_4 : List (S77)) (a1 : Int) (l2 : List (S28)) : Option (Bool) := (impl_DropFrom.f k a0_0 a0_1 a0_2 a0_3 l0_4 a1).bind fun bt574 => (if bt574.2.2.2.2.2 = true then (impl_CanShrink.l0 k l2 (l2.length : Int) 0 a0_0 a0_1 a0_2 a0_3 l0_4 bt574.1 bt574.2.1 bt574.2.2.1 bt574.2.2.2.1 bt574.2.2.2.2.1) else (some false))
def impl_twice.f (a0_0 : Int) (a0_1 : Int) (a1_0 : Int) (a1_1 : Int) (a2_0 : Int) (a2_1 : Int) : Option (Int) := (impl_cross.f a0_0 a0_1 a1_0 a1_1 a2_0 a2_1).bind fun t590 => (some (mx t590 (wrap64 (-t590))))
def impl_CornerArea.f (k : Nat) (l0 : List (S77)) (a1 : Int) : Option (Int) := (impl_IsLine.f k l0).bind fun t591 => (if t591 = true then ((impl_InRange.f a1 1 (wrap64 ((l0.length : Int) - 2))).bind fun t592 => (if t592 = true then (if 0 ≤ (wrap64 (a1 - 1)) then (if (wrap64 (a1 - 1)) < (l0.length : Int) then (if 0 ≤ a1 then (if a1 < (l0.length : Int) then (if 0 ≤ (wrap64 (a1 + 1)) then (if (wrap64 (a1 + 1)) < (l0.length : Int) then ((impl_twice.f ((rd_T77 l0 (wrap64 (a1 - 1))).f0) ((rd_T77 l0 (wrap64 (a1 - 1))).f1) ((rd_T77 l0 a1).f0) ((rd_T77 l0 a1).f1) ((rd_T77 l0 (wrap64 (a1 + 1))).f0) ((rd_T77 l0 (wrap64 (a1 + 1))).f1)).bind fun t596 => (some t596)) else (none)) else (none)) else (none)) else (none)) else (none)) else (none)) else (some (-1)))) else (some (-1)))
def impl_CornerSize.f (k : Nat) (l0 : List (S77)) (a1 : Int) : Option (Int) := (impl_IsRing.f k l0).bind fun t597 => (if t597 = true then ((impl_InRange.f a1 0 (wrap64 ((l0.length : Int) - 1))).bind fun t598 => (if t598 = true then (if (l0.length : Int) = 0 then (none) else (if 0 ≤ (Int.tmod (wrap64 ((wrap64 (a1 + (l0.length : Int))) - 1)) (l0.length : Int)) then (if (Int.tmod (wrap64 ((wrap64 (a1 + (l0.length : Int))) - 1)) (l0.length : Int)) < (l0.length : Int) then (if 0 ≤ a1 then (if a1 < (l0.length : Int) then (if 0 ≤ (Int.tmod (wrap64 (a1 + 1)) (l0.length : Int)) then (if (Int.tmod (wrap64 (a1 + 1)) (l0.length : Int)) < (l0.length : Int) then ((impl_twice.f ((rd_T77 l0 (Int.tmod (wrap64 ((wrap64 (a1 + (l0.length : Int))) - 1)) (l0.length : Int))).f0) ((rd_T77 l0 (Int.tmod (wrap64 ((wrap64 (a1 + (l0.length : Int))) - 1)) (l0.length : Int))).f1) ((rd_T77 l0 a1).f0) ((rd_T77 l0 a1).f1) ((rd_T77 l0 (Int.tmod (wrap64 (a1 + 1)) (l0.length : Int))).f0) ((rd_T77 l0 (Int.tmod (wrap64 (a1 + 1)) (l0.length : Int))).f1)).bind fun t602 => (some t602)) else (none)) else (none)) else (none)) else (none)) else (none)) else (none))) else (some (-1)))) else (some (-1)))
def impl_SizeAt.f (k : Nat) (a0_0 : Int) (a0_1 : Int) (a0_2 : Int) (a0_3 : ByteArray) (l0_4 : List (S77)) (a1 : Int) : Option (Int) := if a0_1 = 2 then ((impl_CornerArea.f k l0_4 a1).bind fun t604 => (some t604)) else (if a0_1 = 3 then ((impl_CornerSize.f k l0_4 a1).bind fun t605 => (some t605)) else (some (-1)))
mutual
def impl_ShrinkFeature.l0 : Nat → List (S28) → Int → Int → Int → Int → ByteArray → List (S77) → Option (Int × Int × Int × ByteArray × (List (S77)))
 | 0, _, _, _, _, _, _, _ => none
 | k + 1, x1, x2, x616000, x616001, x616002, x616003, x616004 => impl_ShrinkFeature.l1 k x1 x2 (-1) (x616004.length : Int) 0 x616000 x616001 x616002 x616003 x616004
def impl_ShrinkFeature.l1 : Nat → List (S28) → Int → Int → Int → Int → Int → Int → Int → ByteArray → List (S77) → Option (Int × Int × Int × ByteArray × (List (S77)))
 | 0, _, _, _, _, _, _, _, _, _, _ => none
 | k + 1, x1, x2, x8, x19, x20, x616000, x616001, x616002, x616003, x616004 => if x20 < x19 then ((impl_SizeAt.f k x616000 x616001 x616002 x616003 x616004 x20).bind fun t625 => (if t625 < x2 then (if x8 < 0 then ((impl_CanShrink.f k x616000 x616001 x616002 x616003 x616004 x20 x1).bind fun t626 => (if t626 = true then (impl_ShrinkFeature.l1 k x1 x2 x20 x19 (wrap64 (x20 + 1)) x616000 x616001 x616002 x616003 x616004) else (impl_ShrinkFeature.l1 k x1 x2 x8 x19 (wrap64 (x20 + 1)) x616000 x616001 x616002 x616003 x616004))) else ((impl_SizeAt.f k x616000 x616001 x616002 x616003 x616004 x8).bind fun t627 => (if t625 < t627 then ((impl_CanShrink.f k x616000 x616001 x616002 x616003 x616004 x20 x1).bind fun t628 => (if t628 = true then (impl_ShrinkFeature.l1 k x1 x2 x20 x19 (wrap64 (x20 + 1)) x616000 x616001 x616002 x616003 x616004) else (impl_ShrinkFeature.l1 k x1 x2 x8 x19 (wrap64 (x20 + 1)) x616000 x616001 x616002 x616003 x616004))) else (impl_ShrinkFeature.l1 k x1 x2 x8 x19 (wrap64 (x20 + 1)) x616000 x616001 x616002 x616003 x616004)))) else (impl_ShrinkFeature.l1 k x1 x2 x8 x19 (wrap64 (x20 + 1)) x616000 x616001 x616002 x616003 x616004))) else (if x8 < 0 then (some (x616000, x616001, x616002, x616003, x616004)) else ((impl_DropFrom.f k x616000 x616001 x616002 x616003 x616004 x8).bind fun bt617 => (impl_ShrinkFeature.l0 k x1 x2 bt617.1 bt617.2.1 bt617.2.2.1 bt617.2.2.2.1 bt617.2.2.2.2.1)))
end
def impl_ShrinkFeature.f (k : Nat) (a0_0 : Int) (a0_1 : Int) (a0_2 : Int) (a0_3 : ByteArray) (l0_4 : List (S77)) (l1 : List (S28)) (a2 : Int) : Option (Int × Int × Int × ByteArray × (List (S77))) := (impl_cloneFeature.f a0_0 a0_1 a0_2 a0_3 l0_4).bind fun bt608 => ((impl_IsFeature.f k a0_0 a0_1 a0_2 a0_3 l0_4).bind fun t616 => (if t616 = true then (impl_ShrinkFeature.l0 k l1 a2 bt608.1 bt608.2.1 bt608.2.2.1 bt608.2.2.2.1 bt608.2.2.2.2) else (some (bt608.1, bt608.2.1, bt608.2.2.1, bt608.2.2.2.1, bt608.2.2.2.2))))
def impl_IsSource.l0 : Nat → List (S28) → List (S28) → Int → Int → Option (Bool)
 | 0, _, _, _, _ => none
 | k + 1, x0, x8, x9, x10 => if x10 < x9 then (if 0 ≤ x10 then (if x10 < (x8.length : Int) then ((impl_IsFeature.f k ((rd_T28 x8 x10).f0) ((rd_T28 x8 x10).f1) ((rd_T28 x8 x10).f2) ((rd_T28 x8 x10).f3) ((rd_T28 x8 x10).f4)).bind fun t631 => (if t631 = true then (if x10 > 0 then (if 0 ≤ (wrap64 (x10 - 1)) then (if (wrap64 (x10 - 1)) < (x0.length : Int) then (if ((rd_T28 x8 x10).f0) ≤ ((rd_T28 x0 (wrap64 (x10 - 1))).f0) then (some false) else (impl_IsSource.l0 k x0 x8 x9 (wrap64 (x10 + 1)))) else (none)) else (none)) else (impl_IsSource.l0 k x0 x8 x9 (wrap64 (x10 + 1)))) else (some false))) else (none)) else (none)) else (some true)
def impl_IsSource.f (k : Nat) (l0 : List (S28)) : Option (Bool) := if (l0.length : Int) > 16 then (some false) else (impl_IsSource.l0 k l0 l0 (l0.length : Int) 0)
def impl_cloneSource.l0 : Nat → List (S28) → List (S28) → Int → Int → Option ((List (S28)))
 | 0, _, _, _, _ => none
 | k + 1, x3, x7, x8, x9 => if x9 < x8 then (if 0 ≤ x9 then (if x9 < (x7.length : Int) then ((impl_cloneFeature.f ((rd_T28 x7 x9).f0) ((rd_T28 x7 x9).f1) ((rd_T28 x7 x9).f2) ((rd_T28 x7 x9).f3) ((rd_T28 x7 x9).f4)).bind fun bt638 => (if x3.length < 2199023255552 then (impl_cloneSource.l0 k (x3 ++ [(⟨bt638.1, bt638.2.1, bt638.2.2.1, bt638.2.2.2.1, bt638.2.2.2.2⟩ : S28)]) x7 x8 (wrap64 (x9 + 1))) else (none))) else (none)) else (none)) else (some x3)
def impl_cloneSource.f (k : Nat) (l0 : List (S28)) : Option ((List (S28))) := impl_cloneSource.l0 k (([] : List (S28))) l0 (l0.length : Int) 0
def impl_ShrinkAll.l0 : Nat → Int → List (S28) → Int → Int → Option ((List (S28)))
 | 0, _, _, _, _ => none
 | k + 1, x1, x5, x16, x17 => if x17 < x16 then (if 0 ≤ x17 then (if x17 < (x5.length : Int) then (if x5.length < 1099511627776 then ((impl_ShrinkFeature.f k ((rd_T28 x5 x17).f0) ((rd_T28 x5 x17).f1) ((rd_T28 x5 x17).f2) ((rd_T28 x5 x17).f3) ((rd_T28 x5 x17).f4) (x5.take (x17 : Int).toNat ++ x5.drop ((wrap64 (x17 + 1)) : Int).toNat) x1).bind fun bt774 => (impl_ShrinkAll.l0 k x1 (x5.set (x17 : Int).toNat (⟨bt774.1, bt774.2.1, bt774.2.2.1, bt774.2.2.2.1, bt774.2.2.2.2⟩ : S28)) x16 (wrap64 (x17 + 1)))) else none) else none) else none) else (some x5)
def impl_ShrinkAll.f (k : Nat) (l0 : List (S28)) (a1 : Int) : Option ((List (S28))) := (impl_cloneSource.f k l0).bind fun t749 => ((impl_IsSource.f k l0).bind fun t752 => (if t752 = true then (impl_ShrinkAll.l0 k a1 t749 (t749.length : Int) 0) else (some t749)))
def laws_heldPointS.l0 : Nat → List (S77) → Int → Int → Option (Int)
 | 0, _, _, _ => none
 | k + 1, x0, x1, x5 => if x5 < (x0.length : Int) then (if 0 ≤ x5 then (if ((rd_T77 x0 x5).f0) = x1 then (if ((rd_T77 x0 x5).f1) = (wrap64 (x1 + 1)) then (laws_heldPointS.l0 k x0 (wrap64 ((wrap64 (x1 + 1)) + 1)) (wrap64 (x5 + 1))) else (some (-1))) else (some (-1))) else (none)) else (some x1)
def laws_heldPointS.f (k : Nat) (l0 : List (S77)) (a1 : Int) : Option (Int) := laws_heldPointS.l0 k l0 a1 0
def laws_heldFeatureS.l0 : Nat → List (S28) → Int → Int → Option (Int)
 | 0, _, _, _ => none
 | k + 1, x0, x1, x5 => if x5 < (x0.length : Int) then (if 0 ≤ x5 then (if ((rd_T28 x0 x5).f0) = x1 then (if ((rd_T28 x0 x5).f1) = (wrap64 (x1 + 1)) then (if ((rd_T28 x0 x5).f2) = (wrap64 ((wrap64 (x1 + 1)) + 1)) then ((laws_markText.f k (wrap64 ((wrap64 ((wrap64 (x1 + 1)) + 1)) + 1))).bind fun t654 => (if ((rd_T28 x0 x5).f3).toList = t654.toList then ((laws_heldPointS.f k ((rd_T28 x0 x5).f4) (wrap64 ((wrap64 ((wrap64 ((wrap64 (x1 + 1)) + 1)) + 1)) + 1))).bind fun t656 => (if t656 < 0 then none else (laws_heldFeatureS.l0 k x0 t656 (wrap64 (x5 + 1))))) else none)) else none) else none) else none) else (none)) else (some x1)
def laws_heldFeatureS.f (k : Nat) (l0 : List (S28)) (a1 : Int) : Option (Int) := laws_heldFeatureS.l0 k l0 a1 0
def laws_FnExactShrinkAll.f (k : Nat) (l0 : List S24) (a1 : Int) : Option Bool :=
  (laws_szFeatureS.f k l0 1048576).bind fun left => if left < 0 then some true else
  (laws_toFeatureS.f k l0).bind fun x => (spec_ShrinkAll.f k x a1).bind fun s => (impl_ShrinkAll.f k x a1).bind fun g =>
  (laws_eqFeatureS.f k g s).bind fun e1 => (laws_eqFeatureS.f k x x).bind fun e2 => (laws_heldFeatureS.f k (mkL g 1) 1).bind fun q =>
  if e1 = true ∧ e2 = true ∧ 1 + (mfT x : Int) < 4611686018427387904 ∧ 1 + (mfT g : Int) < 4611686018427387904 ∧ q = 1 + (mfT g : Int) then some true else none
end Go.Proofs.Ytkebhlkbnnlegaa.PFnExactShrinkAll
