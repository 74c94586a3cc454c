
-- Written by a program of this session's (evlaw.py).
import Derived.ArgAppend
import Derived.Below
import Derived.BigQuiet
import Derived.Deep.AppendLies
import Derived.Deep.CutBlock
import Derived.Deep.DeepCutAuto
import Derived.Deep.Draws
import Derived.Deep.LoopGhost
import Derived.Deep.OwnRows
import Derived.Deep.QuietTactic
import Derived.Deep.RegionHeld3
import Derived.KernelRfl
import Derived.Laws.BitsLemmas
import Derived.Laws.BytesArg
import Derived.Laws.IdiomCopy
import Derived.Laws.MakeOwn
import Derived.Laws.OwnMore
import Derived.Laws.Rows
import Derived.Laws.Slices
import Derived.Lib.AppendStr
import Derived.Lib.ConvBytes
import Derived.Maps.AppendAt
import Derived.OrdersHeld
import Derived.OwnWalk
import Derived.RowKit
import Derived.RowKit3
import Derived.Tactics
import Derived.Test.YtellpkihlbbnhaaGreatGeo
import Derived.Test.YtellpkihlbbnhaaGreatHand
import Derived.Test.YtellpkihlbbnhaaGreatMeet
import Derived.Test.YtellpkihlbbnhaaGreatProg
import Derived.Test.YtellpkihlbbnhaaGreatQuiet
import Derived.Test.YtellpkihlbbnhaaGreatTwo
import Derived.Test.YtellpkihlbbnhaaGreatWApart
import Derived.Test.YtellpkihlbbnhaaGreatWArr
import Derived.Test.YtellpkihlbbnhaaGreatWAt
import Derived.Test.YtellpkihlbbnhaaGreatWEqStruct
import Derived.Test.YtellpkihlbbnhaaGreatWFoot
import Derived.Test.YtellpkihlbbnhaaGreatWFootNe
import Derived.Test.YtellpkihlbbnhaaGreatWFour
import Derived.Test.YtellpkihlbbnhaaGreatWGuard
import Derived.Test.YtellpkihlbbnhaaGreatWInv
import Derived.Test.YtellpkihlbbnhaaGreatWInvWords
import Derived.Test.YtellpkihlbbnhaaGreatWKept
import Derived.Test.YtellpkihlbbnhaaGreatWLast
import Derived.Test.YtellpkihlbbnhaaGreatWMore
import Derived.Test.YtellpkihlbbnhaaGreatWN
import Derived.Test.YtellpkihlbbnhaaGreatWNEv
import Derived.Test.YtellpkihlbbnhaaGreatWQPut
import Derived.Test.YtellpkihlbbnhaaGreatWRepsOne
import Derived.Test.YtellpkihlbbnhaaGreatWShare
import Derived.Test.YtellpkihlbbnhaaGreatWTab
import Derived.Test.YtellpkihlbbnhaaGreatWWords
import Derived.Test.YtellpkihlbbnhaaGreatWZeros
import Derived.Test.YtellpkihlbbnhaaGreatZ
import Derived.WalkKit
import Derived.WideLaws
namespace Go.Proofs.YtellpkihlbbnhaaGreat.PFnExactSameElsewhere
open Go.RowKit Go.Proofs.YtellpkihlbbnhaaGreatW.PrintWords Go.Proofs.YtellpkihlbbnhaaGreatW.PrintLast Go.Proofs.YtellpkihlbbnhaaGreatW.PrintMore Go.Proofs.YtellpkihlbbnhaaGreatGeo Go.Proofs.YtellpkihlbbnhaaGreatHand Go.Proofs.YtellpkihlbbnhaaGreatMeet Go.Proofs.YtellpkihlbbnhaaGreatQuiet Go.Proofs.YtellpkihlbbnhaaGreatZ
attribute [local go_sem] max2_int min2_int max_two min_two max_three min_three max_four min_four   -- for this text's walks alone
set_option linter.unusedVariables false
set_option linter.unusedSimpArgs false
theorem info3 : (Tryz.prog.info? 3).map (fun i => (i.zero, i.size, i.bytes)) = some (some (.int .i64 0), 1, 8) := by kernel_rfl
theorem info57 : (Tryz.prog.info? 57).map (fun i => (i.zero, i.size, i.bytes)) = some (some (.agg #[(.int .i64 0), (.int .i64 0), (.int .i64 0), (.string ⟨#[]⟩), (.slice none 0 0)]), 5, 64) := by kernel_rfl
-- the values' own types
structure S131 where
  f0 : Int
  f1 : Int
def z131 : S131 := ⟨(0 : Int), (0 : Int)⟩
def k131 : Kd S131 := Kd.iso (Kd.pair (Kd.int .i64) (Kd.int .i64)) (fun x : S131 => (x.f0, x.f1))
def rd_T131 (xs : List S131) (i : Int) : S131 := xs.getD i.toNat z131
structure S50 where
  f0 : Int
  f1 : Int
  f2 : Int
  f3 : ByteArray
  f4 : (List S131)
def z50 : S50 := ⟨(0 : Int), (0 : Int), (0 : Int), (⟨#[]⟩ : ByteArray), ([] : List S131)⟩
def k50 : Kd S50 := Kd.iso (Kd.pair (Kd.int .i64) (Kd.pair (Kd.int .i64) (Kd.pair (Kd.int .i64) (Kd.pair Kd.string (Kd.slice 131 k131))))) (fun x : S50 => (x.f0, x.f1, x.f2, x.f3, x.f4))
theorem k50_open {w : World} {x : S50} {cs : List Value} (h : k50.K w x cs) : ∃ A4 c4, cs = [.int .i64 x.f0, .int .i64 x.f1, .int .i64 x.f2, .string x.f3, .slice A4 x.f4.length c4] ∧ x.f4.length ≤ c4 ∧ k131.C w A4 x.f4.length x.f4 := by
  obtain ⟨_, _, rfl, rfl, ⟨_, _, rfl, rfl, ⟨_, _, rfl, rfl, ⟨_, _, rfl, rfl, ⟨A4, c4, rfl, l4, g4⟩⟩⟩⟩⟩ := h
  exact ⟨A4, c4, rfl, l4, g4⟩
def rd_T50 (xs : List S50) (i : Int) : S50 := xs.getD i.toNat z50
theorem at_T50 {w : World} {A : Option Addr} {n : Nat} {xs : List S50} (h : Kd.C k50 w A n xs) (i : Int) (h0 : 0 ≤ i) (h1 : i < n) : ∃ ad A4 c4, A = some ad ∧ w.cell? (ad.add (i.toNat * 5)) = some (.int .i64 (rd_T50 xs i).f0) ∧ w.cell? ⟨(ad.add (i.toNat * 5)).block, (ad.add (i.toNat * 5)).off + 1, none⟩ = some (.int .i64 (rd_T50 xs i).f1) ∧ w.cell? ⟨(ad.add (i.toNat * 5)).block, (ad.add (i.toNat * 5)).off + 2, none⟩ = some (.int .i64 (rd_T50 xs i).f2) ∧ w.cell? ⟨(ad.add (i.toNat * 5)).block, (ad.add (i.toNat * 5)).off + 3, none⟩ = some (.string (rd_T50 xs i).f3) ∧ w.cell? ⟨(ad.add (i.toNat * 5)).block, (ad.add (i.toNat * 5)).off + 4, none⟩ = some (.slice A4 (rd_T50 xs i).f4.length c4) ∧ (rd_T50 xs i).f4.length ≤ c4 ∧ k131.C w A4 (rd_T50 xs i).f4.length (rd_T50 xs i).f4 := by
  obtain ⟨ad, c, e, _, hK, hc0⟩ := Kd.C_get h z50 i h0 h1; have hc : ∀ j u, c[j]? = some u → w.cell? (ad.add (i.toNat * 5 + j)) = some u := hc0; obtain ⟨A4, c4, rfl, l4, g4⟩ := k50_open hK
  exact ⟨ad, A4, c4, e, hc 0 _ rfl, by rw [← add_field _ _ 1 (by omega)]; exact hc 1 _ rfl, by rw [← add_field _ _ 2 (by omega)]; exact hc 2 _ rfl, by rw [← add_field _ _ 3 (by omega)]; exact hc 3 _ rfl, by rw [← add_field _ _ 4 (by omega)]; exact hc 4 _ rfl, l4, g4⟩
structure S59 where
  f0 : Int
  f1 : Int
def z59 : S59 := ⟨(0 : Int), (0 : Int)⟩
def k59 : Kd S59 := Kd.iso (Kd.pair (Kd.int .i64) (Kd.int .i64)) (fun x : S59 => (x.f0, x.f1))
def rd_T59 (xs : List S59) (i : Int) : S59 := xs.getD i.toNat z59
structure S57 where
  f0 : Int
  f1 : Int
  f2 : Int
  f3 : ByteArray
  f4 : (List S59)
def z57 : S57 := ⟨(0 : Int), (0 : Int), (0 : Int), (⟨#[]⟩ : ByteArray), ([] : List S59)⟩
def k57 : Kd S57 := Kd.iso (Kd.pair (Kd.int .i64) (Kd.pair (Kd.int .i64) (Kd.pair (Kd.int .i64) (Kd.pair Kd.string (Kd.slice 59 k59))))) (fun x : S57 => (x.f0, x.f1, x.f2, x.f3, x.f4))
theorem k57_open {w : World} {x : S57} {cs : List Value} (h : k57.K w x cs) : ∃ A4 c4, cs = [.int .i64 x.f0, .int .i64 x.f1, .int .i64 x.f2, .string x.f3, .slice A4 x.f4.length c4] ∧ x.f4.length ≤ c4 ∧ k59.C w A4 x.f4.length x.f4 := by
  obtain ⟨_, _, rfl, rfl, ⟨_, _, rfl, rfl, ⟨_, _, rfl, rfl, ⟨_, _, rfl, rfl, ⟨A4, c4, rfl, l4, g4⟩⟩⟩⟩⟩ := h
  exact ⟨A4, c4, rfl, l4, g4⟩
theorem k57_openM {w : World} {base : Nat} {ok : Nat → Prop} {x : S57} {cs : List Value} (h : k57.M w base ok x cs) : ∃ v4, cs = [.int .i64 x.f0, .int .i64 x.f1, .int .i64 x.f2, .string x.f3, v4] ∧ k59.R 59 w base ok v4 x.f4 := by
  obtain ⟨_, _, rfl, rfl, ⟨_, _, rfl, rfl, ⟨_, _, rfl, rfl, ⟨_, _, rfl, rfl, ⟨v4, rfl, g4⟩⟩⟩⟩⟩ := h
  exact ⟨v4, rfl, g4⟩
theorem k57_mkM (w : World) (base : Nat) (ok : Nat → Prop) (x : S57) {v4 : Value} (g4 : k59.R 59 w base ok v4 x.f4) : k57.M w base ok x [.int .i64 x.f0, .int .i64 x.f1, .int .i64 x.f2, .string x.f3, v4] := ⟨[.int .i64 x.f0], [.int .i64 x.f1, .int .i64 x.f2, .string x.f3, v4], rfl, rfl, ⟨[.int .i64 x.f1], [.int .i64 x.f2, .string x.f3, v4], rfl, rfl, ⟨[.int .i64 x.f2], [.string x.f3, v4], rfl, rfl, ⟨[.string x.f3], [v4], rfl, rfl, ⟨v4, rfl, g4⟩⟩⟩⟩⟩
def rd_T57 (xs : List S57) (i : Int) : S57 := xs.getD i.toNat z57
theorem at_T57 {w : World} {A : Option Addr} {n : Nat} {xs : List S57} (h : Kd.C k57 w A n xs) (i : Int) (h0 : 0 ≤ i) (h1 : i < n) : ∃ ad A4 c4, A = some ad ∧ w.cell? (ad.add (i.toNat * 5)) = some (.int .i64 (rd_T57 xs i).f0) ∧ w.cell? ⟨(ad.add (i.toNat * 5)).block, (ad.add (i.toNat * 5)).off + 1, none⟩ = some (.int .i64 (rd_T57 xs i).f1) ∧ w.cell? ⟨(ad.add (i.toNat * 5)).block, (ad.add (i.toNat * 5)).off + 2, none⟩ = some (.int .i64 (rd_T57 xs i).f2) ∧ w.cell? ⟨(ad.add (i.toNat * 5)).block, (ad.add (i.toNat * 5)).off + 3, none⟩ = some (.string (rd_T57 xs i).f3) ∧ w.cell? ⟨(ad.add (i.toNat * 5)).block, (ad.add (i.toNat * 5)).off + 4, none⟩ = some (.slice A4 (rd_T57 xs i).f4.length c4) ∧ (rd_T57 xs i).f4.length ≤ c4 ∧ k59.C w A4 (rd_T57 xs i).f4.length (rd_T57 xs i).f4 := by
  obtain ⟨ad, c, e, _, hK, hc0⟩ := Kd.C_get h z57 i h0 h1; have hc : ∀ j u, c[j]? = some u → w.cell? (ad.add (i.toNat * 5 + j)) = some u := hc0; obtain ⟨A4, c4, rfl, l4, g4⟩ := k57_open hK
  exact ⟨ad, A4, c4, e, hc 0 _ rfl, by rw [← add_field _ _ 1 (by omega)]; exact hc 1 _ rfl, by rw [← add_field _ _ 2 (by omega)]; exact hc 2 _ rfl, by rw [← add_field _ _ 3 (by omega)]; exact hc 3 _ rfl, by rw [← add_field _ _ 4 (by omega)]; exact hc 4 _ rfl, l4, g4⟩
structure S149 where
  f0 : S59
  f1 : S59
def z149 : S149 := ⟨z59, z59⟩
def k149 : Kd S149 := Kd.iso (Kd.pair k59 k59) (fun x : S149 => (x.f0, x.f1))
def rd_T149 (xs : List S149) (i : Int) : S149 := xs.getD i.toNat z149
structure S83 where
  f0 : Int
  f1 : Int
def z83 : S83 := ⟨(0 : Int), (0 : Int)⟩
def k83 : Kd S83 := Kd.iso (Kd.pair (Kd.int .i64) (Kd.int .i64)) (fun x : S83 => (x.f0, x.f1))
def rd_T83 (xs : List S83) (i : Int) : S83 := xs.getD i.toNat z83
theorem eqA59 (d : Nat) (w : World) (x0 y0 : Int) (x1 y1 : Int) :
    (Op.equalIn (d + 2) 59 (.agg #[.int .i64 x0, .int .i64 x1]) (.agg #[.int .i64 y0, .int .i64 y1])).run Tryz.prog w = .ok (x0 == y0 && (x1 == y1)) w := by
  refine eqA_of Tryz.underlying59 (by kernel_rfl) ?_; refine eqf_cons (by rfl) (by go_simp; rfl) (by go_simp; rfl) (by go_simp) ?_
  exact eqf_last (by rfl) (by go_simp; rfl) (by go_simp; rfl) (by go_simp)
def laws_szPointS.f (l0 : List (S131)) (a1 : Int) : Option (Int) := if (wrap64 (a1 - (l0.length : Int))) < 0 then (some (-1)) else (some (wrap64 (a1 - (l0.length : Int))))
def laws_szFeature.f (a0_0 : Int) (a0_1 : Int) (a0_2 : Int) (a0_3 : ByteArray) (l0_4 : List (S131)) (a1 : Int) : Option (Int) := if (wrap64 (a1 - (a0_3.size : Int))) < 0 then (some (-1)) else ((laws_szPointS.f l0_4 (wrap64 (a1 - (a0_3.size : Int)))).bind fun t102 => (if t102 < 0 then (some (-1)) else (some t102)))
def laws_szFeatureS.l0 : Nat → List (S50) → Int → Int → Option (Int)
 | 0, _, _, _ => none
 | k + 1, x0, x1, x5 => if x5 < (x0.length : Int) then (if 0 ≤ x5 then ((laws_szFeature.f ((rd_T50 x0 x5).f0) ((rd_T50 x0 x5).f1) ((rd_T50 x0 x5).f2) ((rd_T50 x0 x5).f3) ((rd_T50 x0 x5).f4) x1).bind fun t104 => (if t104 < 0 then (some (-1)) else (laws_szFeatureS.l0 k x0 t104 (wrap64 (x5 + 1))))) else (none)) else (some x1)
def laws_szFeatureS.f (k : Nat) (l0 : List (S50)) (a1 : Int) : Option (Int) := if (wrap64 (a1 - (l0.length : Int))) < 0 then (some (-1)) else (laws_szFeatureS.l0 k l0 (wrap64 (a1 - (l0.length : Int))) 0)
def laws_toPoint.f (a0_0 : Int) (a0_1 : Int) : Option (Int × Int) := some (a0_0, a0_1)
def laws_toPointS.l0 : Nat → List (S131) → List (S59) → Int → Option ((List (S59)))
 | 0, _, _, _ => none
 | k + 1, x0, x3, x4 => if x4 < (x0.length : Int) then (if 0 ≤ x4 then ((laws_toPoint.f ((rd_T131 x0 x4).f0) ((rd_T131 x0 x4).f1)).bind fun bt112 => (if x4 < (x3.length : Int) then (laws_toPointS.l0 k x0 (x3.set (x4 : Int).toNat (⟨bt112.1, bt112.2⟩ : S59)) (wrap64 (x4 + 1))) else (none))) else (none)) else (some x3)
def laws_toPointS.f (k : Nat) (l0 : List (S131)) : Option ((List (S59))) := if 0 ≤ (l0.length : Int) then (if ((l0.length : Int) : Int).toNat ≤ 17592186044416 then (laws_toPointS.l0 k l0 (List.replicate ((l0.length : Int) : Int).toNat z59) 0) else (none)) else (none)
def laws_toFeature.f (k : Nat) (a0_0 : Int) (a0_1 : Int) (a0_2 : Int) (a0_3 : ByteArray) (l0_4 : List (S131)) : Option (Int × Int × Int × ByteArray × (List (S59))) := (laws_toPointS.f k l0_4).bind fun t118 => (some (a0_0, a0_1, a0_2, a0_3, t118))
def laws_toFeatureS.l0 : Nat → List (S50) → List (S57) → Int → Option ((List (S57)))
 | 0, _, _, _ => none
 | k + 1, x0, x3, x4 => if x4 < (x0.length : Int) then (if 0 ≤ x4 then ((laws_toFeature.f k ((rd_T50 x0 x4).f0) ((rd_T50 x0 x4).f1) ((rd_T50 x0 x4).f2) ((rd_T50 x0 x4).f3) ((rd_T50 x0 x4).f4)).bind fun bt125 => (if x4 < (x3.length : Int) then (laws_toFeatureS.l0 k x0 (x3.set (x4 : Int).toNat (⟨bt125.1, bt125.2.1, bt125.2.2.1, bt125.2.2.2.1, bt125.2.2.2.2⟩ : S57)) (wrap64 (x4 + 1))) else (none))) else (none)) else (some x3)
def laws_toFeatureS.f (k : Nat) (l0 : List (S50)) : Option ((List (S57))) := if 0 ≤ (l0.length : Int) then (if ((l0.length : Int) : Int).toNat ≤ 4398046511104 then (laws_toFeatureS.l0 k l0 (List.replicate ((l0.length : Int) : Int).toNat z57) 0) else (none)) else (none)
def laws_eqPoint.f (a0_0 : Int) (a0_1 : Int) (a1_0 : Int) (a1_1 : Int) : Option (Bool) := if a0_0 = a1_0 then (if a0_1 = a1_1 then (some true) else (some false)) else (some false)
def laws_eqPointS.l0 : Nat → List (S59) → List (S59) → Int → Option (Bool)
 | 0, _, _, _ => none
 | k + 1, x0, x1, x5 => if x5 < (x0.length : Int) then (if 0 ≤ x5 then (if x5 < (x1.length : Int) then ((laws_eqPoint.f ((rd_T59 x0 x5).f0) ((rd_T59 x0 x5).f1) ((rd_T59 x1 x5).f0) ((rd_T59 x1 x5).f1)).bind fun t137 => (if t137 = true then (laws_eqPointS.l0 k x0 x1 (wrap64 (x5 + 1))) else (some false))) else (none)) else (none)) else (some true)
def laws_eqPointS.f (k : Nat) (l0 : List (S59)) (l1 : List (S59)) : Option (Bool) := if (l0.length : Int) = (l1.length : Int) then (laws_eqPointS.l0 k l0 l1 0) else (some false)
def laws_eqFeature.f (k : Nat) (a0_0 : Int) (a0_1 : Int) (a0_2 : Int) (a0_3 : ByteArray) (l0_4 : List (S59)) (a1_0 : Int) (a1_1 : Int) (a1_2 : Int) (a1_3 : ByteArray) (l1_4 : List (S59)) : Option (Bool) := if a0_0 = a1_0 then (if a0_1 = a1_1 then (if a0_2 = a1_2 then (if a0_3.toList = a1_3.toList then ((laws_eqPointS.f k l0_4 l1_4).bind fun t140 => (if t140 = true then (some true) else (some false))) else (some false)) else (some false)) else (some false)) else (some false)
def laws_eqFeatureS.l0 : Nat → List (S57) → List (S57) → Int → Option (Bool)
 | 0, _, _, _ => none
 | k + 1, x0, x1, x5 => if x5 < (x0.length : Int) then (if 0 ≤ x5 then (if x5 < (x1.length : Int) then ((laws_eqFeature.f k ((rd_T57 x0 x5).f0) ((rd_T57 x0 x5).f1) ((rd_T57 x0 x5).f2) ((rd_T57 x0 x5).f3) ((rd_T57 x0 x5).f4) ((rd_T57 x1 x5).f0) ((rd_T57 x1 x5).f1) ((rd_T57 x1 x5).f2) ((rd_T57 x1 x5).f3) ((rd_T57 x1 x5).f4)).bind fun t143 => (if t143 = true then (laws_eqFeatureS.l0 k x0 x1 (wrap64 (x5 + 1))) else (some false))) else (none)) else (none)) else (some true)
def laws_eqFeatureS.f (k : Nat) (l0 : List (S57)) (l1 : List (S57)) : Option (Bool) := if (l0.length : Int) = (l1.length : Int) then (laws_eqFeatureS.l0 k l0 l1 0) else (some false)
def laws_eqIntS.l0 : Nat → List Int → List Int → Int → Option (Bool)
 | 0, _, _, _ => none
 | k + 1, x0, x1, x5 => if x5 < (x0.length : Int) then (if 0 ≤ x5 then (if x5 < (x1.length : Int) then (if (rd x0 x5) = (rd x1 x5) then (laws_eqIntS.l0 k x0 x1 (wrap64 (x5 + 1))) else (some false)) else (none)) else (none)) else (some true)
def laws_eqIntS.f (k : Nat) (l0 : List Int) (l1 : List Int) : Option (Bool) := if (l0.length : Int) = (l1.length : Int) then (laws_eqIntS.l0 k l0 l1 0) else (some false)
def laws_toIntS.l0 : Nat → List Int → List Int → Int → Option (List Int)
 | 0, _, _, _ => none
 | k + 1, x0, x3, x4 => if x4 < (x0.length : Int) then (if 0 ≤ x4 then (if x4 < (x3.length : Int) then (laws_toIntS.l0 k x0 (x3.set (x4 : Int).toNat (rd x0 x4)) (wrap64 (x4 + 1))) else (none)) else (none)) else (some x3)
def laws_toIntS.f (k : Nat) (l0 : List Int) : Option (List Int) := if 0 ≤ (l0.length : Int) then (if ((l0.length : Int) : Int).toNat ≤ 35184372088832 then (laws_toIntS.l0 k l0 (List.replicate ((l0.length : Int) : Int).toNat 0) 0) else (none)) else (none)
def spec_l1In.f (a0 : Int) (a1 : Int) (a2 : Int) : Option (Bool) := some (inR a0 a1 a2)
def spec_IsPoint.f (a0_0 : Int) (a0_1 : Int) : Option (Bool) := some (isPt a0_0 a0_1)
def spec_IsName.l0 : Nat → ByteArray → Int → Option (Bool)
 | 0, _, _ => none
 | k + 1, x0, x3 => if x3 < (x0.size : Int) then (if 0 ≤ x3 then (if (bt x0 x3) < 97 then (some false) else (if (bt x0 x3) > 122 then (some false) else (spec_IsName.l0 k x0 (wrap64 (x3 + 1))))) else (none)) else ((spec_l1In.f (x0.size : Int) 1 8).bind fun t151 => (some t151))
def spec_IsName.f (k : Nat) (a0 : ByteArray) : Option (Bool) := spec_IsName.l0 k a0 0
def spec_l7Segments.l0 : Nat → List (S59) → List (S149) → Int → Option ((List (S149)))
 | 0, _, _, _ => none
 | k + 1, x0, x3, x4 => if x4 < (x0.length : Int) then (if 0 ≤ x4 then (if (x0.length : Int) = 0 then (none) else (if 0 ≤ (Int.tmod (wrap64 (x4 + 1)) (x0.length : Int)) then (if (Int.tmod (wrap64 (x4 + 1)) (x0.length : Int)) < (x0.length : Int) then (if x3.length < 4398046511104 then (spec_l7Segments.l0 k x0 (x3 ++ [(⟨(⟨(rd_T59 x0 x4).f0, (rd_T59 x0 x4).f1⟩ : S59), (⟨(rd_T59 x0 (Int.tmod (wrap64 (x4 + 1)) (x0.length : Int))).f0, (rd_T59 x0 (Int.tmod (wrap64 (x4 + 1)) (x0.length : Int))).f1⟩ : S59)⟩ : S149)]) (wrap64 (x4 + 1))) else (none)) else (none)) else (none))) else (none)) else (some x3)
def spec_l7Segments.f (k : Nat) (l0 : List (S59)) : Option ((List (S149))) := spec_l7Segments.l0 k l0 (([] : List (S149))) 0
def spec_IsSegment.f (a0_0 : Int) (a0_1 : Int) (a0_2 : Int) (a0_3 : Int) : Option (Bool) := some (isSeg a0_0 a0_1 a0_2 a0_3)
def spec_Max.f (a0 : Int) (a1 : Int) : Option (Int) := some (mx a0 a1)
def spec_Min.f (a0 : Int) (a1 : Int) : Option (Int) := some (mn a0 a1)
def spec_l4Cross.f (a0_0 : Int) (a0_1 : Int) (a1_0 : Int) (a1_1 : Int) (a2_0 : Int) (a2_1 : Int) : Option (Int) := some (crossI a0_0 a0_1 a1_0 a1_1 a2_0 a2_1)
def spec_SideOf.f (a0_0 : Int) (a0_1 : Int) (a1_0 : Int) (a1_1 : Int) (a2_0 : Int) (a2_1 : Int) : Option (Int) := some (sideI a0_0 a0_1 a1_0 a1_1 a2_0 a2_1)
def spec_IsOn.f (a0_0 : Int) (a0_1 : Int) (a0_2 : Int) (a0_3 : Int) (a1_0 : Int) (a1_1 : Int) : Option (Bool) := some (isOnI a0_0 a0_1 a0_2 a0_3 a1_0 a1_1)
attribute [local go_sem high] eqA59
mutual
def spec_l5Shared.l0 : Nat → List (S59) → List (S59) → Int → Int → Int → Int → Int → Int → Int → Int → Int → Option (Int)
 | 0, _, _, _, _, _, _, _, _, _, _, _ => none
 | k + 1, x5, x6, x7, x161000, x161001, x161002, x161003, x162000, x162001, x162002, x162003 => if x7 < 4 then (if x7 < 2 then (if 0 ≤ x7 then (if x7 < (x6.length : Int) then ((spec_IsOn.f x162000 x162001 x162002 x162003 ((rd_T59 x6 x7).f0) ((rd_T59 x6 x7).f1)).bind fun t169 => (if t169 = true then (spec_l5Shared.j1 k x5 x6 x7 true x161000 x161001 x161002 x161003 x162000 x162001 x162002 x162003) else (if x7 ≥ 2 then ((spec_IsOn.f x161000 x161001 x161002 x161003 ((rd_T59 x6 x7).f0) ((rd_T59 x6 x7).f1)).bind fun t171 => (spec_l5Shared.j1 k x5 x6 x7 t171 x161000 x161001 x161002 x161003 x162000 x162001 x162002 x162003)) else (spec_l5Shared.j1 k x5 x6 x7 false x161000 x161001 x161002 x161003 x162000 x162001 x162002 x162003)))) else (none)) else (none)) else (if x7 ≥ 2 then (if 0 ≤ x7 then (if x7 < (x6.length : Int) then ((spec_IsOn.f x161000 x161001 x161002 x161003 ((rd_T59 x6 x7).f0) ((rd_T59 x6 x7).f1)).bind fun t173 => (spec_l5Shared.j1 k x5 x6 x7 t173 x161000 x161001 x161002 x161003 x162000 x162001 x162002 x162003)) else (none)) else (none)) else (spec_l5Shared.j1 k x5 x6 x7 false x161000 x161001 x161002 x161003 x162000 x162001 x162002 x162003))) else (some (x5.length : Int))
def spec_l5Shared.j1 : Nat → List (S59) → List (S59) → Int → Bool → Int → Int → Int → Int → Int → Int → Int → Int → Option (Int)
 | 0, _, _, _, _, _, _, _, _, _, _, _, _ => none
 | k + 1, x5, x6, x7, x8, x161000, x161001, x161002, x161003, x162000, x162001, x162002, x162003 => spec_l5Shared.l1 k x5 x6 x7 x8 0 x161000 x161001 x161002 x161003 x162000 x162001 x162002 x162003
def spec_l5Shared.l1 : Nat → List (S59) → List (S59) → Int → Bool → Int → Int → Int → Int → Int → Int → Int → Int → Int → Option (Int)
 | 0, _, _, _, _, _, _, _, _, _, _, _, _, _ => none
 | k + 1, x5, x6, x7, x8, x9, x161000, x161001, x161002, x161003, x162000, x162001, x162002, x162003 => if x9 < (x5.length : Int) then (if x8 = true then (if 0 ≤ x9 then (if 0 ≤ x7 then (if x7 < (x6.length : Int) then (spec_l5Shared.l1 k x5 x6 x7 (!(((rd_T59 x5 x9).f0) == ((rd_T59 x6 x7).f0)) || (!(((rd_T59 x5 x9).f1) == ((rd_T59 x6 x7).f1)))) (wrap64 (x9 + 1)) x161000 x161001 x161002 x161003 x162000 x162001 x162002 x162003) else (none)) else (none)) else (none)) else (spec_l5Shared.l1 k x5 x6 x7 false (wrap64 (x9 + 1)) x161000 x161001 x161002 x161003 x162000 x162001 x162002 x162003)) else (if x8 = true then (if 0 ≤ x7 then (if x7 < (x6.length : Int) then (if x5.length < 8796093022208 then (spec_l5Shared.l0 k (x5 ++ [(⟨(rd_T59 x6 x7).f0, (rd_T59 x6 x7).f1⟩ : S59)]) x6 (wrap64 (x7 + 1)) x161000 x161001 x161002 x161003 x162000 x162001 x162002 x162003) else (none)) else (none)) else (none)) else (spec_l5Shared.l0 k x5 x6 (wrap64 (x7 + 1)) x161000 x161001 x161002 x161003 x162000 x162001 x162002 x162003))
end
def spec_l5Shared.f (k : Nat) (a0_0 : Int) (a0_1 : Int) (a0_2 : Int) (a0_3 : Int) (a1_0 : Int) (a1_1 : Int) (a1_2 : Int) (a1_3 : Int) : Option (Int) := spec_l5Shared.l0 k (([] : List (S59))) (([(⟨a0_0, a0_1⟩ : S59), (⟨a0_2, a0_3⟩ : S59), (⟨a1_0, a1_1⟩ : S59), (⟨a1_2, a1_3⟩ : S59)] : List (S59))) 0 a0_0 a0_1 a0_2 a0_3 a1_0 a1_1 a1_2 a1_3
theorem on_s (a b c d x y : Int) : spec_IsOn.f a b c d x y = some (isOnI a b c d x y) := rfl
def eqP (p q : S59) : Bool := decide (p.f0 = q.f0) && decide (p.f1 = q.f1)
theorem nep (p q : S59) : (!((p.f0) == (q.f0)) || (!((p.f1) == (q.f1)))) = !eqP p q := by
  unfold eqP
  by_cases h : p.f0 = q.f0 <;> by_cases h' : p.f1 = q.f1 <;> simp [h, h']
theorem rdPt (l : List S59) (i : Nat) (h : i < l.length) : rd_T59 l (i : Int) = l[i] := by
  unfold rd_T59
  rw [Int.toNat_natCast, List.getD_eq_getElem?_getD, List.getElem?_eq_getElem h]
  rfl
theorem w1' (i : Nat) (h : i < 9223372036854775807) : wrap64 ((i : Int) + 1) = ((i + 1 : Nat) : Int) := by unfold wrap64; omega
theorem all_if (x : Bool) (L : List S59) (y : S59) (q : S59 → Bool) : (if x = true then L ++ [y] else L).all q = (L.all q && (!x || q y)) := by cases x <;> simp
theorem len_if (x : Bool) (L : List S59) (y : S59) : (if x = true then L ++ [y] else L).length = L.length + (if x = true then 1 else 0) := by cases x <;> simp
section
variable (a b c d e f g h : Int)
theorem sh_l1 (xs es : List S59) (i : Nat) (hi : i < es.length) (hes : es.length ≤ 4) (hx : xs.length ≤ 4) (m : Nat) : ∀ (j : Nat) (on : Bool), j + m = xs.length → ∀ r,
    Ev (fun k => spec_l5Shared.l0 k (if on && (xs.drop j).all (fun p => !eqP p es[i]) then xs ++ [es[i]] else xs) es ((i + 1 : Nat) : Int) a b c d e f g h) r → Ev (fun k => spec_l5Shared.l1 k xs es (i : Int) on (j : Int) a b c d e f g h) r := by
  induction m with
  | zero =>
    intro j on hj r hr; rw [List.drop_of_length_le (by omega)] at hr; refine Ev.step (fun k => ?_) hr; simp only [spec_l5Shared.l1]; rw [if_neg (by omega)]; simp only [List.all_nil, Bool.and_true]
    cases on
    · simp only [Bool.false_eq_true, if_false, w1' i (by omega)]
    · simp only [if_true]; rw [if_pos (by omega), if_pos (by omega), if_pos (by omega), w1' i (by omega), rdPt es i hi]
  | succ m ih =>
    intro j on hj r hr; have hj1 : j < xs.length := by omega
    have hd := List.drop_eq_getElem_cons hj1; rw [hd, List.all_cons] at hr; refine Ev.step (fun k => ?_) (ih (j + 1) (on && !eqP xs[j] es[i]) (by omega) r (by rw [Bool.and_assoc]; exact hr)); simp only [spec_l5Shared.l1]; rw [if_pos (by omega)]
    cases on
    · simp only [Bool.false_eq_true, if_false, w1' j (by omega), Bool.false_and]
    · simp only [if_true]; rw [if_pos (by omega), if_pos (by omega), if_pos (by omega), w1' j (by omega), rdPt es i hi, rdPt xs j hj1, nep, Bool.true_and]
/-- Which segment an end is held against. -/
def onI (i : Nat) (p : S59) : Bool := if i < 2 then isOnI e f g h p.f0 p.f1 else isOnI a b c d p.f0 p.f1
theorem sh_l0 (xs es : List S59) (i : Nat) (hi : i < es.length) (hes : es.length = 4) (hx : xs.length ≤ 4) (r : Int)
    (hr : Ev (fun k => spec_l5Shared.l0 k (if onI a b c d e f g h i es[i] && xs.all (fun p => !eqP p es[i]) then xs ++ [es[i]] else xs) es ((i + 1 : Nat) : Int) a b c d e f g h) r) : Ev (fun k => spec_l5Shared.l0 k xs es (i : Int) a b c d e f g h) r := by
  have go : ∀ on : Bool, on = onI a b c d e f g h i es[i] → Ev (fun k => spec_l5Shared.j1 k xs es (i : Int) on a b c d e f g h) r := by
    intro on hon; refine Ev.step (f := fun k => spec_l5Shared.l1 k xs es (i : Int) on ((0 : Nat) : Int) a b c d e f g h) (fun k => by rw [spec_l5Shared.j1]; rfl) (sh_l1 a b c d e f g h xs es i hi (by omega) hx xs.length 0 on (by omega) r ?_); rw [hon, List.drop_zero]
    exact hr
  have step : ∀ k, spec_l5Shared.l0 (k + 1) xs es (i : Int) a b c d e f g h = spec_l5Shared.j1 k xs es (i : Int) (onI a b c d e f g h i es[i]) a b c d e f g h := by
    intro k; simp only [spec_l5Shared.l0]; rw [if_pos (by omega)]
    by_cases h2 : i < 2
    · rw [if_pos (by omega), if_pos (by omega), if_pos (by omega), rdPt es i hi, on_s, onI, if_pos h2]; simp only [Option.bind_some]
      cases isOnI e f g h es[i].f0 es[i].f1
      · rw [if_neg (by simp), if_neg (by omega)]
      · rw [if_pos rfl]
    · rw [if_neg (by omega), if_pos (by omega), if_pos (by omega), if_pos (by omega), rdPt es i hi, on_s, onI, if_neg h2]; simp only [Option.bind_some]
  exact Ev.step step (go _ rfl)
theorem share_s : Ev (fun k => spec_l5Shared.f k a b c d e f g h) (shareI a b c d e f g h) := by
  unfold spec_l5Shared.f
  generalize hes : ([(⟨a, b⟩ : S59), ⟨c, d⟩, ⟨e, f⟩, ⟨g, h⟩] : List S59) = es; have h4 : es.length = 4 := by subst hes; rfl
  have e0 : es[0]'(by omega) = ⟨a, b⟩ := by subst hes; rfl
  have e1 : es[1]'(by omega) = ⟨c, d⟩ := by subst hes; rfl
  have e2 : es[2]'(by omega) = ⟨e, f⟩ := by subst hes; rfl
  have e3 : es[3]'(by omega) = ⟨g, h⟩ := by subst hes; rfl
  refine sh_l0 a b c d e f g h [] es 0 (by omega) h4 (by simp) _ ?_; refine sh_l0 a b c d e f g h _ es 1 (by omega) h4 (by split <;> simp) _ ?_; refine sh_l0 a b c d e f g h _ es 2 (by omega) h4 (by split <;> split <;> simp) _ ?_; refine sh_l0 a b c d e f g h _ es 3 (by omega) h4 (by split <;> split <;> split <;> simp) _ ?_; rw [e0, e1, e2, e3]; have q0 : onI a b c d e f g h 0 ⟨a, b⟩ = isOnI e f g h a b := rfl; have q1 : onI a b c d e f g h 1 ⟨c, d⟩ = isOnI e f g h c d := rfl; have q2 : onI a b c d e f g h 2 ⟨e, f⟩ = isOnI a b c d e f := rfl; have q3 : onI a b c d e f g h 3 ⟨g, h⟩ = isOnI a b c d g h := rfl; rw [q0, q1, q2, q3]
  unfold shareI
  generalize isOnI e f g h a b = o0; generalize isOnI e f g h c d = o1; generalize isOnI a b c d e f = o2; generalize isOnI a b c d g h = o3; refine Ev.step (f := fun _ => some _) (fun k => ?_) (Ev.now _); simp only [spec_l5Shared.l0]; rw [if_neg (by omega)]
  congr 1
  have E : ∀ x y x' y' : Int, eqP ⟨x, y⟩ ⟨x', y'⟩ = (decide (x = x') && decide (y = y')) := fun _ _ _ _ => rfl
  generalize hA : (decide (a = c) && decide (b = d)) = eab; generalize hB : (decide (a = e) && decide (b = f)) = eac; generalize hC : (decide (c = e) && decide (d = f)) = ebc; generalize hD : (decide (a = g) && decide (b = h)) = ead; generalize hE : (decide (c = g) && decide (d = h)) = ebd; generalize hF : (decide (e = g) && decide (f = h)) = ecd; simp only [all_if, len_if, List.all_nil, List.length_nil, E, hA, hB, hC, hD, hE, hF]; have n1 : (o1 && (true && (!(o0 && true) || !eab))) = (o1 && !(o0 && eab)) := by cases o0 <;> cases eab <;> rfl
  rw [n1]; generalize (o1 && !(o0 && eab)) = p1; have n2 : (o2 && (true && (!(o0 && true) || !eac) && (!p1 || !ebc))) = (o2 && !(o0 && eac) && !(p1 && ebc)) := by cases o0 <;> cases eac <;> cases p1 <;> cases ebc <;> cases o2 <;> rfl
  rw [n2]; generalize (o2 && !(o0 && eac) && !(p1 && ebc)) = p2; have n3 : (o3 && (true && (!(o0 && true) || !ead) && (!p1 || !ebd) && (!p2 || !ecd))) = (o3 && !(o0 && ead) && !(p1 && ebd) && !(p2 && ecd)) := by cases o0 <;> cases ead <;> cases p1 <;> cases ebd <;> cases p2 <;> cases ecd <;> cases o3 <;> rfl
  rw [n3]; generalize (o3 && !(o0 && ead) && !(p1 && ebd) && !(p2 && ecd)) = p3
  cases o0 <;> cases p1 <;> cases p2 <;> cases p3 <;> rfl
end
theorem wrap_sd (x y : Int) (hx : -1 ≤ x ∧ x ≤ 1) (hy : -1 ≤ y ∧ y ≤ 1) : wrap64 (x * y) = x * y := by
  have : x = -1 ∨ x = 0 ∨ x = 1 := by omega
  rcases this with rfl | rfl | rfl <;> unfold wrap64 <;> omega
theorem sd_bd (a b c d e f : Int) : -1 ≤ sideI a b c d e f ∧ sideI a b c d e f ≤ 1 := by
  unfold sideI cmpI; (repeat' split) <;> omega
theorem wrap_three (x y : Int) (hx : -1 ≤ x ∧ x ≤ 1) (hy : -1 ≤ y ∧ y ≤ 1) : IntKind.i64.wrap (x * y) = x * y ∧ (IntKind.i64.wrap (x * y) = -1 ∨ IntKind.i64.wrap (x * y) = 0 ∨ IntKind.i64.wrap (x * y) = 1) := by
  rw [i64_w, wrap_sd x y hx hy]; refine ⟨rfl, ?_⟩; have h1 : x = -1 ∨ x = 0 ∨ x = 1 := by omega
  rcases h1 with rfl | rfl | rfl <;> omega
def spec_HowMeet.f (a0_0 a0_1 a0_2 a0_3 a1_0 a1_1 a1_2 a1_3 : Int) : Option (Int) := some (howS a0_0 a0_1 a0_2 a0_3 a1_0 a1_1 a1_2 a1_3)
mutual
def spec_IsRing.l0 : Nat → List (S149) → Int → Option (Bool)
 | 0, _, _ => none
 | k + 1, x3, x4 => if x4 < (x3.length : Int) then (if 0 ≤ x4 then ((spec_IsSegment.f ((rd_T149 x3 x4).f0.f0) ((rd_T149 x3 x4).f0.f1) ((rd_T149 x3 x4).f1.f0) ((rd_T149 x3 x4).f1.f1)).bind fun t185 => (if t185 = true then (spec_IsRing.l1 k x3 x4 0) else (some false))) else (none)) else (some true)
def spec_IsRing.l1 : Nat → List (S149) → Int → Int → Option (Bool)
 | 0, _, _, _ => none
 | k + 1, x3, x4, x5 => if x5 < x4 then (if (wrap64 (x5 + 1)) = x4 then (spec_IsRing.j2 k x3 x4 x5 0 true) else (if x5 = 0 then (spec_IsRing.j2 k x3 x4 x5 0 ((wrap64 (x4 + 1)) == (x3.length : Int))) else (spec_IsRing.j2 k x3 x4 x5 0 false))) else (spec_IsRing.l0 k x3 (wrap64 (x4 + 1)))
def spec_IsRing.j2 : Nat → List (S149) → Int → Int → Int → Bool → Option (Bool)
 | 0, _, _, _, _, _ => none
 | k + 1, x3, x4, x5, x6, x44 => if x44 = true then (if 0 ≤ x4 then (if x4 < (x3.length : Int) then (if 0 ≤ x5 then (if x5 < (x3.length : Int) then ((spec_HowMeet.f ((rd_T149 x3 x4).f0.f0) ((rd_T149 x3 x4).f0.f1) ((rd_T149 x3 x4).f1.f0) ((rd_T149 x3 x4).f1.f1) ((rd_T149 x3 x5).f0.f0) ((rd_T149 x3 x5).f0.f1) ((rd_T149 x3 x5).f1.f0) ((rd_T149 x3 x5).f1.f1)).bind fun t188 => (if t188 = 1 then (spec_IsRing.l1 k x3 x4 (wrap64 (x5 + 1))) else (some false))) else (none)) else (none)) else (none)) else (none)) else (if 0 ≤ x4 then (if x4 < (x3.length : Int) then (if 0 ≤ x5 then (if x5 < (x3.length : Int) then ((spec_HowMeet.f ((rd_T149 x3 x4).f0.f0) ((rd_T149 x3 x4).f0.f1) ((rd_T149 x3 x4).f1.f0) ((rd_T149 x3 x4).f1.f1) ((rd_T149 x3 x5).f0.f0) ((rd_T149 x3 x5).f0.f1) ((rd_T149 x3 x5).f1.f0) ((rd_T149 x3 x5).f1.f1)).bind fun t191 => (if t191 = x6 then (spec_IsRing.l1 k x3 x4 (wrap64 (x5 + 1))) else (some false))) else (none)) else (none)) else (none)) else (none))
end
def spec_IsRing.f (k : Nat) (l0 : List (S59)) : Option (Bool) := (spec_l1In.f (l0.length : Int) 3 10).bind fun t180 => (if t180 = true then ((spec_l7Segments.f k l0).bind fun t181 => (spec_IsRing.l0 k t181 0)) else (some false))
attribute [local go_sem high] eqA59
def spec_IsLine.l0 : Nat → List (S59) → Int → Option (Bool)
 | 0, _, _ => none
 | k + 1, x0, x3 => if x3 < (x0.length : Int) then (if 0 ≤ x3 then ((spec_IsPoint.f ((rd_T59 x0 x3).f0) ((rd_T59 x0 x3).f1)).bind fun t193 => (if t193 = true then (if x3 > 0 then (if 0 ≤ (wrap64 (x3 - 1)) then (if (wrap64 (x3 - 1)) < (x0.length : Int) then (if (((rd_T59 x0 (wrap64 (x3 - 1))).f0) == ((rd_T59 x0 x3).f0) && (((rd_T59 x0 (wrap64 (x3 - 1))).f1) == ((rd_T59 x0 x3).f1))) = true then (some false) else (spec_IsLine.l0 k x0 (wrap64 (x3 + 1)))) else (none)) else (none)) else (spec_IsLine.l0 k x0 (wrap64 (x3 + 1)))) else (some false))) else (none)) else ((spec_l1In.f (x0.length : Int) 2 10).bind fun t196 => (some t196))
def spec_IsLine.f (k : Nat) (l0 : List (S59)) : Option (Bool) := spec_IsLine.l0 k l0 0
def spec_SegmentsOf.l0 : Nat → List (S59) → List (S149) → Int → Option ((List (S149)))
 | 0, _, _, _ => none
 | k + 1, x0, x3, x4 => if x4 < (x0.length : Int) then ((spec_IsLine.f k x0).bind fun t200 => (if t200 = true then (if 0 ≤ (wrap64 (x4 - 1)) then (if (wrap64 (x4 - 1)) < (x0.length : Int) then (if 0 ≤ x4 then (if x3.length < 4398046511104 then (spec_SegmentsOf.l0 k x0 (x3 ++ [(⟨(⟨(rd_T59 x0 (wrap64 (x4 - 1))).f0, (rd_T59 x0 (wrap64 (x4 - 1))).f1⟩ : S59), (⟨(rd_T59 x0 x4).f0, (rd_T59 x0 x4).f1⟩ : S59)⟩ : S149)]) (wrap64 (x4 + 1))) else (none)) else (none)) else (none)) else (none)) else (some x3))) else (some x3)
def spec_SegmentsOf.f (k : Nat) (l0 : List (S59)) : Option ((List (S149))) := spec_SegmentsOf.l0 k l0 (([] : List (S149))) 1
mutual
def spec_IsSimple.l0 : Nat → List (S59) → List (S149) → Int → Option (Bool)
 | 0, _, _, _ => none
 | k + 1, x0, x3, x4 => if x4 < (x3.length : Int) then (spec_IsSimple.l1 k x0 x3 x4 0) else ((spec_IsLine.f k x0).bind fun t209 => (some t209))
def spec_IsSimple.l1 : Nat → List (S59) → List (S149) → Int → Int → Option (Bool)
 | 0, _, _, _, _ => none
 | k + 1, x0, x3, x4, x5 => if x5 < x4 then (if (wrap64 (x5 + 1)) = x4 then (if 0 ≤ x4 then (if x4 < (x3.length : Int) then (if 0 ≤ x5 then (if x5 < (x3.length : Int) then ((spec_HowMeet.f ((rd_T149 x3 x4).f0.f0) ((rd_T149 x3 x4).f0.f1) ((rd_T149 x3 x4).f1.f0) ((rd_T149 x3 x4).f1.f1) ((rd_T149 x3 x5).f0.f0) ((rd_T149 x3 x5).f0.f1) ((rd_T149 x3 x5).f1.f0) ((rd_T149 x3 x5).f1.f1)).bind fun t212 => (if t212 = 1 then (spec_IsSimple.l1 k x0 x3 x4 (wrap64 (x5 + 1))) else (some false))) else (none)) else (none)) else (none)) else (none)) else (if 0 ≤ x4 then (if x4 < (x3.length : Int) then (if 0 ≤ x5 then (if x5 < (x3.length : Int) then ((spec_HowMeet.f ((rd_T149 x3 x4).f0.f0) ((rd_T149 x3 x4).f0.f1) ((rd_T149 x3 x4).f1.f0) ((rd_T149 x3 x4).f1.f1) ((rd_T149 x3 x5).f0.f0) ((rd_T149 x3 x5).f0.f1) ((rd_T149 x3 x5).f1.f0) ((rd_T149 x3 x5).f1.f1)).bind fun t215 => (if t215 = 0 then (spec_IsSimple.l1 k x0 x3 x4 (wrap64 (x5 + 1))) else (some false))) else (none)) else (none)) else (none)) else (none))) else (spec_IsSimple.l0 k x0 x3 (wrap64 (x4 + 1)))
end
def spec_IsSimple.f (k : Nat) (l0 : List (S59)) : Option (Bool) := (spec_SegmentsOf.f k l0).bind fun t206 => (spec_IsSimple.l0 k l0 t206 0)
def spec_IsFeature.j0 : Nat → Bool → Int → Int → Int → ByteArray → List (S59) → Option (Bool)
 | 0, _, _, _, _, _, _ => none
 | k + 1, x23, x217000, x217001, x217002, x217003, x217004 => if x23 = true then (some false) else (if x217001 = 1 then (if (x217004.length : Int) = 1 then (if 0 < (x217004.length : Int) then ((spec_IsPoint.f ((rd_T59 x217004 0).f0) ((rd_T59 x217004 0).f1)).bind fun t221 => (some t221)) else (none)) else (some false)) else (if x217001 = 2 then ((spec_IsSimple.f k x217004).bind fun t222 => (some t222)) else (if x217001 = 3 then ((spec_IsRing.f k x217004).bind fun t223 => (some t223)) else (some false))))
def spec_IsFeature.f (k : Nat) (a0_0 : Int) (a0_1 : Int) (a0_2 : Int) (a0_3 : ByteArray) (l0_4 : List (S59)) : Option (Bool) := (spec_l1In.f a0_0 1 99).bind fun t217 => (if t217 = true then ((spec_l1In.f a0_2 0 9).bind fun t218 => (if t218 = true then (if a0_3.toList = ([] : List UInt8) then (spec_IsFeature.j0 k false a0_0 a0_1 a0_2 a0_3 l0_4) else ((spec_IsName.f k a0_3).bind fun t219 => (spec_IsFeature.j0 k (!t219) a0_0 a0_1 a0_2 a0_3 l0_4))) else (spec_IsFeature.j0 k true a0_0 a0_1 a0_2 a0_3 l0_4))) else (spec_IsFeature.j0 k true a0_0 a0_1 a0_2 a0_3 l0_4))
def spec_IsSource.l0 : Nat → List (S57) → Int → Option (Bool)
 | 0, _, _ => none
 | k + 1, x0, x3 => if x3 < (x0.length : Int) then (if 0 ≤ x3 then ((spec_IsFeature.f k ((rd_T57 x0 x3).f0) ((rd_T57 x0 x3).f1) ((rd_T57 x0 x3).f2) ((rd_T57 x0 x3).f3) ((rd_T57 x0 x3).f4)).bind fun t225 => (if t225 = true then (if x3 > 0 then (if 0 ≤ (wrap64 (x3 - 1)) then (if (wrap64 (x3 - 1)) < (x0.length : Int) then (if ((rd_T57 x0 (wrap64 (x3 - 1))).f0) ≥ ((rd_T57 x0 x3).f0) then (some false) else (spec_IsSource.l0 k x0 (wrap64 (x3 + 1)))) else (none)) else (none)) else (spec_IsSource.l0 k x0 (wrap64 (x3 + 1)))) else (some false))) else (none)) else (some (decide ((x0.length : Int) ≤ 16)))
def spec_IsSource.f (k : Nat) (l0 : List (S57)) : Option (Bool) := spec_IsSource.l0 k l0 0
attribute [local go_sem high] eqA59
def spec_EqualLines.l0 : Nat → List (S59) → List (S59) → Int → Option (Bool)
 | 0, _, _, _ => none
 | k + 1, x0, x1, x5 => if x5 < (x0.length : Int) then (if 0 ≤ x5 then (if x5 < (x1.length : Int) then (if (!(((rd_T59 x0 x5).f0) == ((rd_T59 x1 x5).f0)) || (!(((rd_T59 x0 x5).f1) == ((rd_T59 x1 x5).f1)))) = true then (some false) else (spec_EqualLines.l0 k x0 x1 (wrap64 (x5 + 1)))) else (none)) else (none)) else (some true)
def spec_EqualLines.f (k : Nat) (l0 : List (S59)) (l1 : List (S59)) : Option (Bool) := if (l0.length : Int) = (l1.length : Int) then (spec_EqualLines.l0 k l0 l1 0) else (some false)
def spec_EqualFeatures.f (k : Nat) (a0_0 : Int) (a0_1 : Int) (a0_2 : Int) (a0_3 : ByteArray) (l0_4 : List (S59)) (a1_0 : Int) (a1_1 : Int) (a1_2 : Int) (a1_3 : ByteArray) (l1_4 : List (S59)) : Option (Bool) := if a0_0 = a1_0 then (if a0_1 = a1_1 then (if a0_2 = a1_2 then (if a0_3.toList = a1_3.toList then ((spec_EqualLines.f k l0_4 l1_4).bind fun t232 => (some t232)) else (some false)) else (some false)) else (some false)) else (some false)
def spec_l21Has.l0 : Nat → List (S57) → Int → Int → Int → Int → ByteArray → List (S59) → Option (Bool)
 | 0, _, _, _, _, _, _, _ => none
 | k + 1, x0, x5, x234000, x234001, x234002, x234003, x234004 => if x5 < (x0.length : Int) then (if 0 ≤ x5 then ((spec_EqualFeatures.f k ((rd_T57 x0 x5).f0) ((rd_T57 x0 x5).f1) ((rd_T57 x0 x5).f2) ((rd_T57 x0 x5).f3) ((rd_T57 x0 x5).f4) x234000 x234001 x234002 x234003 x234004).bind fun t235 => (if t235 = true then (some true) else (spec_l21Has.l0 k x0 (wrap64 (x5 + 1)) x234000 x234001 x234002 x234003 x234004))) else (none)) else (some false)
def spec_l21Has.f (k : Nat) (l0 : List (S57)) (a1_0 : Int) (a1_1 : Int) (a1_2 : Int) (a1_3 : ByteArray) (l1_4 : List (S59)) : Option (Bool) := spec_l21Has.l0 k l0 0 a1_0 a1_1 a1_2 a1_3 l1_4
def spec_TileBox.f (a0 : Int) : Option (Int × Int × Int × Int × Bool) := (spec_l1In.f a0 0 440).bind fun t237 => (if t237 = true then ((spec_Min.f 200 (wrap64 ((wrap64 ((Int.tmod a0 21) * 10)) + 10))).bind fun t238 => ((spec_Min.f 200 (wrap64 ((wrap64 ((wrap64 (Int.tdiv a0 21)) * 10)) + 10))).bind fun t239 => (some (wrap64 ((Int.tmod a0 21) * 10), wrap64 ((wrap64 (Int.tdiv a0 21)) * 10), t238, t239, true)))) else (some (0, 0, 0, 0, false)))
def spec_IsBox.f (a0_0 : Int) (a0_1 : Int) (a0_2 : Int) (a0_3 : Int) : Option (Bool) := (spec_IsPoint.f a0_0 a0_1).bind fun t241 => (if t241 = true then ((spec_IsPoint.f a0_2 a0_3).bind fun t242 => (if t242 = true then (if a0_0 ≤ a0_2 then (some (decide (a0_1 ≤ a0_3))) else (some false)) else (some false))) else (some false))
def spec_InBox.f (a0_0 : Int) (a0_1 : Int) (a0_2 : Int) (a0_3 : Int) (a1_0 : Int) (a1_1 : Int) : Option (Bool) := (spec_IsBox.f a0_0 a0_1 a0_2 a0_3).bind fun t245 => (if t245 = true then ((spec_l1In.f a1_0 a0_0 a0_2).bind fun t246 => (if t246 = true then ((spec_l1In.f a1_1 a0_1 a0_3).bind fun t247 => (some t247)) else (some false))) else (some false))
def spec_BoxOf.l0 : Nat → List (S59) → Int → Int → Int → Int → Int → Option (Int × Int × Int × Int × Bool)
 | 0, _, _, _, _, _, _ => none
 | k + 1, x0, x5, x252000, x252001, x252002, x252003 => if x5 < (x0.length : Int) then (if 0 ≤ x5 then ((spec_IsPoint.f ((rd_T59 x0 x5).f0) ((rd_T59 x0 x5).f1)).bind fun t253 => (if t253 = true then ((spec_Min.f x252000 ((rd_T59 x0 x5).f0)).bind fun t255 => ((spec_Min.f x252001 ((rd_T59 x0 x5).f1)).bind fun t257 => ((spec_Max.f x252002 ((rd_T59 x0 x5).f0)).bind fun t259 => ((spec_Max.f x252003 ((rd_T59 x0 x5).f1)).bind fun t261 => (spec_BoxOf.l0 k x0 (wrap64 (x5 + 1)) t255 t257 t259 t261))))) else (some (0, 0, 0, 0, false)))) else (none)) else (some (x252000, x252001, x252002, x252003, true))
def spec_BoxOf.f (k : Nat) (l0 : List (S59)) : Option (Int × Int × Int × Int × Bool) := if (l0.length : Int) = 0 then (some (0, 0, 0, 0, false)) else (if 0 < (l0.length : Int) then (spec_BoxOf.l0 k l0 0 ((rd_T59 l0 0).f0) ((rd_T59 l0 0).f1) ((rd_T59 l0 0).f0) ((rd_T59 l0 0).f1)) else (none))
def spec_BoxesMeet.f (a0_0 : Int) (a0_1 : Int) (a0_2 : Int) (a0_3 : Int) (a1_0 : Int) (a1_1 : Int) (a1_2 : Int) (a1_3 : Int) : Option (Bool) := (spec_IsBox.f a0_0 a0_1 a0_2 a0_3).bind fun t264 => (if t264 = true then ((spec_IsBox.f a1_0 a1_1 a1_2 a1_3).bind fun t265 => (if t265 = true then (if a0_0 ≤ a1_2 then (if a1_0 ≤ a0_2 then (if a0_1 ≤ a1_3 then (some (decide (a1_1 ≤ a0_3))) else (some false)) else (some false)) else (some false)) else (some false))) else (some false))
mutual
def spec_MeetsBox.j0 : Nat → Bool → Int → Int → Int → Int → Int → Int → Int → Int → Option (Bool)
 | 0, _, _, _, _, _, _, _, _, _ => none
 | k + 1, x28, x267000, x267001, x267002, x267003, x268000, x268001, x268002, x268003 => if x28 = true then (some false) else (spec_MeetsBox.l0 k (([(⟨x268000, x268001⟩ : S59), (⟨x268000, x268003⟩ : S59), (⟨x268002, x268003⟩ : S59), (⟨x268002, x268001⟩ : S59)] : List (S59))) 0 0 0 x267000 x267001 x267002 x267003)
def spec_MeetsBox.l0 : Nat → List (S59) → Int → Int → Int → Int → Int → Int → Int → Option (Bool)
 | 0, _, _, _, _, _, _, _, _ => none
 | k + 1, x7, x8, x9, x10, x267000, x267001, x267002, x267003 => if x10 < 4 then (if 0 ≤ x10 then (if x10 < (x7.length : Int) then ((spec_SideOf.f x267000 x267001 x267002 x267003 ((rd_T59 x7 x10).f0) ((rd_T59 x7 x10).f1)).bind fun t283 => (if t283 = 1 then (spec_MeetsBox.l0 k x7 (wrap64 (x8 + 1)) x9 (wrap64 (x10 + 1)) x267000 x267001 x267002 x267003) else (if t283 = (-1) then (spec_MeetsBox.l0 k x7 x8 (wrap64 (x9 + 1)) (wrap64 (x10 + 1)) x267000 x267001 x267002 x267003) else (spec_MeetsBox.l0 k x7 x8 x9 (wrap64 (x10 + 1)) x267000 x267001 x267002 x267003)))) else (none)) else (none)) else (if x8 < 4 then (some (decide (x9 < 4))) else (some false))
end
def spec_MeetsBox.f (k : Nat) (a0_0 : Int) (a0_1 : Int) (a0_2 : Int) (a0_3 : Int) (a1_0 : Int) (a1_1 : Int) (a1_2 : Int) (a1_3 : Int) : Option (Bool) := (spec_BoxOf.f k (([(⟨a0_0, a0_1⟩ : S59), (⟨a0_2, a0_3⟩ : S59)] : List (S59)))).bind fun bt271 => ((spec_IsSegment.f a0_0 a0_1 a0_2 a0_3).bind fun t277 => (if t277 = true then ((spec_BoxesMeet.f bt271.1 bt271.2.1 bt271.2.2.1 bt271.2.2.2.1 a1_0 a1_1 a1_2 a1_3).bind fun t278 => (spec_MeetsBox.j0 k (!t278) a0_0 a0_1 a0_2 a0_3 a1_0 a1_1 a1_2 a1_3)) else (spec_MeetsBox.j0 k true a0_0 a0_1 a0_2 a0_3 a1_0 a1_1 a1_2 a1_3)))
mutual
def spec_l20Pieces.j0 : Nat → List (S149) → List (S83) → Bool → Int → Int → Int → ByteArray → List (S59) → Int → Int → Int → Int → Option ((List (S83)))
 | 0, _, _, _, _, _, _, _, _, _, _, _, _ => none
 | k + 1, x1, x7, x20, x285000, x285001, x285002, x285003, x285004, x286000, x286001, x286002, x286003 => if x20 = true then (some (([(⟨x285000, 0⟩ : S83)] : List (S83)))) else (spec_l20Pieces.l0 k x1 x7 0 x285000 x285001 x285002 x285003 x285004 x286000 x286001 x286002 x286003)
def spec_l20Pieces.l0 : Nat → List (S149) → List (S83) → Int → Int → Int → Int → ByteArray → List (S59) → Int → Int → Int → Int → Option ((List (S83)))
 | 0, _, _, _, _, _, _, _, _, _, _, _, _ => none
 | k + 1, x1, x7, x8, x285000, x285001, x285002, x285003, x285004, x286000, x286001, x286002, x286003 => if x8 < (x1.length : Int) then (if 0 ≤ x8 then ((spec_MeetsBox.f k ((rd_T149 x1 x8).f0.f0) ((rd_T149 x1 x8).f0.f1) ((rd_T149 x1 x8).f1.f0) ((rd_T149 x1 x8).f1.f1) x286000 x286001 x286002 x286003).bind fun t295 => (if t295 = true then (if x7.length < 8796093022208 then (spec_l20Pieces.l0 k x1 (x7 ++ [(⟨x285000, x8⟩ : S83)]) (wrap64 (x8 + 1)) x285000 x285001 x285002 x285003 x285004 x286000 x286001 x286002 x286003) else (none)) else (spec_l20Pieces.l0 k x1 x7 (wrap64 (x8 + 1)) x285000 x285001 x285002 x285003 x285004 x286000 x286001 x286002 x286003))) else (none)) else (some x7)
end
def spec_l20Pieces.f (k : Nat) (a0_0 : Int) (a0_1 : Int) (a0_2 : Int) (a0_3 : ByteArray) (l0_4 : List (S59)) (l1 : List (S149)) (a2_0 : Int) (a2_1 : Int) (a2_2 : Int) (a2_3 : Int) : Option ((List (S83))) := (some (([] : List (S83)) : List (S83))).bind fun y286 => (if a0_1 = 1 then (if 0 < (l0_4.length : Int) then ((spec_InBox.f a2_0 a2_1 a2_2 a2_3 ((rd_T59 l0_4 0).f0) ((rd_T59 l0_4 0).f1)).bind fun t290 => (spec_l20Pieces.j0 k l1 y286 t290 a0_0 a0_1 a0_2 a0_3 l0_4 a2_0 a2_1 a2_2 a2_3)) else (none)) else (spec_l20Pieces.j0 k l1 y286 false a0_0 a0_1 a0_2 a0_3 l0_4 a2_0 a2_1 a2_2 a2_3))
def spec_RingSegments.f (k : Nat) (l0 : List (S59)) : Option ((List (S149))) := (spec_IsRing.f k l0).bind fun t299 => (if t299 = true then ((spec_l7Segments.f k l0).bind fun t300 => (some t300)) else (some (([] : List (S149)))))
def spec_PartsOf.f (k : Nat) (a0_0 : Int) (a0_1 : Int) (a0_2 : Int) (a0_3 : ByteArray) (l0_4 : List (S59)) : Option ((List (S149))) := (spec_IsFeature.f k a0_0 a0_1 a0_2 a0_3 l0_4).bind fun t307 => (if t307 = true then (if a0_1 = 2 then ((spec_SegmentsOf.f k l0_4).bind fun t311 => (some t311)) else (if a0_1 = 3 then ((spec_RingSegments.f k l0_4).bind fun t314 => (some t314)) else (some (([] : List (S149)))))) else (some (([] : List (S149)))))
def spec_TouchedTiles.l0 : Nat → List Int → List (S149) → Int → Int → Int → Int → ByteArray → List (S59) → Option (List Int)
 | 0, _, _, _, _, _, _, _, _ => none
 | k + 1, x3, x4, x5, x321000, x321001, x321002, x321003, x321004 => if x5 < 441 then ((spec_TileBox.f x5).bind fun bt328 => ((spec_l20Pieces.f k x321000 x321001 x321002 x321003 x321004 x4 bt328.1 bt328.2.1 bt328.2.2.1 bt328.2.2.2.1).bind fun t334 => (if (t334.length : Int) > 0 then (if x3.length < 17592186044416 then (spec_TouchedTiles.l0 k (x3 ++ [x5]) x4 (wrap64 (x5 + 1)) x321000 x321001 x321002 x321003 x321004) else (none)) else (spec_TouchedTiles.l0 k x3 x4 (wrap64 (x5 + 1)) x321000 x321001 x321002 x321003 x321004)))) else (some x3)
def spec_TouchedTiles.f (k : Nat) (a0_0 : Int) (a0_1 : Int) (a0_2 : Int) (a0_3 : ByteArray) (l0_4 : List (S59)) : Option (List Int) := (some (([] : List Int) : List Int)).bind fun y321 => ((spec_IsFeature.f k a0_0 a0_1 a0_2 a0_3 l0_4).bind fun t324 => (if t324 = true then ((spec_PartsOf.f k a0_0 a0_1 a0_2 a0_3 l0_4).bind fun t325 => (spec_TouchedTiles.l0 k y321 t325 0 a0_0 a0_1 a0_2 a0_3 l0_4)) else (some y321)))
def spec_l14Put.l0 : Nat → List Int → Int → Int → Option (List Int)
 | 0, _, _, _ => none
 | k + 1, x0, x1, x5 => if x5 < (x0.length : Int) then (if 0 ≤ x5 then (if (rd x0 x5) < x1 then (spec_l14Put.l0 k x0 x1 (wrap64 (x5 + 1))) else (if (rd x0 x5) = x1 then ((some (([] : List Int) : List Int)).bind fun y342 => (if y342.length + x0.length < 17592186044416 then (some (y342 ++ x0)) else (none))) else ((some (([] : List Int) : List Int)).bind fun y348 => (if x5 ≤ (x0.length : Int) then (if y348.length + (x0.take (x5 : Int).toNat).length < 17592186044416 then ((some (y348 ++ (x0.take (x5 : Int).toNat) : List Int)).bind fun y352 => ((some (([x1] : List Int) : List Int)).bind fun y355 => (if y352.length + y355.length < 17592186044416 then ((some (y352 ++ y355 : List Int)).bind fun y358 => (if y358.length + (x0.drop (x5 : Int).toNat).length < 17592186044416 then (some (y358 ++ (x0.drop (x5 : Int).toNat))) else (none))) else (none)))) else (none)) else (none))))) else (none)) else ((some (([] : List Int) : List Int)).bind fun y365 => (if 0 ≤ x5 then (if x5 ≤ (x0.length : Int) then (if y365.length + (x0.take (x5 : Int).toNat).length < 17592186044416 then ((some (y365 ++ (x0.take (x5 : Int).toNat) : List Int)).bind fun y369 => ((some (([x1] : List Int) : List Int)).bind fun y372 => (if y369.length + y372.length < 17592186044416 then ((some (y369 ++ y372 : List Int)).bind fun y375 => (if y375.length + (x0.drop (x5 : Int).toNat).length < 17592186044416 then (some (y375 ++ (x0.drop (x5 : Int).toNat))) else (none))) else (none)))) else (none)) else (none)) else (none)))
def spec_l14Put.f (k : Nat) (l0 : List Int) (a1 : Int) : Option (List Int) := spec_l14Put.l0 k l0 a1 0
mutual
def spec_l21Add.l0 : Nat → List Int → List (S57) → List (S57) → Int → Option (List Int)
 | 0, _, _, _, _ => none
 | k + 1, x0, x1, x2, x7 => if x7 < (x1.length : Int) then (if 0 ≤ x7 then ((spec_l21Has.f k x2 ((rd_T57 x1 x7).f0) ((rd_T57 x1 x7).f1) ((rd_T57 x1 x7).f2) ((rd_T57 x1 x7).f3) ((rd_T57 x1 x7).f4)).bind fun t383 => (if t383 = true then (spec_l21Add.l0 k x0 x1 x2 (wrap64 (x7 + 1))) else ((spec_TouchedTiles.f k ((rd_T57 x1 x7).f0) ((rd_T57 x1 x7).f1) ((rd_T57 x1 x7).f2) ((rd_T57 x1 x7).f3) ((rd_T57 x1 x7).f4)).bind fun t385 => (spec_l21Add.l1 k x0 x1 x2 x7 t385 0)))) else (none)) else (some x0)
def spec_l21Add.l1 : Nat → List Int → List (S57) → List (S57) → Int → List Int → Int → Option (List Int)
 | 0, _, _, _, _, _, _ => none
 | k + 1, x0, x1, x2, x7, x8, x9 => if x9 < (x8.length : Int) then (if 0 ≤ x9 then ((spec_l14Put.f k x0 (rd x8 x9)).bind fun t389 => (spec_l21Add.l1 k t389 x1 x2 x7 x8 (wrap64 (x9 + 1)))) else (none)) else (spec_l21Add.l0 k x0 x1 x2 (wrap64 (x7 + 1)))
end
def spec_l21Add.f (k : Nat) (l0 : List Int) (l1 : List (S57)) (l2 : List (S57)) : Option (List Int) := spec_l21Add.l0 k l0 l1 l2 0
def spec_ChangedTiles.j0 : Nat → List (S57) → List (S57) → Bool → Option (List Int)
 | 0, _, _, _ => none
 | k + 1, x0, x1, x12 => if x12 = true then (some (([] : List Int))) else ((spec_l21Add.f k (([] : List Int)) x0 x1).bind fun t400 => ((spec_l21Add.f k t400 x1 x0).bind fun t403 => (some t403)))
def spec_ChangedTiles.f (k : Nat) (l0 : List (S57)) (l1 : List (S57)) : Option (List Int) := (spec_IsSource.f k l0).bind fun t392 => (if t392 = true then ((spec_IsSource.f k l1).bind fun t393 => (spec_ChangedTiles.j0 k l0 l1 (!t393))) else (spec_ChangedTiles.j0 k l0 l1 true))
def spec_l14Has.l0 : Nat → List Int → Int → Int → Option (Bool)
 | 0, _, _, _ => none
 | k + 1, x0, x1, x5 => if x5 < (x0.length : Int) then (if 0 ≤ x5 then (if (rd x0 x5) = x1 then (some true) else (spec_l14Has.l0 k x0 x1 (wrap64 (x5 + 1)))) else (none)) else (some false)
def spec_l14Has.f (k : Nat) (l0 : List Int) (a1 : Int) : Option (Bool) := spec_l14Has.l0 k l0 a1 0
def spec_FindFeature.l0 : Nat → List (S57) → Int → Int → Option (Int)
 | 0, _, _, _ => none
 | k + 1, x0, x1, x5 => if x5 < (x0.length : Int) then (if 0 ≤ x5 then (if ((rd_T57 x0 x5).f0) = x1 then (some x5) else (spec_FindFeature.l0 k x0 x1 (wrap64 (x5 + 1)))) else (none)) else (some (-1))
def spec_FindFeature.f (k : Nat) (l0 : List (S57)) (a1 : Int) : Option (Int) := spec_FindFeature.l0 k l0 a1 0
mutual
def spec_PiecesIn.l0 : Nat → List (S57) → List (S83) → Bool → Int → Int → Int → Int → Int → Option ((List (S83)))
 | 0, _, _, _, _, _, _, _, _ => none
 | k + 1, x0, x5, x7, x8, x417000, x417001, x417002, x417003 => if x8 < (x0.length : Int) then (if x7 = true then ((spec_IsSource.f k x0).bind fun t417 => (spec_PiecesIn.j1 k x0 x5 x7 x8 t417 x417000 x417001 x417002 x417003)) else (spec_PiecesIn.j1 k x0 x5 x7 x8 false x417000 x417001 x417002 x417003)) else (spec_PiecesIn.j1 k x0 x5 x7 x8 false x417000 x417001 x417002 x417003)
def spec_PiecesIn.j1 : Nat → List (S57) → List (S83) → Bool → Int → Bool → Int → Int → Int → Int → Option ((List (S83)))
 | 0, _, _, _, _, _, _, _, _, _ => none
 | k + 1, x0, x5, x7, x8, x25, x417000, x417001, x417002, x417003 => if x25 = true then (if 0 ≤ x8 then (if x8 < (x0.length : Int) then ((spec_PartsOf.f k ((rd_T57 x0 x8).f0) ((rd_T57 x0 x8).f1) ((rd_T57 x0 x8).f2) ((rd_T57 x0 x8).f3) ((rd_T57 x0 x8).f4)).bind fun t420 => ((spec_l20Pieces.f k ((rd_T57 x0 x8).f0) ((rd_T57 x0 x8).f1) ((rd_T57 x0 x8).f2) ((rd_T57 x0 x8).f3) ((rd_T57 x0 x8).f4) t420 x417000 x417001 x417002 x417003).bind fun t423 => (if x5.length + t423.length < 8796093022208 then (spec_PiecesIn.l0 k x0 (x5 ++ t423) x7 (wrap64 (x8 + 1)) x417000 x417001 x417002 x417003) else (none)))) else (none)) else (none)) else (some x5)
end
def spec_PiecesIn.f (k : Nat) (l0 : List (S57)) (a1 : Int) : Option ((List (S83))) := (spec_TileBox.f a1).bind fun bt411 => (spec_PiecesIn.l0 k l0 (([] : List (S83))) bt411.2.2.2.2 0 bt411.1 bt411.2.1 bt411.2.2.1 bt411.2.2.2.1)
def spec_Mod.f (a0 : Int) (a1 : Int) : Option (Int) := (spec_l1In.f a1 1 1000000000000).bind fun t429 => (if t429 = true then (if a1 = 0 then (none) else (some (Int.tmod (wrap64 ((Int.tmod a0 a1) + a1)) a1))) else (some 0))
def spec_Hash.l0 : Nat → List Int → Int → Int → Option (Int)
 | 0, _, _, _ => none
 | k + 1, x0, x3, x4 => if x4 < (x0.length : Int) then (if 0 ≤ x4 then ((spec_Mod.f (rd x0 x4) 2147483647).bind fun t431 => (spec_Hash.l0 k x0 (Int.tmod (wrap64 ((wrap64 ((wrap64 (x3 * 1000003)) + t431)) + 13)) 2147483647) (wrap64 (x4 + 1)))) else (none)) else (some x3)
def spec_Hash.f (k : Nat) (l0 : List Int) : Option (Int) := spec_Hash.l0 k l0 11 0
mutual
def spec_PieceDigest.l0 : Nat → Int → List Int → Int → Int → Int → Int → ByteArray → List (S59) → Option (Int)
 | 0, _, _, _, _, _, _, _, _ => none
 | k + 1, x1, x5, x6, x433000, x433001, x433002, x433003, x433004 => if x6 < (x433003.size : Int) then (if 0 ≤ x6 then (if x5.length < 17592186044416 then (spec_PieceDigest.l0 k x1 (x5 ++ [wrap64 (bt x433003 x6)]) (wrap64 (x6 + 1)) x433000 x433001 x433002 x433003 x433004) else (none)) else (none)) else (if x5.length < 17592186044416 then ((some (x5 ++ [x1] : List Int)).bind fun y440 => ((spec_PartsOf.f k x433000 x433001 x433002 x433003 x433004).bind fun t443 => (if x433001 = 1 then (spec_PieceDigest.j1 k x1 y440 t443 (x1 == 0) x433000 x433001 x433002 x433003 x433004) else (spec_PieceDigest.j1 k x1 y440 t443 false x433000 x433001 x433002 x433003 x433004)))) else (none))
def spec_PieceDigest.j1 : Nat → Int → List Int → List (S149) → Bool → Int → Int → Int → ByteArray → List (S59) → Option (Int)
 | 0, _, _, _, _, _, _, _, _, _ => none
 | k + 1, x1, x5, x7, x42, x433000, x433001, x433002, x433003, x433004 => if x42 = true then (if 0 < (x433004.length : Int) then ((some (([(rd_T59 x433004 0).f0, (rd_T59 x433004 0).f1] : List Int) : List Int)).bind fun y448 => (if x5.length + y448.length < 17592186044416 then ((spec_Hash.f k (x5 ++ y448)).bind fun t454 => (some t454)) else (none))) else (none)) else ((spec_l1In.f x1 0 (wrap64 ((x7.length : Int) - 1))).bind fun t455 => (if t455 = true then (if 0 ≤ x1 then (if x1 < (x7.length : Int) then ((some (([(rd_T149 x7 x1).f0.f0, (rd_T149 x7 x1).f0.f1, (rd_T149 x7 x1).f1.f0, (rd_T149 x7 x1).f1.f1] : List Int) : List Int)).bind fun y460 => (if x5.length + y460.length < 17592186044416 then ((spec_Hash.f k (x5 ++ y460)).bind fun t466 => (some t466)) else (none))) else (none)) else (none)) else (some 0)))
end
def spec_PieceDigest.f (k : Nat) (a0_0 : Int) (a0_1 : Int) (a0_2 : Int) (a0_3 : ByteArray) (l0_4 : List (S59)) (a1 : Int) : Option (Int) := (spec_IsFeature.f k a0_0 a0_1 a0_2 a0_3 l0_4).bind fun t433 => (if t433 = true then (spec_PieceDigest.l0 k a1 (([a0_0, a0_1, a0_2, (a0_3.size : Int)] : List Int)) 0 a0_0 a0_1 a0_2 a0_3 l0_4) else (some 0))
mutual
def spec_TileDigest.j0 : Nat → List (S57) → Int → Bool → Option (Int)
 | 0, _, _, _ => none
 | k + 1, x0, x1, x21 => if x21 = true then (some 0) else ((spec_PiecesIn.f k x0 x1).bind fun t477 => (spec_TileDigest.l0 k x0 (([] : List Int)) t477 0))
def spec_TileDigest.l0 : Nat → List (S57) → List Int → List (S83) → Int → Option (Int)
 | 0, _, _, _, _ => none
 | k + 1, x0, x7, x8, x9 => if x9 < (x8.length : Int) then (if 0 ≤ x9 then ((spec_FindFeature.f k x0 ((rd_T83 x8 x9).f0)).bind fun t481 => (if 0 ≤ t481 then (if t481 < (x0.length : Int) then ((spec_PieceDigest.f k ((rd_T57 x0 t481).f0) ((rd_T57 x0 t481).f1) ((rd_T57 x0 t481).f2) ((rd_T57 x0 t481).f3) ((rd_T57 x0 t481).f4) ((rd_T83 x8 x9).f1)).bind fun t484 => (if x7.length < 17592186044416 then (spec_TileDigest.l0 k x0 (x7 ++ [t484]) x8 (wrap64 (x9 + 1))) else (none))) else (none)) else (none))) else (none)) else ((spec_Hash.f k x7).bind fun t488 => (some t488))
end
def spec_TileDigest.f (k : Nat) (l0 : List (S57)) (a1 : Int) : Option (Int) := (spec_TileBox.f a1).bind fun bt467 => (if bt467.2.2.2.2 = true then ((spec_IsSource.f k l0).bind fun t473 => (spec_TileDigest.j0 k l0 a1 (!t473))) else (spec_TileDigest.j0 k l0 a1 true))
def spec_SameElsewhere.l0 : Nat → List (S57) → List (S57) → List Int → List Int → Int → Option (Bool)
 | 0, _, _, _, _, _ => none
 | k + 1, x0, x1, x2, x7, x8 => if x8 < (x2.length : Int) then (if 0 ≤ x8 then ((spec_l14Has.f k x7 (rd x2 x8)).bind fun t495 => (if t495 = true then (spec_SameElsewhere.l0 k x0 x1 x2 x7 (wrap64 (x8 + 1))) else ((spec_TileDigest.f k x0 (rd x2 x8)).bind fun t497 => ((spec_TileDigest.f k x1 (rd x2 x8)).bind fun t499 => (if t497 = t499 then (spec_SameElsewhere.l0 k x0 x1 x2 x7 (wrap64 (x8 + 1))) else (some false)))))) else (none)) else ((spec_IsSource.f k x0).bind fun t492 => (if t492 = true then ((spec_IsSource.f k x1).bind fun t493 => (some t493)) else (some false)))
def spec_SameElsewhere.f (k : Nat) (l0 : List (S57)) (l1 : List (S57)) (l2 : List Int) : Option (Bool) := (spec_ChangedTiles.f k l0 l1).bind fun t489 => (spec_SameElsewhere.l0 k l0 l1 l2 t489 0)
def impl_InRange.f (a0 : Int) (a1 : Int) (a2 : Int) : Option (Bool) := some (inR a0 a1 a2)
def impl_IsPoint.f (a0_0 : Int) (a0_1 : Int) : Option (Bool) := some (isPt a0_0 a0_1)
def impl_IsName.l0 : Nat → ByteArray → Int → Int → Option (Bool)
 | 0, _, _, _ => none
 | k + 1, x0, x5, x6 => if x6 < x5 then (if 0 ≤ x6 then (if x6 < (x0.size : Int) then (if (bt x0 x6) < 97 then (some false) else (if (bt x0 x6) > 122 then (some false) else (impl_IsName.l0 k x0 x5 (wrap64 (x6 + 1))))) else (none)) else (none)) else ((impl_InRange.f (x0.size : Int) 1 8).bind fun t500 => (some t500))
def impl_IsName.f (k : Nat) (a0 : ByteArray) : Option (Bool) := impl_IsName.l0 k a0 (a0.size : Int) 0
def impl_around.l0 : Nat → List (S59) → List (S149) → List (S59) → Int → Int → Option ((List (S149)))
 | 0, _, _, _, _, _ => none
 | k + 1, x0, x3, x7, x8, x9 => if x9 < x8 then (if 0 ≤ x9 then (if x9 < (x7.length : Int) then (if (x0.length : Int) = 0 then (none) else (if 0 ≤ (Int.tmod (wrap64 (x9 + 1)) (x0.length : Int)) then (if (Int.tmod (wrap64 (x9 + 1)) (x0.length : Int)) < (x0.length : Int) then (if x3.length < 4398046511104 then (impl_around.l0 k x0 (x3 ++ [(⟨(⟨(rd_T59 x7 x9).f0, (rd_T59 x7 x9).f1⟩ : S59), (⟨(rd_T59 x0 (Int.tmod (wrap64 (x9 + 1)) (x0.length : Int))).f0, (rd_T59 x0 (Int.tmod (wrap64 (x9 + 1)) (x0.length : Int))).f1⟩ : S59)⟩ : S149)]) x7 x8 (wrap64 (x9 + 1))) else (none)) else (none)) else (none))) else (none)) else (none)) else (some x3)
def impl_around.f (k : Nat) (l0 : List (S59)) : Option ((List (S149))) := impl_around.l0 k l0 (([] : List (S149))) l0 (l0.length : Int) 0
def impl_IsSegment.f (a0_0 : Int) (a0_1 : Int) (a0_2 : Int) (a0_3 : Int) : Option (Bool) := some (isSeg a0_0 a0_1 a0_2 a0_3)
def cmp_isNaN_int.f (a0 : Int) : Option (Bool) := some (false)
def cmp_Compare_int.f (a0 : Int) (a1 : Int) : Option (Int) := some (cmpI a0 a1)
def impl_cross.f (a0_0 : Int) (a0_1 : Int) (a1_0 : Int) (a1_1 : Int) (a2_0 : Int) (a2_1 : Int) : Option (Int) := some (crossI a0_0 a0_1 a1_0 a1_1 a2_0 a2_1)
def impl_SideOf.f (a0_0 : Int) (a0_1 : Int) (a1_0 : Int) (a1_1 : Int) (a2_0 : Int) (a2_1 : Int) : Option (Int) := some (sideI a0_0 a0_1 a1_0 a1_1 a2_0 a2_1)
def impl_BeforePoint.f (a0_0 : Int) (a0_1 : Int) (a1_0 : Int) (a1_1 : Int) : Option (Bool) := some (beforeI a0_0 a0_1 a1_0 a1_1)
def impl_TurnSegment.f (a0_0 : Int) (a0_1 : Int) (a0_2 : Int) (a0_3 : Int) : Option (Int × Int × Int × Int) := some (a0_2, a0_3, a0_0, a0_1)
def impl_forward.f (a0_0 : Int) (a0_1 : Int) (a0_2 : Int) (a0_3 : Int) : Option (Int × Int × Int × Int) := (impl_BeforePoint.f a0_2 a0_3 a0_0 a0_1).bind fun t514 => (if t514 = true then ((impl_TurnSegment.f a0_0 a0_1 a0_2 a0_3).bind fun bt515 => (some (bt515.1, bt515.2.1, bt515.2.2.1, bt515.2.2.2))) else (some (a0_0, a0_1, a0_2, a0_3)))
def impl_IsOn.f (a0_0 : Int) (a0_1 : Int) (a0_2 : Int) (a0_3 : Int) (a1_0 : Int) (a1_1 : Int) : Option (Bool) := some (isOnI a0_0 a0_1 a0_2 a0_3 a1_0 a1_1)
attribute [local go_sem high] eqA59
mutual
def impl_HowMeet.j0 : Nat → Bool → Int → Int → Int → Int → Int → Int → Int → Int → Option (Int)
 | 0, _, _, _, _, _, _, _, _, _ => none
 | k + 1, x16, x520000, x520001, x520002, x520003, x521000, x521001, x521002, x521003 => if x16 = true then (some 0) else ((impl_SideOf.f x520000 x520001 x520002 x520003 x521000 x521001).bind fun t523 => ((impl_SideOf.f x520000 x520001 x520002 x520003 x521002 x521003).bind fun t524 => (if t523 = 0 then (impl_HowMeet.j1 k t523 t524 (t524 == 0) x520000 x520001 x520002 x520003 x521000 x521001 x521002 x521003) else (impl_HowMeet.j1 k t523 t524 false x520000 x520001 x520002 x520003 x521000 x521001 x521002 x521003))))
def impl_HowMeet.j1 : Nat → Int → Int → Bool → Int → Int → Int → Int → Int → Int → Int → Int → Option (Int)
 | 0, _, _, _, _, _, _, _, _, _, _, _ => none
 | k + 1, x5, x6, x36, x520000, x520001, x520002, x520003, x521000, x521001, x521002, x521003 => if x36 = true then ((impl_forward.f x520000 x520001 x520002 x520003).bind fun bt525 => ((impl_forward.f x521000 x521001 x521002 x521003).bind fun bt529 => ((impl_BeforePoint.f bt525.1 bt525.2.1 bt529.1 bt529.2.1).bind fun t535 => (if t535 = true then (impl_HowMeet.j2 k bt529.1 bt529.2.1 bt529.2.2.1 bt529.2.2.2 bt529.1 bt529.2.1 bt525.2.2.1 bt525.2.2.2) else (impl_HowMeet.j2 k bt529.1 bt529.2.1 bt529.2.2.1 bt529.2.2.2 bt525.1 bt525.2.1 bt525.2.2.1 bt525.2.2.2))))) else (if (wrap64 (x5 * x6)) < 0 then ((impl_SideOf.f x521000 x521001 x521002 x521003 x520000 x520001).bind fun t538 => ((impl_SideOf.f x521000 x521001 x521002 x521003 x520002 x520003).bind fun t539 => (impl_HowMeet.j4 k (decide ((wrap64 (t538 * t539)) < 0)) x520000 x520001 x520002 x520003 x521000 x521001 x521002 x521003))) else (impl_HowMeet.j4 k false x520000 x520001 x520002 x520003 x521000 x521001 x521002 x521003))
def impl_HowMeet.j2 : Nat → Int → Int → Int → Int → Int → Int → Int → Int → Option (Int)
 | 0, _, _, _, _, _, _, _, _ => none
 | k + 1, x521000, x521001, x521002, x521003, x534000, x534001, x535000, x535001 => (impl_BeforePoint.f x521002 x521003 x535000 x535001).bind fun t536 => (if t536 = true then (impl_HowMeet.j3 k x534000 x534001 x521002 x521003) else (impl_HowMeet.j3 k x534000 x534001 x535000 x535001))
def impl_HowMeet.j3 : Nat → Int → Int → Int → Int → Option (Int)
 | 0, _, _, _, _ => none
 | k + 1, x534000, x534001, x535000, x535001 => (impl_BeforePoint.f x535000 x535001 x534000 x534001).bind fun t537 => (if t537 = true then (some 0) else (if (x534000 == x535000 && (x534001 == x535001)) = true then (some 1) else (some 3)))
def impl_HowMeet.j4 : Nat → Bool → Int → Int → Int → Int → Int → Int → Int → Int → Option (Int)
 | 0, _, _, _, _, _, _, _, _, _ => none
 | k + 1, x86, x520000, x520001, x520002, x520003, x521000, x521001, x521002, x521003 => if x86 = true then (some 2) else ((impl_IsOn.f x520000 x520001 x520002 x520003 x521000 x521001).bind fun t540 => (if t540 = true then (some 1) else ((impl_IsOn.f x520000 x520001 x520002 x520003 x521002 x521003).bind fun t541 => (if t541 = true then (some 1) else ((impl_IsOn.f x521000 x521001 x521002 x521003 x520000 x520001).bind fun t542 => (if t542 = true then (some 1) else ((impl_IsOn.f x521000 x521001 x521002 x521003 x520002 x520003).bind fun t543 => (if t543 = true then (some 1) else (some 0)))))))))
end
def impl_HowMeet.f (k : Nat) (a0_0 : Int) (a0_1 : Int) (a0_2 : Int) (a0_3 : Int) (a1_0 : Int) (a1_1 : Int) (a1_2 : Int) (a1_3 : Int) : Option (Int) := (impl_IsSegment.f a0_0 a0_1 a0_2 a0_3).bind fun t521 => (if t521 = true then ((impl_IsSegment.f a1_0 a1_1 a1_2 a1_3).bind fun t522 => (impl_HowMeet.j0 k (!t522) a0_0 a0_1 a0_2 a0_3 a1_0 a1_1 a1_2 a1_3)) else (impl_HowMeet.j0 k true a0_0 a0_1 a0_2 a0_3 a1_0 a1_1 a1_2 a1_3))
mutual
def impl_IsRing.j0 : Nat → List (S59) → Bool → Option (Bool)
 | 0, _, _ => none
 | k + 1, x0, x14 => if x14 = true then (some false) else ((impl_around.f k x0).bind fun t544 => (impl_IsRing.l0 k t544 (t544.length : Int) 0))
def impl_IsRing.l0 : Nat → List (S149) → Int → Int → Option (Bool)
 | 0, _, _, _ => none
 | k + 1, x3, x18, x19 => if x19 < x18 then (if 0 ≤ x19 then (if x19 < (x3.length : Int) then ((impl_IsSegment.f ((rd_T149 x3 x19).f0.f0) ((rd_T149 x3 x19).f0.f1) ((rd_T149 x3 x19).f1.f0) ((rd_T149 x3 x19).f1.f1)).bind fun t548 => (if t548 = true then (impl_IsRing.l1 k x3 x19 x18 x19 x19 0) else (some false))) else (none)) else (none)) else (some true)
def impl_IsRing.l1 : Nat → List (S149) → Int → Int → Int → Int → Int → Option (Bool)
 | 0, _, _, _, _, _, _ => none
 | k + 1, x3, x4, x18, x19, x28, x29 => if x29 < x28 then (if x29 = (wrap64 (x4 - 1)) then (impl_IsRing.j3 k x3 x4 x29 0 x18 x19 x28 x29 true) else (if x29 = 0 then (impl_IsRing.j3 k x3 x4 x29 0 x18 x19 x28 x29 (x4 == (wrap64 ((x3.length : Int) - 1)))) else (impl_IsRing.j3 k x3 x4 x29 0 x18 x19 x28 x29 false))) else (impl_IsRing.l0 k x3 x18 (wrap64 (x19 + 1)))
def impl_IsRing.j3 : Nat → List (S149) → Int → Int → Int → Int → Int → Int → Int → Bool → Option (Bool)
 | 0, _, _, _, _, _, _, _, _, _ => none
 | k + 1, x3, x4, x5, x6, x18, x19, x28, x29, x46 => if x46 = true then (if 0 ≤ x4 then (if x4 < (x3.length : Int) then (if 0 ≤ x5 then (if x5 < (x3.length : Int) then ((impl_HowMeet.f k ((rd_T149 x3 x4).f0.f0) ((rd_T149 x3 x4).f0.f1) ((rd_T149 x3 x4).f1.f0) ((rd_T149 x3 x4).f1.f1) ((rd_T149 x3 x5).f0.f0) ((rd_T149 x3 x5).f0.f1) ((rd_T149 x3 x5).f1.f0) ((rd_T149 x3 x5).f1.f1)).bind fun t551 => (if t551 = 1 then (impl_IsRing.l1 k x3 x4 x18 x19 x28 (wrap64 (x29 + 1))) else (some false))) else (none)) else (none)) else (none)) else (none)) else (if 0 ≤ x4 then (if x4 < (x3.length : Int) then (if 0 ≤ x5 then (if x5 < (x3.length : Int) then ((impl_HowMeet.f k ((rd_T149 x3 x4).f0.f0) ((rd_T149 x3 x4).f0.f1) ((rd_T149 x3 x4).f1.f0) ((rd_T149 x3 x4).f1.f1) ((rd_T149 x3 x5).f0.f0) ((rd_T149 x3 x5).f0.f1) ((rd_T149 x3 x5).f1.f0) ((rd_T149 x3 x5).f1.f1)).bind fun t554 => (if t554 = x6 then (impl_IsRing.l1 k x3 x4 x18 x19 x28 (wrap64 (x29 + 1))) else (some false))) else (none)) else (none)) else (none)) else (none))
end
def impl_IsRing.f (k : Nat) (l0 : List (S59)) : Option (Bool) := if (l0.length : Int) < 3 then (impl_IsRing.j0 k l0 true) else (impl_IsRing.j0 k l0 (decide ((l0.length : Int) > 10)))
attribute [local go_sem high] eqA59
mutual
def impl_IsLine.j0 : Nat → List (S59) → Bool → Option (Bool)
 | 0, _, _ => none
 | k + 1, x0, x12 => if x12 = true then (some false) else (impl_IsLine.l0 k x0 x0 (x0.length : Int) 0)
def impl_IsLine.l0 : Nat → List (S59) → List (S59) → Int → Int → Option (Bool)
 | 0, _, _, _, _ => none
 | k + 1, x0, x13, x14, x15 => if x15 < x14 then (if 0 ≤ x15 then (if x15 < (x13.length : Int) then ((impl_IsPoint.f ((rd_T59 x13 x15).f0) ((rd_T59 x13 x15).f1)).bind fun t557 => (if t557 = true then (if x15 > 0 then (if 0 ≤ (wrap64 (x15 - 1)) then (if (wrap64 (x15 - 1)) < (x0.length : Int) then (if (((rd_T59 x13 x15).f0) == ((rd_T59 x0 (wrap64 (x15 - 1))).f0) && (((rd_T59 x13 x15).f1) == ((rd_T59 x0 (wrap64 (x15 - 1))).f1))) = true then (some false) else (impl_IsLine.l0 k x0 x13 x14 (wrap64 (x15 + 1)))) else (none)) else (none)) else (impl_IsLine.l0 k x0 x13 x14 (wrap64 (x15 + 1)))) else (some false))) else (none)) else (none)) else (some true)
end
def impl_IsLine.f (k : Nat) (l0 : List (S59)) : Option (Bool) := if (l0.length : Int) < 2 then (impl_IsLine.j0 k l0 true) else (impl_IsLine.j0 k l0 (decide ((l0.length : Int) > 10)))
def impl_SegmentsOf.l0 : Nat → List (S59) → List (S149) → Int → Option ((List (S149)))
 | 0, _, _, _ => none
 | k + 1, x0, x3, x4 => if x4 < (x0.length : Int) then (if 0 ≤ (wrap64 (x4 - 1)) then (if (wrap64 (x4 - 1)) < (x0.length : Int) then (if 0 ≤ x4 then (if x3.length < 4398046511104 then (impl_SegmentsOf.l0 k x0 (x3 ++ [(⟨(⟨(rd_T59 x0 (wrap64 (x4 - 1))).f0, (rd_T59 x0 (wrap64 (x4 - 1))).f1⟩ : S59), (⟨(rd_T59 x0 x4).f0, (rd_T59 x0 x4).f1⟩ : S59)⟩ : S149)]) (wrap64 (x4 + 1))) else (none)) else (none)) else (none)) else (none)) else (some x3)
def impl_SegmentsOf.f (k : Nat) (l0 : List (S59)) : Option ((List (S149))) := (some (([] : List (S149)) : List (S149))).bind fun y559 => ((impl_IsLine.f k l0).bind fun t562 => (if t562 = true then (impl_SegmentsOf.l0 k l0 y559 1) else (some y559)))
mutual
def impl_IsSimple.l0 : Nat → List (S149) → Int → Int → Option (Bool)
 | 0, _, _, _ => none
 | k + 1, x3, x13, x14 => if x14 < x13 then (impl_IsSimple.l1 k x3 x14 x13 x14 x14 0) else (some true)
def impl_IsSimple.l1 : Nat → List (S149) → Int → Int → Int → Int → Int → Option (Bool)
 | 0, _, _, _, _, _, _ => none
 | k + 1, x3, x4, x13, x14, x17, x18 => if x18 < x17 then (if x18 = (wrap64 (x4 - 1)) then (if 0 ≤ x4 then (if x4 < (x3.length : Int) then (if 0 ≤ x18 then (if x18 < (x3.length : Int) then ((impl_HowMeet.f k ((rd_T149 x3 x4).f0.f0) ((rd_T149 x3 x4).f0.f1) ((rd_T149 x3 x4).f1.f0) ((rd_T149 x3 x4).f1.f1) ((rd_T149 x3 x18).f0.f0) ((rd_T149 x3 x18).f0.f1) ((rd_T149 x3 x18).f1.f0) ((rd_T149 x3 x18).f1.f1)).bind fun t574 => (if t574 = 1 then (impl_IsSimple.l1 k x3 x4 x13 x14 x17 (wrap64 (x18 + 1))) else (some false))) else (none)) else (none)) else (none)) else (none)) else (if 0 ≤ x4 then (if x4 < (x3.length : Int) then (if 0 ≤ x18 then (if x18 < (x3.length : Int) then ((impl_HowMeet.f k ((rd_T149 x3 x4).f0.f0) ((rd_T149 x3 x4).f0.f1) ((rd_T149 x3 x4).f1.f0) ((rd_T149 x3 x4).f1.f1) ((rd_T149 x3 x18).f0.f0) ((rd_T149 x3 x18).f0.f1) ((rd_T149 x3 x18).f1.f0) ((rd_T149 x3 x18).f1.f1)).bind fun t577 => (if t577 = 0 then (impl_IsSimple.l1 k x3 x4 x13 x14 x17 (wrap64 (x18 + 1))) else (some false))) else (none)) else (none)) else (none)) else (none))) else (impl_IsSimple.l0 k x3 x13 (wrap64 (x14 + 1)))
end
def impl_IsSimple.f (k : Nat) (l0 : List (S59)) : Option (Bool) := (impl_IsLine.f k l0).bind fun t568 => (if t568 = true then ((impl_SegmentsOf.f k l0).bind fun t569 => (impl_IsSimple.l0 k t569 (t569.length : Int) 0)) else (some false))
def impl_IsFeature.j0 : Nat → Bool → Int → Int → Int → ByteArray → List (S59) → Option (Bool)
 | 0, _, _, _, _, _, _ => none
 | k + 1, x23, x579000, x579001, x579002, x579003, x579004 => if x23 = true then (some false) else (if x579001 = 1 then (if (x579004.length : Int) = 1 then (if 0 < (x579004.length : Int) then ((impl_IsPoint.f ((rd_T59 x579004 0).f0) ((rd_T59 x579004 0).f1)).bind fun t583 => (some t583)) else (none)) else (some false)) else (if x579001 = 2 then ((impl_IsSimple.f k x579004).bind fun t584 => (some t584)) else (if x579001 = 3 then ((impl_IsRing.f k x579004).bind fun t585 => (some t585)) else (some false))))
def impl_IsFeature.f (k : Nat) (a0_0 : Int) (a0_1 : Int) (a0_2 : Int) (a0_3 : ByteArray) (l0_4 : List (S59)) : Option (Bool) := (impl_InRange.f a0_0 1 99).bind fun t579 => (if t579 = true then ((impl_InRange.f a0_2 0 9).bind fun t580 => (if t580 = true then (if a0_3.toList = ([] : List UInt8) then (impl_IsFeature.j0 k false a0_0 a0_1 a0_2 a0_3 l0_4) else ((impl_IsName.f k a0_3).bind fun t581 => (impl_IsFeature.j0 k (!t581) a0_0 a0_1 a0_2 a0_3 l0_4))) else (impl_IsFeature.j0 k true a0_0 a0_1 a0_2 a0_3 l0_4))) else (impl_IsFeature.j0 k true a0_0 a0_1 a0_2 a0_3 l0_4))
def impl_IsSource.l0 : Nat → List (S57) → List (S57) → Int → Int → Option (Bool)
 | 0, _, _, _, _ => none
 | k + 1, x0, x8, x9, x10 => if x10 < x9 then (if 0 ≤ x10 then (if x10 < (x8.length : Int) then ((impl_IsFeature.f k ((rd_T57 x8 x10).f0) ((rd_T57 x8 x10).f1) ((rd_T57 x8 x10).f2) ((rd_T57 x8 x10).f3) ((rd_T57 x8 x10).f4)).bind fun t588 => (if t588 = true then (if x10 > 0 then (if 0 ≤ (wrap64 (x10 - 1)) then (if (wrap64 (x10 - 1)) < (x0.length : Int) then (if ((rd_T57 x8 x10).f0) ≤ ((rd_T57 x0 (wrap64 (x10 - 1))).f0) then (some false) else (impl_IsSource.l0 k x0 x8 x9 (wrap64 (x10 + 1)))) else (none)) else (none)) else (impl_IsSource.l0 k x0 x8 x9 (wrap64 (x10 + 1)))) else (some false))) else (none)) else (none)) else (some true)
def impl_IsSource.f (k : Nat) (l0 : List (S57)) : Option (Bool) := if (l0.length : Int) > 16 then (some false) else (impl_IsSource.l0 k l0 l0 (l0.length : Int) 0)
attribute [local go_sem high] eqA59
/-- The place of the first feature with this number, counted from i; -1 if there is none. -/
def ffI : List S57 → Int → Int → Int
  | [], _, _ => -1
  | x :: r, id, i => if x.f0 = id then i else ffI r id (i + 1)
theorem ffI_hit (l : List S57) (id : Int) (i : Nat) (h : i < l.length) (he : (l.getD i z57).f0 = id) (hm : ∀ j, j < i → (l.getD j z57).f0 ≠ id) : ∀ b, ffI l id b = b + i := by
  induction l generalizing i with
  | nil => exact absurd h (Nat.not_lt_zero _)
  | cons x r ih =>
    intro b
    cases i with
    | zero => rw [ffI, if_pos (by simpa using he)]; simp
    | succ i =>
      rw [ffI, if_neg (by simpa using hm 0 (by omega)), ih i (by simpa using h) (by simpa using he) (fun j hj => by simpa using hm (j + 1) (by omega))]
      push_cast; omega
theorem ffI_miss (l : List S57) (id : Int) (hm : ∀ j, j < l.length → (l.getD j z57).f0 ≠ id) : ∀ b, ffI l id b = -1 := by
  induction l with
  | nil => intro b; rfl
  | cons x r ih =>
    intro b; rw [ffI, if_neg (by simpa using hm 0 (by simp)), ih (fun j hj => by simpa using hm (j + 1) (by simpa using hj))]
theorem ff_pred (A4 : Option Addr) (n4 c4 : Nat) (x0 x1 x2 : Int) (x3 : ByteArray) (b : Nat) (id : Int) (w : World) (hb : w.cell? ⟨b, 0, none⟩ = some (.int .i64 id)) :
    Calls Tryz.prog 89 #[.agg #[.int .i64 x0, .int .i64 x1, .int .i64 x2, .string x3, .slice A4 n4 c4], .pointer (some ⟨b, 0, none⟩)] w fun e w' => e = .returned (.bool (x0 == id)) ∧ Below w.heap.size w w' := by
  have hb2 : ∀ o, (w.alloc o).cell? ⟨b, 0, none⟩ = some (.int .i64 id) := fun o => ((below_alloc (Below.refl _ w) o).cell (World.block_lt_of_cell? w _ hb)).trans hb
  go_enter Tryz.func89, Tryz.ntmps89; go_wp2; go_ret
  exact ⟨rfl, below_alloc (Below.refl _ w) _⟩
set_option maxHeartbeats 4000000 in
theorem ff_ifunc (A0 : Option Addr) (c0 : Nat) (l0 : List S57) (b : Nat) (id : Int) (w : World) (hr0 : Kd.C k57 w A0 l0.length l0) (hc0 : l0.length ≤ c0) (hl : l0.length ≤ 9223372036854775807) (hb : w.cell? ⟨b, 0, none⟩ = some (.int .i64 id)) :
    Calls Tryz.prog 88 #[.slice A0 l0.length c0, .func (.func 89) #[] #[.pointer (some ⟨b, 0, none⟩)]] w fun e w' => e = .returned (.int .i64 (ffI l0 id 0)) ∧ Below w.heap.size w w' := by
  have HR := Aside0.mk hr0; have HB0 := Aside0.mk hb; clear hr0 hb
  go_enter Tryz.func88, Tryz.ntmps88; go_wp2
  go_loopg [5, 8] l0.length (fun gg _ s8 wr => ∃ kk : Nat, kk ≤ l0.length ∧ l0.length - kk ≤ gg ∧ s8 = .int .i64 kk ∧ Aside0 (Below w.heap.size w wr) ∧ Aside0 (∀ j, j < kk → (l0.getD j z57).f0 ≠ id))
  case atStart => exact ⟨0, Nat.zero_le _, by omega, rfl, ⟨Below.refl _ w⟩, ⟨fun j hj => absurd hj (Nat.not_lt_zero _)⟩⟩
  case round =>
    obtain ⟨kk, hkk, hg, rfl, BW, A⟩ := hrel
    by_cases hlt : kk < l0.length
    · have d1 : decide ((kk : Int) < (l0.length : Int)) = true := decide_eq_true (by omega); have q0 : (0 ≤ (kk : Int)) = True := eq_true (by omega); have q1 : ((kk : Int) < (l0.length : Int)) = True := eq_true (by omega); have q2 : (kk < l0.length) = True := eq_true hlt; have e1 : wrap64 ((kk : Int) + 1) = ((kk + 1 : Nat) : Int) := by unfold wrap64; omega
      obtain ⟨ad, A4, c4, e, hx0, hx1, hx2, hx3, hx4, hl4, hi4⟩ := at_T57 HR.out (kk : Int) (by omega) (by omega); subst e; simp only [Int.toNat_natCast] at hx0 hx1 hx2 hx3 hx4; replace hx0 := (BW.out.cell (World.block_lt_of_cell? w _ hx0)).trans hx0; replace hx1 := (BW.out.cell (World.block_lt_of_cell? w _ hx1)).trans hx1; replace hx2 := (BW.out.cell (World.block_lt_of_cell? w _ hx2)).trans hx2; replace hx3 := (BW.out.cell (World.block_lt_of_cell? w _ hx3)).trans hx3; replace hx4 := (BW.out.cell (World.block_lt_of_cell? w _ hx4)).trans hx4; have hcall := ff_pred A4 (rd_T57 l0 kk).f4.length c4 (rd_T57 l0 kk).f0 (rd_T57 l0 kk).f1 (rd_T57 l0 kk).f2 (rd_T57 l0 kk).f3 b id wr ((BW.out.cell (World.block_lt_of_cell? w _ HB0.out)).trans HB0.out); have HT : Aside0 (rd_T57 l0 kk = l0.getD kk z57) := ⟨rfl⟩
      generalize rd_T57 l0 kk = y at hx0 hx1 hx2 hx3 hx4 hcall HT; clear hl4 hi4
      cases hq : y.f0 == id with
      | true =>
        rw [hq] at hcall; go_wp2_with (go_at_call 89; refine hcall.mono ?_; rintro e w' ⟨rfl, hb'⟩); go_ret; refine ⟨?_, below_then BW.out BW.out.size hb'⟩; rw [ffI_hit l0 id kk hlt (by rw [← HT.out]; simpa using hq) A.out]; simp
      | false =>
        rw [hq] at hcall; go_wp2_with (go_at_call 89; refine hcall.mono ?_; rintro e w' ⟨rfl, hb'⟩)
        go_roundg (l0.length - (kk + 1))
        case measure => omega
        case rel =>
          refine ⟨kk + 1, by omega, by omega, by push_cast; rfl, ⟨below_then BW.out BW.out.size hb'⟩, ⟨fun j hj => ?_⟩⟩
          by_cases e : j = kk
          · subst e; rw [← HT.out]; simpa using hq
          · exact A.out j (by omega)
    · have hltz : decide ((kk : Int) < (l0.length : Int)) = false := decide_eq_false (by omega); have : kk = l0.length := by omega
      have A2 : Aside0 (kk = l0.length) := ⟨this⟩
      clear this; go_wp2; go_ret; refine ⟨?_, BW.out⟩; rw [ffI_miss l0 id (fun j hj => A.out j (by have := A2.out; omega))]
      rfl
def impl_FindFeature.f (l0 : List S57) (a1 : Int) : Option (Int) := if l0.length ≤ 9223372036854775807 then some (ffI l0 a1 0) else none
def impl_Point.l0 : Nat → List (S59) → List (S59) → Int → Int → Option (Bool)
 | 0, _, _, _, _ => none
 | k + 1, x0, x1, x12, x13 => if x13 < x12 then (if 0 ≤ x13 then (if x13 < (x0.length : Int) then (if x13 < (x1.length : Int) then (if (!(((rd_T59 x0 x13).f0) == ((rd_T59 x1 x13).f0)) || (!(((rd_T59 x0 x13).f1) == ((rd_T59 x1 x13).f1)))) = true then (some false) else (impl_Point.l0 k x0 x1 x12 (wrap64 (x13 + 1)))) else (none)) else (none)) else (none)) else (some true)
def impl_Point.f (k : Nat) (l0 : List (S59)) (l1 : List (S59)) : Option (Bool) := if (l0.length : Int) = (l1.length : Int) then (impl_Point.l0 k l0 l1 (l0.length : Int) 0) else (some false)
def impl_EqualFeatures.f (k : Nat) (a0_0 : Int) (a0_1 : Int) (a0_2 : Int) (a0_3 : ByteArray) (l0_4 : List (S59)) (a1_0 : Int) (a1_1 : Int) (a1_2 : Int) (a1_3 : ByteArray) (l1_4 : List (S59)) : Option (Bool) := if a0_0 = a1_0 then (if a0_1 = a1_1 then (if a0_2 = a1_2 then (if a0_3.toList = a1_3.toList then ((impl_Point.f k l0_4 l1_4).bind fun t594 => (some t594)) else (some false)) else (some false)) else (some false)) else (some false)
def impl_TileBox.f (a0 : Int) : Option (Int × Int × Int × Int × Bool) := (impl_InRange.f a0 0 440).bind fun t596 => (if t596 = true then (some (wrap64 ((Int.tmod a0 21) * 10), wrap64 ((wrap64 (Int.tdiv a0 21)) * 10), mn (wrap64 ((wrap64 ((Int.tmod a0 21) * 10)) + 10)) 200, mn (wrap64 ((wrap64 ((wrap64 (Int.tdiv a0 21)) * 10)) + 10)) 200, true)) else (some (0, 0, 0, 0, false)))
def impl_IsBox.f (a0_0 : Int) (a0_1 : Int) (a0_2 : Int) (a0_3 : Int) : Option (Bool) := (impl_IsPoint.f a0_0 a0_1).bind fun t598 => (if t598 = true then ((impl_IsPoint.f a0_2 a0_3).bind fun t599 => (if t599 = true then (if a0_0 ≤ a0_2 then (some (decide (a0_1 ≤ a0_3))) else (some false)) else (some false))) else (some false))
def impl_InBox.f (a0_0 : Int) (a0_1 : Int) (a0_2 : Int) (a0_3 : Int) (a1_0 : Int) (a1_1 : Int) : Option (Bool) := (impl_IsBox.f a0_0 a0_1 a0_2 a0_3).bind fun t602 => (if t602 = true then ((impl_InRange.f a1_0 a0_0 a0_2).bind fun t603 => (if t603 = true then ((impl_InRange.f a1_1 a0_1 a0_3).bind fun t604 => (some t604)) else (some false))) else (some false))
def impl_RingSegments.f (k : Nat) (l0 : List (S59)) : Option ((List (S149))) := (impl_IsRing.f k l0).bind fun t605 => (if t605 = true then ((impl_around.f k l0).bind fun t606 => (some t606)) else (some (([] : List (S149)))))
def impl_PartsOf.f (k : Nat) (a0_0 : Int) (a0_1 : Int) (a0_2 : Int) (a0_3 : ByteArray) (l0_4 : List (S59)) : Option ((List (S149))) := (impl_IsFeature.f k a0_0 a0_1 a0_2 a0_3 l0_4).bind fun t613 => (if t613 = true then (if a0_1 = 2 then ((impl_SegmentsOf.f k l0_4).bind fun t614 => (some t614)) else (if a0_1 = 3 then ((impl_RingSegments.f k l0_4).bind fun t617 => (some t617)) else (some (([] : List (S149)))))) else (some (([] : List (S149)))))
def impl_BoxOf.l0 : Nat → List (S59) → Int → Int → Int → Int → Int → Int → Option (Int × Int × Int × Int × Bool)
 | 0, _, _, _, _, _, _, _ => none
 | k + 1, x18, x19, x20, x630000, x630001, x630002, x630003 => if x20 < x19 then (if 0 ≤ x20 then (if x20 < (x18.length : Int) then ((impl_IsPoint.f ((rd_T59 x18 x20).f0) ((rd_T59 x18 x20).f1)).bind fun t632 => (if t632 = true then (impl_BoxOf.l0 k x18 x19 (wrap64 (x20 + 1)) (mn x630000 ((rd_T59 x18 x20).f0)) (mn x630001 ((rd_T59 x18 x20).f1)) (mx x630002 ((rd_T59 x18 x20).f0)) (mx x630003 ((rd_T59 x18 x20).f1))) else (some (0, 0, 0, 0, false)))) else (none)) else (none)) else (some (x630000, x630001, x630002, x630003, true))
def impl_BoxOf.f (k : Nat) (l0 : List (S59)) : Option (Int × Int × Int × Int × Bool) := if (l0.length : Int) = 0 then (some (0, 0, 0, 0, false)) else (if 0 < (l0.length : Int) then (impl_BoxOf.l0 k l0 (l0.length : Int) 0 ((rd_T59 l0 0).f0) ((rd_T59 l0 0).f1) ((rd_T59 l0 0).f0) ((rd_T59 l0 0).f1)) else (none))
def impl_common.f (a0_0 : Int) (a0_1 : Int) (a0_2 : Int) (a0_3 : Int) (a1_0 : Int) (a1_1 : Int) (a1_2 : Int) (a1_3 : Int) : Option (Int × Int) := some (wrap64 ((mn a0_2 a1_2) - (mx a0_0 a1_0)), wrap64 ((mn a0_3 a1_3) - (mx a0_1 a1_1)))
def impl_BoxesMeet.f (a0_0 : Int) (a0_1 : Int) (a0_2 : Int) (a0_3 : Int) (a1_0 : Int) (a1_1 : Int) (a1_2 : Int) (a1_3 : Int) : Option (Bool) := (impl_common.f a0_0 a0_1 a0_2 a0_3 a1_0 a1_1 a1_2 a1_3).bind fun bt637 => ((impl_IsBox.f a0_0 a0_1 a0_2 a0_3).bind fun t639 => (if t639 = true then ((impl_IsBox.f a1_0 a1_1 a1_2 a1_3).bind fun t640 => (if t640 = true then (if bt637.1 ≥ 0 then (some (decide (bt637.2 ≥ 0))) else (some false)) else (some false))) else (some false)))
mutual
def impl_MeetsBox.j0 : Nat → Bool → Int → Int → Int → Int → Int → Int → Int → Int → Option (Bool)
 | 0, _, _, _, _, _, _, _, _, _ => none
 | k + 1, x18, x642000, x642001, x642002, x642003, x643000, x643001, x643002, x643003 => if x18 = true then (some false) else ((impl_BoxOf.f k (([(⟨x642000, x642001⟩ : S59), (⟨x642002, x642003⟩ : S59)] : List (S59)))).bind fun bt648 => ((impl_BoxesMeet.f bt648.1 bt648.2.1 bt648.2.2.1 bt648.2.2.2.1 x643000 x643001 x643002 x643003).bind fun t654 => (if t654 = true then ((some (([(⟨x643000, x643001⟩ : S59), (⟨x643002, x643003⟩ : S59), (⟨x643000, x643003⟩ : S59), (⟨x643002, x643001⟩ : S59)] : List (S59)) : List (S59))).bind fun y655 => (impl_MeetsBox.l0 k 0 0 y655 (y655.length : Int) 0 x642000 x642001 x642002 x642003)) else (some false))))
def impl_MeetsBox.l0 : Nat → Int → Int → List (S59) → Int → Int → Int → Int → Int → Int → Option (Bool)
 | 0, _, _, _, _, _, _, _, _, _ => none
 | k + 1, x7, x8, x50, x51, x52, x642000, x642001, x642002, x642003 => if x52 < x51 then (if 0 ≤ x52 then (if x52 < (x50.length : Int) then ((impl_SideOf.f x642000 x642001 x642002 x642003 ((rd_T59 x50 x52).f0) ((rd_T59 x50 x52).f1)).bind fun t660 => (if t660 = 1 then (impl_MeetsBox.l0 k (wrap64 (x7 + 1)) x8 x50 x51 (wrap64 (x52 + 1)) x642000 x642001 x642002 x642003) else (if t660 = (-1) then (impl_MeetsBox.l0 k x7 (wrap64 (x8 + 1)) x50 x51 (wrap64 (x52 + 1)) x642000 x642001 x642002 x642003) else (impl_MeetsBox.l0 k x7 x8 x50 x51 (wrap64 (x52 + 1)) x642000 x642001 x642002 x642003)))) else (none)) else (none)) else (if x7 < 4 then (some (decide (x8 < 4))) else (some false))
end
def impl_MeetsBox.f (k : Nat) (a0_0 : Int) (a0_1 : Int) (a0_2 : Int) (a0_3 : Int) (a1_0 : Int) (a1_1 : Int) (a1_2 : Int) (a1_3 : Int) : Option (Bool) := (impl_IsSegment.f a0_0 a0_1 a0_2 a0_3).bind fun t643 => (if t643 = true then ((impl_IsBox.f a1_0 a1_1 a1_2 a1_3).bind fun t644 => (impl_MeetsBox.j0 k (!t644) a0_0 a0_1 a0_2 a0_3 a1_0 a1_1 a1_2 a1_3)) else (impl_MeetsBox.j0 k true a0_0 a0_1 a0_2 a0_3 a1_0 a1_1 a1_2 a1_3))
mutual
def impl_piecesOf.j0 : Nat → Bool → List (S83) → Bool → Int → Int → Int → ByteArray → List (S59) → Int → Int → Int → Int → Option ((List (S83)))
 | 0, _, _, _, _, _, _, _, _, _, _, _, _ => none
 | k + 1, x2, x7, x24, x662000, x662001, x662002, x662003, x662004, x663000, x663001, x663002, x663003 => if x24 = true then (if x7.length < 8796093022208 then (impl_piecesOf.j1 k x2 (x7 ++ [(⟨x662000, 0⟩ : S83)]) x662000 x662001 x662002 x662003 x662004 x663000 x663001 x663002 x663003) else (none)) else (impl_piecesOf.j1 k x2 x7 x662000 x662001 x662002 x662003 x662004 x663000 x663001 x663002 x663003)
def impl_piecesOf.j1 : Nat → Bool → List (S83) → Int → Int → Int → ByteArray → List (S59) → Int → Int → Int → Int → Option ((List (S83)))
 | 0, _, _, _, _, _, _, _, _, _, _, _ => none
 | k + 1, x2, x7, x662000, x662001, x662002, x662003, x662004, x663000, x663001, x663002, x663003 => (impl_PartsOf.f k x662000 x662001 x662002 x662003 x662004).bind fun t671 => (impl_piecesOf.l0 k x2 x7 t671 (t671.length : Int) 0 x662000 x662001 x662002 x662003 x662004 x663000 x663001 x663002 x663003)
def impl_piecesOf.l0 : Nat → Bool → List (S83) → List (S149) → Int → Int → Int → Int → Int → ByteArray → List (S59) → Int → Int → Int → Int → Option ((List (S83)))
 | 0, _, _, _, _, _, _, _, _, _, _, _, _, _, _ => none
 | k + 1, x2, x7, x32, x33, x34, x662000, x662001, x662002, x662003, x662004, x663000, x663001, x663002, x663003 => if x34 < x33 then (if 0 ≤ x34 then (if x34 < (x32.length : Int) then (if x2 = true then (if x7.length < 8796093022208 then (impl_piecesOf.l0 k x2 (x7 ++ [(⟨x662000, x34⟩ : S83)]) x32 x33 (wrap64 (x34 + 1)) x662000 x662001 x662002 x662003 x662004 x663000 x663001 x663002 x663003) else (none)) else ((impl_MeetsBox.f k ((rd_T149 x32 x34).f0.f0) ((rd_T149 x32 x34).f0.f1) ((rd_T149 x32 x34).f1.f0) ((rd_T149 x32 x34).f1.f1) x663000 x663001 x663002 x663003).bind fun t679 => (if t679 = true then (if x7.length < 8796093022208 then (impl_piecesOf.l0 k x2 (x7 ++ [(⟨x662000, x34⟩ : S83)]) x32 x33 (wrap64 (x34 + 1)) x662000 x662001 x662002 x662003 x662004 x663000 x663001 x663002 x663003) else (none)) else (impl_piecesOf.l0 k x2 x7 x32 x33 (wrap64 (x34 + 1)) x662000 x662001 x662002 x662003 x662004 x663000 x663001 x663002 x663003)))) else (none)) else (none)) else (some x7)
end
def impl_piecesOf.f (k : Nat) (a0_0 : Int) (a0_1 : Int) (a0_2 : Int) (a0_3 : ByteArray) (l0_4 : List (S59)) (a1_0 : Int) (a1_1 : Int) (a1_2 : Int) (a1_3 : Int) (a2 : Bool) : Option ((List (S83))) := (some (([] : List (S83)) : List (S83))).bind fun y663 => (if a0_1 = 1 then (if a2 = true then (impl_piecesOf.j0 k a2 y663 true a0_0 a0_1 a0_2 a0_3 l0_4 a1_0 a1_1 a1_2 a1_3) else (if 0 < (l0_4.length : Int) then ((impl_InBox.f a1_0 a1_1 a1_2 a1_3 ((rd_T59 l0_4 0).f0) ((rd_T59 l0_4 0).f1)).bind fun t667 => (impl_piecesOf.j0 k a2 y663 t667 a0_0 a0_1 a0_2 a0_3 l0_4 a1_0 a1_1 a1_2 a1_3)) else (none))) else (impl_piecesOf.j0 k a2 y663 false a0_0 a0_1 a0_2 a0_3 l0_4 a1_0 a1_1 a1_2 a1_3))
def impl_TouchedTiles.l0 : Nat → List Int → Int → Int → Int → Int → ByteArray → List (S59) → Option (List Int)
 | 0, _, _, _, _, _, _, _ => none
 | k + 1, x3, x12, x684000, x684001, x684002, x684003, x684004 => if x12 < 441 then ((impl_TileBox.f x12).bind fun bt688 => ((impl_piecesOf.f k x684000 x684001 x684002 x684003 x684004 bt688.1 bt688.2.1 bt688.2.2.1 bt688.2.2.2.1 false).bind fun t694 => (if (t694.length : Int) > 0 then (if x3.length < 17592186044416 then (impl_TouchedTiles.l0 k (x3 ++ [x12]) (wrap64 (x12 + 1)) x684000 x684001 x684002 x684003 x684004) else (none)) else (impl_TouchedTiles.l0 k x3 (wrap64 (x12 + 1)) x684000 x684001 x684002 x684003 x684004)))) else (some x3)
def impl_TouchedTiles.f (k : Nat) (a0_0 : Int) (a0_1 : Int) (a0_2 : Int) (a0_3 : ByteArray) (l0_4 : List (S59)) : Option (List Int) := (some (([] : List Int) : List Int)).bind fun y684 => ((impl_IsFeature.f k a0_0 a0_1 a0_2 a0_3 l0_4).bind fun t687 => (if t687 = true then (impl_TouchedTiles.l0 k y684 0 a0_0 a0_1 a0_2 a0_3 l0_4) else (some y684)))
def impl_touchedBeyond.l0 : Nat → List (S57) → List Int → List (S57) → Int → Int → Option (List Int)
 | 0, _, _, _, _, _ => none
 | k + 1, x1, x5, x10, x11, x12 => if x12 < x11 then (if 0 ≤ x12 then (if x12 < (x10.length : Int) then ((impl_FindFeature.f x1 ((rd_T57 x10 x12).f0)).bind fun t705 => (if t705 < 0 then ((impl_TouchedTiles.f k ((rd_T57 x10 x12).f0) ((rd_T57 x10 x12).f1) ((rd_T57 x10 x12).f2) ((rd_T57 x10 x12).f3) ((rd_T57 x10 x12).f4)).bind fun t706 => (if x5.length + t706.length < 17592186044416 then (impl_touchedBeyond.l0 k x1 (x5 ++ t706) x10 x11 (wrap64 (x12 + 1))) else (none))) else (if 0 ≤ t705 then (if t705 < (x1.length : Int) then ((impl_EqualFeatures.f k ((rd_T57 x10 x12).f0) ((rd_T57 x10 x12).f1) ((rd_T57 x10 x12).f2) ((rd_T57 x10 x12).f3) ((rd_T57 x10 x12).f4) ((rd_T57 x1 t705).f0) ((rd_T57 x1 t705).f1) ((rd_T57 x1 t705).f2) ((rd_T57 x1 t705).f3) ((rd_T57 x1 t705).f4)).bind fun t713 => (if t713 = true then (impl_touchedBeyond.l0 k x1 x5 x10 x11 (wrap64 (x12 + 1))) else ((impl_TouchedTiles.f k ((rd_T57 x10 x12).f0) ((rd_T57 x10 x12).f1) ((rd_T57 x10 x12).f2) ((rd_T57 x10 x12).f3) ((rd_T57 x10 x12).f4)).bind fun t714 => (if x5.length + t714.length < 17592186044416 then (impl_touchedBeyond.l0 k x1 (x5 ++ t714) x10 x11 (wrap64 (x12 + 1))) else (none))))) else (none)) else (none)))) else (none)) else (none)) else (some x5)
def impl_touchedBeyond.f (k : Nat) (l0 : List (S57)) (l1 : List (S57)) : Option (List Int) := impl_touchedBeyond.l0 k l1 (([] : List Int)) l0 (l0.length : Int) 0
def slices_Sort_int_int.f (l0 : List Int) : Option (List Int) := if l0.length < 4611686018427387904 then some (l0.mergeSort fun x y => decide (x ≤ y)) else none
def slices_Compact_int_int.f (l0 : List Int) : Option (List Int) := if l0.length ≤ 9223372036854775807 then some (Go.Lib.compact l0) else none
def impl_ChangedTiles.j0 : Nat → List (S57) → List (S57) → Bool → Option (List Int)
 | 0, _, _, _ => none
 | k + 1, x0, x1, x13 => if x13 = true then (some (([] : List Int))) else ((impl_touchedBeyond.f k x0 x1).bind fun t725 => ((impl_touchedBeyond.f k x1 x0).bind fun t728 => (if t725.length + t728.length < 17592186044416 then ((slices_Sort_int_int.f (t725 ++ t728)).bind fun t734 => ((slices_Compact_int_int.f t734).bind fun t735 => (some t735))) else (none))))
def impl_ChangedTiles.f (k : Nat) (l0 : List (S57)) (l1 : List (S57)) : Option (List Int) := (impl_IsSource.f k l0).bind fun t720 => (if t720 = true then ((impl_IsSource.f k l1).bind fun t721 => (impl_ChangedTiles.j0 k l0 l1 (!t721))) else (impl_ChangedTiles.j0 k l0 l1 true))
def slices_Index_int_int.l0 : Nat → List Int → Int → Int → Int → Option (Int)
 | 0, _, _, _, _ => none
 | k + 1, x0, x1, x7, x8 => if x8 < x7 then (if 0 ≤ x8 then (if x8 < (x0.length : Int) then (if x1 = (rd x0 x8) then (some x8) else (slices_Index_int_int.l0 k x0 x1 x7 (wrap64 (x8 + 1)))) else (none)) else (none)) else (some (-1))
def slices_Index_int_int.f (k : Nat) (l0 : List Int) (a1 : Int) : Option (Int) := slices_Index_int_int.l0 k l0 a1 (l0.length : Int) 0
def slices_Contains_int_int.f (k : Nat) (l0 : List Int) (a1 : Int) : Option (Bool) := (slices_Index_int_int.f k l0 a1).bind fun t739 => (some (decide (t739 ≥ 0)))
mutual
def impl_PiecesIn.j0 : Nat → List (S57) → List (S83) → Bool → Int → Int → Int → Int → Option ((List (S83)))
 | 0, _, _, _, _, _, _, _ => none
 | k + 1, x0, x5, x22, x749000, x749001, x749002, x749003 => if x22 = true then (some x5) else (impl_PiecesIn.l0 k x5 x0 (x0.length : Int) 0 x749000 x749001 x749002 x749003)
def impl_PiecesIn.l0 : Nat → List (S83) → List (S57) → Int → Int → Int → Int → Int → Int → Option ((List (S83)))
 | 0, _, _, _, _, _, _, _, _ => none
 | k + 1, x5, x24, x25, x26, x749000, x749001, x749002, x749003 => if x26 < x25 then (if 0 ≤ x26 then (if x26 < (x24.length : Int) then ((impl_piecesOf.f k ((rd_T57 x24 x26).f0) ((rd_T57 x24 x26).f1) ((rd_T57 x24 x26).f2) ((rd_T57 x24 x26).f3) ((rd_T57 x24 x26).f4) x749000 x749001 x749002 x749003 false).bind fun t752 => (if x5.length + t752.length < 8796093022208 then (impl_PiecesIn.l0 k (x5 ++ t752) x24 x25 (wrap64 (x26 + 1)) x749000 x749001 x749002 x749003) else (none))) else (none)) else (none)) else (some x5)
end
def impl_PiecesIn.f (k : Nat) (l0 : List (S57)) (a1 : Int) : Option ((List (S83))) := (some (([] : List (S83)) : List (S83))).bind fun y740 => ((impl_TileBox.f a1).bind fun bt743 => (if bt743.2.2.2.2 = true then ((impl_IsSource.f k l0).bind fun t749 => (impl_PiecesIn.j0 k l0 y740 (!t749) bt743.1 bt743.2.1 bt743.2.2.1 bt743.2.2.2.1)) else (impl_PiecesIn.j0 k l0 y740 true bt743.1 bt743.2.1 bt743.2.2.1 bt743.2.2.2.1)))
def impl_Mod.f (a0 : Int) (a1 : Int) : Option (Int) := (impl_InRange.f a1 1 1000000000000).bind fun t758 => (if t758 = true then (if a1 = 0 then (none) else (if (Int.tmod a0 a1) < 0 then (some (wrap64 ((Int.tmod a0 a1) + a1))) else (some (Int.tmod a0 a1)))) else (some 0))
def impl_fold.f (a0 : Int) (a1 : Int) : Option (Int) := (impl_Mod.f a1 2147483647).bind fun t759 => (some (Int.tmod (wrap64 ((wrap64 ((wrap64 (a0 * 1000003)) + t759)) + 13)) 2147483647))
def impl_Hash.l0 : Nat → Int → List Int → Int → Int → Option (Int)
 | 0, _, _, _, _ => none
 | k + 1, x3, x6, x7, x8 => if x8 < x7 then (if 0 ≤ x8 then (if x8 < (x6.length : Int) then ((impl_fold.f x3 (rd x6 x8)).bind fun t761 => (impl_Hash.l0 k t761 x6 x7 (wrap64 (x8 + 1)))) else (none)) else (none)) else (some x3)
def impl_Hash.f (k : Nat) (l0 : List Int) : Option (Int) := impl_Hash.l0 k 11 l0 (l0.length : Int) 0
def impl_PieceDigest.l0 : Nat → Int → List Int → Int → Int → Int → Int → Int → ByteArray → List (S59) → Option (Int)
 | 0, _, _, _, _, _, _, _, _, _ => none
 | k + 1, x1, x5, x24, x25, x763000, x763001, x763002, x763003, x763004 => if x25 < x24 then (if 0 ≤ x25 then (if x25 < (x763003.size : Int) then (if x5.length < 17592186044416 then (impl_PieceDigest.l0 k x1 (x5 ++ [wrap64 (bt x763003 x25)]) x24 (wrap64 (x25 + 1)) x763000 x763001 x763002 x763003 x763004) else (none)) else (none)) else (none)) else (if x5.length < 17592186044416 then ((some (x5 ++ [x1] : List Int)).bind fun y770 => (if x763001 = 1 then (if x1 = 0 then (if 0 < (x763004.length : Int) then ((some (([(rd_T59 x763004 0).f0, (rd_T59 x763004 0).f1] : List Int) : List Int)).bind fun y775 => (if y770.length + y775.length < 17592186044416 then ((impl_Hash.f k (y770 ++ y775)).bind fun t781 => (some t781)) else (none))) else (none)) else (some 0)) else ((impl_PartsOf.f k x763000 x763001 x763002 x763003 x763004).bind fun t782 => (if x1 < 0 then (some 0) else (if x1 ≥ (t782.length : Int) then (some 0) else (if 0 ≤ x1 then (if x1 < (t782.length : Int) then ((some (([(rd_T149 t782 x1).f0.f0, (rd_T149 t782 x1).f0.f1, (rd_T149 t782 x1).f1.f0, (rd_T149 t782 x1).f1.f1] : List Int) : List Int)).bind fun y787 => (if y770.length + y787.length < 17592186044416 then ((impl_Hash.f k (y770 ++ y787)).bind fun t793 => (some t793)) else (none))) else (none)) else (none))))))) else (none))
def impl_PieceDigest.f (k : Nat) (a0_0 : Int) (a0_1 : Int) (a0_2 : Int) (a0_3 : ByteArray) (l0_4 : List (S59)) (a1 : Int) : Option (Int) := (impl_IsFeature.f k a0_0 a0_1 a0_2 a0_3 l0_4).bind fun t763 => (if t763 = true then (impl_PieceDigest.l0 k a1 (([a0_0, a0_1, a0_2, (a0_3.size : Int)] : List Int)) (a0_3.size : Int) 0 a0_0 a0_1 a0_2 a0_3 l0_4) else (some 0))
def impl_digests.l0 : Nat → List (S57) → List Int → List (S83) → Int → Int → Option (List Int)
 | 0, _, _, _, _, _ => none
 | k + 1, x0, x5, x9, x10, x11 => if x11 < x10 then (if 0 ≤ x11 then (if x11 < (x9.length : Int) then ((impl_FindFeature.f x0 ((rd_T83 x9 x11).f0)).bind fun t799 => (if 0 ≤ t799 then (if t799 < (x0.length : Int) then ((impl_PieceDigest.f k ((rd_T57 x0 t799).f0) ((rd_T57 x0 t799).f1) ((rd_T57 x0 t799).f2) ((rd_T57 x0 t799).f3) ((rd_T57 x0 t799).f4) ((rd_T83 x9 x11).f1)).bind fun t801 => (if x5.length < 17592186044416 then (impl_digests.l0 k x0 (x5 ++ [t801]) x9 x10 (wrap64 (x11 + 1))) else (none))) else (none)) else (none))) else (none)) else (none)) else (some x5)
def impl_digests.f (k : Nat) (l0 : List (S57)) (l1 : List (S83)) : Option (List Int) := impl_digests.l0 k l0 (([] : List Int)) l1 (l1.length : Int) 0
def impl_TileDigest.j0 : Nat → List (S57) → Int → Bool → Option (Int)
 | 0, _, _, _ => none
 | k + 1, x0, x1, x18 => if x18 = true then (some 0) else ((impl_PiecesIn.f k x0 x1).bind fun t812 => ((impl_digests.f k x0 t812).bind fun t815 => ((impl_Hash.f k t815).bind fun t818 => (some t818))))
def impl_TileDigest.f (k : Nat) (l0 : List (S57)) (a1 : Int) : Option (Int) := (impl_TileBox.f a1).bind fun bt805 => (if bt805.2.2.2.2 = true then ((impl_IsSource.f k l0).bind fun t811 => (impl_TileDigest.j0 k l0 a1 (!t811))) else (impl_TileDigest.j0 k l0 a1 true))
mutual
def impl_SameElsewhere.j0 : Nat → List (S57) → List (S57) → List Int → Bool → Option (Bool)
 | 0, _, _, _, _ => none
 | k + 1, x0, x1, x2, x17 => if x17 = true then (some false) else ((impl_ChangedTiles.f k x0 x1).bind fun t821 => (impl_SameElsewhere.l0 k x0 x1 t821 x2 (x2.length : Int) 0))
def impl_SameElsewhere.l0 : Nat → List (S57) → List (S57) → List Int → List Int → Int → Int → Option (Bool)
 | 0, _, _, _, _, _, _ => none
 | k + 1, x0, x1, x7, x21, x22, x23 => if x23 < x22 then (if 0 ≤ x23 then (if x23 < (x21.length : Int) then ((slices_Contains_int_int.f k x7 (rd x21 x23)).bind fun t825 => (if t825 = true then (impl_SameElsewhere.l0 k x0 x1 x7 x21 x22 (wrap64 (x23 + 1))) else ((impl_TileDigest.f k x0 (rd x21 x23)).bind fun t826 => ((impl_TileDigest.f k x1 (rd x21 x23)).bind fun t827 => (if t826 = t827 then (impl_SameElsewhere.l0 k x0 x1 x7 x21 x22 (wrap64 (x23 + 1))) else (some false)))))) else (none)) else (none)) else (some true)
end
def impl_SameElsewhere.f (k : Nat) (l0 : List (S57)) (l1 : List (S57)) (l2 : List Int) : Option (Bool) := (impl_IsSource.f k l0).bind fun t819 => (if t819 = true then ((impl_IsSource.f k l1).bind fun t820 => (impl_SameElsewhere.j0 k l0 l1 l2 (!t820))) else (impl_SameElsewhere.j0 k l0 l1 l2 true))
def laws_FnExactSameElsewhere.f (k : Nat) (l0 : List (S50)) (l1 : List (S50)) (l2 : List Int) : Option (Bool) := if (l2.length : Int) > 1048576 then (some true) else ((laws_szFeatureS.f k l0 1048576).bind fun t828 => (if t828 < 0 then (some true) else ((laws_szFeatureS.f k l1 t828).bind fun t829 => (if t829 < 0 then (some true) else ((laws_toFeatureS.f k l0).bind fun t830 => ((laws_toFeatureS.f k l1).bind fun t833 => ((laws_toIntS.f k l2).bind fun t836 => ((spec_SameElsewhere.f k t830 t833 t836).bind fun t839 => ((laws_toFeatureS.f k l0).bind fun t840 => ((laws_toFeatureS.f k l1).bind fun t843 => ((laws_toIntS.f k l2).bind fun t846 => ((impl_SameElsewhere.f k t840 t843 t846).bind fun t849 => (if (t849 != t839) = true then (some false) else ((laws_toFeatureS.f k l0).bind fun t850 => ((laws_eqFeatureS.f k t840 t850).bind fun t853 => (if t853 = true then ((laws_toFeatureS.f k l1).bind fun t854 => ((laws_eqFeatureS.f k t843 t854).bind fun t857 => (if t857 = true then ((laws_toIntS.f k l2).bind fun t858 => ((laws_eqIntS.f k t846 t858).bind fun t861 => (if t861 = true then (some true) else (some false)))) else (some false)))) else (some false)))))))))))))))))
end Go.Proofs.YtellpkihlbbnhaaGreat.PFnExactSameElsewhere
