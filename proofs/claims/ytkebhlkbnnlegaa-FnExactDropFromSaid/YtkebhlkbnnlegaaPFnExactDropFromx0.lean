-- Written by a program of this session's (evlaw.py).
import Derived.ArgAppend
import Derived.Below
import Derived.BigQuiet
import Derived.Deep.AppendLies
import Derived.Deep.CutBlock
import Derived.Deep.DeepCutAuto
import Derived.Deep.Draws
import Derived.Deep.LoopGhost
import Derived.Deep.OwnRows
import Derived.Deep.QuietTactic
import Derived.Deep.RegionHeld3
import Derived.KernelRfl
import Derived.Laws.BitsLemmas
import Derived.Laws.BytesArg
import Derived.Laws.IdiomCopy
import Derived.Laws.MakeOwn
import Derived.Laws.OwnMore
import Derived.Laws.Rows
import Derived.Laws.Slices
import Derived.Lib.AppendStr
import Derived.Lib.ConvBytes
import Derived.Maps.AppendAt
import Derived.OrdersHeld
import Derived.OwnWalk
import Derived.RowKit
import Derived.RowKit3
import Derived.Tactics
import Derived.Test.YtkebhlkbnnlegaaGeo
import Derived.Test.YtkebhlkbnnlegaaHand
import Derived.Test.YtkebhlkbnnlegaaMeet
import Derived.Test.YtkebhlkbnnlegaaProg
import Derived.Test.YtkebhlkbnnlegaaQuiet
import Derived.Test.YtkebhlkbnnlegaaWApart
import Derived.Test.YtkebhlkbnnlegaaWArr
import Derived.Test.YtkebhlkbnnlegaaWAt
import Derived.Test.YtkebhlkbnnlegaaWEqStruct
import Derived.Test.YtkebhlkbnnlegaaWFoot
import Derived.Test.YtkebhlkbnnlegaaWFootNe
import Derived.Test.YtkebhlkbnnlegaaWFour
import Derived.Test.YtkebhlkbnnlegaaWGuard
import Derived.Test.YtkebhlkbnnlegaaWInv
import Derived.Test.YtkebhlkbnnlegaaWInvWords
import Derived.Test.YtkebhlkbnnlegaaWKept
import Derived.Test.YtkebhlkbnnlegaaWLast
import Derived.Test.YtkebhlkbnnlegaaWMore
import Derived.Test.YtkebhlkbnnlegaaWN
import Derived.Test.YtkebhlkbnnlegaaWNEv
import Derived.Test.YtkebhlkbnnlegaaWQPut
import Derived.Test.YtkebhlkbnnlegaaWRepsOne
import Derived.Test.YtkebhlkbnnlegaaWShare
import Derived.Test.YtkebhlkbnnlegaaWTab
import Derived.Test.YtkebhlkbnnlegaaWWords
import Derived.Test.YtkebhlkbnnlegaaWZeros
import Derived.Test.YtkebhlkbnnlegaaZ
import Derived.WalkKit
import Derived.WideLaws
namespace Go.Proofs.Ytkebhlkbnnlegaa.PFnExactDropFrom
open Go.RowKit Go.Proofs.YtkebhlkbnnlegaaW.PrintWords Go.Proofs.YtkebhlkbnnlegaaW.PrintLast Go.Proofs.YtkebhlkbnnlegaaW.PrintMore Go.Proofs.YtkebhlkbnnlegaaGeo Go.Proofs.YtkebhlkbnnlegaaHand Go.Proofs.YtkebhlkbnnlegaaMeet Go.Proofs.YtkebhlkbnnlegaaQuiet Go.Proofs.YtkebhlkbnnlegaaZ
attribute [local go_sem] max2_int min2_int max_two min_two max_three min_three max_four min_four   -- for this text's walks alone
set_option linter.unusedVariables false
set_option linter.unusedSimpArgs false
def errW : Option Int → Value
  | none => .nilIface
  | some c => .iface 0 (.int .i64 c)
theorem errW_none : errW none = .nilIface := rfl
theorem errW_some (c : Int) : errW (some c) = .iface 0 (.int .i64 c) := rfl
theorem info77 : (Try.prog.info? 77).map (fun i => (i.zero, i.size, i.bytes)) = some (some (.agg #[(.int .i64 0), (.int .i64 0)]), 2, 16) := by kernel_rfl
theorem info95 : (Try.prog.info? 95).map (fun i => (i.zero, i.size, i.bytes)) = some (some (.agg #[(.int .i64 0), (.int .i64 0), (.int .i64 0), (.int .i64 0)]), 4, 32) := by kernel_rfl
-- the values' own types
structure S85 where
  f0 : Int
  f1 : Int
def z85 : S85 := ⟨(0 : Int), (0 : Int)⟩
def k85 : Kd S85 := Kd.iso (Kd.pair (Kd.int .i64) (Kd.int .i64)) (fun x : S85 => (x.f0, x.f1))
theorem k85_open {w : World} {x : S85} {cs : List Value} (h : k85.K w x cs) : cs = [.int .i64 x.f0, .int .i64 x.f1] := by
  obtain ⟨_, _, rfl, rfl, rfl⟩ := h
  exact rfl
theorem k85_openM {w : World} {base : Nat} {ok : Nat → Prop} {x : S85} {cs : List Value} (h : k85.M w base ok x cs) : cs = [.int .i64 x.f0, .int .i64 x.f1] := by
  obtain ⟨_, _, rfl, rfl, rfl⟩ := h
  exact rfl
theorem k85_mk (w : World) (x : S85)  : k85.K w x [.int .i64 x.f0, .int .i64 x.f1] := ⟨[.int .i64 x.f0], [.int .i64 x.f1], rfl, rfl, rfl⟩
theorem k85_mkM (w : World) (base : Nat) (ok : Nat → Prop) (x : S85)  : k85.M w base ok x [.int .i64 x.f0, .int .i64 x.f1] := ⟨[.int .i64 x.f0], [.int .i64 x.f1], rfl, rfl, rfl⟩
def rd_T85 (xs : List S85) (i : Int) : S85 := xs.getD i.toNat z85
theorem at_T85 {w : World} {A : Option Addr} {n : Nat} {xs : List S85} (h : Kd.C k85 w A n xs) (i : Int) (h0 : 0 ≤ i) (h1 : i < n) : ∃ ad , A = some ad ∧ w.cell? (ad.add (i.toNat * 2)) = some (.int .i64 (rd_T85 xs i).f0) ∧ w.cell? ⟨(ad.add (i.toNat * 2)).block, (ad.add (i.toNat * 2)).off + 1, none⟩ = some (.int .i64 (rd_T85 xs i).f1) := by
  obtain ⟨ad, c, e, _, hK, hc0⟩ := Kd.C_get h z85 i h0 h1; have hc : ∀ j u, c[j]? = some u → w.cell? (ad.add (i.toNat * 2 + j)) = some u := hc0; obtain rfl := k85_open hK
  exact ⟨ad, e, hc 0 _ rfl, by rw [← add_field _ _ 1 (by omega)]; exact hc 1 _ rfl⟩
structure S77 where
  f0 : Int
  f1 : Int
def z77 : S77 := ⟨(0 : Int), (0 : Int)⟩
def k77 : Kd S77 := Kd.iso (Kd.pair (Kd.int .i64) (Kd.int .i64)) (fun x : S77 => (x.f0, x.f1))
theorem k77_open {w : World} {x : S77} {cs : List Value} (h : k77.K w x cs) : cs = [.int .i64 x.f0, .int .i64 x.f1] := by
  obtain ⟨_, _, rfl, rfl, rfl⟩ := h
  exact rfl
theorem k77_openM {w : World} {base : Nat} {ok : Nat → Prop} {x : S77} {cs : List Value} (h : k77.M w base ok x cs) : cs = [.int .i64 x.f0, .int .i64 x.f1] := by
  obtain ⟨_, _, rfl, rfl, rfl⟩ := h
  exact rfl
theorem k77_mk (w : World) (x : S77)  : k77.K w x [.int .i64 x.f0, .int .i64 x.f1] := ⟨[.int .i64 x.f0], [.int .i64 x.f1], rfl, rfl, rfl⟩
theorem k77_mkM (w : World) (base : Nat) (ok : Nat → Prop) (x : S77)  : k77.M w base ok x [.int .i64 x.f0, .int .i64 x.f1] := ⟨[.int .i64 x.f0], [.int .i64 x.f1], rfl, rfl, rfl⟩
def rd_T77 (xs : List S77) (i : Int) : S77 := xs.getD i.toNat z77
theorem at_T77 {w : World} {A : Option Addr} {n : Nat} {xs : List S77} (h : Kd.C k77 w A n xs) (i : Int) (h0 : 0 ≤ i) (h1 : i < n) : ∃ ad , A = some ad ∧ w.cell? (ad.add (i.toNat * 2)) = some (.int .i64 (rd_T77 xs i).f0) ∧ w.cell? ⟨(ad.add (i.toNat * 2)).block, (ad.add (i.toNat * 2)).off + 1, none⟩ = some (.int .i64 (rd_T77 xs i).f1) := by
  obtain ⟨ad, c, e, _, hK, hc0⟩ := Kd.C_get h z77 i h0 h1; have hc : ∀ j u, c[j]? = some u → w.cell? (ad.add (i.toNat * 2 + j)) = some u := hc0; obtain rfl := k77_open hK
  exact ⟨ad, e, hc 0 _ rfl, by rw [← add_field _ _ 1 (by omega)]; exact hc 1 _ rfl⟩
structure S95 where
  f0 : S77
  f1 : S77
def z95 : S95 := ⟨z77, z77⟩
def k95 : Kd S95 := Kd.iso (Kd.pair k77 k77) (fun x : S95 => (x.f0, x.f1))
theorem k95_open {w : World} {x : S95} {cs : List Value} (h : k95.K w x cs) : cs = [.int .i64 x.f0.f0, .int .i64 x.f0.f1, .int .i64 x.f1.f0, .int .i64 x.f1.f1] := by
  obtain ⟨_, _, rfl, s0, s2⟩ := h; obtain rfl := k77_open s0; obtain rfl := k77_open s2
  exact rfl
theorem k95_openM {w : World} {base : Nat} {ok : Nat → Prop} {x : S95} {cs : List Value} (h : k95.M w base ok x cs) : cs = [.int .i64 x.f0.f0, .int .i64 x.f0.f1, .int .i64 x.f1.f0, .int .i64 x.f1.f1] := by
  obtain ⟨_, _, rfl, s0, s2⟩ := h; obtain rfl := k77_openM s0; obtain rfl := k77_openM s2
  exact rfl
theorem k95_mk (w : World) (x : S95)  : k95.K w x [.int .i64 x.f0.f0, .int .i64 x.f0.f1, .int .i64 x.f1.f0, .int .i64 x.f1.f1] := ⟨[.int .i64 x.f0.f0, .int .i64 x.f0.f1], [.int .i64 x.f1.f0, .int .i64 x.f1.f1], rfl, (k77_mk w x.f0 ), (k77_mk w x.f1 )⟩
theorem k95_mkM (w : World) (base : Nat) (ok : Nat → Prop) (x : S95)  : k95.M w base ok x [.int .i64 x.f0.f0, .int .i64 x.f0.f1, .int .i64 x.f1.f0, .int .i64 x.f1.f1] := ⟨[.int .i64 x.f0.f0, .int .i64 x.f0.f1], [.int .i64 x.f1.f0, .int .i64 x.f1.f1], rfl, (k77_mkM w base ok x.f0 ), (k77_mkM w base ok x.f1 )⟩
def rd_T95 (xs : List S95) (i : Int) : S95 := xs.getD i.toNat z95
theorem at_T95 {w : World} {A : Option Addr} {n : Nat} {xs : List S95} (h : Kd.C k95 w A n xs) (i : Int) (h0 : 0 ≤ i) (h1 : i < n) : ∃ ad , A = some ad ∧ w.cell? (ad.add (i.toNat * 4)) = some (.int .i64 (rd_T95 xs i).f0.f0) ∧ w.cell? ⟨(ad.add (i.toNat * 4)).block, (ad.add (i.toNat * 4)).off + 1, none⟩ = some (.int .i64 (rd_T95 xs i).f0.f1) ∧ w.cell? ⟨(ad.add (i.toNat * 4)).block, (ad.add (i.toNat * 4)).off + 2, none⟩ = some (.int .i64 (rd_T95 xs i).f1.f0) ∧ w.cell? ⟨(ad.add (i.toNat * 4)).block, (ad.add (i.toNat * 4)).off + 3, none⟩ = some (.int .i64 (rd_T95 xs i).f1.f1) := by
  obtain ⟨ad, c, e, _, hK, hc0⟩ := Kd.C_get h z95 i h0 h1; have hc : ∀ j u, c[j]? = some u → w.cell? (ad.add (i.toNat * 4 + j)) = some u := hc0; obtain rfl := k95_open hK
  exact ⟨ad, e, hc 0 _ rfl, by rw [← add_field _ _ 1 (by omega)]; exact hc 1 _ rfl, by rw [← add_field _ _ 2 (by omega)]; exact hc 2 _ rfl, by rw [← add_field _ _ 3 (by omega)]; exact hc 3 _ rfl⟩
theorem eqA77 (d : Nat) (w : World) (x0 y0 : Int) (x1 y1 : Int) :
    (Op.equalIn (d + 2) 77 (.agg #[.int .i64 x0, .int .i64 x1]) (.agg #[.int .i64 y0, .int .i64 y1])).run Try.prog w = .ok (x0 == y0 && (x1 == y1)) w := by
  refine eqA_of Try.underlying77 (by kernel_rfl) ?_; refine eqf_cons (by rfl) (by go_simp; rfl) (by go_simp; rfl) (by go_simp) ?_
  exact eqf_last (by rfl) (by go_simp; rfl) (by go_simp; rfl) (by go_simp)
def laws_szPointS.f (l0 : List (S85)) (a1 : Int) : Option (Int) := if (wrap64 (a1 - (l0.length : Int))) < 0 then (some (-1)) else (some (wrap64 (a1 - (l0.length : Int))))
def laws_szFeature.f (a0_0 : Int) (a0_1 : Int) (a0_2 : Int) (a0_3 : ByteArray) (l0_4 : List (S85)) (a1 : Int) : Option (Int) := if (wrap64 (a1 - (a0_3.size : Int))) < 0 then (some (-1)) else ((laws_szPointS.f l0_4 (wrap64 (a1 - (a0_3.size : Int)))).bind fun t102 => (if t102 < 0 then (some (-1)) else (some t102)))
def spec_l9Feature.f (a0_0 : Int) (a0_1 : Int) (a0_2 : Int) (a0_3 : ByteArray) (l0_4 : List (S77)) : Option (Int × Int × Int × ByteArray × (List (S77))) := (some (([] : List (S77)) : List (S77))).bind fun y105 => (if y105.length + l0_4.length < 8796093022208 then (some (a0_0, a0_1, a0_2, a0_3, (y105 ++ l0_4))) else (none))
def spec_l1In.f (a0 : Int) (a1 : Int) (a2 : Int) : Option (Bool) := some (inR a0 a1 a2)
/-- A state of type 77 at block g of W; what its slices lead to came in by w0. -/
def IsS77 (w0 W : World) (g : Nat) (f0 : Int) (f1 : Int) : Prop := W.heap[g]? = some (.cells #[.int .i64 f0, .int .i64 f1] 77 (0, 0)) ∧ w0.heap.size ≤ g
theorem cellS77_0 {W : World} {g : Nat} {f0 : Int} {f1 : Int} (h : W.heap[g]? = some (.cells #[.int .i64 f0, .int .i64 f1] 77 (0, 0))) : W.cell? ⟨g, 0, none⟩ = some (.int .i64 f0) := (blk_cell h 0).trans rfl
theorem cellS77_1 {W : World} {g : Nat} {f0 : Int} {f1 : Int} (h : W.heap[g]? = some (.cells #[.int .i64 f0, .int .i64 f1] 77 (0, 0))) : W.cell? ⟨g, 1, none⟩ = some (.int .i64 f1) := (blk_cell h 1).trans rfl
def spec_IsPoint.f (a0_0 : Int) (a0_1 : Int) : Option (Bool) := some (isPt a0_0 a0_1)
attribute [local go_sem high] eqA77
def spec_IsLine.l0 : Nat → List (S77) → Int → Option (Bool)
 | 0, _, _ => none
 | k + 1, x0, x3 => if x3 < (x0.length : Int) then (if 0 ≤ x3 then ((spec_IsPoint.f ((rd_T77 x0 x3).f0) ((rd_T77 x0 x3).f1)).bind fun t112 => (if t112 = true then (if x3 > 0 then (if 0 ≤ (wrap64 (x3 - 1)) then (if (wrap64 (x3 - 1)) < (x0.length : Int) then (if (((rd_T77 x0 (wrap64 (x3 - 1))).f0) == ((rd_T77 x0 x3).f0) && (((rd_T77 x0 (wrap64 (x3 - 1))).f1) == ((rd_T77 x0 x3).f1))) = true then (some false) else (spec_IsLine.l0 k x0 (wrap64 (x3 + 1)))) else (none)) else (none)) else (spec_IsLine.l0 k x0 (wrap64 (x3 + 1)))) else (some false))) else (none)) else ((spec_l1In.f (x0.length : Int) 2 10).bind fun t115 => (some t115))
def spec_IsLine.f (k : Nat) (l0 : List (S77)) : Option (Bool) := spec_IsLine.l0 k l0 0
def spec_DropPoint.j0 : Nat → List (S77) → Int → Bool → Option ((List (S77)) × Bool)
 | 0, _, _, _ => none
 | k + 1, x0, x1, x17 => if x17 = true then ((some (([] : List (S77)) : List (S77))).bind fun y118 => (if y118.length + x0.length < 8796093022208 then (some ((y118 ++ x0), false)) else (none))) else ((some (([] : List (S77)) : List (S77))).bind fun y124 => (if 0 ≤ x1 then (if x1 ≤ (x0.length : Int) then ((some (x0.take (x1 : Int).toNat : List (S77))).bind fun y127 => (if y124.length + y127.length < 8796093022208 then ((some (y124 ++ y127 : List (S77))).bind fun y131 => (if 0 ≤ (wrap64 (x1 + 1)) then (if (wrap64 (x1 + 1)) ≤ (x0.length : Int) then ((some (x0.drop ((wrap64 (x1 + 1)) : Int).toNat : List (S77))).bind fun y134 => (if y131.length + y134.length < 8796093022208 then ((some (y131 ++ y134 : List (S77))).bind fun y138 => ((spec_IsLine.f k y138).bind fun t141 => (if t141 = true then (some (y138, true)) else ((some (([] : List (S77)) : List (S77))).bind fun y142 => (if y142.length + x0.length < 8796093022208 then (some ((y142 ++ x0), false)) else (none)))))) else (none))) else (none)) else (none))) else (none))) else (none)) else (none)))
def spec_DropPoint.f (k : Nat) (l0 : List (S77)) (a1 : Int) : Option ((List (S77)) × Bool) := (spec_IsLine.f k l0).bind fun t116 => (if t116 = true then ((spec_l1In.f a1 1 (wrap64 ((l0.length : Int) - 2))).bind fun t117 => (spec_DropPoint.j0 k l0 a1 (!t117))) else (spec_DropPoint.j0 k l0 a1 true))
def spec_Max.f (a0 : Int) (a1 : Int) : Option (Int) := some (mx a0 a1)
/-- A state of type 95 at block g of W; what its slices lead to came in by w0. -/
def IsS95 (w0 W : World) (g : Nat) (f0 : Int) (f1 : Int) (f2 : Int) (f3 : Int) : Prop := W.heap[g]? = some (.cells #[.int .i64 f0, .int .i64 f1, .int .i64 f2, .int .i64 f3] 95 (0, 0)) ∧ w0.heap.size ≤ g
theorem cellS95_0 {W : World} {g : Nat} {f0 : Int} {f1 : Int} {f2 : Int} {f3 : Int} (h : W.heap[g]? = some (.cells #[.int .i64 f0, .int .i64 f1, .int .i64 f2, .int .i64 f3] 95 (0, 0))) : W.cell? ⟨g, 0, none⟩ = some (.int .i64 f0) := (blk_cell h 0).trans rfl
theorem cellS95_1 {W : World} {g : Nat} {f0 : Int} {f1 : Int} {f2 : Int} {f3 : Int} (h : W.heap[g]? = some (.cells #[.int .i64 f0, .int .i64 f1, .int .i64 f2, .int .i64 f3] 95 (0, 0))) : W.cell? ⟨g, 1, none⟩ = some (.int .i64 f1) := (blk_cell h 1).trans rfl
theorem cellS95_2 {W : World} {g : Nat} {f0 : Int} {f1 : Int} {f2 : Int} {f3 : Int} (h : W.heap[g]? = some (.cells #[.int .i64 f0, .int .i64 f1, .int .i64 f2, .int .i64 f3] 95 (0, 0))) : W.cell? ⟨g, 2, none⟩ = some (.int .i64 f2) := (blk_cell h 2).trans rfl
theorem cellS95_3 {W : World} {g : Nat} {f0 : Int} {f1 : Int} {f2 : Int} {f3 : Int} (h : W.heap[g]? = some (.cells #[.int .i64 f0, .int .i64 f1, .int .i64 f2, .int .i64 f3] 95 (0, 0))) : W.cell? ⟨g, 3, none⟩ = some (.int .i64 f3) := (blk_cell h 3).trans rfl
def spec_IsSegment.f (a0_0 : Int) (a0_1 : Int) (a0_2 : Int) (a0_3 : Int) : Option (Bool) := some (isSeg a0_0 a0_1 a0_2 a0_3)
def spec_Min.f (a0 : Int) (a1 : Int) : Option (Int) := some (mn a0 a1)
def spec_l4Cross.f (a0_0 : Int) (a0_1 : Int) (a1_0 : Int) (a1_1 : Int) (a2_0 : Int) (a2_1 : Int) : Option (Int) := some (crossI a0_0 a0_1 a1_0 a1_1 a2_0 a2_1)
def spec_IsOn.f (a0_0 : Int) (a0_1 : Int) (a0_2 : Int) (a0_3 : Int) (a1_0 : Int) (a1_1 : Int) : Option (Bool) := some (isOnI a0_0 a0_1 a0_2 a0_3 a1_0 a1_1)
attribute [local go_sem high] eqA77
mutual
def spec_l5Shared.l0 : Nat → List (S77) → List (S77) → Int → Int → Int → Int → Int → Int → Int → Int → Int → Option (Int)
 | 0, _, _, _, _, _, _, _, _, _, _, _ => none
 | k + 1, x5, x6, x7, x149000, x149001, x149002, x149003, x150000, x150001, x150002, x150003 => if x7 < 4 then (if x7 < 2 then (if 0 ≤ x7 then (if x7 < (x6.length : Int) then ((spec_IsOn.f x150000 x150001 x150002 x150003 ((rd_T77 x6 x7).f0) ((rd_T77 x6 x7).f1)).bind fun t157 => (if t157 = true then (spec_l5Shared.j1 k x5 x6 x7 true x149000 x149001 x149002 x149003 x150000 x150001 x150002 x150003) else (if x7 ≥ 2 then ((spec_IsOn.f x149000 x149001 x149002 x149003 ((rd_T77 x6 x7).f0) ((rd_T77 x6 x7).f1)).bind fun t159 => (spec_l5Shared.j1 k x5 x6 x7 t159 x149000 x149001 x149002 x149003 x150000 x150001 x150002 x150003)) else (spec_l5Shared.j1 k x5 x6 x7 false x149000 x149001 x149002 x149003 x150000 x150001 x150002 x150003)))) else (none)) else (none)) else (if x7 ≥ 2 then (if 0 ≤ x7 then (if x7 < (x6.length : Int) then ((spec_IsOn.f x149000 x149001 x149002 x149003 ((rd_T77 x6 x7).f0) ((rd_T77 x6 x7).f1)).bind fun t161 => (spec_l5Shared.j1 k x5 x6 x7 t161 x149000 x149001 x149002 x149003 x150000 x150001 x150002 x150003)) else (none)) else (none)) else (spec_l5Shared.j1 k x5 x6 x7 false x149000 x149001 x149002 x149003 x150000 x150001 x150002 x150003))) else (some (x5.length : Int))
def spec_l5Shared.j1 : Nat → List (S77) → List (S77) → Int → Bool → Int → Int → Int → Int → Int → Int → Int → Int → Option (Int)
 | 0, _, _, _, _, _, _, _, _, _, _, _, _ => none
 | k + 1, x5, x6, x7, x8, x149000, x149001, x149002, x149003, x150000, x150001, x150002, x150003 => spec_l5Shared.l1 k x5 x6 x7 x8 0 x149000 x149001 x149002 x149003 x150000 x150001 x150002 x150003
def spec_l5Shared.l1 : Nat → List (S77) → List (S77) → Int → Bool → Int → Int → Int → Int → Int → Int → Int → Int → Int → Option (Int)
 | 0, _, _, _, _, _, _, _, _, _, _, _, _, _ => none
 | k + 1, x5, x6, x7, x8, x9, x149000, x149001, x149002, x149003, x150000, x150001, x150002, x150003 => if x9 < (x5.length : Int) then (if x8 = true then (if 0 ≤ x9 then (if 0 ≤ x7 then (if x7 < (x6.length : Int) then (spec_l5Shared.l1 k x5 x6 x7 (!(((rd_T77 x5 x9).f0) == ((rd_T77 x6 x7).f0)) || (!(((rd_T77 x5 x9).f1) == ((rd_T77 x6 x7).f1)))) (wrap64 (x9 + 1)) x149000 x149001 x149002 x149003 x150000 x150001 x150002 x150003) else (none)) else (none)) else (none)) else (spec_l5Shared.l1 k x5 x6 x7 false (wrap64 (x9 + 1)) x149000 x149001 x149002 x149003 x150000 x150001 x150002 x150003)) else (if x8 = true then (if 0 ≤ x7 then (if x7 < (x6.length : Int) then (if x5.length < 8796093022208 then (spec_l5Shared.l0 k (x5 ++ [(⟨(rd_T77 x6 x7).f0, (rd_T77 x6 x7).f1⟩ : S77)]) x6 (wrap64 (x7 + 1)) x149000 x149001 x149002 x149003 x150000 x150001 x150002 x150003) else (none)) else (none)) else (none)) else (spec_l5Shared.l0 k x5 x6 (wrap64 (x7 + 1)) x149000 x149001 x149002 x149003 x150000 x150001 x150002 x150003))
end
def spec_l5Shared.f (k : Nat) (a0_0 : Int) (a0_1 : Int) (a0_2 : Int) (a0_3 : Int) (a1_0 : Int) (a1_1 : Int) (a1_2 : Int) (a1_3 : Int) : Option (Int) := spec_l5Shared.l0 k (([] : List (S77))) (([(⟨a0_0, a0_1⟩ : S77), (⟨a0_2, a0_3⟩ : S77), (⟨a1_0, a1_1⟩ : S77), (⟨a1_2, a1_3⟩ : S77)] : List (S77))) 0 a0_0 a0_1 a0_2 a0_3 a1_0 a1_1 a1_2 a1_3
def spec_SideOf.f (a0_0 : Int) (a0_1 : Int) (a1_0 : Int) (a1_1 : Int) (a2_0 : Int) (a2_1 : Int) : Option (Int) := some (sideI a0_0 a0_1 a1_0 a1_1 a2_0 a2_1)
theorem on_s (a b c d x y : Int) : spec_IsOn.f a b c d x y = some (isOnI a b c d x y) := rfl
def eqP (p q : S77) : Bool := decide (p.f0 = q.f0) && decide (p.f1 = q.f1)
theorem nep (p q : S77) : (!((p.f0) == (q.f0)) || (!((p.f1) == (q.f1)))) = !eqP p q := by
  unfold eqP
  by_cases h : p.f0 = q.f0 <;> by_cases h' : p.f1 = q.f1 <;> simp [h, h']
theorem rdPt (l : List S77) (i : Nat) (h : i < l.length) : rd_T77 l (i : Int) = l[i] := by
  unfold rd_T77
  rw [Int.toNat_natCast, List.getD_eq_getElem?_getD, List.getElem?_eq_getElem h]
  rfl
theorem w1' (i : Nat) (h : i < 9223372036854775807) : wrap64 ((i : Int) + 1) = ((i + 1 : Nat) : Int) := by unfold wrap64; omega
theorem all_if (x : Bool) (L : List S77) (y : S77) (q : S77 → Bool) : (if x = true then L ++ [y] else L).all q = (L.all q && (!x || q y)) := by cases x <;> simp
theorem len_if (x : Bool) (L : List S77) (y : S77) : (if x = true then L ++ [y] else L).length = L.length + (if x = true then 1 else 0) := by cases x <;> simp
section
variable (a b c d e f g h : Int)
theorem sh_l1 (xs es : List S77) (i : Nat) (hi : i < es.length) (hes : es.length ≤ 4) (hx : xs.length ≤ 4) (m : Nat) : ∀ (j : Nat) (on : Bool), j + m = xs.length → ∀ r,
    Ev (fun k => spec_l5Shared.l0 k (if on && (xs.drop j).all (fun p => !eqP p es[i]) then xs ++ [es[i]] else xs) es ((i + 1 : Nat) : Int) a b c d e f g h) r → Ev (fun k => spec_l5Shared.l1 k xs es (i : Int) on (j : Int) a b c d e f g h) r := by
  induction m with
  | zero =>
    intro j on hj r hr; rw [List.drop_of_length_le (by omega)] at hr; refine Ev.step (fun k => ?_) hr; simp only [spec_l5Shared.l1]; rw [if_neg (by omega)]; simp only [List.all_nil, Bool.and_true]
    cases on
    · simp only [Bool.false_eq_true, if_false, w1' i (by omega)]
    · simp only [if_true]; rw [if_pos (by omega), if_pos (by omega), if_pos (by omega), w1' i (by omega), rdPt es i hi]
  | succ m ih =>
    intro j on hj r hr; have hj1 : j < xs.length := by omega
    have hd := List.drop_eq_getElem_cons hj1; rw [hd, List.all_cons] at hr; refine Ev.step (fun k => ?_) (ih (j + 1) (on && !eqP xs[j] es[i]) (by omega) r (by rw [Bool.and_assoc]; exact hr)); simp only [spec_l5Shared.l1]; rw [if_pos (by omega)]
    cases on
    · simp only [Bool.false_eq_true, if_false, w1' j (by omega), Bool.false_and]
    · simp only [if_true]; rw [if_pos (by omega), if_pos (by omega), if_pos (by omega), w1' j (by omega), rdPt es i hi, rdPt xs j hj1, nep, Bool.true_and]
/-- Which segment an end is held against. -/
def onI (i : Nat) (p : S77) : Bool := if i < 2 then isOnI e f g h p.f0 p.f1 else isOnI a b c d p.f0 p.f1
theorem sh_l0 (xs es : List S77) (i : Nat) (hi : i < es.length) (hes : es.length = 4) (hx : xs.length ≤ 4) (r : Int)
    (hr : Ev (fun k => spec_l5Shared.l0 k (if onI a b c d e f g h i es[i] && xs.all (fun p => !eqP p es[i]) then xs ++ [es[i]] else xs) es ((i + 1 : Nat) : Int) a b c d e f g h) r) : Ev (fun k => spec_l5Shared.l0 k xs es (i : Int) a b c d e f g h) r := by
  have go : ∀ on : Bool, on = onI a b c d e f g h i es[i] → Ev (fun k => spec_l5Shared.j1 k xs es (i : Int) on a b c d e f g h) r := by
    intro on hon; refine Ev.step (f := fun k => spec_l5Shared.l1 k xs es (i : Int) on ((0 : Nat) : Int) a b c d e f g h) (fun k => by rw [spec_l5Shared.j1]; rfl) (sh_l1 a b c d e f g h xs es i hi (by omega) hx xs.length 0 on (by omega) r ?_); rw [hon, List.drop_zero]
    exact hr
  have step : ∀ k, spec_l5Shared.l0 (k + 1) xs es (i : Int) a b c d e f g h = spec_l5Shared.j1 k xs es (i : Int) (onI a b c d e f g h i es[i]) a b c d e f g h := by
    intro k; simp only [spec_l5Shared.l0]; rw [if_pos (by omega)]
    by_cases h2 : i < 2
    · rw [if_pos (by omega), if_pos (by omega), if_pos (by omega), rdPt es i hi, on_s, onI, if_pos h2]; simp only [Option.bind_some]
      cases isOnI e f g h es[i].f0 es[i].f1
      · rw [if_neg (by simp), if_neg (by omega)]
      · rw [if_pos rfl]
    · rw [if_neg (by omega), if_pos (by omega), if_pos (by omega), if_pos (by omega), rdPt es i hi, on_s, onI, if_neg h2]; simp only [Option.bind_some]
  exact Ev.step step (go _ rfl)
theorem share_s : Ev (fun k => spec_l5Shared.f k a b c d e f g h) (shareI a b c d e f g h) := by
  unfold spec_l5Shared.f
  generalize hes : ([(⟨a, b⟩ : S77), ⟨c, d⟩, ⟨e, f⟩, ⟨g, h⟩] : List S77) = es; have h4 : es.length = 4 := by subst hes; rfl
  have e0 : es[0]'(by omega) = ⟨a, b⟩ := by subst hes; rfl
  have e1 : es[1]'(by omega) = ⟨c, d⟩ := by subst hes; rfl
  have e2 : es[2]'(by omega) = ⟨e, f⟩ := by subst hes; rfl
  have e3 : es[3]'(by omega) = ⟨g, h⟩ := by subst hes; rfl
  refine sh_l0 a b c d e f g h [] es 0 (by omega) h4 (by simp) _ ?_; refine sh_l0 a b c d e f g h _ es 1 (by omega) h4 (by split <;> simp) _ ?_; refine sh_l0 a b c d e f g h _ es 2 (by omega) h4 (by split <;> split <;> simp) _ ?_; refine sh_l0 a b c d e f g h _ es 3 (by omega) h4 (by split <;> split <;> split <;> simp) _ ?_; rw [e0, e1, e2, e3]; have q0 : onI a b c d e f g h 0 ⟨a, b⟩ = isOnI e f g h a b := rfl; have q1 : onI a b c d e f g h 1 ⟨c, d⟩ = isOnI e f g h c d := rfl; have q2 : onI a b c d e f g h 2 ⟨e, f⟩ = isOnI a b c d e f := rfl; have q3 : onI a b c d e f g h 3 ⟨g, h⟩ = isOnI a b c d g h := rfl; rw [q0, q1, q2, q3]
  unfold shareI
  generalize isOnI e f g h a b = o0; generalize isOnI e f g h c d = o1; generalize isOnI a b c d e f = o2; generalize isOnI a b c d g h = o3; refine Ev.step (f := fun _ => some _) (fun k => ?_) (Ev.now _); simp only [spec_l5Shared.l0]; rw [if_neg (by omega)]
  congr 1
  have E : ∀ x y x' y' : Int, eqP ⟨x, y⟩ ⟨x', y'⟩ = (decide (x = x') && decide (y = y')) := fun _ _ _ _ => rfl
  generalize hA : (decide (a = c) && decide (b = d)) = eab; generalize hB : (decide (a = e) && decide (b = f)) = eac; generalize hC : (decide (c = e) && decide (d = f)) = ebc; generalize hD : (decide (a = g) && decide (b = h)) = ead; generalize hE : (decide (c = g) && decide (d = h)) = ebd; generalize hF : (decide (e = g) && decide (f = h)) = ecd; simp only [all_if, len_if, List.all_nil, List.length_nil, E, hA, hB, hC, hD, hE, hF]; have n1 : (o1 && (true && (!(o0 && true) || !eab))) = (o1 && !(o0 && eab)) := by cases o0 <;> cases eab <;> rfl
  rw [n1]; generalize (o1 && !(o0 && eab)) = p1; have n2 : (o2 && (true && (!(o0 && true) || !eac) && (!p1 || !ebc))) = (o2 && !(o0 && eac) && !(p1 && ebc)) := by cases o0 <;> cases eac <;> cases p1 <;> cases ebc <;> cases o2 <;> rfl
  rw [n2]; generalize (o2 && !(o0 && eac) && !(p1 && ebc)) = p2; have n3 : (o3 && (true && (!(o0 && true) || !ead) && (!p1 || !ebd) && (!p2 || !ecd))) = (o3 && !(o0 && ead) && !(p1 && ebd) && !(p2 && ecd)) := by cases o0 <;> cases ead <;> cases p1 <;> cases ebd <;> cases p2 <;> cases ecd <;> cases o3 <;> rfl
  rw [n3]; generalize (o3 && !(o0 && ead) && !(p1 && ebd) && !(p2 && ecd)) = p3
  cases o0 <;> cases p1 <;> cases p2 <;> cases p3 <;> rfl
end
theorem wrap_sd (x y : Int) (hx : -1 ≤ x ∧ x ≤ 1) (hy : -1 ≤ y ∧ y ≤ 1) : wrap64 (x * y) = x * y := by
  have : x = -1 ∨ x = 0 ∨ x = 1 := by omega
  rcases this with rfl | rfl | rfl <;> unfold wrap64 <;> omega
theorem sd_bd (a b c d e f : Int) : -1 ≤ sideI a b c d e f ∧ sideI a b c d e f ≤ 1 := by
  unfold sideI cmpI; (repeat' split) <;> omega
theorem wrap_three (x y : Int) (hx : -1 ≤ x ∧ x ≤ 1) (hy : -1 ≤ y ∧ y ≤ 1) : IntKind.i64.wrap (x * y) = x * y ∧ (IntKind.i64.wrap (x * y) = -1 ∨ IntKind.i64.wrap (x * y) = 0 ∨ IntKind.i64.wrap (x * y) = 1) := by
  rw [i64_w, wrap_sd x y hx hy]; refine ⟨rfl, ?_⟩; have h1 : x = -1 ∨ x = 0 ∨ x = 1 := by omega
  rcases h1 with rfl | rfl | rfl <;> omega
def spec_HowMeet.f (a0_0 a0_1 a0_2 a0_3 a1_0 a1_1 a1_2 a1_3 : Int) : Option (Int) := some (howS a0_0 a0_1 a0_2 a0_3 a1_0 a1_1 a1_2 a1_3)
def spec_l7Segments.l0 : Nat → List (S77) → List (S95) → Int → Option ((List (S95)))
 | 0, _, _, _ => none
 | k + 1, x0, x3, x4 => if x4 < (x0.length : Int) then (if 0 ≤ x4 then (if (x0.length : Int) = 0 then (none) else (if 0 ≤ (Int.tmod (wrap64 (x4 + 1)) (x0.length : Int)) then (if (Int.tmod (wrap64 (x4 + 1)) (x0.length : Int)) < (x0.length : Int) then (if x3.length < 4398046511104 then (spec_l7Segments.l0 k x0 (x3 ++ [(⟨(⟨(rd_T77 x0 x4).f0, (rd_T77 x0 x4).f1⟩ : S77), (⟨(rd_T77 x0 (Int.tmod (wrap64 (x4 + 1)) (x0.length : Int))).f0, (rd_T77 x0 (Int.tmod (wrap64 (x4 + 1)) (x0.length : Int))).f1⟩ : S77)⟩ : S95)]) (wrap64 (x4 + 1))) else (none)) else (none)) else (none))) else (none)) else (some x3)
def spec_l7Segments.f (k : Nat) (l0 : List (S77)) : Option ((List (S95))) := spec_l7Segments.l0 k l0 (([] : List (S95))) 0
mutual
def spec_IsRing.l0 : Nat → List (S95) → Int → Option (Bool)
 | 0, _, _ => none
 | k + 1, x3, x4 => if x4 < (x3.length : Int) then (if 0 ≤ x4 then ((spec_IsSegment.f ((rd_T95 x3 x4).f0.f0) ((rd_T95 x3 x4).f0.f1) ((rd_T95 x3 x4).f1.f0) ((rd_T95 x3 x4).f1.f1)).bind fun t181 => (if t181 = true then (spec_IsRing.l1 k x3 x4 0) else (some false))) else (none)) else (some true)
def spec_IsRing.l1 : Nat → List (S95) → Int → Int → Option (Bool)
 | 0, _, _, _ => none
 | k + 1, x3, x4, x5 => if x5 < x4 then (if (wrap64 (x5 + 1)) = x4 then (spec_IsRing.j2 k x3 x4 x5 0 true) else (if x5 = 0 then (spec_IsRing.j2 k x3 x4 x5 0 ((wrap64 (x4 + 1)) == (x3.length : Int))) else (spec_IsRing.j2 k x3 x4 x5 0 false))) else (spec_IsRing.l0 k x3 (wrap64 (x4 + 1)))
def spec_IsRing.j2 : Nat → List (S95) → Int → Int → Int → Bool → Option (Bool)
 | 0, _, _, _, _, _ => none
 | k + 1, x3, x4, x5, x6, x44 => if x44 = true then (if 0 ≤ x4 then (if x4 < (x3.length : Int) then (if 0 ≤ x5 then (if x5 < (x3.length : Int) then ((spec_HowMeet.f ((rd_T95 x3 x4).f0.f0) ((rd_T95 x3 x4).f0.f1) ((rd_T95 x3 x4).f1.f0) ((rd_T95 x3 x4).f1.f1) ((rd_T95 x3 x5).f0.f0) ((rd_T95 x3 x5).f0.f1) ((rd_T95 x3 x5).f1.f0) ((rd_T95 x3 x5).f1.f1)).bind fun t184 => (if t184 = 1 then (spec_IsRing.l1 k x3 x4 (wrap64 (x5 + 1))) else (some false))) else (none)) else (none)) else (none)) else (none)) else (if 0 ≤ x4 then (if x4 < (x3.length : Int) then (if 0 ≤ x5 then (if x5 < (x3.length : Int) then ((spec_HowMeet.f ((rd_T95 x3 x4).f0.f0) ((rd_T95 x3 x4).f0.f1) ((rd_T95 x3 x4).f1.f0) ((rd_T95 x3 x4).f1.f1) ((rd_T95 x3 x5).f0.f0) ((rd_T95 x3 x5).f0.f1) ((rd_T95 x3 x5).f1.f0) ((rd_T95 x3 x5).f1.f1)).bind fun t187 => (if t187 = x6 then (spec_IsRing.l1 k x3 x4 (wrap64 (x5 + 1))) else (some false))) else (none)) else (none)) else (none)) else (none))
end
def spec_IsRing.f (k : Nat) (l0 : List (S77)) : Option (Bool) := (spec_l1In.f (l0.length : Int) 3 10).bind fun t176 => (if t176 = true then ((spec_l7Segments.f k l0).bind fun t177 => (spec_IsRing.l0 k t177 0)) else (some false))
def spec_TwiceArea.l0 : Nat → List (S77) → Int → List (S95) → Int → Option (Int)
 | 0, _, _, _, _ => none
 | k + 1, x0, x3, x4, x5 => if x5 < (x4.length : Int) then ((spec_IsRing.f k x0).bind fun t191 => (if t191 = true then (if 0 ≤ x5 then (spec_TwiceArea.l0 k x0 (wrap64 ((wrap64 (x3 + (wrap64 (((rd_T95 x4 x5).f0.f0) * ((rd_T95 x4 x5).f1.f1))))) - (wrap64 (((rd_T95 x4 x5).f0.f1) * ((rd_T95 x4 x5).f1.f0))))) x4 (wrap64 (x5 + 1))) else (none)) else (some x3))) else (some x3)
def spec_TwiceArea.f (k : Nat) (l0 : List (S77)) : Option (Int) := (spec_l7Segments.f k l0).bind fun t188 => (spec_TwiceArea.l0 k l0 0 t188 0)
def spec_SameTurn.f (k : Nat) (l0 : List (S77)) (l1 : List (S77)) : Option (Bool) := (spec_TwiceArea.f k l0).bind fun t196 => ((spec_TwiceArea.f k l1).bind fun t197 => (if t196 > 0 then (if t197 > 0 then (some true) else (if t196 < 0 then (some (decide (t197 < 0))) else (some false))) else (if t196 < 0 then (some (decide (t197 < 0))) else (some false))))
def spec_DropCorner.j0 : Nat → List (S77) → Int → Bool → Option ((List (S77)) × Bool)
 | 0, _, _, _ => none
 | k + 1, x0, x1, x17 => if x17 = true then ((some (([] : List (S77)) : List (S77))).bind fun y200 => (if y200.length + x0.length < 8796093022208 then (some ((y200 ++ x0), false)) else (none))) else ((some (([] : List (S77)) : List (S77))).bind fun y206 => (if 0 ≤ x1 then (if x1 ≤ (x0.length : Int) then ((some (x0.take (x1 : Int).toNat : List (S77))).bind fun y209 => (if y206.length + y209.length < 8796093022208 then ((some (y206 ++ y209 : List (S77))).bind fun y213 => (if 0 ≤ (wrap64 (x1 + 1)) then (if (wrap64 (x1 + 1)) ≤ (x0.length : Int) then ((some (x0.drop ((wrap64 (x1 + 1)) : Int).toNat : List (S77))).bind fun y216 => (if y213.length + y216.length < 8796093022208 then ((some (y213 ++ y216 : List (S77))).bind fun y220 => ((spec_IsRing.f k y220).bind fun t223 => (if t223 = true then ((spec_SameTurn.f k x0 y220).bind fun t224 => (if t224 = true then (some (y220, true)) else ((some (([] : List (S77)) : List (S77))).bind fun y225 => (if y225.length + x0.length < 8796093022208 then (some ((y225 ++ x0), false)) else (none))))) else ((some (([] : List (S77)) : List (S77))).bind fun y231 => (if y231.length + x0.length < 8796093022208 then (some ((y231 ++ x0), false)) else (none)))))) else (none))) else (none)) else (none))) else (none))) else (none)) else (none)))
def spec_DropCorner.f (k : Nat) (l0 : List (S77)) (a1 : Int) : Option ((List (S77)) × Bool) := (spec_IsRing.f k l0).bind fun t198 => (if t198 = true then ((spec_l1In.f a1 0 (wrap64 ((l0.length : Int) - 1))).bind fun t199 => (spec_DropCorner.j0 k l0 a1 (!t199))) else (spec_DropCorner.j0 k l0 a1 true))
def spec_IsName.l0 : Nat → ByteArray → Int → Option (Bool)
 | 0, _, _ => none
 | k + 1, x0, x3 => if x3 < (x0.size : Int) then (if 0 ≤ x3 then (if (bt x0 x3) < 97 then (some false) else (if (bt x0 x3) > 122 then (some false) else (spec_IsName.l0 k x0 (wrap64 (x3 + 1))))) else (none)) else ((spec_l1In.f (x0.size : Int) 1 8).bind fun t237 => (some t237))
def spec_IsName.f (k : Nat) (a0 : ByteArray) : Option (Bool) := spec_IsName.l0 k a0 0
def spec_SegmentsOf.l0 : Nat → List (S77) → List (S95) → Int → Option ((List (S95)))
 | 0, _, _, _ => none
 | k + 1, x0, x3, x4 => if x4 < (x0.length : Int) then ((spec_IsLine.f k x0).bind fun t241 => (if t241 = true then (if 0 ≤ (wrap64 (x4 - 1)) then (if (wrap64 (x4 - 1)) < (x0.length : Int) then (if 0 ≤ x4 then (if x3.length < 4398046511104 then (spec_SegmentsOf.l0 k x0 (x3 ++ [(⟨(⟨(rd_T77 x0 (wrap64 (x4 - 1))).f0, (rd_T77 x0 (wrap64 (x4 - 1))).f1⟩ : S77), (⟨(rd_T77 x0 x4).f0, (rd_T77 x0 x4).f1⟩ : S77)⟩ : S95)]) (wrap64 (x4 + 1))) else (none)) else (none)) else (none)) else (none)) else (some x3))) else (some x3)
def spec_SegmentsOf.f (k : Nat) (l0 : List (S77)) : Option ((List (S95))) := spec_SegmentsOf.l0 k l0 (([] : List (S95))) 1
mutual
def spec_IsSimple.l0 : Nat → List (S77) → List (S95) → Int → Option (Bool)
 | 0, _, _, _ => none
 | k + 1, x0, x3, x4 => if x4 < (x3.length : Int) then (spec_IsSimple.l1 k x0 x3 x4 0) else ((spec_IsLine.f k x0).bind fun t250 => (some t250))
def spec_IsSimple.l1 : Nat → List (S77) → List (S95) → Int → Int → Option (Bool)
 | 0, _, _, _, _ => none
 | k + 1, x0, x3, x4, x5 => if x5 < x4 then (if (wrap64 (x5 + 1)) = x4 then (if 0 ≤ x4 then (if x4 < (x3.length : Int) then (if 0 ≤ x5 then (if x5 < (x3.length : Int) then ((spec_HowMeet.f ((rd_T95 x3 x4).f0.f0) ((rd_T95 x3 x4).f0.f1) ((rd_T95 x3 x4).f1.f0) ((rd_T95 x3 x4).f1.f1) ((rd_T95 x3 x5).f0.f0) ((rd_T95 x3 x5).f0.f1) ((rd_T95 x3 x5).f1.f0) ((rd_T95 x3 x5).f1.f1)).bind fun t253 => (if t253 = 1 then (spec_IsSimple.l1 k x0 x3 x4 (wrap64 (x5 + 1))) else (some false))) else (none)) else (none)) else (none)) else (none)) else (if 0 ≤ x4 then (if x4 < (x3.length : Int) then (if 0 ≤ x5 then (if x5 < (x3.length : Int) then ((spec_HowMeet.f ((rd_T95 x3 x4).f0.f0) ((rd_T95 x3 x4).f0.f1) ((rd_T95 x3 x4).f1.f0) ((rd_T95 x3 x4).f1.f1) ((rd_T95 x3 x5).f0.f0) ((rd_T95 x3 x5).f0.f1) ((rd_T95 x3 x5).f1.f0) ((rd_T95 x3 x5).f1.f1)).bind fun t256 => (if t256 = 0 then (spec_IsSimple.l1 k x0 x3 x4 (wrap64 (x5 + 1))) else (some false))) else (none)) else (none)) else (none)) else (none))) else (spec_IsSimple.l0 k x0 x3 (wrap64 (x4 + 1)))
end
def spec_IsSimple.f (k : Nat) (l0 : List (S77)) : Option (Bool) := (spec_SegmentsOf.f k l0).bind fun t247 => (spec_IsSimple.l0 k l0 t247 0)
def spec_IsFeature.j0 : Nat → Bool → Int → Int → Int → ByteArray → List (S77) → Option (Bool)
 | 0, _, _, _, _, _, _ => none
 | k + 1, x23, x258000, x258001, x258002, x258003, x258004 => if x23 = true then (some false) else (if x258001 = 1 then (if (x258004.length : Int) = 1 then (if 0 < (x258004.length : Int) then ((spec_IsPoint.f ((rd_T77 x258004 0).f0) ((rd_T77 x258004 0).f1)).bind fun t262 => (some t262)) else (none)) else (some false)) else (if x258001 = 2 then ((spec_IsSimple.f k x258004).bind fun t263 => (some t263)) else (if x258001 = 3 then ((spec_IsRing.f k x258004).bind fun t264 => (some t264)) else (some false))))
def spec_IsFeature.f (k : Nat) (a0_0 : Int) (a0_1 : Int) (a0_2 : Int) (a0_3 : ByteArray) (l0_4 : List (S77)) : Option (Bool) := (spec_l1In.f a0_0 1 99).bind fun t258 => (if t258 = true then ((spec_l1In.f a0_2 0 9).bind fun t259 => (if t259 = true then (if a0_3.toList = ([] : List UInt8) then (spec_IsFeature.j0 k false a0_0 a0_1 a0_2 a0_3 l0_4) else ((spec_IsName.f k a0_3).bind fun t260 => (spec_IsFeature.j0 k (!t260) a0_0 a0_1 a0_2 a0_3 l0_4))) else (spec_IsFeature.j0 k true a0_0 a0_1 a0_2 a0_3 l0_4))) else (spec_IsFeature.j0 k true a0_0 a0_1 a0_2 a0_3 l0_4))
def spec_DropFrom.j0 : Nat → Bool → Int → Int → Int → ByteArray → List (S77) → Int → Int → Int → ByteArray → List (S77) → Option (Int × Int × Int × ByteArray × (List (S77)) × Bool)
 | 0, _, _, _, _, _, _, _, _, _, _, _ => none
 | k + 1, x7, x266000, x266001, x266002, x266003, x266004, x275000, x275001, x275002, x275003, x275004 => if x7 = true then ((spec_IsFeature.f k x275000 x275001 x275002 x275003 x275004).bind fun t283 => (if t283 = true then (some (x275000, x275001, x275002, x275003, x275004, true)) else ((spec_l9Feature.f x266000 x266001 x266002 x266003 x266004).bind fun bt284 => (some (bt284.1, bt284.2.1, bt284.2.2.1, bt284.2.2.2.1, bt284.2.2.2.2, false))))) else ((spec_l9Feature.f x266000 x266001 x266002 x266003 x266004).bind fun bt291 => (some (bt291.1, bt291.2.1, bt291.2.2.1, bt291.2.2.2.1, bt291.2.2.2.2, false)))
def spec_DropFrom.f (k : Nat) (a0_0 : Int) (a0_1 : Int) (a0_2 : Int) (a0_3 : ByteArray) (l0_4 : List (S77)) (a1 : Int) : Option (Int × Int × Int × ByteArray × (List (S77)) × Bool) := (spec_l9Feature.f a0_0 a0_1 a0_2 a0_3 l0_4).bind fun bt267 => (if a0_1 = 2 then ((spec_DropPoint.f k l0_4 a1).bind fun bt275 => (spec_DropFrom.j0 k bt275.2 a0_0 a0_1 a0_2 a0_3 l0_4 bt267.1 bt267.2.1 bt267.2.2.1 bt267.2.2.2.1 bt275.1)) else (if a0_1 = 3 then ((spec_DropCorner.f k l0_4 a1).bind fun bt279 => (spec_DropFrom.j0 k bt279.2 a0_0 a0_1 a0_2 a0_3 l0_4 bt267.1 bt267.2.1 bt267.2.2.1 bt267.2.2.2.1 bt279.1)) else (spec_DropFrom.j0 k false a0_0 a0_1 a0_2 a0_3 l0_4 bt267.1 bt267.2.1 bt267.2.2.1 bt267.2.2.2.1 bt267.2.2.2.2)))
def laws_toPoint.f (a0_0 : Int) (a0_1 : Int) : Option (Int × Int) := some (a0_0, a0_1)
def laws_toPointS.l0 : Nat → List (S85) → List (S77) → Int → Option ((List (S77)))
 | 0, _, _, _ => none
 | k + 1, x0, x3, x4 => if x4 < (x0.length : Int) then (if 0 ≤ x4 then ((laws_toPoint.f ((rd_T85 x0 x4).f0) ((rd_T85 x0 x4).f1)).bind fun bt305 => (if x4 < (x3.length : Int) then (laws_toPointS.l0 k x0 (x3.set (x4 : Int).toNat (⟨bt305.1, bt305.2⟩ : S77)) (wrap64 (x4 + 1))) else (none))) else (none)) else (some x3)
def laws_toPointS.f (k : Nat) (l0 : List (S85)) : Option ((List (S77))) := if 0 ≤ (l0.length : Int) then (if ((l0.length : Int) : Int).toNat ≤ 17592186044416 then (laws_toPointS.l0 k l0 (List.replicate ((l0.length : Int) : Int).toNat z77) 0) else (none)) else (none)
def laws_toFeature.f (k : Nat) (a0_0 : Int) (a0_1 : Int) (a0_2 : Int) (a0_3 : ByteArray) (l0_4 : List (S85)) : Option (Int × Int × Int × ByteArray × (List (S77))) := (laws_toPointS.f k l0_4).bind fun t311 => (some (a0_0, a0_1, a0_2, a0_3, t311))
def impl_Point.f (l0 : List S77) : Option (List S77) := if l0.length < 8796093022208 then some l0 else none
def impl_cloneFeature.f (a0_0 : Int) (a0_1 : Int) (a0_2 : Int) (a0_3 : ByteArray) (l0_4 : List (S77)) : Option (Int × Int × Int × ByteArray × (List (S77))) := (impl_Point.f l0_4).bind fun t316 => (some (a0_0, a0_1, a0_2, a0_3, t316))
def impl_InRange.f (a0 : Int) (a1 : Int) (a2 : Int) : Option (Bool) := some (inR a0 a1 a2)
def impl_IsPoint.f (a0_0 : Int) (a0_1 : Int) : Option (Bool) := some (isPt a0_0 a0_1)
attribute [local go_sem high] eqA77
mutual
def impl_IsLine.j0 : Nat → List (S77) → Bool → Option (Bool)
 | 0, _, _ => none
 | k + 1, x0, x12 => if x12 = true then (some false) else (impl_IsLine.l0 k x0 x0 (x0.length : Int) 0)
def impl_IsLine.l0 : Nat → List (S77) → List (S77) → Int → Int → Option (Bool)
 | 0, _, _, _, _ => none
 | k + 1, x0, x13, x14, x15 => if x15 < x14 then (if 0 ≤ x15 then (if x15 < (x13.length : Int) then ((impl_IsPoint.f ((rd_T77 x13 x15).f0) ((rd_T77 x13 x15).f1)).bind fun t321 => (if t321 = true then (if x15 > 0 then (if 0 ≤ (wrap64 (x15 - 1)) then (if (wrap64 (x15 - 1)) < (x0.length : Int) then (if (((rd_T77 x13 x15).f0) == ((rd_T77 x0 (wrap64 (x15 - 1))).f0) && (((rd_T77 x13 x15).f1) == ((rd_T77 x0 (wrap64 (x15 - 1))).f1))) = true then (some false) else (impl_IsLine.l0 k x0 x13 x14 (wrap64 (x15 + 1)))) else (none)) else (none)) else (impl_IsLine.l0 k x0 x13 x14 (wrap64 (x15 + 1)))) else (some false))) else (none)) else (none)) else (some true)
end
def impl_IsLine.f (k : Nat) (l0 : List (S77)) : Option (Bool) := if (l0.length : Int) < 2 then (impl_IsLine.j0 k l0 true) else (impl_IsLine.j0 k l0 (decide ((l0.length : Int) > 10)))
def impl_without.f (l0 : List S77) (a1 : Int) : Option (List S77) := if 0 ≤ a1 then if a1 < (l0.length : Int) then if l0.length < 8796093022208 then some (l0.take a1.toNat ++ l0.drop (a1.toNat + 1)) else none else none else none
def impl_DropPoint.j0 : Nat → List (S77) → Int → Bool → Option ((List (S77)) × Bool)
 | 0, _, _, _ => none
 | k + 1, x0, x1, x17 => if x17 = true then ((impl_Point.f x0).bind fun t325 => (some (t325, false))) else ((impl_without.f x0 x1).bind fun t328 => ((impl_IsLine.f k t328).bind fun t331 => (if t331 = true then (some (t328, true)) else ((impl_Point.f x0).bind fun t332 => (some (t332, false))))))
def impl_DropPoint.f (k : Nat) (l0 : List (S77)) (a1 : Int) : Option ((List (S77)) × Bool) := (impl_IsLine.f k l0).bind fun t323 => (if t323 = true then ((impl_InRange.f a1 1 (wrap64 ((l0.length : Int) - 2))).bind fun t324 => (impl_DropPoint.j0 k l0 a1 (!t324))) else (impl_DropPoint.j0 k l0 a1 true))
def impl_around.l0 : Nat → List (S77) → List (S95) → List (S77) → Int → Int → Option ((List (S95)))
 | 0, _, _, _, _, _ => none
 | k + 1, x0, x3, x7, x8, x9 => if x9 < x8 then (if 0 ≤ x9 then (if x9 < (x7.length : Int) then (if (x0.length : Int) = 0 then (none) else (if 0 ≤ (Int.tmod (wrap64 (x9 + 1)) (x0.length : Int)) then (if (Int.tmod (wrap64 (x9 + 1)) (x0.length : Int)) < (x0.length : Int) then (if x3.length < 4398046511104 then (impl_around.l0 k x0 (x3 ++ [(⟨(⟨(rd_T77 x7 x9).f0, (rd_T77 x7 x9).f1⟩ : S77), (⟨(rd_T77 x0 (Int.tmod (wrap64 (x9 + 1)) (x0.length : Int))).f0, (rd_T77 x0 (Int.tmod (wrap64 (x9 + 1)) (x0.length : Int))).f1⟩ : S77)⟩ : S95)]) x7 x8 (wrap64 (x9 + 1))) else (none)) else (none)) else (none))) else (none)) else (none)) else (some x3)
def impl_around.f (k : Nat) (l0 : List (S77)) : Option ((List (S95))) := impl_around.l0 k l0 (([] : List (S95))) l0 (l0.length : Int) 0
def impl_IsSegment.f (a0_0 : Int) (a0_1 : Int) (a0_2 : Int) (a0_3 : Int) : Option (Bool) := some (isSeg a0_0 a0_1 a0_2 a0_3)
def cmp_isNaN_int.f (a0 : Int) : Option (Bool) := some (false)
def cmp_Compare_int.f (a0 : Int) (a1 : Int) : Option (Int) := some (cmpI a0 a1)
def impl_cross.f (a0_0 : Int) (a0_1 : Int) (a1_0 : Int) (a1_1 : Int) (a2_0 : Int) (a2_1 : Int) : Option (Int) := some (crossI a0_0 a0_1 a1_0 a1_1 a2_0 a2_1)
def impl_SideOf.f (a0_0 : Int) (a0_1 : Int) (a1_0 : Int) (a1_1 : Int) (a2_0 : Int) (a2_1 : Int) : Option (Int) := some (sideI a0_0 a0_1 a1_0 a1_1 a2_0 a2_1)
def impl_BeforePoint.f (a0_0 : Int) (a0_1 : Int) (a1_0 : Int) (a1_1 : Int) : Option (Bool) := some (beforeI a0_0 a0_1 a1_0 a1_1)
def impl_TurnSegment.f (a0_0 : Int) (a0_1 : Int) (a0_2 : Int) (a0_3 : Int) : Option (Int × Int × Int × Int) := some (a0_2, a0_3, a0_0, a0_1)
def impl_forward.f (a0_0 : Int) (a0_1 : Int) (a0_2 : Int) (a0_3 : Int) : Option (Int × Int × Int × Int) := (impl_BeforePoint.f a0_2 a0_3 a0_0 a0_1).bind fun t348 => (if t348 = true then ((impl_TurnSegment.f a0_0 a0_1 a0_2 a0_3).bind fun bt349 => (some (bt349.1, bt349.2.1, bt349.2.2.1, bt349.2.2.2))) else (some (a0_0, a0_1, a0_2, a0_3)))
def impl_IsOn.f (a0_0 : Int) (a0_1 : Int) (a0_2 : Int) (a0_3 : Int) (a1_0 : Int) (a1_1 : Int) : Option (Bool) := some (isOnI a0_0 a0_1 a0_2 a0_3 a1_0 a1_1)
attribute [local go_sem high] eqA77
mutual
def impl_HowMeet.j0 : Nat → Bool → Int → Int → Int → Int → Int → Int → Int → Int → Option (Int)
 | 0, _, _, _, _, _, _, _, _, _ => none
 | k + 1, x16, x354000, x354001, x354002, x354003, x355000, x355001, x355002, x355003 => if x16 = true then (some 0) else ((impl_SideOf.f x354000 x354001 x354002 x354003 x355000 x355001).bind fun t357 => ((impl_SideOf.f x354000 x354001 x354002 x354003 x355002 x355003).bind fun t358 => (if t357 = 0 then (impl_HowMeet.j1 k t357 t358 (t358 == 0) x354000 x354001 x354002 x354003 x355000 x355001 x355002 x355003) else (impl_HowMeet.j1 k t357 t358 false x354000 x354001 x354002 x354003 x355000 x355001 x355002 x355003))))
def impl_HowMeet.j1 : Nat → Int → Int → Bool → Int → Int → Int → Int → Int → Int → Int → Int → Option (Int)
 | 0, _, _, _, _, _, _, _, _, _, _, _ => none
 | k + 1, x5, x6, x36, x354000, x354001, x354002, x354003, x355000, x355001, x355002, x355003 => if x36 = true then ((impl_forward.f x354000 x354001 x354002 x354003).bind fun bt359 => ((impl_forward.f x355000 x355001 x355002 x355003).bind fun bt363 => ((impl_BeforePoint.f bt359.1 bt359.2.1 bt363.1 bt363.2.1).bind fun t369 => (if t369 = true then (impl_HowMeet.j2 k bt363.1 bt363.2.1 bt363.2.2.1 bt363.2.2.2 bt363.1 bt363.2.1 bt359.2.2.1 bt359.2.2.2) else (impl_HowMeet.j2 k bt363.1 bt363.2.1 bt363.2.2.1 bt363.2.2.2 bt359.1 bt359.2.1 bt359.2.2.1 bt359.2.2.2))))) else (if (wrap64 (x5 * x6)) < 0 then ((impl_SideOf.f x355000 x355001 x355002 x355003 x354000 x354001).bind fun t372 => ((impl_SideOf.f x355000 x355001 x355002 x355003 x354002 x354003).bind fun t373 => (impl_HowMeet.j4 k (decide ((wrap64 (t372 * t373)) < 0)) x354000 x354001 x354002 x354003 x355000 x355001 x355002 x355003))) else (impl_HowMeet.j4 k false x354000 x354001 x354002 x354003 x355000 x355001 x355002 x355003))
def impl_HowMeet.j2 : Nat → Int → Int → Int → Int → Int → Int → Int → Int → Option (Int)
 | 0, _, _, _, _, _, _, _, _ => none
 | k + 1, x355000, x355001, x355002, x355003, x368000, x368001, x369000, x369001 => (impl_BeforePoint.f x355002 x355003 x369000 x369001).bind fun t370 => (if t370 = true then (impl_HowMeet.j3 k x368000 x368001 x355002 x355003) else (impl_HowMeet.j3 k x368000 x368001 x369000 x369001))
def impl_HowMeet.j3 : Nat → Int → Int → Int → Int → Option (Int)
 | 0, _, _, _, _ => none
 | k + 1, x368000, x368001, x369000, x369001 => (impl_BeforePoint.f x369000 x369001 x368000 x368001).bind fun t371 => (if t371 = true then (some 0) else (if (x368000 == x369000 && (x368001 == x369001)) = true then (some 1) else (some 3)))
def impl_HowMeet.j4 : Nat → Bool → Int → Int → Int → Int → Int → Int → Int → Int → Option (Int)
 | 0, _, _, _, _, _, _, _, _, _ => none
 | k + 1, x86, x354000, x354001, x354002, x354003, x355000, x355001, x355002, x355003 => if x86 = true then (some 2) else ((impl_IsOn.f x354000 x354001 x354002 x354003 x355000 x355001).bind fun t374 => (if t374 = true then (some 1) else ((impl_IsOn.f x354000 x354001 x354002 x354003 x355002 x355003).bind fun t375 => (if t375 = true then (some 1) else ((impl_IsOn.f x355000 x355001 x355002 x355003 x354000 x354001).bind fun t376 => (if t376 = true then (some 1) else ((impl_IsOn.f x355000 x355001 x355002 x355003 x354002 x354003).bind fun t377 => (if t377 = true then (some 1) else (some 0)))))))))
end
def impl_HowMeet.f (k : Nat) (a0_0 : Int) (a0_1 : Int) (a0_2 : Int) (a0_3 : Int) (a1_0 : Int) (a1_1 : Int) (a1_2 : Int) (a1_3 : Int) : Option (Int) := (impl_IsSegment.f a0_0 a0_1 a0_2 a0_3).bind fun t355 => (if t355 = true then ((impl_IsSegment.f a1_0 a1_1 a1_2 a1_3).bind fun t356 => (impl_HowMeet.j0 k (!t356) a0_0 a0_1 a0_2 a0_3 a1_0 a1_1 a1_2 a1_3)) else (impl_HowMeet.j0 k true a0_0 a0_1 a0_2 a0_3 a1_0 a1_1 a1_2 a1_3))
mutual
def impl_IsRing.j0 : Nat → List (S77) → Bool → Option (Bool)
 | 0, _, _ => none
 | k + 1, x0, x14 => if x14 = true then (some false) else ((impl_around.f k x0).bind fun t378 => (impl_IsRing.l0 k t378 (t378.length : Int) 0))
def impl_IsRing.l0 : Nat → List (S95) → Int → Int → Option (Bool)
 | 0, _, _, _ => none
 | k + 1, x3, x18, x19 => if x19 < x18 then (if 0 ≤ x19 then (if x19 < (x3.length : Int) then ((impl_IsSegment.f ((rd_T95 x3 x19).f0.f0) ((rd_T95 x3 x19).f0.f1) ((rd_T95 x3 x19).f1.f0) ((rd_T95 x3 x19).f1.f1)).bind fun t382 => (if t382 = true then (impl_IsRing.l1 k x3 x19 x18 x19 x19 0) else (some false))) else (none)) else (none)) else (some true)
def impl_IsRing.l1 : Nat → List (S95) → Int → Int → Int → Int → Int → Option (Bool)
 | 0, _, _, _, _, _, _ => none
 | k + 1, x3, x4, x18, x19, x28, x29 => if x29 < x28 then (if x29 = (wrap64 (x4 - 1)) then (impl_IsRing.j3 k x3 x4 x29 0 x18 x19 x28 x29 true) else (if x29 = 0 then (impl_IsRing.j3 k x3 x4 x29 0 x18 x19 x28 x29 (x4 == (wrap64 ((x3.length : Int) - 1)))) else (impl_IsRing.j3 k x3 x4 x29 0 x18 x19 x28 x29 false))) else (impl_IsRing.l0 k x3 x18 (wrap64 (x19 + 1)))
def impl_IsRing.j3 : Nat → List (S95) → Int → Int → Int → Int → Int → Int → Int → Bool → Option (Bool)
 | 0, _, _, _, _, _, _, _, _, _ => none
 | k + 1, x3, x4, x5, x6, x18, x19, x28, x29, x46 => if x46 = true then (if 0 ≤ x4 then (if x4 < (x3.length : Int) then (if 0 ≤ x5 then (if x5 < (x3.length : Int) then ((impl_HowMeet.f k ((rd_T95 x3 x4).f0.f0) ((rd_T95 x3 x4).f0.f1) ((rd_T95 x3 x4).f1.f0) ((rd_T95 x3 x4).f1.f1) ((rd_T95 x3 x5).f0.f0) ((rd_T95 x3 x5).f0.f1) ((rd_T95 x3 x5).f1.f0) ((rd_T95 x3 x5).f1.f1)).bind fun t385 => (if t385 = 1 then (impl_IsRing.l1 k x3 x4 x18 x19 x28 (wrap64 (x29 + 1))) else (some false))) else (none)) else (none)) else (none)) else (none)) else (if 0 ≤ x4 then (if x4 < (x3.length : Int) then (if 0 ≤ x5 then (if x5 < (x3.length : Int) then ((impl_HowMeet.f k ((rd_T95 x3 x4).f0.f0) ((rd_T95 x3 x4).f0.f1) ((rd_T95 x3 x4).f1.f0) ((rd_T95 x3 x4).f1.f1) ((rd_T95 x3 x5).f0.f0) ((rd_T95 x3 x5).f0.f1) ((rd_T95 x3 x5).f1.f0) ((rd_T95 x3 x5).f1.f1)).bind fun t388 => (if t388 = x6 then (impl_IsRing.l1 k x3 x4 x18 x19 x28 (wrap64 (x29 + 1))) else (some false))) else (none)) else (none)) else (none)) else (none))
end
def impl_IsRing.f (k : Nat) (l0 : List (S77)) : Option (Bool) := if (l0.length : Int) < 3 then (impl_IsRing.j0 k l0 true) else (impl_IsRing.j0 k l0 (decide ((l0.length : Int) > 10)))
def impl_RingSegments.f (k : Nat) (l0 : List (S77)) : Option ((List (S95))) := (impl_IsRing.f k l0).bind fun t389 => (if t389 = true then ((impl_around.f k l0).bind fun t390 => (some t390)) else (some (([] : List (S95)))))
def impl_TwiceArea.l0 : Nat → Int → List (S95) → Int → Int → Option (Int)
 | 0, _, _, _, _ => none
 | k + 1, x3, x7, x8, x9 => if x9 < x8 then (if 0 ≤ x9 then (if x9 < (x7.length : Int) then (impl_TwiceArea.l0 k (wrap64 (x3 + (wrap64 ((wrap64 (((rd_T95 x7 x9).f0.f0) * ((rd_T95 x7 x9).f1.f1))) - (wrap64 (((rd_T95 x7 x9).f0.f1) * ((rd_T95 x7 x9).f1.f0))))))) x7 x8 (wrap64 (x9 + 1))) else (none)) else (none)) else (some x3)
def impl_TwiceArea.f (k : Nat) (l0 : List (S77)) : Option (Int) := (impl_RingSegments.f k l0).bind fun t396 => (impl_TwiceArea.l0 k 0 t396 (t396.length : Int) 0)
def impl_DropCorner.j0 : Nat → List (S77) → Int → Bool → Option ((List (S77)) × Bool)
 | 0, _, _, _ => none
 | k + 1, x0, x1, x17 => if x17 = true then ((impl_Point.f x0).bind fun t403 => (some (t403, false))) else ((impl_without.f x0 x1).bind fun t406 => ((impl_IsRing.f k t406).bind fun t409 => (if t409 = true then ((impl_TwiceArea.f k t406).bind fun t410 => ((cmp_Compare_int.f t410 0).bind fun t411 => ((impl_TwiceArea.f k x0).bind fun t412 => ((cmp_Compare_int.f t412 0).bind fun t413 => (if t411 = t413 then (some (t406, true)) else ((impl_Point.f x0).bind fun t414 => (some (t414, false)))))))) else ((impl_Point.f x0).bind fun t417 => (some (t417, false))))))
def impl_DropCorner.f (k : Nat) (l0 : List (S77)) (a1 : Int) : Option ((List (S77)) × Bool) := (impl_IsRing.f k l0).bind fun t401 => (if t401 = true then ((impl_InRange.f a1 0 (wrap64 ((l0.length : Int) - 1))).bind fun t402 => (impl_DropCorner.j0 k l0 a1 (!t402))) else (impl_DropCorner.j0 k l0 a1 true))
def impl_IsName.l0 : Nat → ByteArray → Int → Int → Option (Bool)
 | 0, _, _, _ => none
 | k + 1, x0, x5, x6 => if x6 < x5 then (if 0 ≤ x6 then (if x6 < (x0.size : Int) then (if (bt x0 x6) < 97 then (some false) else (if (bt x0 x6) > 122 then (some false) else (impl_IsName.l0 k x0 x5 (wrap64 (x6 + 1))))) else (none)) else (none)) else ((impl_InRange.f (x0.size : Int) 1 8).bind fun t420 => (some t420))
def impl_IsName.f (k : Nat) (a0 : ByteArray) : Option (Bool) := impl_IsName.l0 k a0 (a0.size : Int) 0
def impl_SegmentsOf.l0 : Nat → List (S77) → List (S95) → Int → Option ((List (S95)))
 | 0, _, _, _ => none
 | k + 1, x0, x3, x4 => if x4 < (x0.length : Int) then (if 0 ≤ (wrap64 (x4 - 1)) then (if (wrap64 (x4 - 1)) < (x0.length : Int) then (if 0 ≤ x4 then (if x3.length < 4398046511104 then (impl_SegmentsOf.l0 k x0 (x3 ++ [(⟨(⟨(rd_T77 x0 (wrap64 (x4 - 1))).f0, (rd_T77 x0 (wrap64 (x4 - 1))).f1⟩ : S77), (⟨(rd_T77 x0 x4).f0, (rd_T77 x0 x4).f1⟩ : S77)⟩ : S95)]) (wrap64 (x4 + 1))) else (none)) else (none)) else (none)) else (none)) else (some x3)
def impl_SegmentsOf.f (k : Nat) (l0 : List (S77)) : Option ((List (S95))) := (some (([] : List (S95)) : List (S95))).bind fun y421 => ((impl_IsLine.f k l0).bind fun t424 => (if t424 = true then (impl_SegmentsOf.l0 k l0 y421 1) else (some y421)))
mutual
def impl_IsSimple.l0 : Nat → List (S95) → Int → Int → Option (Bool)
 | 0, _, _, _ => none
 | k + 1, x3, x13, x14 => if x14 < x13 then (impl_IsSimple.l1 k x3 x14 x13 x14 x14 0) else (some true)
def impl_IsSimple.l1 : Nat → List (S95) → Int → Int → Int → Int → Int → Option (Bool)
 | 0, _, _, _, _, _, _ => none
 | k + 1, x3, x4, x13, x14, x17, x18 => if x18 < x17 then (if x18 = (wrap64 (x4 - 1)) then (if 0 ≤ x4 then (if x4 < (x3.length : Int) then (if 0 ≤ x18 then (if x18 < (x3.length : Int) then ((impl_HowMeet.f k ((rd_T95 x3 x4).f0.f0) ((rd_T95 x3 x4).f0.f1) ((rd_T95 x3 x4).f1.f0) ((rd_T95 x3 x4).f1.f1) ((rd_T95 x3 x18).f0.f0) ((rd_T95 x3 x18).f0.f1) ((rd_T95 x3 x18).f1.f0) ((rd_T95 x3 x18).f1.f1)).bind fun t436 => (if t436 = 1 then (impl_IsSimple.l1 k x3 x4 x13 x14 x17 (wrap64 (x18 + 1))) else (some false))) else (none)) else (none)) else (none)) else (none)) else (if 0 ≤ x4 then (if x4 < (x3.length : Int) then (if 0 ≤ x18 then (if x18 < (x3.length : Int) then ((impl_HowMeet.f k ((rd_T95 x3 x4).f0.f0) ((rd_T95 x3 x4).f0.f1) ((rd_T95 x3 x4).f1.f0) ((rd_T95 x3 x4).f1.f1) ((rd_T95 x3 x18).f0.f0) ((rd_T95 x3 x18).f0.f1) ((rd_T95 x3 x18).f1.f0) ((rd_T95 x3 x18).f1.f1)).bind fun t439 => (if t439 = 0 then (impl_IsSimple.l1 k x3 x4 x13 x14 x17 (wrap64 (x18 + 1))) else (some false))) else (none)) else (none)) else (none)) else (none))) else (impl_IsSimple.l0 k x3 x13 (wrap64 (x14 + 1)))
end
def impl_IsSimple.f (k : Nat) (l0 : List (S77)) : Option (Bool) := (impl_IsLine.f k l0).bind fun t430 => (if t430 = true then ((impl_SegmentsOf.f k l0).bind fun t431 => (impl_IsSimple.l0 k t431 (t431.length : Int) 0)) else (some false))
def impl_IsFeature.j0 : Nat → Bool → Int → Int → Int → ByteArray → List (S77) → Option (Bool)
 | 0, _, _, _, _, _, _ => none
 | k + 1, x23, x441000, x441001, x441002, x441003, x441004 => if x23 = true then (some false) else (if x441001 = 1 then (if (x441004.length : Int) = 1 then (if 0 < (x441004.length : Int) then ((impl_IsPoint.f ((rd_T77 x441004 0).f0) ((rd_T77 x441004 0).f1)).bind fun t445 => (some t445)) else (none)) else (some false)) else (if x441001 = 2 then ((impl_IsSimple.f k x441004).bind fun t446 => (some t446)) else (if x441001 = 3 then ((impl_IsRing.f k x441004).bind fun t447 => (some t447)) else (some false))))
def impl_IsFeature.f (k : Nat) (a0_0 : Int) (a0_1 : Int) (a0_2 : Int) (a0_3 : ByteArray) (l0_4 : List (S77)) : Option (Bool) := (impl_InRange.f a0_0 1 99).bind fun t441 => (if t441 = true then ((impl_InRange.f a0_2 0 9).bind fun t442 => (if t442 = true then (if a0_3.toList = ([] : List UInt8) then (impl_IsFeature.j0 k false a0_0 a0_1 a0_2 a0_3 l0_4) else ((impl_IsName.f k a0_3).bind fun t443 => (impl_IsFeature.j0 k (!t443) a0_0 a0_1 a0_2 a0_3 l0_4))) else (impl_IsFeature.j0 k true a0_0 a0_1 a0_2 a0_3 l0_4))) else (impl_IsFeature.j0 k true a0_0 a0_1 a0_2 a0_3 l0_4))
def impl_DropFrom.j0 : Nat → Bool → Int → Int → Int → ByteArray → List (S77) → Int → Int → Int → ByteArray → List (S77) → Option (Int × Int × Int × ByteArray × (List (S77)) × Bool)
 | 0, _, _, _, _, _, _, _, _, _, _, _ => none
 | k + 1, x7, x449000, x449001, x449002, x449003, x449004, x458000, x458001, x458002, x458003, x458004 => if x7 = true then ((impl_IsFeature.f k x458000 x458001 x458002 x458003 x458004).bind fun t466 => (if t466 = true then (some (x458000, x458001, x458002, x458003, x458004, true)) else ((impl_cloneFeature.f x449000 x449001 x449002 x449003 x449004).bind fun bt467 => (some (bt467.1, bt467.2.1, bt467.2.2.1, bt467.2.2.2.1, bt467.2.2.2.2, false))))) else ((impl_cloneFeature.f x449000 x449001 x449002 x449003 x449004).bind fun bt474 => (some (bt474.1, bt474.2.1, bt474.2.2.1, bt474.2.2.2.1, bt474.2.2.2.2, false)))
def impl_DropFrom.f (k : Nat) (a0_0 : Int) (a0_1 : Int) (a0_2 : Int) (a0_3 : ByteArray) (l0_4 : List (S77)) (a1 : Int) : Option (Int × Int × Int × ByteArray × (List (S77)) × Bool) := (impl_cloneFeature.f a0_0 a0_1 a0_2 a0_3 l0_4).bind fun bt450 => (if a0_1 = 2 then ((impl_DropPoint.f k l0_4 a1).bind fun bt458 => (impl_DropFrom.j0 k bt458.2 a0_0 a0_1 a0_2 a0_3 l0_4 bt450.1 bt450.2.1 bt450.2.2.1 bt450.2.2.2.1 bt458.1)) else (if a0_1 = 3 then ((impl_DropCorner.f k l0_4 a1).bind fun bt462 => (impl_DropFrom.j0 k bt462.2 a0_0 a0_1 a0_2 a0_3 l0_4 bt450.1 bt450.2.1 bt450.2.2.1 bt450.2.2.2.1 bt462.1)) else (impl_DropFrom.j0 k false a0_0 a0_1 a0_2 a0_3 l0_4 bt450.1 bt450.2.1 bt450.2.2.1 bt450.2.2.2.1 bt450.2.2.2.2)))
def laws_eqPoint.f (a0_0 : Int) (a0_1 : Int) (a1_0 : Int) (a1_1 : Int) : Option (Bool) := if a0_0 = a1_0 then (if a0_1 = a1_1 then (some true) else (some false)) else (some false)
def laws_eqPointS.l0 : Nat → List (S77) → List (S77) → Int → Option (Bool)
 | 0, _, _, _ => none
 | k + 1, x0, x1, x5 => if x5 < (x0.length : Int) then (if 0 ≤ x5 then (if x5 < (x1.length : Int) then ((laws_eqPoint.f ((rd_T77 x0 x5).f0) ((rd_T77 x0 x5).f1) ((rd_T77 x1 x5).f0) ((rd_T77 x1 x5).f1)).bind fun t485 => (if t485 = true then (laws_eqPointS.l0 k x0 x1 (wrap64 (x5 + 1))) else (some false))) else (none)) else (none)) else (some true)
def laws_eqPointS.f (k : Nat) (l0 : List (S77)) (l1 : List (S77)) : Option (Bool) := if (l0.length : Int) = (l1.length : Int) then (laws_eqPointS.l0 k l0 l1 0) else (some false)
def laws_eqFeature.f (k : Nat) (a0_0 : Int) (a0_1 : Int) (a0_2 : Int) (a0_3 : ByteArray) (l0_4 : List (S77)) (a1_0 : Int) (a1_1 : Int) (a1_2 : Int) (a1_3 : ByteArray) (l1_4 : List (S77)) : Option (Bool) := if a0_0 = a1_0 then (if a0_1 = a1_1 then (if a0_2 = a1_2 then (if a0_3.toList = a1_3.toList then ((laws_eqPointS.f k l0_4 l1_4).bind fun t488 => (if t488 = true then (some true) else (some false))) else (some false)) else (some false)) else (some false)) else (some false)
def laws_markPointS.l0 : Nat → List (S77) → Int → Int → Option (Int × (List (S77)))
 | 0, _, _, _ => none
 | k + 1, x0, x1, x5 => if x5 < (x0.length : Int) then (if 0 ≤ x5 then ((some (x0.set (x5 : Int).toNat (⟨x1, (rd_T77 x0 x5).f1⟩ : S77) : List (S77))).bind fun y489 => (laws_markPointS.l0 k (y489.set (x5 : Int).toNat (⟨(rd_T77 y489 x5).f0, wrap64 (x1 + 1)⟩ : S77)) (wrap64 ((wrap64 (x1 + 1)) + 1)) (wrap64 (x5 + 1)))) else (none)) else (some (x1, x0))
def laws_markPointS.f (k : Nat) (l0 : List (S77)) (a1 : Int) : Option (Int × (List (S77))) := laws_markPointS.l0 k l0 a1 0
def laws_markFeature.f (k : Nat) (a0_0 : Int) (a0_1 : Int) (a0_2 : Int) (a0_3 : ByteArray) (l0_4 : List (S77)) (a1 : Int) : Option (Int × (List (S77))) := (laws_markPointS.f k l0_4 a1).bind fun bt492 => (some (bt492.1, bt492.2))
def laws_heldPointS.l0 : Nat → List (S77) → Int → Int → Option (Int)
 | 0, _, _, _ => none
 | k + 1, x0, x1, x5 => if x5 < (x0.length : Int) then (if 0 ≤ x5 then (if ((rd_T77 x0 x5).f0) = x1 then (if ((rd_T77 x0 x5).f1) = (wrap64 (x1 + 1)) then (laws_heldPointS.l0 k x0 (wrap64 ((wrap64 (x1 + 1)) + 1)) (wrap64 (x5 + 1))) else (some (-1))) else (some (-1))) else (none)) else (some x1)
def laws_heldPointS.f (k : Nat) (l0 : List (S77)) (a1 : Int) : Option (Int) := laws_heldPointS.l0 k l0 a1 0
def laws_heldFeature.f (k : Nat) (a0_0 : Int) (a0_1 : Int) (a0_2 : Int) (a0_3 : ByteArray) (l0_4 : List (S77)) (a1 : Int) : Option (Int) := (laws_heldPointS.f k l0_4 a1).bind fun t497 => (if t497 < 0 then (some (-1)) else (some t497))
mutual
def laws_FnExactDropFrom.j0 : Nat → Int → Bool → Bool → Bool → Int → Int → Int → ByteArray → List (S85) → Int → Int → Int → ByteArray → List (S77) → Int → Int → Int → ByteArray → List (S77) → Int → Int → Int → ByteArray → List (S77) → Option (Bool)
 | 0, _, _, _, _, _, _, _, _, _, _, _, _, _, _, _, _, _, _, _, _, _, _, _, _ => none
 | k + 1, x1, x7, x10, x44, x499000, x499001, x499002, x499003, x499004, x516000, x516001, x516002, x516003, x516004, x524000, x524001, x524002, x524003, x524004, x533000, x533001, x533002, x533003, x533004 => if x44 = true then (some false) else ((laws_toFeature.f k x499000 x499001 x499002 x499003 x499004).bind fun bt534 => ((laws_eqFeature.f k x524000 x524001 x524002 x524003 x524004 bt534.1 bt534.2.1 bt534.2.2.1 bt534.2.2.2.1 bt534.2.2.2.2).bind fun t541 => (if t541 = true then ((laws_markFeature.f k x524000 x524001 x524002 x524003 x524004 1).bind fun bt542 => (if bt542.1 < 0 then (laws_FnExactDropFrom.j1 k x1 x7 true x499000 x499001 x499002 x499003 x499004 x516000 x516001 x516002 x516003 x516004 x533000 x533001 x533002 x533003 x533004) else ((laws_eqFeature.f k x533000 x533001 x533002 x533003 x533004 x516000 x516001 x516002 x516003 x516004).bind fun t544 => (if t544 = true then (laws_FnExactDropFrom.j1 k x1 x7 (x10 != x7) x499000 x499001 x499002 x499003 x499004 x516000 x516001 x516002 x516003 x516004 x533000 x533001 x533002 x533003 x533004) else (laws_FnExactDropFrom.j1 k x1 x7 true x499000 x499001 x499002 x499003 x499004 x516000 x516001 x516002 x516003 x516004 x533000 x533001 x533002 x533003 x533004))))) else (some false))))
def laws_FnExactDropFrom.j1 : Nat → Int → Bool → Bool → Int → Int → Int → ByteArray → List (S85) → Int → Int → Int → ByteArray → List (S77) → Int → Int → Int → ByteArray → List (S77) → Option (Bool)
 | 0, _, _, _, _, _, _, _, _, _, _, _, _, _, _, _, _, _, _ => none
 | k + 1, x1, x7, x65, x499000, x499001, x499002, x499003, x499004, x516000, x516001, x516002, x516003, x516004, x533000, x533001, x533002, x533003, x533004 => if x65 = true then (some false) else ((laws_markFeature.f k x533000 x533001 x533002 x533003 x533004 1).bind fun bt545 => ((laws_heldFeature.f k x533000 x533001 x533002 x533003 bt545.2 1).bind fun t547 => (if t547 < 0 then (some false) else (if t547 = bt545.1 then ((laws_toFeature.f k x499000 x499001 x499002 x499003 x499004).bind fun bt548 => ((impl_DropFrom.f k bt548.1 bt548.2.1 bt548.2.2.1 bt548.2.2.2.1 bt548.2.2.2.2 x1).bind fun bt555 => ((laws_eqFeature.f k bt555.1 bt555.2.1 bt555.2.2.1 bt555.2.2.2.1 bt555.2.2.2.2.1 x516000 x516001 x516002 x516003 x516004).bind fun t564 => (if t564 = true then (laws_FnExactDropFrom.j2 k bt545.1 (bt555.2.2.2.2.2 != x7) x533000 x533001 x533002 x533003 bt545.2) else (laws_FnExactDropFrom.j2 k bt545.1 true x533000 x533001 x533002 x533003 bt545.2))))) else (some false)))))
def laws_FnExactDropFrom.j2 : Nat → Int → Bool → Int → Int → Int → ByteArray → List (S77) → Option (Bool)
 | 0, _, _, _, _, _, _, _ => none
 | k + 1, x12, x92, x533000, x533001, x533002, x533003, x533004 => if x92 = true then (some false) else ((laws_heldFeature.f k x533000 x533001 x533002 x533003 x533004 1).bind fun t565 => (if t565 < 0 then (some false) else (if t565 = x12 then (some true) else (some false))))
end
def laws_FnExactDropFrom.f (k : Nat) (a0_0 : Int) (a0_1 : Int) (a0_2 : Int) (a0_3 : ByteArray) (l0_4 : List (S85)) (a1 : Int) : Option (Bool) := (laws_szFeature.f a0_0 a0_1 a0_2 a0_3 l0_4 1048576).bind fun t499 => (if t499 < 0 then (some true) else ((laws_toFeature.f k a0_0 a0_1 a0_2 a0_3 l0_4).bind fun bt500 => ((spec_DropFrom.f k bt500.1 bt500.2.1 bt500.2.2.1 bt500.2.2.2.1 bt500.2.2.2.2 a1).bind fun bt507 => ((laws_toFeature.f k a0_0 a0_1 a0_2 a0_3 l0_4).bind fun bt516 => ((impl_DropFrom.f k bt516.1 bt516.2.1 bt516.2.2.1 bt516.2.2.2.1 bt516.2.2.2.2 a1).bind fun bt524 => ((laws_eqFeature.f k bt524.1 bt524.2.1 bt524.2.2.1 bt524.2.2.2.1 bt524.2.2.2.2.1 bt507.1 bt507.2.1 bt507.2.2.1 bt507.2.2.2.1 bt507.2.2.2.2.1).bind fun t533 => (if t533 = true then (laws_FnExactDropFrom.j0 k a1 bt507.2.2.2.2.2 bt524.2.2.2.2.2 (bt524.2.2.2.2.2 != bt507.2.2.2.2.2) a0_0 a0_1 a0_2 a0_3 l0_4 bt507.1 bt507.2.1 bt507.2.2.1 bt507.2.2.2.1 bt507.2.2.2.2.1 bt516.1 bt516.2.1 bt516.2.2.1 bt516.2.2.2.1 bt516.2.2.2.2 bt524.1 bt524.2.1 bt524.2.2.1 bt524.2.2.2.1 bt524.2.2.2.2.1) else (laws_FnExactDropFrom.j0 k a1 bt507.2.2.2.2.2 bt524.2.2.2.2.2 true a0_0 a0_1 a0_2 a0_3 l0_4 bt507.1 bt507.2.1 bt507.2.2.1 bt507.2.2.2.1 bt507.2.2.2.2.1 bt516.1 bt516.2.1 bt516.2.2.1 bt516.2.2.2.1 bt516.2.2.2.2 bt524.1 bt524.2.1 bt524.2.2.1 bt524.2.2.2.1 bt524.2.2.2.2.1))))))))
end Go.Proofs.Ytkebhlkbnnlegaa.PFnExactDropFrom
