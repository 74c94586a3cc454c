
/- Whether two sources have the same digests in all tiles that the change between them leaves alone: the program and the reference answer the same. No condition. -/
import Derived.Test.YtellpkihlbbnhaaGreatPFnExactSameElsewherex
import Derived.Test.YtellpkihlbbnhaaGreatMeet
namespace Go.Proofs.YtellpkihlbbnhaaGreat.Pure.FnExactSameElsewhere
open Go Go.RowKit Go.Proofs.YtellpkihlbbnhaaGreat.PFnExactSameElsewhere Go.Proofs.YtellpkihlbbnhaaGreatW.PrintWords Go.Proofs.YtellpkihlbbnhaaGreatW.PrintLast Go.Proofs.YtellpkihlbbnhaaGreatW.PrintMore Go.Proofs.YtellpkihlbbnhaaGreatGeo
set_option linter.unusedVariables false
set_option linter.unusedSimpArgs false
open Go.Proofs.YtellpkihlbbnhaaGreatMeet
theorem w1 (i : Nat) (h : i < 9223372036854775807) : wrap64 ((i : Int) + 1) = ((i + 1 : Nat) : Int) := by unfold wrap64; omega
theorem rd_at (l : List Int) (i : Nat) (h : i < l.length) : rd l (i : Int) = l[i] := by
 unfold rd
 rw [Int.toNat_natCast, List.getD_eq_getElem?_getD, List.getElem?_eq_getElem h]
 rfl
theorem how_s (a b c d e f g h : Int) : Ev (fun _ => spec_HowMeet.f a b c d e f g h) (howS a b c d e f g h) := Ev.now _
theorem before_key {x y x' y' : Int} (h : isPt x y = true) (h' : isPt x' y' = true) : beforeI x y x' y' = decide (kyI x y < kyI x' y') := by
 rw [isPt_iff] at h h'
 unfold beforeI kyI
 rw [Bool.eq_iff_iff]; simp; omega
theorem j3_i (a b c d : Int) (h : isPt a b = true) (h' : isPt c d = true) : Ev (fun k => impl_HowMeet.j3 k a b c d) (if kyI c d < kyI a b then 0 else if kyI a b = kyI c d then 1 else 3) := by
 refine Ev.step (f := fun _ => some (if kyI c d < kyI a b then 0 else if kyI a b = kyI c d then 1 else 3)) (fun k => ?_) (Ev.now _)
 simp only [impl_HowMeet.j3, impl_BeforePoint.f, before_key h' h, Option.bind_some, decide_eq_true_eq]
 have e : (a == c && b == d) = decide (kyI a b = kyI c d) := by
  rw [← ky_inj h h']
  rw [Bool.eq_iff_iff]; simp
 rw [e]
 by_cases z : kyI c d < kyI a b
 ·rw [if_pos z, if_pos z]
 ·rw [if_neg z, if_neg z]
  by_cases z' : kyI a b = kyI c d
  ·simp [z']
  ·simp [z']
theorem j2_i (e f g h a b c d : Int) (h1 : isPt g h = true) (h2 : isPt a b = true) (h3 : isPt c d = true) : Ev (fun k => impl_HowMeet.j2 k e f g h a b c d) (if mn (kyI c d) (kyI g h) < kyI a b then 0 else if kyI a b = mn (kyI c d) (kyI g h) then 1 else 3) := by
 refine Ev.step (f := fun k => if kyI g h < kyI c d then impl_HowMeet.j3 k a b g h else impl_HowMeet.j3 k a b c d) (fun k => ?_) ?_
 ·simp only [impl_HowMeet.j2, impl_BeforePoint.f, before_key h1 h3, Option.bind_some, decide_eq_true_eq]
 ·unfold mn
  by_cases z : kyI g h < kyI c d
  ·simp only [if_pos z]; exact j3_i a b g h h2 h1
  ·simp only [if_neg z]; exact j3_i a b c d h2 h3
theorem fwd_i (a b c d : Int) (h : isPt a b = true) (h' : isPt c d = true) : ∃ x y u v, impl_forward.f a b c d = some (x, y, u, v) ∧ isPt x y = true ∧ isPt u v = true ∧ kyI x y = mn (kyI a b) (kyI c d) ∧ kyI u v = mx (kyI a b) (kyI c d) := by
 unfold impl_forward.f impl_BeforePoint.f impl_TurnSegment.f
 simp only [before_key h' h, Option.bind_some, decide_eq_true_eq]
 by_cases z : kyI c d < kyI a b
 ·exact ⟨c, d, a, b, by rw [if_pos z], h', h, by unfold mn; rw [if_pos z], by unfold mx; rw [if_neg (by omega)]⟩
 ·exact ⟨a, b, c, d, by rw [if_neg z], h, h', by unfold mn; rw [if_neg z], by unfold mx; split <;> omega⟩
theorem how_i (a b c d e f g h : Int) : Ev (fun k => impl_HowMeet.f k a b c d e f g h) (howS a b c d e f g h) := by
 rw [← how_eq]
 unfold impl_HowMeet.f howP impl_IsSegment.f
 simp only [Option.bind_some]
 have dead : Ev (fun k => impl_HowMeet.j0 k true a b c d e f g h) 0 := Ev.step (f := fun _ => some 0) (fun k => by simp [impl_HowMeet.j0]) (Ev.now _)
 cases h1 : isSeg a b c d
 ·simp only [Bool.false_eq_true, if_false, true_or, if_true]; exact dead
 ·cases h2 : isSeg e f g h
  ·simp only [if_true, Bool.not_false, or_true]; exact dead
  ·simp only [if_true, Bool.not_true, Bool.true_eq_false, or_self, if_false]
   obtain ⟨ha, hc, _⟩ := isSeg_iff.mp h1
   obtain ⟨he, hg, _⟩ := isSeg_iff.mp h2
   have j4t : Ev (fun k => impl_HowMeet.j4 k true a b c d e f g h) 2 := Ev.step (f := fun _ => some 2) (fun k => by simp [impl_HowMeet.j4]) (Ev.now _)
   have j4f : Ev (fun k => impl_HowMeet.j4 k false a b c d e f g h) (if isOnI a b c d e f || isOnI a b c d g h || isOnI e f g h a b || isOnI e f g h c d then 1 else 0) := by
    refine Ev.step (f := fun _ => some (if isOnI a b c d e f || isOnI a b c d g h || isOnI e f g h a b || isOnI e f g h c d then 1 else 0)) (fun k => ?_) (Ev.now _)
    simp only [impl_HowMeet.j4, impl_IsOn.f, Option.bind_some, Bool.false_eq_true, if_false]
    cases isOnI a b c d e f <;> cases isOnI a b c d g h <;> cases isOnI e f g h a b <;> cases isOnI e f g h c d <;> rfl
   by_cases hcol : sideI a b c d e f = 0 ∧ sideI a b c d g h = 0
   ·rw [if_pos hcol]
    obtain ⟨x, y, u, v, f1, p1, p2, k1, k2⟩ := fwd_i a b c d ha hc
    obtain ⟨x', y', u', v', f2, p1', p2', k1', k2'⟩ := fwd_i e f g h he hg
    refine Ev.step (f := fun k => impl_HowMeet.j1 k (sideI a b c d e f) (sideI a b c d g h) true a b c d e f g h) (fun k => ?_) ?_
    ·simp [impl_HowMeet.j0, impl_SideOf.f, hcol.1, hcol.2]
    ·refine Ev.step (f := fun k => if kyI x y < kyI x' y' then impl_HowMeet.j2 k x' y' u' v' x' y' u v else impl_HowMeet.j2 k x' y' u' v' x y u v) (fun k => ?_) ?_
     ·simp only [impl_HowMeet.j1, f1, f2, impl_BeforePoint.f, Option.bind_some, before_key p1 p1', decide_eq_true_eq, if_true]
     ·rw [← k1, ← k2, ← k1', ← k2']
      by_cases z : kyI x y < kyI x' y'
      ·simp only [if_pos z]
       have e : mx (kyI x y) (kyI x' y') = kyI x' y' := by unfold mx; rw [if_pos z]
       rw [e]
       exact j2_i x' y' u' v' x' y' u v p2' p1' p2
      ·simp only [if_neg z]
       have e : mx (kyI x y) (kyI x' y') = kyI x y := by unfold mx; rw [if_neg z]
       rw [e]
       exact j2_i x' y' u' v' x y u v p2' p1 p2
   ·rw [if_neg hcol]
    refine Ev.step (f := fun k => impl_HowMeet.j1 k (sideI a b c d e f) (sideI a b c d g h) false a b c d e f g h) (fun k => ?_) ?_
    ·simp only [impl_HowMeet.j0, impl_SideOf.f, Option.bind_some, Bool.false_eq_true, if_false]
     by_cases z : sideI a b c d e f = 0
     ·have z' : ¬ sideI a b c d g h = 0 := fun q => hcol ⟨z, q⟩
      have z'' : (sideI a b c d g h == 0) = false := by simp [z']
      rw [if_pos z, z'']
     ·rw [if_neg z]
    ·have w1 := wrap_sd _ _ (sd_bd a b c d e f) (sd_bd a b c d g h)
     have w2 := wrap_sd _ _ (sd_bd e f g h a b) (sd_bd e f g h c d)
     by_cases zu : sideI a b c d e f * sideI a b c d g h < 0
     ·by_cases zv : sideI e f g h a b * sideI e f g h c d < 0
      ·rw [if_pos ⟨zu, zv⟩]
       refine Ev.step (fun k => ?_) j4t
       simp [impl_HowMeet.j1, impl_SideOf.f, w1, w2, zu, zv]
      ·rw [if_neg (fun q => zv q.2)]
       refine Ev.step (fun k => ?_) j4f
       simp [impl_HowMeet.j1, impl_SideOf.f, w1, w2, zu, zv]
     ·rw [if_neg (fun q => zu q.1)]
      refine Ev.step (fun k => ?_) j4f
      simp [impl_HowMeet.j1, impl_SideOf.f, w1, zu]
/-- A line's points, one behind the other: each a point, none like the one ahead of it. -/
def chkL : Option S59 → List S59 → Bool
 | _, [] => true
 | o, p :: r => isPt p.f0 p.f1 && ((match o with | none => true | some q => !eqP q p) && chkL (some p) r)
theorem chkL_cons (o : Option S59) (p : S59) (r : List S59) : chkL o (p :: r) = (isPt p.f0 p.f1 && ((match o with | none => true | some q => !eqP q p) && chkL (some p) r)) := by cases o <;> rfl
def lnB (l : List S59) : Bool := inR (l.length : Int) 2 10 && chkL none l
def prevL (l : List S59) (i : Nat) : Option S59 := if i = 0 then none else some (l.getD (i - 1) z59)
theorem prevL_succ (l : List S59) (i : Nat) (h : i < l.length) : prevL l (i + 1) = some l[i] := by
 unfold prevL
 rw [if_neg (by omega), Nat.add_sub_cancel, List.getD_eq_getElem?_getD, List.getElem?_eq_getElem h]; rfl
theorem w1m (i : Nat) (h : 0 < i) (h' : i < 9223372036854775807) : wrap64 ((i : Int) - 1) = ((i - 1 : Nat) : Int) := by unfold wrap64; omega
theorem isLine_sl (l : List S59) (hl : l.length < 9223372036854775807) (d : Nat) : ∀ i : Nat, i + d = l.length → Ev (fun k => spec_IsLine.l0 k l (i : Int)) (chkL (prevL l i) (l.drop i) && inR (l.length : Int) 2 10) := by
 induction d with
 | zero =>
  intro i hi
  rw [List.drop_of_length_le (by omega)]
  refine Ev.step (f := fun _ => some _) (fun k => ?_) (Ev.now _)
  simp only [spec_IsLine.l0, spec_l1In.f]
  rw [if_neg (by omega)]
  simp [chkL]
 | succ d ih =>
  intro i hi
  have h1 : i < l.length := by omega
  have hd := List.drop_eq_getElem_cons h1
  rw [hd, chkL_cons]
  cases hp : isPt l[i].f0 l[i].f1
  ·refine Ev.step (f := fun _ => some false) (fun k => ?_) (Ev.now _)
   simp only [spec_IsLine.l0, spec_IsPoint.f, Option.bind_some]
   rw [if_pos (by omega), if_pos (by omega), rdPt l i h1, hp]
   simp
  ·have ih' := ih (i + 1) (by omega)
   rw [prevL_succ l i h1] at ih'
   by_cases h0 : i = 0
   ·subst h0
    refine Ev.step (fun k => ?_) ih'
    simp only [spec_IsLine.l0, spec_IsPoint.f, Option.bind_some]
    rw [if_pos (by omega), if_pos (by omega), rdPt l 0 h1, hp, if_pos rfl, if_neg (by omega), w1' 0 (by omega)]
   ·have hi1 : i - 1 < l.length := by omega
    have eP : prevL l i = some l[i - 1] := by unfold prevL; rw [if_neg h0, List.getD_eq_getElem?_getD, List.getElem?_eq_getElem hi1]; rfl
    rw [eP]
    dsimp only
    have eq : (((l[i - 1]).f0) == (l[i].f0) && (((l[i - 1]).f1) == (l[i].f1))) = eqP l[i - 1] l[i] := by
     unfold eqP; rw [Bool.eq_iff_iff]; simp
    cases he : eqP l[i - 1] l[i]
    ·refine Ev.step (fun k => ?_) ih'
     simp only [spec_IsLine.l0, spec_IsPoint.f, Option.bind_some]
     rw [if_pos (by omega), if_pos (by omega), rdPt l i h1, hp, if_pos rfl, if_pos (by omega), w1m i (by omega) (by omega), if_pos (by omega), if_pos (by omega), rdPt l (i - 1) hi1, eq, he, w1' i (by omega)]
     simp
    ·refine Ev.step (f := fun _ => some false) (fun k => ?_) (Ev.now _)
     simp only [spec_IsLine.l0, spec_IsPoint.f, Option.bind_some]
     rw [if_pos (by omega), if_pos (by omega), rdPt l i h1, hp, if_pos rfl, if_pos (by omega), w1m i (by omega) (by omega), if_pos (by omega), if_pos (by omega), rdPt l (i - 1) hi1, eq, he]
     simp
theorem isLine_s (l : List S59) (hl : l.length < 9223372036854775807) : Ev (fun k => spec_IsLine.f k l) (lnB l) := by
 unfold spec_IsLine.f lnB
 rw [Bool.and_comm]
 exact isLine_sl l hl l.length 0 (by omega)
theorem isLine_il (l : List S59) (hl : l.length < 9223372036854775807) (d : Nat) : ∀ i : Nat, i + d = l.length → Ev (fun k => impl_IsLine.l0 k l l (l.length : Int) (i : Int)) (chkL (prevL l i) (l.drop i)) := by
 induction d with
 | zero =>
  intro i hi
  rw [List.drop_of_length_le (by omega)]
  refine Ev.step (f := fun _ => some _) (fun k => ?_) (Ev.now _)
  simp only [impl_IsLine.l0]
  rw [if_neg (by omega)]
  simp [chkL]
 | succ d ih =>
  intro i hi
  have h1 : i < l.length := by omega
  have hd := List.drop_eq_getElem_cons h1
  rw [hd, chkL_cons]
  cases hp : isPt l[i].f0 l[i].f1
  ·refine Ev.step (f := fun _ => some false) (fun k => ?_) (Ev.now _)
   simp only [impl_IsLine.l0, impl_IsPoint.f, Option.bind_some]
   rw [if_pos (by omega), if_pos (by omega), if_pos (by omega), rdPt l i h1, hp]
   simp
  ·have ih' := ih (i + 1) (by omega)
   rw [prevL_succ l i h1] at ih'
   by_cases h0 : i = 0
   ·subst h0
    refine Ev.step (fun k => ?_) ih'
    simp only [impl_IsLine.l0, impl_IsPoint.f, Option.bind_some]
    rw [if_pos (by omega), if_pos (by omega), if_pos (by omega), rdPt l 0 h1, hp, if_pos rfl, if_neg (by omega), w1' 0 (by omega)]
   ·have hi1 : i - 1 < l.length := by omega
    have eP : prevL l i = some l[i - 1] := by unfold prevL; rw [if_neg h0, List.getD_eq_getElem?_getD, List.getElem?_eq_getElem hi1]; rfl
    rw [eP]
    dsimp only
    have eq : (((l[i]).f0) == (l[i - 1].f0) && (((l[i]).f1) == (l[i - 1].f1))) = eqP l[i - 1] l[i] := by
     unfold eqP; rw [Bool.eq_iff_iff]; simp; omega
    cases he : eqP l[i - 1] l[i]
    ·refine Ev.step (fun k => ?_) ih'
     simp only [impl_IsLine.l0, impl_IsPoint.f, Option.bind_some]
     rw [if_pos (by omega), if_pos (by omega), if_pos (by omega), rdPt l i h1, hp, if_pos rfl, if_pos (by omega), w1m i (by omega) (by omega), if_pos (by omega), if_pos (by omega), rdPt l (i - 1) hi1, eq, he, w1' i (by omega)]
     simp
    ·refine Ev.step (f := fun _ => some false) (fun k => ?_) (Ev.now _)
     simp only [impl_IsLine.l0, impl_IsPoint.f, Option.bind_some]
     rw [if_pos (by omega), if_pos (by omega), if_pos (by omega), rdPt l i h1, hp, if_pos rfl, if_pos (by omega), w1m i (by omega) (by omega), if_pos (by omega), if_pos (by omega), rdPt l (i - 1) hi1, eq, he]
     simp
theorem isLine_i (l : List S59) (hl : l.length < 9223372036854775807) : Ev (fun k => impl_IsLine.f k l) (lnB l) := by
 unfold impl_IsLine.f lnB
 have dead : Ev (fun k => impl_IsLine.j0 k l true) false := Ev.step (f := fun _ => some false) (fun k => by simp [impl_IsLine.j0]) (Ev.now _)
 by_cases h2 : (l.length : Int) < 2
 ·simp only [if_pos h2]
  have : inR (l.length : Int) 2 10 = false := by unfold inR; simp; omega
  rw [this]; exact dead
 ·simp only [if_neg h2]
  by_cases h10 : (l.length : Int) > 10
  ·have : inR (l.length : Int) 2 10 = false := by unfold inR; simp; omega
   rw [this, decide_eq_true h10]; exact dead
  ·have : inR (l.length : Int) 2 10 = true := by unfold inR; simp; omega
   rw [this, decide_eq_false h10]
   exact Ev.step (fun k => by simp [impl_IsLine.j0]) (isLine_il l hl l.length 0 (by omega))
theorem rdSg (l : List S149) (i : Nat) (h : i < l.length) : rd_T149 l (i : Int) = l.getD i z149 := by
 unfold rd_T149
 rw [Int.toNat_natCast]
def howL (p q : S149) : Int := howS p.f0.f0 p.f0.f1 p.f1.f0 p.f1.f1 q.f0.f0 q.f0.f1 q.f1.f0 q.f1.f1
def segL (p : S149) : Bool := isSeg p.f0.f0 p.f0.f1 p.f1.f0 p.f1.f1
def wantR (n i k : Nat) : Int := if k + 1 = i ∨ (k = 0 ∧ i + 1 = n) then 1 else 0
def inRow (s : List S149) (i : Nat) (k : Nat) : Bool := decide (howL (s.getD i z149) (s.getD k z149) = wantR s.length i k)
def ringS (s : List S149) (i d : Nat) : Bool := (List.range' i d).all fun i => segL (s.getD i z149) && (List.range' 0 i).all (inRow s i)
/-- The segments around. -/
def arR (l : List S59) : List S149 := (List.range l.length).map fun i => (⟨l.getD i z59, l.getD ((i + 1) % l.length) z59⟩ : S149)
def rgB (l : List S59) : Bool := inR (l.length : Int) 3 10 && ringS (arR l) 0 l.length
theorem arR_len (l : List S59) : (arR l).length = l.length := by simp [arR]
theorem arR_take (l : List S59) (i : Nat) (h : i < l.length) : (arR l).take (i + 1) = (arR l).take i ++ [(⟨l.getD i z59, l.getD ((i + 1) % l.length) z59⟩ : S149)] := by
 rw [List.take_succ_eq_append_getElem (by rw [arR_len]; exact h)]
 simp [arR]
theorem tmod_nat (a n : Nat) : Int.tmod (a : Int) (n : Int) = ((a % n : Nat) : Int) := by rw [Int.ofNat_tmod]
theorem rdPd (l : List S59) (i : Nat) : rd_T59 l (i : Int) = l.getD i z59 := by
 unfold rd_T59
 rw [Int.toNat_natCast]
theorem around_sl (l : List S59) (hl : l.length < 1000) (d : Nat) : ∀ i : Nat, i + d = l.length → Ev (fun k => spec_l7Segments.l0 k l ((arR l).take i) (i : Int)) (arR l) := by
 induction d with
 | zero =>
  intro i hi
  rw [List.take_of_length_le (by rw [arR_len]; omega)]
  refine Ev.step (f := fun _ => some _) (fun k => ?_) (Ev.now _)
  simp only [spec_l7Segments.l0]
  rw [if_neg (by omega)]
 | succ d ih =>
  intro i hi
  have h1 : i < l.length := by omega
  have hm : (i + 1) % l.length < l.length := Nat.mod_lt _ (by omega)
  refine Ev.step (fun k => ?_) (ih (i + 1) (by omega))
  have hlen : ((arR l).take i).length < 4398046511104 := by rw [List.length_take, arR_len]; omega
  simp only [spec_l7Segments.l0]
  rw [if_pos (by omega), if_pos (by omega), if_neg (by omega), w1' i (by omega), tmod_nat, if_pos (by omega), if_pos (by omega), if_pos hlen, rdPd, rdPd, arR_take l i h1]
theorem around_s (l : List S59) (hl : l.length < 1000) : Ev (fun k => spec_l7Segments.f k l) (arR l) := by
 unfold spec_l7Segments.f
 exact around_sl l hl l.length 0 (by omega)
theorem around_il (l : List S59) (hl : l.length < 1000) (d : Nat) : ∀ i : Nat, i + d = l.length → Ev (fun k => impl_around.l0 k l ((arR l).take i) l (l.length : Int) (i : Int)) (arR l) := by
 induction d with
 | zero =>
  intro i hi
  rw [List.take_of_length_le (by rw [arR_len]; omega)]
  refine Ev.step (f := fun _ => some _) (fun k => ?_) (Ev.now _)
  simp only [impl_around.l0]
  rw [if_neg (by omega)]
 | succ d ih =>
  intro i hi
  have h1 : i < l.length := by omega
  have hm : (i + 1) % l.length < l.length := Nat.mod_lt _ (by omega)
  refine Ev.step (fun k => ?_) (ih (i + 1) (by omega))
  have hlen : ((arR l).take i).length < 4398046511104 := by rw [List.length_take, arR_len]; omega
  simp only [impl_around.l0]
  rw [if_pos (by omega), if_pos (by omega), if_pos (by omega), if_neg (by omega), w1' i (by omega), tmod_nat, if_pos (by omega), if_pos (by omega), if_pos hlen, rdPd, rdPd, arR_take l i h1]
theorem around_i (l : List S59) (hl : l.length < 1000) : Ev (fun k => impl_around.f k l) (arR l) := by
 unfold impl_around.f
 exact around_il l hl l.length 0 (by omega)
theorem ring_s1 (s : List S149) (hs : s.length < 1000) (i : Nat) (hi : i < s.length) (rest : Bool) (hr : Ev (fun k => spec_IsRing.l0 k s ((i + 1 : Nat) : Int)) rest) (d : Nat) :
  ∀ k : Nat, k + d = i → Ev (fun n => spec_IsRing.l1 n s (i : Int) (k : Int)) ((List.range' k d).all (inRow s i) && rest) := by
 induction d with
 | zero =>
  intro k hk
  refine Ev.step (fun n => ?_) hr
  simp only [spec_IsRing.l1]
  rw [if_neg (by omega), w1' i (by omega)]
 | succ d ih =>
  intro k hk
  have hk1 : k < s.length := by omega
  rw [List.range'_succ, List.all_cons]
  have e2 : Ev (fun n => (spec_HowMeet.f (s.getD i z149).f0.f0 (s.getD i z149).f0.f1 (s.getD i z149).f1.f0 (s.getD i z149).f1.f1 (s.getD k z149).f0.f0 (s.getD k z149).f0.f1 (s.getD k z149).f1.f0 (s.getD k z149).f1.f1).bind fun t => if t = wantR s.length i k then spec_IsRing.l1 n s (i : Int) ((k + 1 : Nat) : Int) else some false) (inRow s i k && (List.range' (k + 1) d).all (inRow s i) && rest) := by
   refine Ev.bind (how_s _ _ _ _ _ _ _ _) ?_
   by_cases hw : howL (s.getD i z149) (s.getD k z149) = wantR s.length i k
   ·have e : inRow s i k = true := by unfold inRow; exact decide_eq_true hw
    rw [e, Bool.true_and]
    have : Ev (fun n => spec_IsRing.l1 n s (i : Int) ((k + 1 : Nat) : Int)) ((List.range' (k + 1) d).all (inRow s i) && rest) := ih (k + 1) (by omega)
    refine Ev.congr (fun n => ?_) this
    exact if_pos hw
   ·have e : inRow s i k = false := by unfold inRow; exact decide_eq_false hw
    rw [e]
    refine Ev.congr (fun n => ?_) (Ev.now _)
    exact if_neg hw
  have j : ∀ b : Bool, (if b = true then (1 : Int) else 0) = wantR s.length i k → Ev (fun n => spec_IsRing.j2 n s (i : Int) (k : Int) 0 b) (inRow s i k && (List.range' (k + 1) d).all (inRow s i) && rest) := by
   intro b hb
   refine Ev.step (fun n => ?_) e2
   simp only [spec_IsRing.j2]
   rw [← hb]
   cases b
   ·rw [if_neg (by simp), if_pos (by omega), if_pos (by omega), if_pos (by omega), if_pos (by omega), rdSg s i hi, rdSg s k hk1, w1' k (by omega)]; rfl
   ·rw [if_pos rfl, if_pos (by omega), if_pos (by omega), if_pos (by omega), if_pos (by omega), rdSg s i hi, rdSg s k hk1, w1' k (by omega)]; rfl
  by_cases z : k + 1 = i
  ·refine Ev.step (fun n => ?_) (j true (by show (1 : Int) = _; unfold wantR; rw [if_pos (.inl z)]))
   simp only [spec_IsRing.l1]
   rw [if_pos (by omega), w1' k (by omega), if_pos (by omega)]
  ·by_cases z0 : k = 0
   ·refine Ev.step (fun n => ?_) (j (decide (i + 1 = s.length)) (by unfold wantR; by_cases q : i + 1 = s.length <;> simp [q, z0] <;> omega))
    simp only [spec_IsRing.l1]
    rw [if_pos (by omega), w1' k (by omega), if_neg (by omega), if_pos (by omega), w1' i (by omega)]
    congr 1
    rw [Bool.eq_iff_iff]; simp; omega
   ·refine Ev.step (fun n => ?_) (j false (by show (0 : Int) = _; unfold wantR; rw [if_neg (by omega)]))
    simp only [spec_IsRing.l1]
    rw [if_pos (by omega), w1' k (by omega), if_neg (by omega), if_neg (by omega)]
theorem ring_s0 (s : List S149) (hs : s.length < 1000) (d : Nat) : ∀ i : Nat, i + d = s.length → Ev (fun n => spec_IsRing.l0 n s (i : Int)) (ringS s i d) := by
 induction d with
 | zero =>
  intro i hi
  refine Ev.step (f := fun _ => some true) (fun n => ?_) (Ev.now _)
  simp only [spec_IsRing.l0]
  rw [if_neg (by omega)]
 | succ d ih =>
  intro i hi
  have h1 : i < s.length := by omega
  unfold ringS
  rw [List.range'_succ, List.all_cons]
  cases hq : segL (s.getD i z149)
  ·refine Ev.step (f := fun _ => some false) (fun n => ?_) (Ev.now _)
   simp only [spec_IsRing.l0, spec_IsSegment.f, Option.bind_some]
   rw [if_pos (by omega), if_pos (by omega), rdSg s i h1]
   unfold segL at hq
   rw [hq]; simp
  ·refine Ev.step (fun n => ?_) (ring_s1 s hs i h1 _ (ih (i + 1) (by omega)) i 0 (by omega))
   simp only [spec_IsRing.l0, spec_IsSegment.f, Option.bind_some]
   rw [if_pos (by omega), if_pos (by omega), rdSg s i h1]
   unfold segL at hq
   rw [hq, if_pos rfl]; rfl
theorem isRing_s (l : List S59) (hl : l.length < 9223372036854775807) : Ev (fun k => spec_IsRing.f k l) (rgB l) := by
 unfold spec_IsRing.f rgB spec_l1In.f
 simp only [Option.bind_some]
 cases h : inR (l.length : Int) 3 10
 ·simp only [Bool.false_eq_true, if_false, Bool.false_and]; exact Ev.now _
 ·have hb : l.length < 1000 := by unfold inR at h; simp at h; omega
  simp only [if_true, Bool.true_and]
  refine Ev.bind (around_s l hb) ?_
  have := ring_s0 (arR l) (by rw [arR_len]; exact hb) l.length 0 (by rw [arR_len]; omega)
  exact this
theorem ring_i1 (s : List S149) (hs : s.length < 1000) (i : Nat) (hi : i < s.length) (rest : Bool) (hr : Ev (fun k => impl_IsRing.l0 k s (s.length : Int) ((i + 1 : Nat) : Int)) rest) (d : Nat) :
  ∀ k : Nat, k + d = i → Ev (fun n => impl_IsRing.l1 n s (i : Int) (s.length : Int) (i : Int) (i : Int) (k : Int)) ((List.range' k d).all (inRow s i) && rest) := by
 induction d with
 | zero =>
  intro k hk
  refine Ev.step (fun n => ?_) hr
  simp only [impl_IsRing.l1]
  rw [if_neg (by omega), w1' i (by omega)]
 | succ d ih =>
  intro k hk
  have hk1 : k < s.length := by omega
  rw [List.range'_succ, List.all_cons]
  have e2 : Ev (fun n => (impl_HowMeet.f n (s.getD i z149).f0.f0 (s.getD i z149).f0.f1 (s.getD i z149).f1.f0 (s.getD i z149).f1.f1 (s.getD k z149).f0.f0 (s.getD k z149).f0.f1 (s.getD k z149).f1.f0 (s.getD k z149).f1.f1).bind fun t => if t = wantR s.length i k then impl_IsRing.l1 n s (i : Int) (s.length : Int) (i : Int) (i : Int) ((k + 1 : Nat) : Int) else some false) (inRow s i k && (List.range' (k + 1) d).all (inRow s i) && rest) := by
   refine Ev.bind (how_i _ _ _ _ _ _ _ _) ?_
   by_cases hw : howL (s.getD i z149) (s.getD k z149) = wantR s.length i k
   ·have e : inRow s i k = true := by unfold inRow; exact decide_eq_true hw
    rw [e, Bool.true_and]
    refine Ev.congr (fun n => ?_) (ih (k + 1) (by omega))
    exact if_pos hw
   ·have e : inRow s i k = false := by unfold inRow; exact decide_eq_false hw
    rw [e]
    refine Ev.congr (fun n => ?_) (Ev.now _)
    exact if_neg hw
  have j : ∀ b : Bool, (if b = true then (1 : Int) else 0) = wantR s.length i k → Ev (fun n => impl_IsRing.j3 n s (i : Int) (k : Int) 0 (s.length : Int) (i : Int) (i : Int) (k : Int) b) (inRow s i k && (List.range' (k + 1) d).all (inRow s i) && rest) := by
   intro b hb
   refine Ev.step (fun n => ?_) e2
   simp only [impl_IsRing.j3]
   rw [← hb]
   cases b
   ·rw [if_neg (by simp), if_pos (by omega), if_pos (by omega), if_pos (by omega), if_pos (by omega), rdSg s i hi, rdSg s k hk1, w1' k (by omega)]; rfl
   ·rw [if_pos rfl, if_pos (by omega), if_pos (by omega), if_pos (by omega), if_pos (by omega), rdSg s i hi, rdSg s k hk1, w1' k (by omega)]; rfl
  have wi : wrap64 ((i : Int) - 1) = (i : Int) - 1 := by unfold wrap64; omega
  have wn : wrap64 ((s.length : Int) - 1) = (s.length : Int) - 1 := by unfold wrap64; omega
  by_cases z : k + 1 = i
  ·refine Ev.step (fun n => ?_) (j true (by show (1 : Int) = _; unfold wantR; rw [if_pos (.inl z)]))
   simp only [impl_IsRing.l1]
   rw [if_pos (by omega), wi, if_pos (by omega)]
  ·by_cases z0 : k = 0
   ·refine Ev.step (fun n => ?_) (j (decide (i + 1 = s.length)) (by unfold wantR; by_cases q : i + 1 = s.length <;> simp [q, z0] <;> omega))
    simp only [impl_IsRing.l1]
    rw [if_pos (by omega), wi, if_neg (by omega), if_pos (by omega), wn]
    congr 1
    rw [Bool.eq_iff_iff]; simp; omega
   ·refine Ev.step (fun n => ?_) (j false (by show (0 : Int) = _; unfold wantR; rw [if_neg (by omega)]))
    simp only [impl_IsRing.l1]
    rw [if_pos (by omega), wi, if_neg (by omega), if_neg (by omega)]
theorem ring_i0 (s : List S149) (hs : s.length < 1000) (d : Nat) : ∀ i : Nat, i + d = s.length → Ev (fun n => impl_IsRing.l0 n s (s.length : Int) (i : Int)) (ringS s i d) := by
 induction d with
 | zero =>
  intro i hi
  refine Ev.step (f := fun _ => some true) (fun n => ?_) (Ev.now _)
  simp only [impl_IsRing.l0]
  rw [if_neg (by omega)]
 | succ d ih =>
  intro i hi
  have h1 : i < s.length := by omega
  unfold ringS
  rw [List.range'_succ, List.all_cons]
  cases hq : segL (s.getD i z149)
  ·refine Ev.step (f := fun _ => some false) (fun n => ?_) (Ev.now _)
   simp only [impl_IsRing.l0, impl_IsSegment.f, Option.bind_some]
   rw [if_pos (by omega), if_pos (by omega), if_pos (by omega), rdSg s i h1]
   unfold segL at hq
   rw [hq]; simp
  ·refine Ev.step (fun n => ?_) (ring_i1 s hs i h1 _ (ih (i + 1) (by omega)) i 0 (by omega))
   simp only [impl_IsRing.l0, impl_IsSegment.f, Option.bind_some]
   rw [if_pos (by omega), if_pos (by omega), if_pos (by omega), rdSg s i h1]
   unfold segL at hq
   rw [hq, if_pos rfl]; rfl
theorem isRing_i (l : List S59) (hl : l.length < 9223372036854775807) : Ev (fun k => impl_IsRing.f k l) (rgB l) := by
 unfold impl_IsRing.f rgB
 have dead : Ev (fun k => impl_IsRing.j0 k l true) false := Ev.step (f := fun _ => some false) (fun k => by simp [impl_IsRing.j0]) (Ev.now _)
 by_cases h2 : (l.length : Int) < 3
 ·simp only [if_pos h2]
  have : inR (l.length : Int) 3 10 = false := by unfold inR; simp; omega
  rw [this]; exact dead
 ·simp only [if_neg h2]
  by_cases h10 : (l.length : Int) > 10
  ·have : inR (l.length : Int) 3 10 = false := by unfold inR; simp; omega
   rw [this, decide_eq_true h10]; exact dead
  ·have : inR (l.length : Int) 3 10 = true := by unfold inR; simp; omega
   rw [this, decide_eq_false h10]
   have hb : l.length < 1000 := by omega
   refine Ev.step (f := fun k => (impl_around.f k l).bind fun t => impl_IsRing.l0 k t (t.length : Int) 0) (fun k => by simp [impl_IsRing.j0]) (Ev.bind (around_i l hb) ?_)
   exact ring_i0 (arR l) (by rw [arR_len]; exact hb) l.length 0 (by rw [arR_len]; omega)
def nmB (s : ByteArray) : Bool := (List.range' 0 s.size).all (fun (i : Nat) => decide (97 ≤ bt s (i : Int)) && decide (bt s (i : Int) ≤ 122)) && inR (s.size : Int) 1 8
theorem nm_loop_s (s : ByteArray) (hs : s.size ≤ 9223372036854775807) (d : Nat) : ∀ i : Nat, i + d = s.size → Ev (fun k => spec_IsName.l0 k s (i : Int)) ((List.range' i d).all (fun (i : Nat) => decide (97 ≤ bt s (i : Int)) && decide (bt s (i : Int) ≤ 122)) && inR (s.size : Int) 1 8) := by
 induction d with
 | zero =>
  intro i hi
  refine Ev.step (f := fun _ => some (inR (s.size : Int) 1 8)) (fun k => ?_) (Ev.now _)
  simp only [spec_IsName.l0, spec_l1In.f]
  rw [if_neg (by omega)]; rfl
 | succ d ih =>
  intro i hi
  rw [List.range'_succ, List.all_cons]
  by_cases h1 : bt s (i : Int) < 97
  ·rw [decide_eq_false (show ¬ 97 ≤ bt s (i : Int) by omega)]
   refine Ev.step (f := fun _ => some false) (fun k => ?_) (Ev.now _)
   simp only [spec_IsName.l0]
   rw [if_pos (by omega), if_pos (by omega), if_pos h1]
  ·by_cases h2 : bt s (i : Int) > 122
   ·rw [decide_eq_true (show 97 ≤ bt s (i : Int) by omega), decide_eq_false (show ¬ bt s (i : Int) ≤ 122 by omega)]
    refine Ev.step (f := fun _ => some false) (fun k => ?_) (Ev.now _)
    simp only [spec_IsName.l0]
    rw [if_pos (by omega), if_pos (by omega), if_neg h1, if_pos h2]
   ·rw [decide_eq_true (show 97 ≤ bt s (i : Int) by omega), decide_eq_true (show bt s (i : Int) ≤ 122 by omega)]
    refine Ev.step (fun k => ?_) (ih (i + 1) (by omega))
    simp only [spec_IsName.l0]
    rw [if_pos (by omega), if_pos (by omega), if_neg h1, if_neg h2, w1' i (by omega)]
theorem nm_s (s : ByteArray) (hs : s.size ≤ 9223372036854775807) : Ev (fun k => spec_IsName.f k s) (nmB s) := nm_loop_s s hs s.size 0 (by omega)
theorem nm_loop_i (s : ByteArray) (hs : s.size ≤ 9223372036854775807) (d : Nat) : ∀ i : Nat, i + d = s.size → Ev (fun k => impl_IsName.l0 k s (s.size : Int) (i : Int)) ((List.range' i d).all (fun (i : Nat) => decide (97 ≤ bt s (i : Int)) && decide (bt s (i : Int) ≤ 122)) && inR (s.size : Int) 1 8) := by
 induction d with
 | zero =>
  intro i hi
  refine Ev.step (f := fun _ => some (inR (s.size : Int) 1 8)) (fun k => ?_) (Ev.now _)
  simp only [impl_IsName.l0, impl_InRange.f]
  rw [if_neg (by omega)]; rfl
 | succ d ih =>
  intro i hi
  rw [List.range'_succ, List.all_cons]
  by_cases h1 : bt s (i : Int) < 97
  ·rw [decide_eq_false (show ¬ 97 ≤ bt s (i : Int) by omega)]
   refine Ev.step (f := fun _ => some false) (fun k => ?_) (Ev.now _)
   simp only [impl_IsName.l0]
   rw [if_pos (by omega), if_pos (by omega), if_pos (by omega), if_pos h1]
  ·by_cases h2 : bt s (i : Int) > 122
   ·rw [decide_eq_true (show 97 ≤ bt s (i : Int) by omega), decide_eq_false (show ¬ bt s (i : Int) ≤ 122 by omega)]
    refine Ev.step (f := fun _ => some false) (fun k => ?_) (Ev.now _)
    simp only [impl_IsName.l0]
    rw [if_pos (by omega), if_pos (by omega), if_pos (by omega), if_neg h1, if_pos h2]
   ·rw [decide_eq_true (show 97 ≤ bt s (i : Int) by omega), decide_eq_true (show bt s (i : Int) ≤ 122 by omega)]
    refine Ev.step (fun k => ?_) (ih (i + 1) (by omega))
    simp only [impl_IsName.l0]
    rw [if_pos (by omega), if_pos (by omega), if_pos (by omega), if_neg h1, if_neg h2, w1' i (by omega)]
theorem nm_i (s : ByteArray) (hs : s.size ≤ 9223372036854775807) : Ev (fun k => impl_IsName.f k s) (nmB s) := nm_loop_i s hs s.size 0 (by omega)
theorem lnB_len {l : List S59} (h : lnB l = true) : 2 ≤ l.length ∧ l.length ≤ 10 := by
 unfold lnB inR at h; simp at h; omega
theorem rgB_len {l : List S59} (h : rgB l = true) : 3 ≤ l.length ∧ l.length ≤ 10 := by
 unfold rgB inR at h; simp at h; omega
/-- The segments of a line, one behind the other. -/
def sgR (l : List S59) : List S149 := (List.range (l.length - 1)).map fun i => (⟨l.getD i z59, l.getD (i + 1) z59⟩ : S149)
def sgL (l : List S59) : List S149 := if lnB l then sgR l else []
theorem sgR_len (l : List S59) : (sgR l).length = l.length - 1 := by simp [sgR]
theorem sgR_take (l : List S59) (i : Nat) (h : i + 1 < l.length) : (sgR l).take (i + 1) = (sgR l).take i ++ [(⟨l.getD i z59, l.getD (i + 1) z59⟩ : S149)] := by
 rw [List.take_succ_eq_append_getElem (by rw [sgR_len]; omega)]
 simp [sgR]
theorem seg_sl (l : List S59) (hl : lnB l = true) (d : Nat) : ∀ i : Nat, i + 1 + d = l.length → Ev (fun k => spec_SegmentsOf.l0 k l ((sgR l).take i) ((i + 1 : Nat) : Int)) (sgR l) := by
 have hb := lnB_len hl
 induction d with
 | zero =>
  intro i hi
  rw [List.take_of_length_le (by rw [sgR_len]; omega)]
  refine Ev.step (f := fun _ => some _) (fun k => ?_) (Ev.now _)
  simp only [spec_SegmentsOf.l0]
  rw [if_neg (by omega)]
 | succ d ih =>
  intro i hi
  have hlen : ((sgR l).take i).length < 4398046511104 := by rw [List.length_take, sgR_len]; omega
  have w : wrap64 (((i + 1 : Nat) : Int) - 1) = (i : Int) := by unfold wrap64; omega
  refine Ev.step (f := fun k => (spec_IsLine.f k l).bind fun t => if t = true then spec_SegmentsOf.l0 k l ((sgR l).take (i + 1)) ((i + 1 + 1 : Nat) : Int) else some ((sgR l).take i)) (fun k => ?_) (Ev.bind (isLine_s l (by omega)) ?_)
  ·simp only [spec_SegmentsOf.l0]
   rw [if_pos (by omega), w, if_pos (by omega), if_pos (by omega), if_pos (by omega), if_pos hlen, rdPd, rdPd, sgR_take l i (by omega), w1' (i + 1) (by omega)]
  ·rw [hl]
   simp only [if_true]
   exact ih (i + 1) (by omega)
theorem seg_s (l : List S59) (hl : l.length < 9223372036854775807) : Ev (fun k => spec_SegmentsOf.f k l) (sgL l) := by
 unfold spec_SegmentsOf.f sgL
 cases h : lnB l
 ·by_cases h1 : (1 : Int) < (l.length : Int)
  ·refine Ev.step (f := fun k => (spec_IsLine.f k l).bind fun t => if t = true then spec_SegmentsOf.l0 (k + 1) l [] 1 else some []) (fun k => ?_) (Ev.bind (isLine_s l hl) ?_)
   ·simp only [spec_SegmentsOf.l0]
    rw [if_pos h1]
    cases hh : spec_IsLine.f k l with
    | none => rfl
    | some b => cases b <;> simp [h1]
   ·rw [h]; simp only [Bool.false_eq_true, if_false]; exact Ev.now _
  ·refine Ev.step (f := fun _ => some []) (fun k => ?_) (Ev.now _)
   simp only [spec_SegmentsOf.l0]
   rw [if_neg h1]
 ·have hb := lnB_len h
  exact seg_sl l h (l.length - 1) 0 (by omega)
theorem seg_il (l : List S59) (hl : lnB l = true) (d : Nat) : ∀ i : Nat, i + 1 + d = l.length → Ev (fun k => impl_SegmentsOf.l0 k l ((sgR l).take i) ((i + 1 : Nat) : Int)) (sgR l) := by
 have hb := lnB_len hl
 induction d with
 | zero =>
  intro i hi
  rw [List.take_of_length_le (by rw [sgR_len]; omega)]
  refine Ev.step (f := fun _ => some _) (fun k => ?_) (Ev.now _)
  simp only [impl_SegmentsOf.l0]
  rw [if_neg (by omega)]
 | succ d ih =>
  intro i hi
  have hlen : ((sgR l).take i).length < 4398046511104 := by rw [List.length_take, sgR_len]; omega
  have w : wrap64 (((i + 1 : Nat) : Int) - 1) = (i : Int) := by unfold wrap64; omega
  refine Ev.step (fun k => ?_) (ih (i + 1) (by omega))
  simp only [impl_SegmentsOf.l0]
  rw [if_pos (by omega), w, if_pos (by omega), if_pos (by omega), if_pos (by omega), if_pos hlen, rdPd, rdPd, sgR_take l i (by omega), w1' (i + 1) (by omega)]
theorem seg_i (l : List S59) (hl : l.length < 9223372036854775807) : Ev (fun k => impl_SegmentsOf.f k l) (sgL l) := by
 unfold impl_SegmentsOf.f sgL
 simp only [Option.bind_some]
 refine Ev.bind (isLine_i l hl) ?_
 cases h : lnB l
 ·simp only [Bool.false_eq_true, if_false]; exact Ev.now _
 ·have hb := lnB_len h
  simp only [if_true]
  exact seg_il l h (l.length - 1) 0 (by omega)
def wantS (i k : Nat) : Int := if k + 1 = i then 1 else 0
def inRow2 (s : List S149) (i : Nat) (k : Nat) : Bool := decide (howL (s.getD i z149) (s.getD k z149) = wantS i k)
def simS (s : List S149) (i d : Nat) : Bool := (List.range' i d).all fun i => (List.range' 0 i).all (inRow2 s i)
def smB (l : List S59) : Bool := lnB l && simS (sgL l) 0 (sgL l).length
theorem sim_s1 (l : List S59) (s : List S149) (hs : s.length < 1000) (i : Nat) (hi : i < s.length) (rest : Bool) (hr : Ev (fun k => spec_IsSimple.l0 k l s ((i + 1 : Nat) : Int)) rest) (d : Nat) :
  ∀ k : Nat, k + d = i → Ev (fun n => spec_IsSimple.l1 n l s (i : Int) (k : Int)) ((List.range' k d).all (inRow2 s i) && rest) := by
 induction d with
 | zero =>
  intro k hk
  refine Ev.step (fun n => ?_) hr
  simp only [spec_IsSimple.l1]
  rw [if_neg (by omega), w1' i (by omega)]
 | succ d ih =>
  intro k hk
  have hk1 : k < s.length := by omega
  rw [List.range'_succ, List.all_cons]
  have e2 : Ev (fun n => (spec_HowMeet.f (s.getD i z149).f0.f0 (s.getD i z149).f0.f1 (s.getD i z149).f1.f0 (s.getD i z149).f1.f1 (s.getD k z149).f0.f0 (s.getD k z149).f0.f1 (s.getD k z149).f1.f0 (s.getD k z149).f1.f1).bind fun t => if t = wantS i k then spec_IsSimple.l1 n l s (i : Int) ((k + 1 : Nat) : Int) else some false) (inRow2 s i k && (List.range' (k + 1) d).all (inRow2 s i) && rest) := by
   refine Ev.bind (how_s _ _ _ _ _ _ _ _) ?_
   by_cases hw : howL (s.getD i z149) (s.getD k z149) = wantS i k
   ·have e : inRow2 s i k = true := by unfold inRow2; exact decide_eq_true hw
    rw [e, Bool.true_and]
    refine Ev.congr (fun n => ?_) (ih (k + 1) (by omega))
    exact if_pos hw
   ·have e : inRow2 s i k = false := by unfold inRow2; exact decide_eq_false hw
    rw [e]
    refine Ev.congr (fun n => ?_) (Ev.now _)
    exact if_neg hw
  refine Ev.step (fun n => ?_) e2
  simp only [spec_IsSimple.l1]
  by_cases z : k + 1 = i
  ·have hw : wantS i k = 1 := by unfold wantS; rw [if_pos z]
   rw [hw, if_pos (by omega), w1' k (by omega), if_pos (by omega), if_pos (by omega), if_pos (by omega), if_pos (by omega), if_pos (by omega), rdSg s i hi, rdSg s k hk1]
  ·have hw : wantS i k = 0 := by unfold wantS; rw [if_neg z]
   rw [hw, if_pos (by omega), w1' k (by omega), if_neg (by omega), if_pos (by omega), if_pos (by omega), if_pos (by omega), if_pos (by omega), rdSg s i hi, rdSg s k hk1]
theorem sim_s0 (l : List S59) (hl : l.length < 9223372036854775807) (s : List S149) (hs : s.length < 1000) (d : Nat) : ∀ i : Nat, i + d = s.length → Ev (fun n => spec_IsSimple.l0 n l s (i : Int)) (simS s i d && lnB l) := by
 induction d with
 | zero =>
  intro i hi
  refine Ev.step (f := fun k => (spec_IsLine.f k l).bind fun t => some t) (fun n => ?_) (Ev.bind (isLine_s l hl) (Ev.now _))
  simp only [spec_IsSimple.l0]
  rw [if_neg (by omega)]
 | succ d ih =>
  intro i hi
  have h1 : i < s.length := by omega
  unfold simS
  rw [List.range'_succ, List.all_cons, Bool.and_assoc]
  refine Ev.step (fun n => ?_) (sim_s1 l s hs i h1 _ (ih (i + 1) (by omega)) i 0 (by omega))
  simp only [spec_IsSimple.l0]
  rw [if_pos (by omega)]; rfl
theorem sgL_len (l : List S59) : (sgL l).length < 1000 := by
 unfold sgL
 cases h : lnB l
 ·simp
 ·have := lnB_len h; simp [sgR_len]; omega
theorem isSimple_s (l : List S59) (hl : l.length < 9223372036854775807) : Ev (fun k => spec_IsSimple.f k l) (smB l) := by
 unfold spec_IsSimple.f smB
 refine Ev.bind (seg_s l hl) ?_
 rw [Bool.and_comm]
 exact sim_s0 l hl (sgL l) (sgL_len l) (sgL l).length 0 (by omega)
theorem sim_i1 (s : List S149) (hs : s.length < 1000) (i : Nat) (hi : i < s.length) (rest : Bool) (hr : Ev (fun k => impl_IsSimple.l0 k s (s.length : Int) ((i + 1 : Nat) : Int)) rest) (d : Nat) :
  ∀ k : Nat, k + d = i → Ev (fun n => impl_IsSimple.l1 n s (i : Int) (s.length : Int) (i : Int) (i : Int) (k : Int)) ((List.range' k d).all (inRow2 s i) && rest) := by
 induction d with
 | zero =>
  intro k hk
  refine Ev.step (fun n => ?_) hr
  simp only [impl_IsSimple.l1]
  rw [if_neg (by omega), w1' i (by omega)]
 | succ d ih =>
  intro k hk
  have hk1 : k < s.length := by omega
  rw [List.range'_succ, List.all_cons]
  have e2 : Ev (fun n => (impl_HowMeet.f n (s.getD i z149).f0.f0 (s.getD i z149).f0.f1 (s.getD i z149).f1.f0 (s.getD i z149).f1.f1 (s.getD k z149).f0.f0 (s.getD k z149).f0.f1 (s.getD k z149).f1.f0 (s.getD k z149).f1.f1).bind fun t => if t = wantS i k then impl_IsSimple.l1 n s (i : Int) (s.length : Int) (i : Int) (i : Int) ((k + 1 : Nat) : Int) else some false) (inRow2 s i k && (List.range' (k + 1) d).all (inRow2 s i) && rest) := by
   refine Ev.bind (how_i _ _ _ _ _ _ _ _) ?_
   by_cases hw : howL (s.getD i z149) (s.getD k z149) = wantS i k
   ·have e : inRow2 s i k = true := by unfold inRow2; exact decide_eq_true hw
    rw [e, Bool.true_and]
    refine Ev.congr (fun n => ?_) (ih (k + 1) (by omega))
    exact if_pos hw
   ·have e : inRow2 s i k = false := by unfold inRow2; exact decide_eq_false hw
    rw [e]
    refine Ev.congr (fun n => ?_) (Ev.now _)
    exact if_neg hw
  have wi : wrap64 ((i : Int) - 1) = (i : Int) - 1 := by unfold wrap64; omega
  refine Ev.step (fun n => ?_) e2
  simp only [impl_IsSimple.l1]
  by_cases z : k + 1 = i
  ·have hw : wantS i k = 1 := by unfold wantS; rw [if_pos z]
   rw [hw, if_pos (by omega), wi, if_pos (by omega), if_pos (by omega), if_pos (by omega), if_pos (by omega), if_pos (by omega), rdSg s i hi, rdSg s k hk1, w1' k (by omega)]
  ·have hw : wantS i k = 0 := by unfold wantS; rw [if_neg z]
   rw [hw, if_pos (by omega), wi, if_neg (by omega), if_pos (by omega), if_pos (by omega), if_pos (by omega), if_pos (by omega), rdSg s i hi, rdSg s k hk1, w1' k (by omega)]
theorem sim_i0 (s : List S149) (hs : s.length < 1000) (d : Nat) : ∀ i : Nat, i + d = s.length → Ev (fun n => impl_IsSimple.l0 n s (s.length : Int) (i : Int)) (simS s i d) := by
 induction d with
 | zero =>
  intro i hi
  refine Ev.step (f := fun _ => some true) (fun n => ?_) (Ev.now _)
  simp only [impl_IsSimple.l0]
  rw [if_neg (by omega)]
 | succ d ih =>
  intro i hi
  have h1 : i < s.length := by omega
  unfold simS
  rw [List.range'_succ, List.all_cons]
  refine Ev.step (fun n => ?_) (sim_i1 s hs i h1 _ (ih (i + 1) (by omega)) i 0 (by omega))
  simp only [impl_IsSimple.l0]
  rw [if_pos (by omega)]; rfl
theorem isSimple_i (l : List S59) (hl : l.length < 9223372036854775807) : Ev (fun k => impl_IsSimple.f k l) (smB l) := by
 unfold impl_IsSimple.f smB
 refine Ev.bind (isLine_i l hl) ?_
 cases h : lnB l
 ·simp only [Bool.false_eq_true, if_false, Bool.false_and]; exact Ev.now _
 ·simp only [if_true, Bool.true_and]
  refine Ev.bind (seg_i l hl) ?_
  exact sim_i0 (sgL l) (sgL_len l) (sgL l).length 0 (by omega)
def kdB (kd : Int) (l : List S59) : Bool := if kd = 1 then decide (l.length = 1) && isPt (l.getD 0 z59).f0 (l.getD 0 z59).f1 else if kd = 2 then smB l else if kd = 3 then rgB l else false
def ftB (a b c : Int) (s : ByteArray) (l : List S59) : Bool := inR a 1 99 && (inR c 0 9 && ((decide (s.toList = ([] : List UInt8)) || nmB s) && kdB b l))
theorem rdP0 (l : List S59) : rd_T59 l 0 = l.getD 0 z59 := rfl
theorem ft_js (a b c : Int) (s : ByteArray) (l : List S59) (hl : l.length < 9223372036854775807) (q : Bool) : Ev (fun k => spec_IsFeature.j0 k q a b c s l) (!q && kdB b l) := by
 cases q
 ·unfold kdB
  by_cases h1 : b = 1
  ·refine Ev.step (f := fun _ => some (decide (l.length = 1) && isPt (l.getD 0 z59).f0 (l.getD 0 z59).f1)) (fun k => ?_) (by simp only [if_pos h1]; exact Ev.now _)
   simp only [spec_IsFeature.j0, Bool.false_eq_true, if_false, if_pos h1, spec_IsPoint.f, Option.bind_some, rdP0]
   by_cases h : (l.length : Int) = 1
   ·rw [if_pos h, if_pos (by omega), decide_eq_true (show l.length = 1 by omega)]; rfl
   ·rw [if_neg h, decide_eq_false (show ¬ l.length = 1 by omega)]; rfl
  ·by_cases h2 : b = 2
   ·simp only [if_neg h1, if_pos h2]
    refine Ev.step (f := fun k => (spec_IsSimple.f k l).bind fun t => some t) (fun k => ?_) (Ev.bind (isSimple_s l hl) (Ev.now _))
    simp only [spec_IsFeature.j0, Bool.false_eq_true, if_false, if_neg h1, if_pos h2]
   ·by_cases h3 : b = 3
    ·simp only [if_neg h1, if_neg h2, if_pos h3]
     refine Ev.step (f := fun k => (spec_IsRing.f k l).bind fun t => some t) (fun k => ?_) (Ev.bind (isRing_s l hl) (Ev.now _))
     simp only [spec_IsFeature.j0, Bool.false_eq_true, if_false, if_neg h1, if_neg h2, if_pos h3]
    ·simp only [if_neg h1, if_neg h2, if_neg h3]
     refine Ev.step (f := fun _ => some false) (fun k => ?_) (Ev.now _)
     simp only [spec_IsFeature.j0, Bool.false_eq_true, if_false, if_neg h1, if_neg h2, if_neg h3]
 ·refine Ev.step (f := fun _ => some false) (fun k => ?_) (Ev.now _)
  simp [spec_IsFeature.j0]
theorem ft_s (a b c : Int) (s : ByteArray) (hs : s.size ≤ 9223372036854775807) (l : List S59) (hl : l.length < 9223372036854775807) : Ev (fun k => spec_IsFeature.f k a b c s l) (ftB a b c s l) := by
 unfold spec_IsFeature.f ftB spec_l1In.f
 simp only [Option.bind_some]
 cases inR a 1 99
 ·simp only [Bool.false_eq_true, if_false]; exact ft_js a b c s l hl true
 ·cases inR c 0 9
  ·simp only [if_true, Bool.false_eq_true, if_false]; exact ft_js a b c s l hl true
  ·simp only [if_true, Bool.true_and]
   by_cases he : s.toList = ([] : List UInt8)
   ·simp only [if_pos he, decide_eq_true he, Bool.true_or]; exact ft_js a b c s l hl false
   ·simp only [if_neg he, decide_eq_false he, Bool.false_or]
    refine Ev.bind (nm_s s hs) ?_
    have := ft_js a b c s l hl (!nmB s)
    rw [Bool.not_not] at this
    exact this
theorem ft_ji (a b c : Int) (s : ByteArray) (l : List S59) (hl : l.length < 9223372036854775807) (q : Bool) : Ev (fun k => impl_IsFeature.j0 k q a b c s l) (!q && kdB b l) := by
 cases q
 ·unfold kdB
  by_cases h1 : b = 1
  ·refine Ev.step (f := fun _ => some (decide (l.length = 1) && isPt (l.getD 0 z59).f0 (l.getD 0 z59).f1)) (fun k => ?_) (by simp only [if_pos h1]; exact Ev.now _)
   simp only [impl_IsFeature.j0, Bool.false_eq_true, if_false, if_pos h1, impl_IsPoint.f, Option.bind_some, rdP0]
   by_cases h : (l.length : Int) = 1
   ·rw [if_pos h, if_pos (by omega), decide_eq_true (show l.length = 1 by omega)]; rfl
   ·rw [if_neg h, decide_eq_false (show ¬ l.length = 1 by omega)]; rfl
  ·by_cases h2 : b = 2
   ·simp only [if_neg h1, if_pos h2]
    refine Ev.step (f := fun k => (impl_IsSimple.f k l).bind fun t => some t) (fun k => ?_) (Ev.bind (isSimple_i l hl) (Ev.now _))
    simp only [impl_IsFeature.j0, Bool.false_eq_true, if_false, if_neg h1, if_pos h2]
   ·by_cases h3 : b = 3
    ·simp only [if_neg h1, if_neg h2, if_pos h3]
     refine Ev.step (f := fun k => (impl_IsRing.f k l).bind fun t => some t) (fun k => ?_) (Ev.bind (isRing_i l hl) (Ev.now _))
     simp only [impl_IsFeature.j0, Bool.false_eq_true, if_false, if_neg h1, if_neg h2, if_pos h3]
    ·simp only [if_neg h1, if_neg h2, if_neg h3]
     refine Ev.step (f := fun _ => some false) (fun k => ?_) (Ev.now _)
     simp only [impl_IsFeature.j0, Bool.false_eq_true, if_false, if_neg h1, if_neg h2, if_neg h3]
 ·refine Ev.step (f := fun _ => some false) (fun k => ?_) (Ev.now _)
  simp [impl_IsFeature.j0]
theorem ft_i (a b c : Int) (s : ByteArray) (hs : s.size ≤ 9223372036854775807) (l : List S59) (hl : l.length < 9223372036854775807) : Ev (fun k => impl_IsFeature.f k a b c s l) (ftB a b c s l) := by
 unfold impl_IsFeature.f ftB impl_InRange.f
 simp only [Option.bind_some]
 cases inR a 1 99
 ·simp only [Bool.false_eq_true, if_false]; exact ft_ji a b c s l hl true
 ·cases inR c 0 9
  ·simp only [if_true, Bool.false_eq_true, if_false]; exact ft_ji a b c s l hl true
  ·simp only [if_true, Bool.true_and]
   by_cases he : s.toList = ([] : List UInt8)
   ·simp only [if_pos he, decide_eq_true he, Bool.true_or]; exact ft_ji a b c s l hl false
   ·simp only [if_neg he, decide_eq_false he, Bool.false_or]
    refine Ev.bind (nm_i s hs) ?_
    have := ft_ji a b c s l hl (!nmB s)
    rw [Bool.not_not] at this
    exact this
def prB (a b c : Int) (s : ByteArray) (l : List S59) : List S149 := if ftB a b c s l then (if b = 2 then sgL l else if b = 3 then (if rgB l then arR l else []) else []) else []
theorem pr_s (a b c : Int) (s : ByteArray) (hs : s.size ≤ 9223372036854775807) (l : List S59) (hl : l.length < 9223372036854775807) : Ev (fun k => spec_PartsOf.f k a b c s l) (prB a b c s l) := by
 unfold spec_PartsOf.f prB
 refine Ev.bind (ft_s a b c s hs l hl) ?_
 cases ftB a b c s l
 ·simp only [Bool.false_eq_true, if_false]; exact Ev.now _
 ·simp only [if_true]
  by_cases h2 : b = 2
  ·simp only [if_pos h2]; exact Ev.bind (seg_s l hl) (Ev.now _)
  ·by_cases h3 : b = 3
   ·simp only [if_neg h2, if_pos h3]
    refine Ev.bind (a := if rgB l then arR l else []) ?_ (Ev.now _)
    unfold spec_RingSegments.f
    refine Ev.bind (isRing_s l hl) ?_
    cases h : rgB l
    ·simp only [Bool.false_eq_true, if_false]; exact Ev.now _
    ·simp only [if_true]
     have := rgB_len h
     exact Ev.bind (around_s l (by omega)) (Ev.now _)
   ·simp only [if_neg h2, if_neg h3]; exact Ev.now _
theorem pr_i (a b c : Int) (s : ByteArray) (hs : s.size ≤ 9223372036854775807) (l : List S59) (hl : l.length < 9223372036854775807) : Ev (fun k => impl_PartsOf.f k a b c s l) (prB a b c s l) := by
 unfold impl_PartsOf.f prB
 refine Ev.bind (ft_i a b c s hs l hl) ?_
 cases ftB a b c s l
 ·simp only [Bool.false_eq_true, if_false]; exact Ev.now _
 ·simp only [if_true]
  by_cases h2 : b = 2
  ·simp only [if_pos h2]; exact Ev.bind (seg_i l hl) (Ev.now _)
  ·by_cases h3 : b = 3
   ·simp only [if_neg h2, if_pos h3]
    refine Ev.bind (a := if rgB l then arR l else []) ?_ (Ev.now _)
    unfold impl_RingSegments.f
    refine Ev.bind (isRing_i l hl) ?_
    cases h : rgB l
    ·simp only [Bool.false_eq_true, if_false]; exact Ev.now _
    ·simp only [if_true]
     have := rgB_len h
     exact Ev.bind (around_i l (by omega)) (Ev.now _)
   ·simp only [if_neg h2, if_neg h3]; exact Ev.now _
theorem prB_len (a b c : Int) (s : ByteArray) (l : List S59) : (prB a b c s l).length < 1000 := by
 unfold prB
 split
 ·split
  ·exact sgL_len l
  ·split
   ·cases h : rgB l
    ·simp
    ·have := rgB_len h; simp [arR_len]; omega
   ·simp
 ·simp
def boxB (a b c d : Int) : Bool := isPt a b && (isPt c d && (decide (a ≤ c) && decide (b ≤ d)))
theorem box_s (a b c d : Int) : spec_IsBox.f a b c d = some (boxB a b c d) := by
 unfold spec_IsBox.f boxB spec_IsPoint.f
 simp only [Option.bind_some]
 cases isPt a b
 ·rfl
 ·cases isPt c d
  ·rfl
  ·by_cases h : a ≤ c
   ·simp [h]
   ·simp [h]
theorem box_i (a b c d : Int) : impl_IsBox.f a b c d = some (boxB a b c d) := by
 unfold impl_IsBox.f boxB impl_IsPoint.f
 simp only [Option.bind_some]
 cases isPt a b
 ·rfl
 ·cases isPt c d
  ·rfl
  ·by_cases h : a ≤ c
   ·simp [h]
   ·simp [h]
theorem isPt_bd {x y : Int} (h : isPt x y = true) : 0 ≤ x ∧ x ≤ 200 ∧ 0 ≤ y ∧ y ≤ 200 := by
 simp only [isPt, inR, Bool.and_eq_true, decide_eq_true_eq] at h
 omega
theorem box_bound {a b c d : Int} (h : boxB a b c d = true) : 0 ≤ a ∧ a ≤ 200 ∧ 0 ≤ b ∧ b ≤ 200 ∧ 0 ≤ c ∧ c ≤ 200 ∧ 0 ≤ d ∧ d ≤ 200 := by
 simp only [boxB, Bool.and_eq_true] at h
 have := isPt_bd h.1
 have := isPt_bd h.2.1
 omega
theorem mn_bound (a b : Int) (h : 0 ≤ a ∧ a ≤ 200) (h' : 0 ≤ b ∧ b ≤ 200) : 0 ≤ mn a b ∧ mn a b ≤ 200 := by unfold mn; split <;> omega
theorem mx_bound (a b : Int) (h : 0 ≤ a ∧ a ≤ 200) (h' : 0 ≤ b ∧ b ≤ 200) : 0 ≤ mx a b ∧ mx a b ≤ 200 := by unfold mx; split <;> omega
theorem wrap_mid {a : Int} (h : -1000 ≤ a) (h' : a ≤ 1000) : wrap64 a = a := by unfold wrap64; omega
theorem mn_self (a : Int) : mn a a = a := by unfold mn; split <;> omega
theorem mx_self (a : Int) : mx a a = a := by unfold mx; split <;> omega
/-- Two boxes meet. -/
def mtB (a b c d e f g h : Int) : Bool := boxB a b c d && (boxB e f g h && (decide (mx a e ≤ mn c g) && decide (mx b f ≤ mn d h)))
theorem mt_s (a b c d e f g h : Int) : spec_BoxesMeet.f a b c d e f g h = some (mtB a b c d e f g h) := by
 unfold spec_BoxesMeet.f mtB
 simp only [box_s, Option.bind_some]
 cases h1 : boxB a b c d
 ·rfl
 ·cases h2 : boxB e f g h
  ·rfl
  ·have e1 : decide (mx a e ≤ mn c g) = (decide (a ≤ g) && decide (e ≤ c)) := by
    simp only [boxB, Bool.and_eq_true, decide_eq_true_eq] at h1 h2
    rw [← Bool.decide_and, decide_eq_decide]; unfold mx mn; (repeat' split) <;> omega
   have e2 : decide (mx b f ≤ mn d h) = (decide (b ≤ h) && decide (f ≤ d)) := by
    simp only [boxB, Bool.and_eq_true, decide_eq_true_eq] at h1 h2
    rw [← Bool.decide_and, decide_eq_decide]; unfold mx mn; (repeat' split) <;> omega
   rw [e1, e2]
   by_cases q1 : a ≤ g <;> by_cases q2 : e ≤ c <;> by_cases q3 : b ≤ h <;> simp [q1, q2, q3]
theorem mt_i (a b c d e f g h : Int) : impl_BoxesMeet.f a b c d e f g h = some (mtB a b c d e f g h) := by
 unfold impl_BoxesMeet.f impl_common.f mtB
 simp only [box_i, Option.bind_some]
 cases h1 : boxB a b c d
 ·rfl
 ·cases h2 : boxB e f g h
  ·rfl
  ·have b1 := box_bound h1
   have b2 := box_bound h2
   have m1 := mn_bound c g (by omega) (by omega)
   have m2 := mx_bound a e (by omega) (by omega)
   have m3 := mn_bound d h (by omega) (by omega)
   have m4 := mx_bound b f (by omega) (by omega)
   rw [wrap_mid (a := mn c g - mx a e) (by omega) (by omega), wrap_mid (a := mn d h - mx b f) (by omega) (by omega)]
   by_cases h3 : mx a e ≤ mn c g
   ·simp only [if_true, if_pos (show mn c g - mx a e ≥ 0 by omega), decide_eq_true h3, Bool.true_and]
    rw [decide_eq_decide.2 (show mn d h - mx b f ≥ 0 ↔ mx b f ≤ mn d h by omega)]
   ·simp only [if_true, if_neg (show ¬ mn c g - mx a e ≥ 0 by omega), decide_eq_false h3, Bool.true_and, Bool.false_and]
/-- The box of two points. -/
def bx2 (a b c d : Int) : Int × Int × Int × Int × Bool := if isPt a b && isPt c d then (mn a c, mn b d, mx a c, mx b d, true) else (0, 0, 0, 0, false)
theorem bx2_s (a b c d : Int) : Ev (fun k => spec_BoxOf.f k [(⟨a, b⟩ : S59), ⟨c, d⟩]) (bx2 a b c d) := by
 refine ⟨3, fun k hk => ?_⟩
 obtain ⟨m, rfl⟩ : ∃ m, k = m + 3 := ⟨k - 3, by omega⟩
 have e0 : rd_T59 [(⟨a, b⟩ : S59), ⟨c, d⟩] 0 = ⟨a, b⟩ := rfl
 have e1 : rd_T59 [(⟨a, b⟩ : S59), ⟨c, d⟩] 1 = ⟨c, d⟩ := rfl
 have w0 : wrap64 1 = 1 := by unfold wrap64; omega
 have w1 : wrap64 2 = 2 := by unfold wrap64; omega
 simp only [spec_BoxOf.f, spec_BoxOf.l0, spec_IsPoint.f, spec_Min.f, spec_Max.f, List.length_cons, List.length_nil, e0, Option.bind_some, bx2]
 cases h1 : isPt a b
 ·simp
 ·cases h2 : isPt c d
  ·simp [w0, e1, h2, mn_self, mx_self]
  ·simp [w0, w1, e1, h2, mn_self, mx_self]
theorem bx2_i (a b c d : Int) : Ev (fun k => impl_BoxOf.f k [(⟨a, b⟩ : S59), ⟨c, d⟩]) (bx2 a b c d) := by
 refine ⟨3, fun k hk => ?_⟩
 obtain ⟨m, rfl⟩ : ∃ m, k = m + 3 := ⟨k - 3, by omega⟩
 have e0 : rd_T59 [(⟨a, b⟩ : S59), ⟨c, d⟩] 0 = ⟨a, b⟩ := rfl
 have e1 : rd_T59 [(⟨a, b⟩ : S59), ⟨c, d⟩] 1 = ⟨c, d⟩ := rfl
 have w0 : wrap64 1 = 1 := by unfold wrap64; omega
 have w1 : wrap64 2 = 2 := by unfold wrap64; omega
 simp only [impl_BoxOf.f, impl_BoxOf.l0, impl_IsPoint.f, List.length_cons, List.length_nil, e0, Option.bind_some, bx2]
 cases h1 : isPt a b
 ·simp
 ·cases h2 : isPt c d
  ·simp [w0, e1, h2, mn_self, mx_self]
  ·simp [w0, w1, e1, h2, mn_self, mx_self]
def cn (v p : Int) : Int := if p = v then 1 else 0
theorem cn_bd (v p : Int) : 0 ≤ cn v p ∧ cn v p ≤ 1 := by unfold cn; split <;> omega
def sdL (a b c d : Int) (p : S59) : Int := sideI a b c d p.f0 p.f1
theorem ms_step (a b c d : Int) (xs : List S59) (hx : xs.length = 4) (k : Nat) (L R : Int) (i : Nat) (hi : i < 4) (hL : 0 ≤ L ∧ L ≤ 4) (hR : 0 ≤ R ∧ R ≤ 4) :
  spec_MeetsBox.l0 (k + 1) xs L R (i : Int) a b c d = spec_MeetsBox.l0 k xs (L + cn 1 (sdL a b c d (xs.getD i z59))) (R + cn (-1) (sdL a b c d (xs.getD i z59))) ((i + 1 : Nat) : Int) a b c d := by
 have w : wrap64 ((i : Int) + 1) = ((i + 1 : Nat) : Int) := by unfold wrap64; omega
 have wL : wrap64 (L + 1) = L + 1 := by unfold wrap64; omega
 have wR : wrap64 (R + 1) = R + 1 := by unfold wrap64; omega
 have e : rd_T59 xs (i : Int) = xs.getD i z59 := by unfold rd_T59; rw [Int.toNat_natCast]
 rw [spec_MeetsBox.l0]
 rw [if_pos (by omega), if_pos (by omega), if_pos (by omega)]
 unfold spec_SideOf.f
 simp only [Option.bind_some, w, wL, wR, e]
 show _ = spec_MeetsBox.l0 k xs (L + cn 1 (sideI a b c d _ _)) (R + cn (-1) (sideI a b c d _ _)) _ _ _ _ _
 generalize sideI a b c d (xs.getD i z59).f0 (xs.getD i z59).f1 = s
 by_cases h1 : s = 1
 ·subst h1; simp [cn]
 ·by_cases h2 : s = -1
  ·subst h2; simp [cn]
  ·simp [cn, h1, h2]
theorem mi_step (a b c d : Int) (xs : List S59) (hx : xs.length = 4) (k : Nat) (L R : Int) (i : Nat) (hi : i < 4) (hL : 0 ≤ L ∧ L ≤ 4) (hR : 0 ≤ R ∧ R ≤ 4) :
  impl_MeetsBox.l0 (k + 1) L R xs 4 (i : Int) a b c d = impl_MeetsBox.l0 k (L + cn 1 (sdL a b c d (xs.getD i z59))) (R + cn (-1) (sdL a b c d (xs.getD i z59))) xs 4 ((i + 1 : Nat) : Int) a b c d := by
 have w : wrap64 ((i : Int) + 1) = ((i + 1 : Nat) : Int) := by unfold wrap64; omega
 have wL : wrap64 (L + 1) = L + 1 := by unfold wrap64; omega
 have wR : wrap64 (R + 1) = R + 1 := by unfold wrap64; omega
 have e : rd_T59 xs (i : Int) = xs.getD i z59 := by unfold rd_T59; rw [Int.toNat_natCast]
 rw [impl_MeetsBox.l0]
 rw [if_pos (by omega), if_pos (by omega), if_pos (by omega)]
 unfold impl_SideOf.f
 simp only [Option.bind_some, w, wL, wR, e]
 show _ = impl_MeetsBox.l0 k (L + cn 1 (sideI a b c d _ _)) (R + cn (-1) (sideI a b c d _ _)) _ _ _ _ _ _ _
 generalize sideI a b c d (xs.getD i z59).f0 (xs.getD i z59).f1 = s
 by_cases h1 : s = 1
 ·subst h1; simp [cn]
 ·by_cases h2 : s = -1
  ·subst h2; simp [cn]
  ·simp [cn, h1, h2]
/-- How many corners of a box lie on a side. -/
def cns (v a b c d e f g h : Int) : Int := cn v (sideI a b c d e f) + cn v (sideI a b c d e h) + cn v (sideI a b c d g h) + cn v (sideI a b c d g f)
/-- A segment meets a box. -/
def mbB (a b c d e f g h : Int) : Bool := isSeg a b c d && (boxB e f g h && (mtB (mn a c) (mn b d) (mx a c) (mx b d) e f g h && (decide (cns 1 a b c d e f g h < 4) && decide (cns (-1) a b c d e f g h < 4))))
theorem isSeg_pts {a b c d : Int} (h : isSeg a b c d = true) : isPt a b = true ∧ isPt c d = true := by
 simp only [isSeg, Bool.and_eq_true] at h
 exact h.1
theorem mb_s (a b c d e f g h : Int) : Ev (fun k => spec_MeetsBox.f k a b c d e f g h) (mbB a b c d e f g h) := by
 unfold spec_MeetsBox.f mbB
 refine Ev.bind (bx2_s a b c d) ?_
 unfold spec_IsSegment.f
 simp only [Option.bind_some]
 cases h1 : isSeg a b c d
 ·refine Ev.step (f := fun _ => some false) (fun k => ?_) (Ev.now _)
  simp [spec_MeetsBox.j0]
 ·obtain ⟨p1, p2⟩ := isSeg_pts h1
  simp only [bx2, p1, p2, Bool.and_self, if_true, mt_s, Option.bind_some, Bool.true_and]
  cases h2 : mtB (mn a c) (mn b d) (mx a c) (mx b d) e f g h
  ·refine Ev.step (f := fun _ => some (boxB e f g h && (false && (decide (cns 1 a b c d e f g h < 4) && decide (cns (-1) a b c d e f g h < 4))))) (fun k => ?_) (Ev.now _)
   cases boxB e f g h <;> simp [spec_MeetsBox.j0]
  ·have h3 : boxB e f g h = true := by simp only [mtB, Bool.and_eq_true] at h2; exact h2.2.1
   rw [h3]
   refine ⟨6, fun k hk => ?_⟩
   obtain ⟨m, rfl⟩ : ∃ m, k = m + 6 := ⟨k - 6, by omega⟩
   show spec_MeetsBox.j0 ((m + 5) + 1) _ a b c d e f g h = _
   rw [spec_MeetsBox.j0]
   simp only [Bool.not_true, Bool.false_eq_true, if_false]
   have c1 := cn_bd 1 (sideI a b c d e f); have c2 := cn_bd 1 (sideI a b c d e h); have c3 := cn_bd 1 (sideI a b c d g h); have c4 := cn_bd 1 (sideI a b c d g f)
   have d1 := cn_bd (-1) (sideI a b c d e f); have d2 := cn_bd (-1) (sideI a b c d e h); have d3 := cn_bd (-1) (sideI a b c d g h); have d4 := cn_bd (-1) (sideI a b c d g f)
   have hx : ([(⟨e, f⟩ : S59), ⟨e, h⟩, ⟨g, h⟩, ⟨g, f⟩] : List S59).length = 4 := rfl
   generalize hxs : ([(⟨e, f⟩ : S59), ⟨e, h⟩, ⟨g, h⟩, ⟨g, f⟩] : List S59) = xs at hx ⊢
   have q0 : sdL a b c d (xs.getD 0 z59) = sideI a b c d e f := by subst hxs; rfl
   have q1 : sdL a b c d (xs.getD 1 z59) = sideI a b c d e h := by subst hxs; rfl
   have q2 : sdL a b c d (xs.getD 2 z59) = sideI a b c d g h := by subst hxs; rfl
   have q3 : sdL a b c d (xs.getD 3 z59) = sideI a b c d g f := by subst hxs; rfl
   have t0 := ms_step a b c d xs hx (m + 4) 0 0 0 (by omega) (by omega) (by omega)
   rw [q0] at t0
   have t1 := ms_step a b c d xs hx (m + 3) (0 + cn 1 (sideI a b c d e f)) (0 + cn (-1) (sideI a b c d e f)) 1 (by omega) (by omega) (by omega)
   rw [q1] at t1
   have t2 := ms_step a b c d xs hx (m + 2) (0 + cn 1 (sideI a b c d e f) + cn 1 (sideI a b c d e h)) (0 + cn (-1) (sideI a b c d e f) + cn (-1) (sideI a b c d e h)) 2 (by omega) (by omega) (by omega)
   rw [q2] at t2
   have t3 := ms_step a b c d xs hx (m + 1) (0 + cn 1 (sideI a b c d e f) + cn 1 (sideI a b c d e h) + cn 1 (sideI a b c d g h)) (0 + cn (-1) (sideI a b c d e f) + cn (-1) (sideI a b c d e h) + cn (-1) (sideI a b c d g h)) 3 (by omega) (by omega) (by omega)
   rw [q3] at t3
   refine (t0.trans (t1.trans (t2.trans t3))).trans ?_
   rw [spec_MeetsBox.l0]
   rw [if_neg (by omega)]
   unfold cns
   have e1 : ∀ v : Int, 0 + cn v (sideI a b c d e f) + cn v (sideI a b c d e h) + cn v (sideI a b c d g h) + cn v (sideI a b c d g f) = cn v (sideI a b c d e f) + cn v (sideI a b c d e h) + cn v (sideI a b c d g h) + cn v (sideI a b c d g f) := fun v => by omega
   rw [e1, e1]
   by_cases h4 : cn 1 (sideI a b c d e f) + cn 1 (sideI a b c d e h) + cn 1 (sideI a b c d g h) + cn 1 (sideI a b c d g f) < 4
   ·rw [if_pos h4]; simp [h4]
   ·rw [if_neg h4]; simp [h4]
theorem mb_i (a b c d e f g h : Int) : Ev (fun k => impl_MeetsBox.f k a b c d e f g h) (mbB a b c d e f g h) := by
 unfold impl_MeetsBox.f mbB
 unfold impl_IsSegment.f
 simp only [Option.bind_some, box_i]
 cases h1 : isSeg a b c d
 ·refine Ev.step (f := fun _ => some false) (fun k => ?_) (Ev.now _)
  simp [impl_MeetsBox.j0]
 ·obtain ⟨p1, p2⟩ := isSeg_pts h1
  simp only [if_true, Bool.true_and]
  cases h3 : boxB e f g h
  ·refine Ev.step (f := fun _ => some false) (fun k => ?_) (Ev.now _)
   simp [impl_MeetsBox.j0]
  ·refine Ev.step (f := fun k => (impl_BoxOf.f k [(⟨a, b⟩ : S59), ⟨c, d⟩]).bind fun bt => (impl_BoxesMeet.f bt.1 bt.2.1 bt.2.2.1 bt.2.2.2.1 e f g h).bind fun t => if t = true then ((some ([(⟨e, f⟩ : S59), ⟨g, h⟩, ⟨e, h⟩, ⟨g, f⟩] : List S59)).bind fun y => impl_MeetsBox.l0 k 0 0 y (y.length : Int) 0 a b c d) else some false) (fun k => ?_) (Ev.bind (bx2_i a b c d) ?_)
   ·rw [impl_MeetsBox.j0]; simp only [Bool.not_true, Bool.false_eq_true, if_false]
   ·simp only [bx2, p1, p2, Bool.and_self, if_true, mt_i, Option.bind_some, Bool.true_and]
    cases h2 : mtB (mn a c) (mn b d) (mx a c) (mx b d) e f g h
    ·simp only [Bool.false_eq_true, if_false, Bool.false_and]; exact Ev.now _
    ·simp only [if_true, Bool.true_and]
     refine ⟨5, fun k hk => ?_⟩
     obtain ⟨m, rfl⟩ : ∃ m, k = m + 5 := ⟨k - 5, by omega⟩
     dsimp only
     have c1 := cn_bd 1 (sideI a b c d e f); have c2 := cn_bd 1 (sideI a b c d e h); have c3 := cn_bd 1 (sideI a b c d g h); have c4 := cn_bd 1 (sideI a b c d g f)
     have d1 := cn_bd (-1) (sideI a b c d e f); have d2 := cn_bd (-1) (sideI a b c d e h); have d3 := cn_bd (-1) (sideI a b c d g h); have d4 := cn_bd (-1) (sideI a b c d g f)
     have hx : ([(⟨e, f⟩ : S59), ⟨g, h⟩, ⟨e, h⟩, ⟨g, f⟩] : List S59).length = 4 := rfl
     have hl : ((([(⟨e, f⟩ : S59), ⟨g, h⟩, ⟨e, h⟩, ⟨g, f⟩] : List S59).length : Nat) : Int) = 4 := rfl
     rw [hl]
     generalize hxs : ([(⟨e, f⟩ : S59), ⟨g, h⟩, ⟨e, h⟩, ⟨g, f⟩] : List S59) = xs at hx ⊢
     have q0 : sdL a b c d (xs.getD 0 z59) = sideI a b c d e f := by subst hxs; rfl
     have q1 : sdL a b c d (xs.getD 1 z59) = sideI a b c d g h := by subst hxs; rfl
     have q2 : sdL a b c d (xs.getD 2 z59) = sideI a b c d e h := by subst hxs; rfl
     have q3 : sdL a b c d (xs.getD 3 z59) = sideI a b c d g f := by subst hxs; rfl
     have t0 := mi_step a b c d xs hx (m + 4) 0 0 0 (by omega) (by omega) (by omega)
     rw [q0] at t0
     have t1 := mi_step a b c d xs hx (m + 3) (0 + cn 1 (sideI a b c d e f)) (0 + cn (-1) (sideI a b c d e f)) 1 (by omega) (by omega) (by omega)
     rw [q1] at t1
     have t2 := mi_step a b c d xs hx (m + 2) (0 + cn 1 (sideI a b c d e f) + cn 1 (sideI a b c d g h)) (0 + cn (-1) (sideI a b c d e f) + cn (-1) (sideI a b c d g h)) 2 (by omega) (by omega) (by omega)
     rw [q2] at t2
     have t3 := mi_step a b c d xs hx (m + 1) (0 + cn 1 (sideI a b c d e f) + cn 1 (sideI a b c d g h) + cn 1 (sideI a b c d e h)) (0 + cn (-1) (sideI a b c d e f) + cn (-1) (sideI a b c d g h) + cn (-1) (sideI a b c d e h)) 3 (by omega) (by omega) (by omega)
     rw [q3] at t3
     refine (t0.trans (t1.trans (t2.trans t3))).trans ?_
     rw [impl_MeetsBox.l0]
     rw [if_neg (by omega)]
     unfold cns
     have e1 : ∀ v : Int, 0 + cn v (sideI a b c d e f) + cn v (sideI a b c d g h) + cn v (sideI a b c d e h) + cn v (sideI a b c d g f) = cn v (sideI a b c d e f) + cn v (sideI a b c d e h) + cn v (sideI a b c d g h) + cn v (sideI a b c d g f) := fun v => by omega
     rw [e1, e1]
     by_cases h4 : cn 1 (sideI a b c d e f) + cn 1 (sideI a b c d e h) + cn 1 (sideI a b c d g h) + cn 1 (sideI a b c d g f) < 4
     ·rw [if_pos h4]; simp [h4]
     ·rw [if_neg h4]; simp [h4]
def mdI (a : Int) : Int := let r := Int.tmod a 2147483647; if r < 0 then r + 2147483647 else r
def fdI (acc v : Int) : Int := Int.tmod (wrap64 (wrap64 (wrap64 (acc * 1000003) + mdI v) + 13)) 2147483647
theorem tm_bd (a : Int) : -2147483647 < Int.tmod a 2147483647 ∧ Int.tmod a 2147483647 < 2147483647 := by
 have h : (Int.tmod a 2147483647).natAbs < 2147483647 := by
  rw [Int.natAbs_tmod]; exact Nat.mod_lt _ (by decide)
 omega
theorem md_s (a : Int) : spec_Mod.f a 2147483647 = some (mdI a) := by
 unfold spec_Mod.f spec_l1In.f mdI
 have e : inR 2147483647 1 1000000000000 = true := by decide
 simp only [e, Option.bind_some, if_true]
 rw [if_neg (by omega)]
 have h := tm_bd a
 generalize Int.tmod a 2147483647 = r at h
 have w : wrap64 (r + 2147483647) = r + 2147483647 := by unfold wrap64; omega
 rw [w]
 congr 1
 by_cases hr : r < 0
 ·rw [if_pos hr, Int.tmod_eq_emod_of_nonneg (by omega)]; omega
 ·rw [if_neg hr, Int.tmod_eq_emod_of_nonneg (by omega)]; omega
theorem md_i (a : Int) : impl_Mod.f a 2147483647 = some (mdI a) := by
 unfold impl_Mod.f impl_InRange.f mdI
 have e : inR 2147483647 1 1000000000000 = true := by decide
 simp only [e, Option.bind_some, if_true]
 rw [if_neg (by omega)]
 have h := tm_bd a
 generalize Int.tmod a 2147483647 = r at h
 have w : wrap64 (r + 2147483647) = r + 2147483647 := by unfold wrap64; omega
 rw [w]
 split <;> rfl
def hsI (l : List Int) : Int := l.foldl fdI 11
theorem hash_sl (l : List Int) (hl : l.length < 9223372036854775807) (d : Nat) : ∀ (i : Nat) (acc : Int), i + d = l.length → Ev (fun k => spec_Hash.l0 k l acc (i : Int)) ((l.drop i).foldl fdI acc) := by
 induction d with
 | zero =>
  intro i acc hi
  rw [List.drop_of_length_le (by omega)]
  refine Ev.step (f := fun _ => some acc) (fun k => ?_) (Ev.now _)
  simp only [spec_Hash.l0]
  rw [if_neg (by omega)]
 | succ d ih =>
  intro i acc hi
  have h1 : i < l.length := by omega
  rw [List.drop_eq_getElem_cons h1, List.foldl_cons]
  refine Ev.step (fun k => ?_) (ih (i + 1) (fdI acc l[i]) (by omega))
  simp only [spec_Hash.l0]
  rw [if_pos (by omega), if_pos (by omega), md_s, rd_at l i h1, w1' i (by omega)]
  rfl
theorem hash_s (l : List Int) (hl : l.length < 9223372036854775807) : Ev (fun k => spec_Hash.f k l) (hsI l) := hash_sl l hl l.length 0 11 (by omega)
theorem hash_il (l : List Int) (hl : l.length < 9223372036854775807) (d : Nat) : ∀ (i : Nat) (acc : Int), i + d = l.length → Ev (fun k => impl_Hash.l0 k acc l (l.length : Int) (i : Int)) ((l.drop i).foldl fdI acc) := by
 induction d with
 | zero =>
  intro i acc hi
  rw [List.drop_of_length_le (by omega)]
  refine Ev.step (f := fun _ => some acc) (fun k => ?_) (Ev.now _)
  simp only [impl_Hash.l0]
  rw [if_neg (by omega)]
 | succ d ih =>
  intro i acc hi
  have h1 : i < l.length := by omega
  rw [List.drop_eq_getElem_cons h1, List.foldl_cons]
  refine Ev.step (fun k => ?_) (ih (i + 1) (fdI acc l[i]) (by omega))
  simp only [impl_Hash.l0, impl_fold.f]
  rw [if_pos (by omega), if_pos (by omega), if_pos (by omega), md_i, rd_at l i h1, w1' i (by omega)]
  rfl
theorem hash_i (l : List Int) (hl : l.length < 9223372036854775807) : Ev (fun k => impl_Hash.f k l) (hsI l) := hash_il l hl l.length 0 11 (by omega)
theorem prB_one (a c : Int) (s : ByteArray) (l : List S59) : prB a 1 c s l = [] := by
 unfold prB; split <;> rfl
theorem ft_one {a c : Int} {s : ByteArray} {l : List S59} (h : ftB a 1 c s l = true) : l.length = 1 := by
 simp only [ftB, kdB, if_true, Bool.and_eq_true, decide_eq_true_eq] at h
 exact h.2.2.2.1
/-- The bytes of a name as numbers. -/
def byL (s : ByteArray) (i d : Nat) : List Int := (List.range' i d).map fun (j : Nat) => wrap64 (bt s (j : Int))
/-- What stands behind the name: nothing where no such part is. -/
def tlB (a b c : Int) (s : ByteArray) (l : List S59) (p : Int) : Option (List Int) :=
 if b = 1 then (if p = 0 then some [(l.getD 0 z59).f0, (l.getD 0 z59).f1] else none)
 else if 0 ≤ p ∧ p < ((prB a b c s l).length : Int) then some [((prB a b c s l).getD p.toNat z149).f0.f0, ((prB a b c s l).getD p.toNat z149).f0.f1, ((prB a b c s l).getD p.toNat z149).f1.f0, ((prB a b c s l).getD p.toNat z149).f1.f1]
 else none
def tlV (a b c : Int) (s : ByteArray) (l : List S59) (p : Int) (h : List Int) : Int := match tlB a b c s l p with | some t => hsI (h ++ [p] ++ t) | none => 0
def dgB (a b c : Int) (s : ByteArray) (l : List S59) (p : Int) : Int := if ftB a b c s l then tlV a b c s l p ([a, b, c, (s.size : Int)] ++ byL s 0 s.size) else 0
theorem dg_s1 (a b c : Int) (s : ByteArray) (hs : s.size ≤ 1048576) (l : List S59) (hl : l.length < 9223372036854775807) (p : Int) (hf : ftB a b c s l = true) (d : Nat) : ∀ (i : Nat) (h : List Int), i + d = s.size → h.length + d ≤ 4000000 →
  Ev (fun k => spec_PieceDigest.l0 k p h (i : Int) a b c s l) (tlV a b c s l p (h ++ byL s i d)) := by
 induction d with
 | zero =>
  intro i h hi hh
  have e : h ++ byL s i 0 = h := by simp [byL]
  rw [e]
  have hp := prB_len a b c s l
  have fin : ∀ q : Bool, q = (decide (b = 1) && decide (p = 0)) → Ev (fun k => spec_PieceDigest.j1 k p (h ++ [p]) (prB a b c s l) q a b c s l) (tlV a b c s l p h) := by
   intro q hq
   unfold tlV tlB
   cases q
   ·have hq' : ¬ (b = 1 ∧ p = 0) := by simpa using hq.symm
    have w : wrap64 (((prB a b c s l).length : Int) - 1) = ((prB a b c s l).length : Int) - 1 := by unfold wrap64; omega
    by_cases hr : 0 ≤ p ∧ p < ((prB a b c s l).length : Int)
    ·have hb : ¬ b = 1 := by
      intro hb; subst hb; rw [prB_one] at hr; simp at hr; omega
     have er : inR p 0 (((prB a b c s l).length : Int) - 1) = true := by unfold inR; simp; omega
     simp only [if_neg hb, if_pos hr]
     refine Ev.step (f := fun k => (spec_Hash.f k (h ++ [p] ++ [((prB a b c s l).getD p.toNat z149).f0.f0, ((prB a b c s l).getD p.toNat z149).f0.f1, ((prB a b c s l).getD p.toNat z149).f1.f0, ((prB a b c s l).getD p.toNat z149).f1.f1])).bind fun t => some t) (fun k => ?_) (Ev.bind (hash_s _ (by simp; omega)) (Ev.now _))
     simp only [spec_PieceDigest.j1, Bool.false_eq_true, if_false, spec_l1In.f, Option.bind_some, w, er, if_true]
     rw [if_pos (by omega), if_pos (by omega), if_pos (by simp; omega)]
     rfl
    ·have er : inR p 0 (((prB a b c s l).length : Int) - 1) = false := by unfold inR; simp; omega
     have e0 : (if b = 1 then (if p = 0 then some [(l.getD 0 z59).f0, (l.getD 0 z59).f1] else none) else if 0 ≤ p ∧ p < ((prB a b c s l).length : Int) then some [((prB a b c s l).getD p.toNat z149).f0.f0, ((prB a b c s l).getD p.toNat z149).f0.f1, ((prB a b c s l).getD p.toNat z149).f1.f0, ((prB a b c s l).getD p.toNat z149).f1.f1] else none) = (none : Option (List Int)) := by
      by_cases hb : b = 1
      ·rw [if_pos hb, if_neg (fun hp0 => hq' ⟨hb, hp0⟩)]
      ·rw [if_neg hb, if_neg hr]
     rw [e0]
     refine Ev.step (f := fun _ => some 0) (fun k => ?_) (Ev.now _)
     simp only [spec_PieceDigest.j1, Bool.false_eq_true, if_false, spec_l1In.f, Option.bind_some, w, er]
   ·have hq' : b = 1 ∧ p = 0 := by simpa using hq.symm
    obtain ⟨hb, hp0⟩ := hq'
    subst hb
    have h1 := ft_one hf
    simp only [if_true, if_pos hp0]
    refine Ev.step (f := fun k => (spec_Hash.f k (h ++ [p] ++ [(l.getD 0 z59).f0, (l.getD 0 z59).f1])).bind fun t => some t) (fun k => ?_) (Ev.bind (hash_s _ (by simp; omega)) (Ev.now _))
    simp only [spec_PieceDigest.j1, if_true, Option.bind_some]
    rw [if_pos (by omega), if_pos (by simp; omega)]
    rfl
  refine Ev.step (f := fun k => (spec_PartsOf.f k a b c s l).bind fun t => if b = 1 then spec_PieceDigest.j1 k p (h ++ [p]) t (p == 0) a b c s l else spec_PieceDigest.j1 k p (h ++ [p]) t false a b c s l) (fun k => ?_) (Ev.bind (pr_s a b c s (by omega) l hl) ?_)
  ·simp only [spec_PieceDigest.l0]
   rw [if_neg (by omega), if_pos (by omega)]
   rfl
  ·by_cases hb : b = 1
   ·simp only [if_pos hb]
    exact fin _ (by rw [decide_eq_true hb, Bool.true_and, Bool.eq_iff_iff]; simp)
   ·simp only [if_neg hb]
    exact fin _ (by rw [decide_eq_false hb, Bool.false_and])
 | succ d ih =>
  intro i h hi hh
  have e : h ++ byL s i (d + 1) = (h ++ [wrap64 (bt s (i : Int))]) ++ byL s (i + 1) d := by simp [byL, List.range'_succ]
  rw [e]
  refine Ev.step (fun k => ?_) (ih (i + 1) (h ++ [wrap64 (bt s (i : Int))]) (by omega) (by simp; omega))
  simp only [spec_PieceDigest.l0]
  rw [if_pos (by omega), if_pos (by omega), if_pos (by omega), w1' i (by omega)]
theorem dg_s (a b c : Int) (s : ByteArray) (hs : s.size ≤ 1048576) (l : List S59) (hl : l.length < 9223372036854775807) (p : Int) : Ev (fun k => spec_PieceDigest.f k a b c s l p) (dgB a b c s l p) := by
 unfold spec_PieceDigest.f dgB
 refine Ev.bind (ft_s a b c s (by omega) l hl) ?_
 cases hf : ftB a b c s l
 ·simp only [Bool.false_eq_true, if_false]; exact Ev.now _
 ·simp only [if_true]
  exact dg_s1 a b c s hs l hl p hf s.size 0 [a, b, c, (s.size : Int)] (by omega) (by simp; omega)
theorem dg_i1 (a b c : Int) (s : ByteArray) (hs : s.size ≤ 1048576) (l : List S59) (hl : l.length < 9223372036854775807) (p : Int) (hf : ftB a b c s l = true) (d : Nat) : ∀ (i : Nat) (h : List Int), i + d = s.size → h.length + d ≤ 4000000 →
  Ev (fun k => impl_PieceDigest.l0 k p h (s.size : Int) (i : Int) a b c s l) (tlV a b c s l p (h ++ byL s i d)) := by
 induction d with
 | zero =>
  intro i h hi hh
  have e : h ++ byL s i 0 = h := by simp [byL]
  rw [e]
  have hp := prB_len a b c s l
  unfold tlV tlB
  by_cases hb : b = 1
  ·subst hb
   have h1 := ft_one hf
   by_cases hp0 : p = 0
   ·simp only [if_true, if_pos hp0]
    refine Ev.step (f := fun k => (impl_Hash.f k (h ++ [p] ++ [(l.getD 0 z59).f0, (l.getD 0 z59).f1])).bind fun t => some t) (fun k => ?_) (Ev.bind (hash_i _ (by simp; omega)) (Ev.now _))
    simp only [impl_PieceDigest.l0, if_true, Option.bind_some]
    rw [if_neg (by omega), if_pos (by omega), if_pos hp0, if_pos (by omega), if_pos (by simp; omega)]
    rfl
   ·simp only [if_true, if_neg hp0]
    refine Ev.step (f := fun _ => some 0) (fun k => ?_) (Ev.now _)
    simp only [impl_PieceDigest.l0, if_true, Option.bind_some]
    rw [if_neg (by omega), if_pos (by omega), if_neg hp0]
  ·simp only [if_neg hb]
   refine Ev.step (f := fun k => (impl_PartsOf.f k a b c s l).bind fun t418 => if p < 0 then some 0 else if p ≥ (t418.length : Int) then some 0 else if 0 ≤ p then (if p < (t418.length : Int) then ((some ([(rd_T149 t418 p).f0.f0, (rd_T149 t418 p).f0.f1, (rd_T149 t418 p).f1.f0, (rd_T149 t418 p).f1.f1] : List Int)).bind fun y => if (h ++ [p]).length + y.length < 17592186044416 then ((impl_Hash.f k ((h ++ [p]) ++ y)).bind fun t => some t) else none) else none) else none) (fun k => ?_) (Ev.bind (pr_i a b c s (by omega) l hl) ?_)
   ·simp only [impl_PieceDigest.l0, Option.bind_some]
    rw [if_neg (by omega), if_pos (by omega), if_neg hb]
   ·by_cases hr : 0 ≤ p ∧ p < ((prB a b c s l).length : Int)
    ·simp only [if_neg (show ¬ p < 0 by omega), if_neg (show ¬ p ≥ ((prB a b c s l).length : Int) by omega), if_pos hr.1, if_pos hr.2, if_pos hr, Option.bind_some]
     have : (h ++ [p]).length + ([(rd_T149 (prB a b c s l) p).f0.f0, (rd_T149 (prB a b c s l) p).f0.f1, (rd_T149 (prB a b c s l) p).f1.f0, (rd_T149 (prB a b c s l) p).f1.f1] : List Int).length < 17592186044416 := by simp; omega
     simp only [if_pos this]
     exact Ev.bind (hash_i _ (by simp; omega)) (Ev.now _)
    ·simp only [if_neg hr]
     by_cases hn : p < 0
     ·simp only [if_pos hn]; exact Ev.now _
     ·simp only [if_neg hn, if_pos (show p ≥ ((prB a b c s l).length : Int) by omega)]; exact Ev.now _
 | succ d ih =>
  intro i h hi hh
  have e : h ++ byL s i (d + 1) = (h ++ [wrap64 (bt s (i : Int))]) ++ byL s (i + 1) d := by simp [byL, List.range'_succ]
  rw [e]
  refine Ev.step (fun k => ?_) (ih (i + 1) (h ++ [wrap64 (bt s (i : Int))]) (by omega) (by simp; omega))
  simp only [impl_PieceDigest.l0]
  rw [if_pos (by omega), if_pos (by omega), if_pos (by omega), if_pos (by omega), w1' i (by omega)]
theorem dg_i (a b c : Int) (s : ByteArray) (hs : s.size ≤ 1048576) (l : List S59) (hl : l.length < 9223372036854775807) (p : Int) : Ev (fun k => impl_PieceDigest.f k a b c s l p) (dgB a b c s l p) := by
 unfold impl_PieceDigest.f dgB
 refine Ev.bind (ft_i a b c s (by omega) l hl) ?_
 cases hf : ftB a b c s l
 ·simp only [Bool.false_eq_true, if_false]; exact Ev.now _
 ·simp only [if_true]
  exact dg_i1 a b c s hs l hl p hf s.size 0 [a, b, c, (s.size : Int)] (by omega) (by simp; omega)
def tbB (t : Int) : Int × Int × Int × Int × Bool := if inR t 0 440 then (wrap64 (Int.tmod t 21 * 10), wrap64 (wrap64 (Int.tdiv t 21) * 10), mn (wrap64 (wrap64 (Int.tmod t 21 * 10) + 10)) 200, mn (wrap64 (wrap64 (wrap64 (Int.tdiv t 21) * 10) + 10)) 200, true) else (0, 0, 0, 0, false)
theorem mn_sym (a b : Int) : mn a b = mn b a := by unfold mn; (repeat' split) <;> omega
theorem tb_s (t : Int) : spec_TileBox.f t = some (tbB t) := by
 unfold spec_TileBox.f tbB spec_l1In.f spec_Min.f
 simp only [Option.bind_some, mn_sym 200]
 cases inR t 0 440 <;> simp
theorem tb_i (t : Int) : impl_TileBox.f t = some (tbB t) := by
 unfold impl_TileBox.f tbB impl_InRange.f
 simp only [Option.bind_some]
 cases inR t 0 440 <;> simp
def ibB (a b c d x y : Int) : Bool := boxB a b c d && (inR x a c && inR y b d)
theorem ib_s (a b c d x y : Int) : spec_InBox.f a b c d x y = some (ibB a b c d x y) := by
 unfold spec_InBox.f ibB spec_l1In.f
 simp only [box_s, Option.bind_some]
 cases boxB a b c d <;> cases inR x a c <;> simp
theorem ib_i (a b c d x y : Int) : impl_InBox.f a b c d x y = some (ibB a b c d x y) := by
 unfold impl_InBox.f ibB impl_InRange.f
 simp only [box_i, Option.bind_some]
 cases boxB a b c d <;> cases inR x a c <;> simp
/-- The pieces of the segments that meet a box. -/
def fpB (id : Int) (sg : List S149) (e f g h : Int) (i d : Nat) : List S83 :=
 ((List.range' i d).filter fun j => mbB (sg.getD j z149).f0.f0 (sg.getD j z149).f0.f1 (sg.getD j z149).f1.f0 (sg.getD j z149).f1.f1 e f g h).map fun (j : Nat) => (⟨id, (j : Int)⟩ : S83)
def pcB (a b c : Int) (s : ByteArray) (l : List S59) (e f g h : Int) : List S83 :=
 if b = 1 then (if ibB e f g h (l.getD 0 z59).f0 (l.getD 0 z59).f1 then [(⟨a, 0⟩ : S83)] else []) else fpB a (prB a b c s l) e f g h 0 (prB a b c s l).length
theorem fpB_step (id : Int) (sg : List S149) (e f g h : Int) (i d : Nat) : fpB id sg e f g h i (d + 1) = (if mbB (sg.getD i z149).f0.f0 (sg.getD i z149).f0.f1 (sg.getD i z149).f1.f0 (sg.getD i z149).f1.f1 e f g h then [(⟨id, (i : Int)⟩ : S83)] else []) ++ fpB id sg e f g h (i + 1) d := by
 unfold fpB
 rw [List.range'_succ, List.filter_cons]
 split <;> simp
theorem fp_s (a b c : Int) (s : ByteArray) (l : List S59) (sg : List S149) (hs : sg.length < 1000) (e f g h : Int) (d : Nat) : ∀ (i : Nat) (o : List S83), i + d = sg.length → o.length ≤ i →
  Ev (fun k => spec_l20Pieces.l0 k sg o (i : Int) a b c s l e f g h) (o ++ fpB a sg e f g h i d) := by
 induction d with
 | zero =>
  intro i o hi ho
  refine Ev.step (f := fun _ => some o) (fun k => ?_) (by simp only [fpB, List.range'_zero, List.filter_nil, List.map_nil, List.append_nil]; exact Ev.now _)
  simp only [spec_l20Pieces.l0]
  rw [if_neg (by omega)]
 | succ d ih =>
  intro i o hi ho
  have h1 : i < sg.length := by omega
  rw [fpB_step, ← List.append_assoc]
  refine Ev.step (f := fun k => (spec_MeetsBox.f k (sg.getD i z149).f0.f0 (sg.getD i z149).f0.f1 (sg.getD i z149).f1.f0 (sg.getD i z149).f1.f1 e f g h).bind fun t => if t = true then spec_l20Pieces.l0 k sg (o ++ [(⟨a, (i : Int)⟩ : S83)]) ((i + 1 : Nat) : Int) a b c s l e f g h else spec_l20Pieces.l0 k sg o ((i + 1 : Nat) : Int) a b c s l e f g h) (fun k => ?_) (Ev.bind (mb_s _ _ _ _ _ _ _ _) ?_)
  ·simp only [spec_l20Pieces.l0]
   rw [if_pos (by omega), if_pos (by omega), rdSg sg i h1, w1' i (by omega), if_pos (show o.length < 8796093022208 by omega)]
  ·cases mbB (sg.getD i z149).f0.f0 (sg.getD i z149).f0.f1 (sg.getD i z149).f1.f0 (sg.getD i z149).f1.f1 e f g h
   ·simp only [Bool.false_eq_true, if_false, List.append_nil]; exact ih (i + 1) o (by omega) (by omega)
   ·simp only [if_true]; exact ih (i + 1) _ (by omega) (by simp; omega)
theorem pc_s (a b c : Int) (s : ByteArray) (l : List S59) (h1 : b = 1 → l.length = 1) (e f g h : Int) : Ev (fun k => spec_l20Pieces.f k a b c s l (prB a b c s l) e f g h) (pcB a b c s l e f g h) := by
 unfold spec_l20Pieces.f pcB
 simp only [Option.bind_some]
 have hp := prB_len a b c s l
 have go : Ev (fun k => spec_l20Pieces.j0 k (prB a b c s l) [] false a b c s l e f g h) (fpB a (prB a b c s l) e f g h 0 (prB a b c s l).length) := by
  refine Ev.step (fun k => ?_) (fp_s a b c s l (prB a b c s l) hp e f g h (prB a b c s l).length 0 [] (by omega) (by simp))
  simp [spec_l20Pieces.j0]
 by_cases hb : b = 1
 ·simp only [if_pos hb]
  have := h1 hb
  simp only [if_pos (show (0 : Int) < (l.length : Int) by omega), ib_s, rdP0, Option.bind_some]
  cases ibB e f g h (l.getD 0 z59).f0 (l.getD 0 z59).f1
  ·subst hb
   rw [prB_one] at go ⊢
   simp only [Bool.false_eq_true, if_false]; exact go
  ·refine Ev.step (f := fun _ => some _) (fun k => ?_) (Ev.now _)
   simp [spec_l20Pieces.j0]
 ·simp only [if_neg hb]; exact go
theorem fp_i (a b c : Int) (s : ByteArray) (l : List S59) (sg : List S149) (hs : sg.length < 1000) (e f g h : Int) (d : Nat) : ∀ (i : Nat) (o : List S83), i + d = sg.length → o.length ≤ i + 1 →
  Ev (fun k => impl_piecesOf.l0 k false o sg (sg.length : Int) (i : Int) a b c s l e f g h) (o ++ fpB a sg e f g h i d) := by
 induction d with
 | zero =>
  intro i o hi ho
  refine Ev.step (f := fun _ => some o) (fun k => ?_) (by simp only [fpB, List.range'_zero, List.filter_nil, List.map_nil, List.append_nil]; exact Ev.now _)
  simp only [impl_piecesOf.l0]
  rw [if_neg (by omega)]
 | succ d ih =>
  intro i o hi ho
  have h1 : i < sg.length := by omega
  rw [fpB_step, ← List.append_assoc]
  refine Ev.step (f := fun k => (impl_MeetsBox.f k (sg.getD i z149).f0.f0 (sg.getD i z149).f0.f1 (sg.getD i z149).f1.f0 (sg.getD i z149).f1.f1 e f g h).bind fun t => if t = true then impl_piecesOf.l0 k false (o ++ [(⟨a, (i : Int)⟩ : S83)]) sg (sg.length : Int) ((i + 1 : Nat) : Int) a b c s l e f g h else impl_piecesOf.l0 k false o sg (sg.length : Int) ((i + 1 : Nat) : Int) a b c s l e f g h) (fun k => ?_) (Ev.bind (mb_i _ _ _ _ _ _ _ _) ?_)
  ·simp only [impl_piecesOf.l0]
   rw [if_pos (by omega), if_pos (by omega), if_pos (by omega), if_neg (by simp), rdSg sg i h1, w1' i (by omega), if_pos (show o.length < 8796093022208 by omega)]
  ·cases mbB (sg.getD i z149).f0.f0 (sg.getD i z149).f0.f1 (sg.getD i z149).f1.f0 (sg.getD i z149).f1.f1 e f g h
   ·simp only [Bool.false_eq_true, if_false, List.append_nil]; exact ih (i + 1) o (by omega) (by omega)
   ·simp only [if_true]; exact ih (i + 1) _ (by omega) (by simp; omega)
theorem pc_i (a b c : Int) (s : ByteArray) (hs : s.size ≤ 9223372036854775807) (l : List S59) (hl : l.length < 9223372036854775807) (h1 : b = 1 → l.length = 1) (e f g h : Int) : Ev (fun k => impl_piecesOf.f k a b c s l e f g h false) (pcB a b c s l e f g h) := by
 unfold impl_piecesOf.f pcB
 simp only [Option.bind_some]
 have hp := prB_len a b c s l
 have go : ∀ o : List S83, o.length ≤ 1 → Ev (fun k => impl_piecesOf.j1 k false o a b c s l e f g h) (o ++ fpB a (prB a b c s l) e f g h 0 (prB a b c s l).length) := by
  intro o ho
  refine Ev.step (f := fun k => (impl_PartsOf.f k a b c s l).bind fun t => impl_piecesOf.l0 k false o t (t.length : Int) 0 a b c s l e f g h) (fun k => by rw [impl_piecesOf.j1]) (Ev.bind (pr_i a b c s hs l hl) ?_)
  exact fp_i a b c s l (prB a b c s l) hp e f g h (prB a b c s l).length 0 o (by omega) (by omega)
 have go0 : Ev (fun k => impl_piecesOf.j0 k false [] false a b c s l e f g h) (fpB a (prB a b c s l) e f g h 0 (prB a b c s l).length) := by
  refine Ev.step (fun k => ?_) (go [] (by simp))
  simp [impl_piecesOf.j0]
 by_cases hb : b = 1
 ·simp only [if_pos hb]
  have := h1 hb
  simp only [Bool.false_eq_true, if_false, if_pos (show (0 : Int) < (l.length : Int) by omega), ib_i, rdP0, Option.bind_some]
  subst hb
  rw [prB_one] at go go0
  cases ibB e f g h (l.getD 0 z59).f0 (l.getD 0 z59).f1
  ·simp only [Bool.false_eq_true, if_false]; exact go0
  ·simp only [if_true]
   refine Ev.step (fun k => ?_) (go [(⟨a, 0⟩ : S83)] (by simp))
   simp [impl_piecesOf.j0]
 ·simp only [if_neg hb]; exact go0
def ttB (a b c : Int) (s : ByteArray) (l : List S59) (i d : Nat) : List Int := ((List.range' i d).filter fun (t : Nat) => decide (0 < (pcB a b c s l (tbB (t : Int)).1 (tbB (t : Int)).2.1 (tbB (t : Int)).2.2.1 (tbB (t : Int)).2.2.2.1).length)).map fun (t : Nat) => (t : Int)
theorem ttB_step (a b c : Int) (s : ByteArray) (l : List S59) (i d : Nat) : ttB a b c s l i (d + 1) = (if 0 < (pcB a b c s l (tbB (i : Int)).1 (tbB (i : Int)).2.1 (tbB (i : Int)).2.2.1 (tbB (i : Int)).2.2.2.1).length then [(i : Int)] else []) ++ ttB a b c s l (i + 1) d := by
 unfold ttB
 rw [List.range'_succ, List.filter_cons]
 simp only [decide_eq_true_eq]
 split <;> simp
theorem tt_sl (a b c : Int) (s : ByteArray) (l : List S59) (h1 : b = 1 → l.length = 1) (d : Nat) : ∀ (i : Nat) (o : List Int), i + d = 441 → o.length ≤ i →
  Ev (fun k => spec_TouchedTiles.l0 k o (prB a b c s l) (i : Int) a b c s l) (o ++ ttB a b c s l i d) := by
 induction d with
 | zero =>
  intro i o hi ho
  refine Ev.step (f := fun _ => some o) (fun k => ?_) (by simp only [ttB, List.range'_zero, List.filter_nil, List.map_nil, List.append_nil]; exact Ev.now _)
  simp only [spec_TouchedTiles.l0]
  rw [if_neg (by omega)]
 | succ d ih =>
  intro i o hi ho
  rw [ttB_step, ← List.append_assoc]
  refine Ev.step (f := fun k => (spec_l20Pieces.f k a b c s l (prB a b c s l) (tbB (i : Int)).1 (tbB (i : Int)).2.1 (tbB (i : Int)).2.2.1 (tbB (i : Int)).2.2.2.1).bind fun t => if (t.length : Int) > 0 then spec_TouchedTiles.l0 k (o ++ [(i : Int)]) (prB a b c s l) ((i + 1 : Nat) : Int) a b c s l else spec_TouchedTiles.l0 k o (prB a b c s l) ((i + 1 : Nat) : Int) a b c s l) (fun k => ?_) (Ev.bind (pc_s a b c s l h1 _ _ _ _) ?_)
  ·simp only [spec_TouchedTiles.l0, tb_s, Option.bind_some]
   rw [if_pos (by omega), w1' i (by omega), if_pos (show o.length < 17592186044416 by omega)]
  ·by_cases hc : 0 < (pcB a b c s l (tbB (i : Int)).1 (tbB (i : Int)).2.1 (tbB (i : Int)).2.2.1 (tbB (i : Int)).2.2.2.1).length
   ·rw [if_pos hc]
    simp only [if_pos (show ((pcB a b c s l (tbB (i : Int)).1 (tbB (i : Int)).2.1 (tbB (i : Int)).2.2.1 (tbB (i : Int)).2.2.2.1).length : Int) > 0 by omega)]
    exact ih (i + 1) _ (by omega) (by simp; omega)
   ·rw [if_neg hc, List.append_nil]
    simp only [if_neg (show ¬ ((pcB a b c s l (tbB (i : Int)).1 (tbB (i : Int)).2.1 (tbB (i : Int)).2.2.1 (tbB (i : Int)).2.2.2.1).length : Int) > 0 by omega)]
    exact ih (i + 1) o (by omega) (by omega)
theorem tt_il (a b c : Int) (s : ByteArray) (hs : s.size ≤ 9223372036854775807) (l : List S59) (hl : l.length < 9223372036854775807) (h1 : b = 1 → l.length = 1) (d : Nat) : ∀ (i : Nat) (o : List Int), i + d = 441 → o.length ≤ i →
  Ev (fun k => impl_TouchedTiles.l0 k o (i : Int) a b c s l) (o ++ ttB a b c s l i d) := by
 induction d with
 | zero =>
  intro i o hi ho
  refine Ev.step (f := fun _ => some o) (fun k => ?_) (by simp only [ttB, List.range'_zero, List.filter_nil, List.map_nil, List.append_nil]; exact Ev.now _)
  simp only [impl_TouchedTiles.l0]
  rw [if_neg (by omega)]
 | succ d ih =>
  intro i o hi ho
  rw [ttB_step, ← List.append_assoc]
  refine Ev.step (f := fun k => (impl_piecesOf.f k a b c s l (tbB (i : Int)).1 (tbB (i : Int)).2.1 (tbB (i : Int)).2.2.1 (tbB (i : Int)).2.2.2.1 false).bind fun t => if (t.length : Int) > 0 then impl_TouchedTiles.l0 k (o ++ [(i : Int)]) ((i + 1 : Nat) : Int) a b c s l else impl_TouchedTiles.l0 k o ((i + 1 : Nat) : Int) a b c s l) (fun k => ?_) (Ev.bind (pc_i a b c s hs l hl h1 _ _ _ _) ?_)
  ·simp only [impl_TouchedTiles.l0, tb_i, Option.bind_some]
   rw [if_pos (by omega), w1' i (by omega), if_pos (show o.length < 17592186044416 by omega)]
  ·by_cases hc : 0 < (pcB a b c s l (tbB (i : Int)).1 (tbB (i : Int)).2.1 (tbB (i : Int)).2.2.1 (tbB (i : Int)).2.2.2.1).length
   ·rw [if_pos hc]
    simp only [if_pos (show ((pcB a b c s l (tbB (i : Int)).1 (tbB (i : Int)).2.1 (tbB (i : Int)).2.2.1 (tbB (i : Int)).2.2.2.1).length : Int) > 0 by omega)]
    exact ih (i + 1) _ (by omega) (by simp; omega)
   ·rw [if_neg hc, List.append_nil]
    simp only [if_neg (show ¬ ((pcB a b c s l (tbB (i : Int)).1 (tbB (i : Int)).2.1 (tbB (i : Int)).2.2.1 (tbB (i : Int)).2.2.2.1).length : Int) > 0 by omega)]
    exact ih (i + 1) o (by omega) (by omega)
theorem ft_len {a b c : Int} {s : ByteArray} {l : List S59} (h : ftB a b c s l = true) : b = 1 → l.length = 1 := by
 intro hb; subst hb; exact ft_one h
/-- The tiles that a feature touches. -/
def tlsB (a b c : Int) (s : ByteArray) (l : List S59) : List Int := if ftB a b c s l then ttB a b c s l 0 441 else []
theorem tt_s (a b c : Int) (s : ByteArray) (hs : s.size ≤ 9223372036854775807) (l : List S59) (hl : l.length < 9223372036854775807) : Ev (fun k => spec_TouchedTiles.f k a b c s l) (tlsB a b c s l) := by
 unfold spec_TouchedTiles.f tlsB
 simp only [Option.bind_some]
 refine Ev.bind (ft_s a b c s hs l hl) ?_
 cases hf : ftB a b c s l
 ·simp only [Bool.false_eq_true, if_false]; exact Ev.now _
 ·simp only [if_true]
  exact Ev.bind (pr_s a b c s hs l hl) (tt_sl a b c s l (ft_len hf) 441 0 [] (by omega) (by simp))
theorem tt_i (a b c : Int) (s : ByteArray) (hs : s.size ≤ 9223372036854775807) (l : List S59) (hl : l.length < 9223372036854775807) : Ev (fun k => impl_TouchedTiles.f k a b c s l) (tlsB a b c s l) := by
 unfold impl_TouchedTiles.f tlsB
 simp only [Option.bind_some]
 refine Ev.bind (ft_i a b c s hs l hl) ?_
 cases hf : ftB a b c s l
 ·simp only [Bool.false_eq_true, if_false]; exact Ev.now _
 ·simp only [if_true]
  exact tt_il a b c s hs l hl (ft_len hf) 441 0 [] (by omega) (by simp)
theorem tlsB_len (a b c : Int) (s : ByteArray) (l : List S59) : (tlsB a b c s l).length ≤ 441 := by
 unfold tlsB ttB
 split
 ·rw [List.length_map]; exact Nat.le_trans (List.length_filter_le _ _) (by simp)
 ·simp
theorem rdp_at (l : List S131) (i : Nat) (h : i < l.length) : rd_T131 l (i : Int) = l[i] := by
 unfold rd_T131
 rw [Int.toNat_natCast, List.getD_eq_getElem?_getD, List.getElem?_eq_getElem h]
 rfl
theorem rdP_at (l : List S59) (i : Nat) (h : i < l.length) : rd_T59 l (i : Int) = l[i] := by
 unfold rd_T59
 rw [Int.toNat_natCast, List.getD_eq_getElem?_getD, List.getElem?_eq_getElem h]
 rfl
def convP (x : S131) : S59 := ⟨x.f0, x.f1⟩
theorem toPoints_l (l : List S131) (hb : l.length < 9223372036854775807) (d : Nat) : ∀ i : Nat, i + d = l.length → Ev (fun k => laws_toPointS.l0 k l ((l.map convP).take i ++ List.replicate d z59) (i : Int)) (l.map convP) := by
 induction d with
 | zero =>
  intro i hi
  refine Ev.step (f := fun _ => some (l.map convP)) (fun k => ?_) (Ev.now _)
  simp only [laws_toPointS.l0]
  rw [if_neg (by omega), List.take_of_length_le (by simp; omega)]
  simp
 | succ d ih =>
  intro i hi
  have h1 : i < l.length := by omega
  refine Ev.step (fun k => ?_) (ih (i + 1) (by omega))
  simp only [laws_toPointS.l0, laws_toPoint.f, Option.bind_some]
  rw [if_pos (by omega), if_pos (by omega), if_pos (by simp; omega), rdp_at l i h1, w1 i (by omega)]
  congr 1
  have hm : i < (l.map convP).length := by simpa using h1
  rw [Int.toNat_natCast, List.set_append_right _ _ (by simp; omega), List.take_succ_eq_append_getElem hm, List.replicate_succ]
  simp only [List.length_take, List.length_map, Nat.min_eq_left (show i ≤ l.length by omega), Nat.sub_self, List.set_cons_zero, List.append_assoc, List.singleton_append, List.getElem_map, convP]
theorem toPoints (l : List S131) (hb : l.length ≤ 1048576) : Ev (fun k => laws_toPointS.f k l) (l.map convP) := by
 unfold laws_toPointS.f
 simp only [if_pos (show (0 : Int) ≤ (l.length : Int) by omega), Int.toNat_natCast, if_pos (show l.length ≤ 17592186044416 by omega)]
 have := toPoints_l l (by omega) l.length 0 (by omega)
 simpa using this
theorem eqPoints_l (l : List S59) (hb : l.length < 9223372036854775807) (d : Nat) : ∀ i : Nat, i + d = l.length → Ev (fun k => laws_eqPointS.l0 k l l (i : Int)) true := by
 induction d with
 | zero =>
  intro i hi
  refine Ev.step (f := fun _ => some true) (fun k => ?_) (Ev.now _)
  simp only [laws_eqPointS.l0]
  rw [if_neg (by omega)]
 | succ d ih =>
  intro i hi
  have h1 : i < l.length := by omega
  refine Ev.step (fun k => ?_) (ih (i + 1) (by omega))
  simp only [laws_eqPointS.l0, laws_eqPoint.f]
  rw [if_pos (by omega), if_pos (by omega), if_pos (by omega), w1 i (by omega)]
  simp
theorem eqPoints (l : List S59) (hb : l.length < 9223372036854775807) : Ev (fun k => laws_eqPointS.f k l l) true := by
 unfold laws_eqPointS.f
 simp only [if_true]
 exact eqPoints_l l hb l.length 0 (by omega)
theorem rdf_at (l : List S50) (i : Nat) (h : i < l.length) : rd_T50 l (i : Int) = l[i] := by
 unfold rd_T50
 rw [Int.toNat_natCast, List.getD_eq_getElem?_getD, List.getElem?_eq_getElem h]
 rfl
theorem rdF_at (l : List S57) (i : Nat) (h : i < l.length) : rd_T57 l (i : Int) = l[i] := by
 unfold rd_T57
 rw [Int.toNat_natCast, List.getD_eq_getElem?_getD, List.getElem?_eq_getElem h]
 rfl
def convF (x : S50) : S57 := ⟨x.f0, x.f1, x.f2, x.f3, x.f4.map convP⟩
theorem toFeatures_l (l : List S50) (hb : l.length < 9223372036854775807) (hp : ∀ x ∈ l, x.f4.length ≤ 1048576) (d : Nat) : ∀ i : Nat, i + d = l.length → Ev (fun k => laws_toFeatureS.l0 k l ((l.map convF).take i ++ List.replicate d z57) (i : Int)) (l.map convF) := by
 induction d with
 | zero =>
  intro i hi
  refine Ev.step (f := fun _ => some (l.map convF)) (fun k => ?_) (Ev.now _)
  simp only [laws_toFeatureS.l0]
  rw [if_neg (by omega), List.take_of_length_le (by simp; omega)]
  simp
 | succ d ih =>
  intro i hi
  have h1 : i < l.length := by omega
  have ht := toPoints l[i].f4 (hp _ (List.getElem_mem h1))
  have hf : Ev (fun k => laws_toFeature.f k l[i].f0 l[i].f1 l[i].f2 l[i].f3 l[i].f4) (l[i].f0, l[i].f1, l[i].f2, l[i].f3, l[i].f4.map convP) := by
   unfold laws_toFeature.f
   exact Ev.bind ht (Ev.now _)
  refine Ev.step (f := fun k => (laws_toFeature.f k l[i].f0 l[i].f1 l[i].f2 l[i].f3 l[i].f4).bind fun b => laws_toFeatureS.l0 k l (((l.map convF).take i ++ List.replicate (d + 1) z57).set i (⟨b.1, b.2.1, b.2.2.1, b.2.2.2.1, b.2.2.2.2⟩ : S57)) ((i + 1 : Nat) : Int)) (fun k => ?_) (Ev.bind hf ?_)
  ·simp only [laws_toFeatureS.l0]
   have hlen : (i : Int) < (((l.map convF).take i ++ List.replicate (d + 1) z57).length : Int) := by simp; omega
   rw [if_pos (by omega), if_pos (by omega), rdf_at l i h1, w1 i (by omega), Int.toNat_natCast]
   simp only [if_pos hlen]
  ·have hm : i < (l.map convF).length := by simpa using h1
   have e : ((l.map convF).take i ++ List.replicate (d + 1) z57).set i (⟨l[i].f0, l[i].f1, l[i].f2, l[i].f3, l[i].f4.map convP⟩ : S57) = (l.map convF).take (i + 1) ++ List.replicate d z57 := by
    rw [List.set_append_right _ _ (by simp; omega), List.take_succ_eq_append_getElem hm, List.replicate_succ]
    simp only [List.length_take, List.length_map, Nat.min_eq_left (show i ≤ l.length by omega), Nat.sub_self, List.set_cons_zero, List.append_assoc, List.singleton_append, List.getElem_map, convF]
   simp only [e]
   exact ih (i + 1) (by omega)
theorem toFeatures (l : List S50) (hb : l.length ≤ 1048576) (hp : ∀ x ∈ l, x.f4.length ≤ 1048576) : Ev (fun k => laws_toFeatureS.f k l) (l.map convF) := by
 unfold laws_toFeatureS.f
 simp only [if_pos (show (0 : Int) ≤ (l.length : Int) by omega), Int.toNat_natCast, if_pos (show l.length ≤ 4398046511104 by omega)]
 have := toFeatures_l l (by omega) hp l.length 0 (by omega)
 simpa using this
theorem eqFeatures_l (l : List S57) (hb : l.length < 9223372036854775807) (hp : ∀ x ∈ l, x.f4.length < 9223372036854775807) (d : Nat) : ∀ i : Nat, i + d = l.length → Ev (fun k => laws_eqFeatureS.l0 k l l (i : Int)) true := by
 induction d with
 | zero =>
  intro i hi
  refine Ev.step (f := fun _ => some true) (fun k => ?_) (Ev.now _)
  simp only [laws_eqFeatureS.l0]
  rw [if_neg (by omega)]
 | succ d ih =>
  intro i hi
  have h1 : i < l.length := by omega
  have hf : Ev (fun k => laws_eqFeature.f k l[i].f0 l[i].f1 l[i].f2 l[i].f3 l[i].f4 l[i].f0 l[i].f1 l[i].f2 l[i].f3 l[i].f4) true := by
   unfold laws_eqFeature.f
   simp only [if_true]
   refine Ev.bind (eqPoints l[i].f4 (hp _ (List.getElem_mem h1))) ?_
   simp only [if_true]
   exact Ev.now _
  refine Ev.step (f := fun k => (laws_eqFeature.f k l[i].f0 l[i].f1 l[i].f2 l[i].f3 l[i].f4 l[i].f0 l[i].f1 l[i].f2 l[i].f3 l[i].f4).bind fun t => if t = true then laws_eqFeatureS.l0 k l l ((i + 1 : Nat) : Int) else some false) (fun k => ?_) (Ev.bind hf ?_)
  ·simp only [laws_eqFeatureS.l0]
   rw [if_pos (by omega), if_pos (by omega), if_pos (by omega), rdF_at l i h1, w1 i (by omega)]
  ·simp only [if_true]
   exact ih (i + 1) (by omega)
theorem eqFeatures (l : List S57) (hb : l.length < 9223372036854775807) (hp : ∀ x ∈ l, x.f4.length < 9223372036854775807) : Ev (fun k => laws_eqFeatureS.f k l l) true := by
 unfold laws_eqFeatureS.f
 simp only [if_true]
 exact eqFeatures_l l hb hp l.length 0 (by omega)
theorem szFeaturesB_l (l : List S50) (hl : ∀ x ∈ l, x.f3.size ≤ 9223372036854775807 ∧ x.f4.length ≤ 9223372036854775807) (hb : l.length < 9223372036854775807) (d : Nat) :
  ∀ (i : Nat) (n : Int), i + d = l.length → 0 ≤ n → n ≤ 1048576 → ∃ r, r ≤ 1048576 ∧ Ev (fun k => laws_szFeatureS.l0 k l n (i : Int)) r ∧ (¬ r < 0 → ∀ x ∈ l.drop i, x.f3.size ≤ 1048576 ∧ x.f4.length ≤ 1048576) := by
 induction d with
 | zero =>
  intro i n hi h0 h1
  have e : l.drop i = [] := List.drop_of_length_le (by omega)
  rw [e]
  refine ⟨n, h1, Ev.step (f := fun _ => some n) (fun k => ?_) (Ev.now _), fun _ x hx => by simp at hx⟩
  simp only [laws_szFeatureS.l0]
  rw [if_neg (by omega)]
 | succ d ih =>
  intro i n hi h0 h1
  have hl1 : i < l.length := by omega
  obtain ⟨hx1, hx2⟩ := hl _ (List.getElem_mem hl1)
  have e := List.drop_eq_getElem_cons hl1
  rw [e]
  have hw : wrap64 (n - (l[i].f3.size : Int)) = n - (l[i].f3.size : Int) := by unfold wrap64; omega
  by_cases hc : n - (l[i].f3.size : Int) < 0
  ·refine ⟨-1, by omega, Ev.step (f := fun _ => some (-1)) (fun k => ?_) (Ev.now _), fun h => by omega⟩
   simp only [laws_szFeatureS.l0, laws_szFeature.f]
   rw [if_pos (by omega), if_pos (by omega), rdf_at l i hl1, hw, if_pos hc]
   rfl
  ·have hw2 : wrap64 (n - (l[i].f3.size : Int) - (l[i].f4.length : Int)) = n - (l[i].f3.size : Int) - (l[i].f4.length : Int) := by unfold wrap64; omega
   by_cases hc2 : n - (l[i].f3.size : Int) - (l[i].f4.length : Int) < 0
   ·refine ⟨-1, by omega, Ev.step (f := fun _ => some (-1)) (fun k => ?_) (Ev.now _), fun h => by omega⟩
    simp only [laws_szFeatureS.l0, laws_szFeature.f, laws_szPointS.f]
    rw [if_pos (by omega), if_pos (by omega), rdf_at l i hl1, hw, if_neg hc, hw2, if_pos hc2]
    rfl
   ·obtain ⟨r, hr0, hr, hr2⟩ := ih (i + 1) (n - (l[i].f3.size : Int) - (l[i].f4.length : Int)) (by omega) (by omega) (by omega)
    refine ⟨r, hr0, Ev.step (fun k => ?_) hr, fun h x hx => ?_⟩
    ·simp only [laws_szFeatureS.l0, laws_szFeature.f, laws_szPointS.f]
     rw [if_pos (by omega), if_pos (by omega), rdf_at l i hl1, hw, if_neg hc, hw2, if_neg hc2]
     simp only [Option.bind_some]
     rw [if_neg hc2]
     simp only [Option.bind_some]
     rw [if_neg hc2, w1 i (by omega)]
    ·rcases List.mem_cons.1 hx with hx | hx
     ·subst hx; omega
     ·exact hr2 h x hx
theorem rdFg (l : List S57) (i : Nat) : rd_T57 l (i : Int) = l.getD i z57 := by unfold rd_T57; rw [Int.toNat_natCast]
def ftF (x : S57) : Bool := ftB x.f0 x.f1 x.f2 x.f3 x.f4
def chk (l : List S57) (i : Nat) : Bool := ftF (l.getD i z57) && (decide (i = 0) || decide ((l.getD (i - 1) z57).f0 < (l.getD i z57).f0))
def srcR (l : List S57) (i d : Nat) : Bool := (List.range' i d).all (chk l)
/-- That features are a source. -/
def srB (l : List S57) : Bool := srcR l 0 l.length && decide ((l.length : Int) ≤ 16)
section
variable (l : List S57) (hb : l.length < 9223372036854775807) (hx : ∀ x ∈ l, x.f3.size ≤ 9223372036854775807 ∧ x.f4.length < 9223372036854775807)
include hb hx
theorem src_sl (d : Nat) : ∀ i : Nat, i + d = l.length → Ev (fun k => spec_IsSource.l0 k l (i : Int)) (srcR l i d && decide ((l.length : Int) ≤ 16)) := by
 induction d with
 | zero =>
  intro i hi
  refine Ev.step (f := fun _ => some (decide ((l.length : Int) ≤ 16))) (fun k => ?_) (by simp only [srcR, List.range'_zero, List.all_nil, Bool.true_and]; exact Ev.now _)
  simp only [spec_IsSource.l0]
  rw [if_neg (by omega)]
 | succ d ih =>
  intro i hi
  have hlt : i < l.length := by omega
  have hm : l.getD i z57 ∈ l := by rw [List.getD_eq_getElem?_getD, List.getElem?_eq_getElem hlt]; exact List.getElem_mem hlt
  obtain ⟨g1, g2⟩ := hx _ hm
  have e : srcR l i (d + 1) = (chk l i && srcR l (i + 1) d) := by unfold srcR; rw [List.range'_succ, List.all_cons]
  rw [e]
  have hr := ih (i + 1) (by omega)
  have ft := ft_s (l.getD i z57).f0 (l.getD i z57).f1 (l.getD i z57).f2 (l.getD i z57).f3 g1 (l.getD i z57).f4 g2
  refine Ev.step (f := fun k => (spec_IsFeature.f k (l.getD i z57).f0 (l.getD i z57).f1 (l.getD i z57).f2 (l.getD i z57).f3 (l.getD i z57).f4).bind fun t242 => (if t242 = true then (if (i : Int) > 0 then (if 0 ≤ (wrap64 ((i : Int) - 1)) then (if (wrap64 ((i : Int) - 1)) < (l.length : Int) then (if ((rd_T57 l (wrap64 ((i : Int) - 1))).f0) ≥ ((l.getD i z57).f0) then (some false) else (spec_IsSource.l0 k l ((i + 1 : Nat) : Int))) else (none)) else (none)) else (spec_IsSource.l0 k l ((i + 1 : Nat) : Int))) else (some false))) (fun k => ?_) (Ev.bind ft ?_)
  ·simp only [spec_IsSource.l0]
   rw [if_pos (by omega), if_pos (by omega), rdFg, w1' i (by omega)]
  ·unfold chk ftF
   cases hf : ftB (l.getD i z57).f0 (l.getD i z57).f1 (l.getD i z57).f2 (l.getD i z57).f3 (l.getD i z57).f4
   ·simp only [Bool.false_eq_true, if_false, Bool.false_and]; exact Ev.now _
   ·simp only [if_true, Bool.true_and]
    by_cases h0 : i = 0
    ·subst h0
     simp only [if_neg (show ¬ (((0 : Nat) : Int) > 0) by omega), decide_true, Bool.true_or, Bool.true_and]
     exact hr
    ·have hw : wrap64 ((i : Int) - 1) = ((i - 1 : Nat) : Int) := by unfold wrap64; omega
     simp only [if_pos (show (i : Int) > 0 by omega), hw, if_pos (show 0 ≤ ((i - 1 : Nat) : Int) by omega), if_pos (show ((i - 1 : Nat) : Int) < (l.length : Int) by omega), rdFg, decide_eq_false h0, Bool.false_or]
     by_cases hc : (l.getD (i - 1) z57).f0 < (l.getD i z57).f0
     ·simp only [if_neg (show ¬ ((l.getD (i - 1) z57).f0 ≥ (l.getD i z57).f0) by omega), decide_eq_true hc, Bool.true_and]
      exact hr
     ·simp only [if_pos (show (l.getD (i - 1) z57).f0 ≥ (l.getD i z57).f0 by omega), decide_eq_false hc, Bool.false_and]
      exact Ev.now _
theorem src_il (d : Nat) : ∀ i : Nat, i + d = l.length → Ev (fun k => impl_IsSource.l0 k l l (l.length : Int) (i : Int)) (srcR l i d) := by
 induction d with
 | zero =>
  intro i hi
  refine Ev.step (f := fun _ => some true) (fun k => ?_) (Ev.now _)
  simp only [impl_IsSource.l0]
  rw [if_neg (by omega)]
 | succ d ih =>
  intro i hi
  have hlt : i < l.length := by omega
  have hm : l.getD i z57 ∈ l := by rw [List.getD_eq_getElem?_getD, List.getElem?_eq_getElem hlt]; exact List.getElem_mem hlt
  obtain ⟨g1, g2⟩ := hx _ hm
  have e : srcR l i (d + 1) = (chk l i && srcR l (i + 1) d) := by unfold srcR; rw [List.range'_succ, List.all_cons]
  rw [e]
  have hr := ih (i + 1) (by omega)
  have ft := ft_i (l.getD i z57).f0 (l.getD i z57).f1 (l.getD i z57).f2 (l.getD i z57).f3 g1 (l.getD i z57).f4 g2
  refine Ev.step (f := fun k => (impl_IsFeature.f k (l.getD i z57).f0 (l.getD i z57).f1 (l.getD i z57).f2 (l.getD i z57).f3 (l.getD i z57).f4).bind fun t242 => (if t242 = true then (if (i : Int) > 0 then (if 0 ≤ (wrap64 ((i : Int) - 1)) then (if (wrap64 ((i : Int) - 1)) < (l.length : Int) then (if ((l.getD i z57).f0) ≤ ((rd_T57 l (wrap64 ((i : Int) - 1))).f0) then (some false) else (impl_IsSource.l0 k l l (l.length : Int) ((i + 1 : Nat) : Int))) else (none)) else (none)) else (impl_IsSource.l0 k l l (l.length : Int) ((i + 1 : Nat) : Int))) else (some false))) (fun k => ?_) (Ev.bind ft ?_)
  ·simp only [impl_IsSource.l0]
   rw [if_pos (by omega), if_pos (by omega), if_pos (by omega), rdFg, w1' i (by omega)]
  ·unfold chk ftF
   cases hf : ftB (l.getD i z57).f0 (l.getD i z57).f1 (l.getD i z57).f2 (l.getD i z57).f3 (l.getD i z57).f4
   ·simp only [Bool.false_eq_true, if_false, Bool.false_and]; exact Ev.now _
   ·simp only [if_true, Bool.true_and]
    by_cases h0 : i = 0
    ·subst h0
     simp only [if_neg (show ¬ (((0 : Nat) : Int) > 0) by omega), decide_true, Bool.true_or, Bool.true_and]
     exact hr
    ·have hw : wrap64 ((i : Int) - 1) = ((i - 1 : Nat) : Int) := by unfold wrap64; omega
     simp only [if_pos (show (i : Int) > 0 by omega), hw, if_pos (show 0 ≤ ((i - 1 : Nat) : Int) by omega), if_pos (show ((i - 1 : Nat) : Int) < (l.length : Int) by omega), rdFg, decide_eq_false h0, Bool.false_or]
     by_cases hc : (l.getD (i - 1) z57).f0 < (l.getD i z57).f0
     ·simp only [if_neg (show ¬ ((l.getD i z57).f0 ≤ (l.getD (i - 1) z57).f0) by omega), decide_eq_true hc, Bool.true_and]
      exact hr
     ·simp only [if_pos (show (l.getD i z57).f0 ≤ (l.getD (i - 1) z57).f0 by omega), decide_eq_false hc, Bool.false_and]
      exact Ev.now _
theorem src_s : Ev (fun k => spec_IsSource.f k l) (srB l) := src_sl l hb hx l.length 0 (by omega)
theorem src_i : Ev (fun k => impl_IsSource.f k l) (srB l) := by
 unfold impl_IsSource.f srB
 by_cases h : (l.length : Int) > 16
 ·simp only [if_pos h, decide_eq_false (show ¬ ((l.length : Int) ≤ 16) by omega), Bool.and_false]; exact Ev.now _
 ·simp only [if_neg h, decide_eq_true (show (l.length : Int) ≤ 16 by omega), Bool.and_true]
  exact src_il l hb hx l.length 0 (by omega)
end
theorem pcB_len (a b c : Int) (s : ByteArray) (l : List S59) (e f g h : Int) : (pcB a b c s l e f g h).length ≤ 1000 := by
 unfold pcB
 split
 ·split <;> simp
 ·unfold fpB
  rw [List.length_map]
  have h1 := List.length_filter_le (fun j => mbB ((prB a b c s l).getD j z149).f0.f0 ((prB a b c s l).getD j z149).f0.f1 ((prB a b c s l).getD j z149).f1.f0 ((prB a b c s l).getD j z149).f1.f1 e f g h) (List.range' 0 (prB a b c s l).length)
  rw [List.length_range'] at h1
  have := prB_len a b c s l
  omega
def pcF (x : S57) (e f g h : Int) : List S83 := pcB x.f0 x.f1 x.f2 x.f3 x.f4 e f g h
def pnF (l : List S57) (e f g h : Int) (i d : Nat) : List S83 := (List.range' i d).flatMap fun i => pcF (l.getD i z57) e f g h
theorem pnF_step (l : List S57) (e f g h : Int) (i d : Nat) : pnF l e f g h i (d + 1) = pcF (l.getD i z57) e f g h ++ pnF l e f g h (i + 1) d := by unfold pnF; rw [List.range'_succ, List.flatMap_cons]
theorem pnF_len (l : List S57) (e f g h : Int) (d : Nat) : ∀ i, (pnF l e f g h i d).length ≤ 1000 * d := by
 induction d with
 | zero => intro i; simp [pnF]
 | succ d ih =>
  intro i
  have h1 := pcB_len (l.getD i z57).f0 (l.getD i z57).f1 (l.getD i z57).f2 (l.getD i z57).f3 (l.getD i z57).f4 e f g h
  have h2 := ih (i + 1)
  rw [pnF_step, List.length_append]
  unfold pcF
  omega
theorem src_ft {l : List S57} (hs : srB l = true) (i : Nat) (hi : i < l.length) : ftF (l.getD i z57) = true := by
 unfold srB srcR at hs
 rw [Bool.and_eq_true, List.all_eq_true] at hs
 have := hs.1 i (by simp [List.mem_range']; omega)
 unfold chk at this
 rw [Bool.and_eq_true] at this
 exact this.1
theorem ft_len1 {x : S57} (h : ftF x = true) (h1 : x.f1 = 1) : x.f4.length = 1 := by
 unfold ftF ftB kdB at h
 simp only [Bool.and_eq_true] at h
 have h := h.2.2.2
 rw [if_pos h1, Bool.and_eq_true, decide_eq_true_eq] at h
 exact h.1
section
variable (l : List S57) (hb : l.length < 9223372036854775807) (hx : ∀ x ∈ l, x.f3.size ≤ 9223372036854775807 ∧ x.f4.length < 9223372036854775807)
include hb hx
theorem pn_sl (hs : srB l = true) (e f g h : Int) (d : Nat) : ∀ (i : Nat) (o : List S83), i + d = l.length → o.length + 1000 * d ≤ 900000 → Ev (fun k => spec_PiecesIn.l0 k l o true (i : Int) e f g h) (o ++ pnF l e f g h i d) := by
 induction d with
 | zero =>
  intro i o hi ho
  rw [show pnF l e f g h i 0 = [] from rfl, List.append_nil]
  refine Ev.step (f := fun k => spec_PiecesIn.j1 k l o true (i : Int) false e f g h) (fun k => ?_) (Ev.step (f := fun _ => some o) (fun k => by simp [spec_PiecesIn.j1]) (Ev.now _))
  simp only [spec_PiecesIn.l0]
  rw [if_neg (by omega)]
 | succ d ih =>
  intro i o hi ho
  have hlt : i < l.length := by omega
  have hm : l.getD i z57 ∈ l := by rw [List.getD_eq_getElem?_getD, List.getElem?_eq_getElem hlt]; exact List.getElem_mem hlt
  obtain ⟨g1, g2⟩ := hx _ hm
  have hft := src_ft hs i hlt
  have src := src_s l hb hx
  rw [hs] at src
  have hlen := pcB_len (l.getD i z57).f0 (l.getD i z57).f1 (l.getD i z57).f2 (l.getD i z57).f3 (l.getD i z57).f4 e f g h
  have hr := ih (i + 1) (o ++ pcF (l.getD i z57) e f g h) (by omega) (by rw [List.length_append]; unfold pcF; omega)
  rw [pnF_step, ← List.append_assoc]
  have pr := pr_s (l.getD i z57).f0 (l.getD i z57).f1 (l.getD i z57).f2 (l.getD i z57).f3 g1 (l.getD i z57).f4 g2
  have pc := pc_s (l.getD i z57).f0 (l.getD i z57).f1 (l.getD i z57).f2 (l.getD i z57).f3 (l.getD i z57).f4 (ft_len1 hft) e f g h
  refine Ev.step (f := fun k => (spec_IsSource.f k l).bind fun t190 => spec_PiecesIn.j1 k l o true (i : Int) t190 e f g h) (fun k => ?_) (Ev.bind src ?_)
  ·simp only [spec_PiecesIn.l0, if_true]
   rw [if_pos (by omega)]
  ·refine Ev.step (f := fun k => (spec_PartsOf.f k (l.getD i z57).f0 (l.getD i z57).f1 (l.getD i z57).f2 (l.getD i z57).f3 (l.getD i z57).f4).bind fun t329 => ((spec_l20Pieces.f k (l.getD i z57).f0 (l.getD i z57).f1 (l.getD i z57).f2 (l.getD i z57).f3 (l.getD i z57).f4 t329 e f g h).bind fun t332 => (if o.length + t332.length < 8796093022208 then (spec_PiecesIn.l0 k l (o ++ t332) true ((i + 1 : Nat) : Int) e f g h) else (none)))) (fun k => ?_) (Ev.bind pr (Ev.bind pc ?_))
   ·simp only [spec_PiecesIn.j1, if_true, rdFg]
    rw [if_pos (by omega), if_pos (by omega), w1' i (by omega)]
   ·simp only [if_pos (show o.length + (pcB (l.getD i z57).f0 (l.getD i z57).f1 (l.getD i z57).f2 (l.getD i z57).f3 (l.getD i z57).f4 e f g h).length < 8796093022208 by omega)]
    exact hr
theorem pn_il (hs : srB l = true) (e f g h : Int) (d : Nat) : ∀ (i : Nat) (o : List S83), i + d = l.length → o.length + 1000 * d ≤ 900000 → Ev (fun k => impl_PiecesIn.l0 k o l (l.length : Int) (i : Int) e f g h) (o ++ pnF l e f g h i d) := by
 induction d with
 | zero =>
  intro i o hi ho
  rw [show pnF l e f g h i 0 = [] from rfl, List.append_nil]
  refine Ev.step (f := fun _ => some o) (fun k => ?_) (Ev.now _)
  simp only [impl_PiecesIn.l0]
  rw [if_neg (by omega)]
 | succ d ih =>
  intro i o hi ho
  have hlt : i < l.length := by omega
  have hm : l.getD i z57 ∈ l := by rw [List.getD_eq_getElem?_getD, List.getElem?_eq_getElem hlt]; exact List.getElem_mem hlt
  obtain ⟨g1, g2⟩ := hx _ hm
  have hft := src_ft hs i hlt
  have hlen := pcB_len (l.getD i z57).f0 (l.getD i z57).f1 (l.getD i z57).f2 (l.getD i z57).f3 (l.getD i z57).f4 e f g h
  have hr := ih (i + 1) (o ++ pcF (l.getD i z57) e f g h) (by omega) (by rw [List.length_append]; unfold pcF; omega)
  rw [pnF_step, ← List.append_assoc]
  have pc := pc_i (l.getD i z57).f0 (l.getD i z57).f1 (l.getD i z57).f2 (l.getD i z57).f3 g1 (l.getD i z57).f4 g2 (ft_len1 hft) e f g h
  refine Ev.step (f := fun k => (impl_piecesOf.f k (l.getD i z57).f0 (l.getD i z57).f1 (l.getD i z57).f2 (l.getD i z57).f3 (l.getD i z57).f4 e f g h false).bind fun t528 => (if o.length + t528.length < 8796093022208 then (impl_PiecesIn.l0 k (o ++ t528) l (l.length : Int) ((i + 1 : Nat) : Int) e f g h) else (none))) (fun k => ?_) (Ev.bind pc ?_)
  ·simp only [impl_PiecesIn.l0, rdFg]
   rw [if_pos (by omega), if_pos (by omega), if_pos (by omega), w1' i (by omega)]
  ·simp only [if_pos (show o.length + (pcB (l.getD i z57).f0 (l.getD i z57).f1 (l.getD i z57).f2 (l.getD i z57).f3 (l.getD i z57).f4 e f g h).length < 8796093022208 by omega)]
   exact hr
omit hb hx in
theorem src16 (hs : srB l = true) : l.length ≤ 16 := by
 unfold srB at hs
 rw [Bool.and_eq_true, decide_eq_true_eq] at hs
 omega
/-- The pieces in a tile. -/
def pinV (l : List S57) (t : Int) : List S83 := if (tbB t).2.2.2.2 = true ∧ srB l = true then pnF l (tbB t).1 (tbB t).2.1 (tbB t).2.2.1 (tbB t).2.2.2.1 0 l.length else []
theorem pin_s (t : Int) : Ev (fun k => spec_PiecesIn.f k l t) (pinV l t) := by
 unfold spec_PiecesIn.f pinV
 simp only [tb_s, Option.bind_some]
 generalize tbB t = B
 obtain ⟨e, f, g, h, ok⟩ := B
 have dead : ∀ ok : Bool, Ev (fun k => spec_PiecesIn.j1 k l [] ok 0 false e f g h) [] := fun ok => Ev.step (f := fun _ => some []) (fun k => by simp [spec_PiecesIn.j1]) (Ev.now _)
 have src := src_s l hb hx
 cases ok with
 | false =>
  rw [if_neg (by simp)]
  by_cases h0 : (0 : Int) < (l.length : Int)
  ·refine Ev.step (fun k => ?_) (dead false)
   simp only [spec_PiecesIn.l0, Bool.false_eq_true, if_false]
   rw [if_pos h0]
  ·refine Ev.step (fun k => ?_) (dead false)
   simp only [spec_PiecesIn.l0]
   rw [if_neg h0]
 | true =>
  by_cases hs : srB l = true
  ·rw [if_pos ⟨rfl, hs⟩]
   have h16 := src16 l hs
   have r := pn_sl l hb hx hs e f g h l.length 0 [] (by omega) (by simp; omega)
   rw [List.nil_append] at r
   exact r
  ·rw [if_neg (fun q => hs q.2)]
   have hf : srB l = false := by simpa using hs
   rw [hf] at src
   by_cases h0 : (0 : Int) < (l.length : Int)
   ·refine Ev.step (f := fun k => (spec_IsSource.f k l).bind fun t248 => spec_PiecesIn.j1 k l [] true 0 t248 e f g h) (fun k => ?_) (Ev.bind src (dead true))
    simp only [spec_PiecesIn.l0, if_true]
    rw [if_pos h0]
   ·refine Ev.step (fun k => ?_) (dead true)
    simp only [spec_PiecesIn.l0]
    rw [if_neg h0]
theorem pin_i (t : Int) : Ev (fun k => impl_PiecesIn.f k l t) (pinV l t) := by
 unfold impl_PiecesIn.f pinV
 simp only [tb_i, Option.bind_some]
 generalize tbB t = B
 obtain ⟨e, f, g, h, ok⟩ := B
 have dead : Ev (fun k => impl_PiecesIn.j0 k l [] true e f g h) [] := Ev.step (f := fun _ => some []) (fun k => by simp [impl_PiecesIn.j0]) (Ev.now _)
 have src := src_i l hb hx
 cases ok with
 | false =>
  rw [if_neg (by simp)]
  simp only [Bool.false_eq_true, if_false]
  exact dead
 | true =>
  simp only [if_true]
  refine Ev.bind src ?_
  by_cases hs : srB l = true
  ·rw [if_pos (And.intro trivial hs)]
   have h16 := src16 l hs
   have r := pn_il l hb hx hs e f g h l.length 0 [] (by omega) (by simp; omega)
   rw [List.nil_append] at r
   simp only [hs, Bool.not_true]
   exact Ev.step (fun k => by simp [impl_PiecesIn.j0]) r
  ·rw [if_neg (fun q => hs q.2)]
   have hf : srB l = false := by simpa using hs
   simp only [hf, Bool.not_false]
   exact dead
omit hb hx in
theorem pinV_len (t : Int) : (pinV l t).length ≤ 900000 := by
 unfold pinV
 split
 ·rename_i h
  have := src16 l h.2
  have := pnF_len l (tbB t).1 (tbB t).2.1 (tbB t).2.2.1 (tbB t).2.2.2.1 l.length 0
  omega
 ·simp
end
theorem ffs_l (l : List S57) (hb : l.length < 9223372036854775807) (id : Int) (d : Nat) : ∀ i : Nat, i + d = l.length → Ev (fun k => spec_FindFeature.l0 k l id (i : Int)) (ffI (l.drop i) id (i : Int)) := by
 induction d with
 | zero =>
  intro i hi
  rw [List.drop_of_length_le (by omega)]
  refine Ev.step (f := fun _ => some (-1)) (fun k => ?_) (Ev.now _)
  simp only [spec_FindFeature.l0]
  rw [if_neg (by omega)]
 | succ d ih =>
  intro i hi
  have hlt : i < l.length := by omega
  rw [List.drop_eq_getElem_cons hlt, ffI]
  have hg : l.getD i z57 = l[i] := by rw [List.getD_eq_getElem?_getD, List.getElem?_eq_getElem hlt]; rfl
  by_cases he : l[i].f0 = id
  ·rw [if_pos he]
   refine Ev.step (f := fun _ => some (i : Int)) (fun k => ?_) (Ev.now _)
   simp only [spec_FindFeature.l0, rdFg, hg]
   rw [if_pos (by omega), if_pos (by omega), if_pos he]
  ·rw [if_neg he]
   refine Ev.step (fun k => ?_) (ih (i + 1) (by omega))
   simp only [spec_FindFeature.l0, rdFg, hg]
   rw [if_pos (by omega), if_pos (by omega), if_neg he, w1' i (by omega)]
theorem ff_s (l : List S57) (hb : l.length < 9223372036854775807) (id : Int) : Ev (fun k => spec_FindFeature.f k l id) (ffI l id 0) := by
 have := ffs_l l hb id l.length 0 (by omega)
 rw [List.drop_zero] at this
 exact this
theorem ff_i (l : List S57) (hb : l.length < 9223372036854775807) (id : Int) : impl_FindFeature.f l id = some (ffI l id 0) := by
 unfold impl_FindFeature.f
 rw [if_pos (by omega)]
theorem ffI_in (l : List S57) (id : Int) : (∃ x ∈ l, x.f0 = id) → ∀ b : Int, ∃ i : Nat, i < l.length ∧ ffI l id b = b + (i : Int) ∧ (l.getD i z57).f0 = id := by
 induction l with
 | nil => rintro ⟨x, hx, _⟩; cases hx
 | cons y r ih =>
  rintro ⟨x, hx, he⟩ b
  by_cases hy : y.f0 = id
  ·exact ⟨0, by simp, by rw [ffI, if_pos hy]; simp, by simpa using hy⟩
  ·rcases List.mem_cons.1 hx with rfl | hx
   ·exact absurd he hy
   ·obtain ⟨i, h1, h2, h3⟩ := ih ⟨x, hx, he⟩ (b + 1)
    exact ⟨i + 1, by simpa using h1, by rw [ffI, if_neg hy, h2]; push_cast; omega, by simpa using h3⟩
theorem ffI_no (l : List S57) (id : Int) : (∀ x ∈ l, x.f0 ≠ id) → ∀ b : Int, ffI l id b = -1 := by
 induction l with
 | nil => intro _ b; rfl
 | cons y r ih =>
  intro h b
  rw [ffI, if_neg (h y (List.mem_cons_self ..)), ih (fun x hx => h x (List.mem_cons_of_mem _ hx))]
theorem rdPc (l : List S83) (i : Nat) : rd_T83 l (i : Int) = l.getD i z83 := by unfold rd_T83; rw [Int.toNat_natCast]
theorem pcB_id (a b c : Int) (s : ByteArray) (l : List S59) (e f g h : Int) : ∀ p ∈ pcB a b c s l e f g h, p.f0 = a := by
 intro p hp
 unfold pcB at hp
 split at hp
 ·split at hp
  ·rw [List.mem_singleton] at hp; subst hp; rfl
  ·cases hp
 ·unfold fpB at hp
  obtain ⟨j, _, rfl⟩ := List.mem_map.1 hp
  rfl
theorem pin_id (l : List S57) (t : Int) : ∀ p ∈ pinV l t, ∃ x ∈ l, x.f0 = p.f0 := by
 intro p hp
 unfold pinV at hp
 split at hp
 ·unfold pnF at hp
  obtain ⟨i, hi, hp⟩ := List.mem_flatMap.1 hp
  have hlt : i < l.length := by simp [List.mem_range'] at hi; omega
  refine ⟨l.getD i z57, by rw [List.getD_eq_getElem?_getD, List.getElem?_eq_getElem hlt]; exact List.getElem_mem hlt, ?_⟩
  exact (pcB_id _ _ _ _ _ _ _ _ _ p hp).symm
 ·cases hp
/-- The digest of a piece, its feature found in a list. -/
def dgV (l : List S57) (p : S83) : Int := dgB (l.getD (ffI l p.f0 0).toNat z57).f0 (l.getD (ffI l p.f0 0).toNat z57).f1 (l.getD (ffI l p.f0 0).toNat z57).f2 (l.getD (ffI l p.f0 0).toNat z57).f3 (l.getD (ffI l p.f0 0).toNat z57).f4 p.f1
def tdV (l : List S57) (t : Int) : Int := if (tbB t).2.2.2.2 = true ∧ srB l = true then hsI ((pinV l t).map (dgV l)) else 0
section
variable (l : List S57) (hb : l.length < 9223372036854775807) (hx : ∀ x ∈ l, x.f3.size ≤ 9223372036854775807 ∧ x.f4.length < 9223372036854775807) (hx3 : ∀ x ∈ l, x.f3.size ≤ 1048576)
include hb hx hx3
theorem td_sl (P : List S83) (hP : P.length ≤ 900000) (hid : ∀ p ∈ P, ∃ x ∈ l, x.f0 = p.f0) (d : Nat) : ∀ (i : Nat) (o : List Int), i + d = P.length → o.length = i → Ev (fun k => spec_TileDigest.l0 k l o P (i : Int)) (hsI (o ++ (P.drop i).map (dgV l))) := by
 induction d with
 | zero =>
  intro i o hi ho
  rw [List.drop_of_length_le (by omega), List.map_nil, List.append_nil]
  refine Ev.step (f := fun k => (spec_Hash.f k o).bind fun t => some t) (fun k => ?_) (Ev.bind (hash_s o (by omega)) (Ev.now _))
  simp only [spec_TileDigest.l0]
  rw [if_neg (by omega)]
 | succ d ih =>
  intro i o hi ho
  have hlt : i < P.length := by omega
  have hg : P.getD i z83 = P[i] := by rw [List.getD_eq_getElem?_getD, List.getElem?_eq_getElem hlt]; rfl
  have hr := ih (i + 1) (o ++ [dgV l P[i]]) (by omega) (by simp; omega)
  rw [List.drop_eq_getElem_cons hlt, List.map_cons]
  rw [List.append_assoc, List.singleton_append] at hr
  obtain ⟨j, hj, e1, e2⟩ := ffI_in l P[i].f0 (hid _ (List.getElem_mem hlt)) 0
  have e1' : ffI l P[i].f0 0 = (j : Int) := by omega
  have hm : l.getD j z57 ∈ l := by rw [List.getD_eq_getElem?_getD, List.getElem?_eq_getElem hj]; exact List.getElem_mem hj
  have dd := dg_s (l.getD j z57).f0 (l.getD j z57).f1 (l.getD j z57).f2 (l.getD j z57).f3 (hx3 _ hm) (l.getD j z57).f4 (hx _ hm).2 P[i].f1
  have e3 : dgV l P[i] = dgB (l.getD j z57).f0 (l.getD j z57).f1 (l.getD j z57).f2 (l.getD j z57).f3 (l.getD j z57).f4 P[i].f1 := by unfold dgV; rw [e1', Int.toNat_natCast]
  rw [← e3] at dd
  have fs := ff_s l hb P[i].f0
  rw [e1'] at fs
  refine Ev.step (f := fun k => (spec_FindFeature.f k l P[i].f0).bind fun t => if 0 ≤ t then (if t < (l.length : Int) then ((spec_PieceDigest.f k (rd_T57 l t).f0 (rd_T57 l t).f1 (rd_T57 l t).f2 (rd_T57 l t).f3 (rd_T57 l t).f4 P[i].f1).bind fun t382 => (if o.length < 17592186044416 then (spec_TileDigest.l0 k l (o ++ [t382]) P ((i + 1 : Nat) : Int)) else none)) else none) else none) (fun k => ?_) (Ev.bind fs ?_)
  ·simp only [spec_TileDigest.l0, rdPc, hg]
   rw [if_pos (by omega), if_pos (by omega), w1' i (by omega)]
  ·simp only [if_pos (show 0 ≤ (j : Int) by omega), if_pos (show (j : Int) < (l.length : Int) by omega), rdFg]
   refine Ev.bind dd ?_
   simp only [if_pos (show o.length < 17592186044416 by omega)]
   exact hr
theorem td_il (P : List S83) (hP : P.length ≤ 900000) (hid : ∀ p ∈ P, ∃ x ∈ l, x.f0 = p.f0) (d : Nat) : ∀ (i : Nat) (o : List Int), i + d = P.length → o.length = i → Ev (fun k => impl_digests.l0 k l o P (P.length : Int) (i : Int)) (o ++ (P.drop i).map (dgV l)) := by
 induction d with
 | zero =>
  intro i o hi ho
  rw [List.drop_of_length_le (by omega), List.map_nil, List.append_nil]
  refine Ev.step (f := fun _ => some o) (fun k => ?_) (Ev.now _)
  simp only [impl_digests.l0]
  rw [if_neg (by omega)]
 | succ d ih =>
  intro i o hi ho
  have hlt : i < P.length := by omega
  have hg : P.getD i z83 = P[i] := by rw [List.getD_eq_getElem?_getD, List.getElem?_eq_getElem hlt]; rfl
  have hr := ih (i + 1) (o ++ [dgV l P[i]]) (by omega) (by simp; omega)
  rw [List.drop_eq_getElem_cons hlt, List.map_cons]
  rw [List.append_assoc, List.singleton_append] at hr
  obtain ⟨j, hj, e1, e2⟩ := ffI_in l P[i].f0 (hid _ (List.getElem_mem hlt)) 0
  have e1' : ffI l P[i].f0 0 = (j : Int) := by omega
  have hm : l.getD j z57 ∈ l := by rw [List.getD_eq_getElem?_getD, List.getElem?_eq_getElem hj]; exact List.getElem_mem hj
  have dd := dg_i (l.getD j z57).f0 (l.getD j z57).f1 (l.getD j z57).f2 (l.getD j z57).f3 (hx3 _ hm) (l.getD j z57).f4 (hx _ hm).2 P[i].f1
  have e3 : dgV l P[i] = dgB (l.getD j z57).f0 (l.getD j z57).f1 (l.getD j z57).f2 (l.getD j z57).f3 (l.getD j z57).f4 P[i].f1 := by unfold dgV; rw [e1', Int.toNat_natCast]
  rw [← e3] at dd
  refine Ev.step (f := fun k => (impl_PieceDigest.f k (rd_T57 l (j : Int)).f0 (rd_T57 l (j : Int)).f1 (rd_T57 l (j : Int)).f2 (rd_T57 l (j : Int)).f3 (rd_T57 l (j : Int)).f4 P[i].f1).bind fun t382 => (if o.length < 17592186044416 then (impl_digests.l0 k l (o ++ [t382]) P (P.length : Int) ((i + 1 : Nat) : Int)) else none)) (fun k => ?_) ?_
  ·simp only [impl_digests.l0, rdPc, hg, ff_i l hb, e1', Option.bind_some]
   rw [if_pos (by omega), if_pos (by omega), if_pos (by omega), if_pos (by omega), if_pos (by omega), w1' i (by omega)]
  ·simp only [rdFg]
   refine Ev.bind dd ?_
   simp only [if_pos (show o.length < 17592186044416 by omega)]
   exact hr
theorem td_s (t : Int) : Ev (fun k => spec_TileDigest.f k l t) (tdV l t) := by
 unfold spec_TileDigest.f tdV
 simp only [tb_s, Option.bind_some]
 have src := src_s l hb hx
 have dead : Ev (fun k => spec_TileDigest.j0 k l t true) 0 := Ev.step (f := fun _ => some 0) (fun k => by simp [spec_TileDigest.j0]) (Ev.now _)
 have pp := pin_s l hb hx t
 have hlen := pinV_len l t
 have hid := pin_id l t
 generalize hok : (tbB t).2.2.2.2 = ok
 cases ok with
 | false =>
  rw [if_neg (by simp)]
  simp only [Bool.false_eq_true, if_false]
  exact dead
 | true =>
  simp only [if_true]
  refine Ev.bind src ?_
  by_cases hs : srB l = true
  ·rw [if_pos (And.intro trivial hs)]
   simp only [hs, Bool.not_true]
   refine Ev.step (f := fun k => (spec_PiecesIn.f k l t).bind fun t375 => spec_TileDigest.l0 k l ([] : List Int) t375 0) (fun k => by simp [spec_TileDigest.j0]) (Ev.bind pp ?_)
   have r := td_sl l hb hx hx3 (pinV l t) hlen hid (pinV l t).length 0 [] (by omega) rfl
   rw [List.nil_append, List.drop_zero] at r
   exact r
  ·rw [if_neg (fun q => hs q.2)]
   have hf : srB l = false := by simpa using hs
   simp only [hf, Bool.not_false]
   exact dead
theorem td_i (t : Int) : Ev (fun k => impl_TileDigest.f k l t) (tdV l t) := by
 unfold impl_TileDigest.f tdV
 simp only [tb_i, Option.bind_some]
 have src := src_i l hb hx
 have dead : Ev (fun k => impl_TileDigest.j0 k l t true) 0 := Ev.step (f := fun _ => some 0) (fun k => by simp [impl_TileDigest.j0]) (Ev.now _)
 have pp := pin_i l hb hx t
 have hlen := pinV_len l t
 have hid := pin_id l t
 generalize hok : (tbB t).2.2.2.2 = ok
 cases ok with
 | false =>
  rw [if_neg (by simp)]
  simp only [Bool.false_eq_true, if_false]
  exact dead
 | true =>
  simp only [if_true]
  refine Ev.bind src ?_
  by_cases hs : srB l = true
  ·rw [if_pos (And.intro trivial hs)]
   simp only [hs, Bool.not_true]
   refine Ev.step (f := fun k => (impl_PiecesIn.f k l t).bind fun t637 => ((impl_digests.f k l t637).bind fun t640 => ((impl_Hash.f k t640).bind fun t643 => (some t643)))) (fun k => by simp [impl_TileDigest.j0]) (Ev.bind pp ?_)
   have r := td_il l hb hx hx3 (pinV l t) hlen hid (pinV l t).length 0 [] (by omega) rfl
   rw [List.nil_append, List.drop_zero] at r
   exact Ev.bind r (Ev.bind (hash_i _ (by rw [List.length_map]; omega)) (Ev.now _))
  ·rw [if_neg (fun q => hs q.2)]
   have hf : srB l = false := by simpa using hs
   simp only [hf, Bool.not_false]
   exact dead
end
def ptsB : List S59 → List S59 → Bool
 | [], [] => true
 | x :: r, y :: s => decide (x.f0 = y.f0) && (decide (x.f1 = y.f1) && ptsB r s)
 | _, _ => false
def efB (x y : S57) : Bool := decide (x.f0 = y.f0) && (decide (x.f1 = y.f1) && (decide (x.f2 = y.f2) && (decide (x.f3.toList = y.f3.toList) && ptsB x.f4 y.f4)))
theorem es_w (i : Nat) (h : i < 9223372036854775807) : wrap64 ((i : Int) + 1) = ((i + 1 : Nat) : Int) := w1 i h
theorem es_rd (l : List S59) (i : Nat) (h : i < l.length) : rd_T59 l (i : Int) = l[i] := rdP_at l i h
theorem ptsB_len : ∀ a b : List S59, a.length ≠ b.length → ptsB a b = false
 | [], [], h => absurd rfl h
 | x :: r, y :: s, h => by rw [ptsB, ptsB_len r s (by simpa using h)]; simp
 | [], _ :: _, _ => rfl
 | _ :: _, [], _ => rfl
theorem ptsB_symm : ∀ a b : List S59, ptsB a b = ptsB b a
 | [], [] => rfl
 | x :: r, y :: s => by
  rw [ptsB, ptsB, ptsB_symm r s, decide_eq_decide.2 (eq_comm (a := x.f0) (b := y.f0)), decide_eq_decide.2 (eq_comm (a := x.f1) (b := y.f1))]
 | [], _ :: _ => rfl
 | _ :: _, [] => rfl
theorem efB_symm (x y : S57) : efB x y = efB y x := by
 unfold efB
 rw [ptsB_symm, decide_eq_decide.2 (eq_comm (a := x.f0) (b := y.f0)), decide_eq_decide.2 (eq_comm (a := x.f1) (b := y.f1)), decide_eq_decide.2 (eq_comm (a := x.f2) (b := y.f2)), decide_eq_decide.2 (eq_comm (a := x.f3.toList) (b := y.f3.toList))]
theorem efB_id {x y : S57} (h : efB x y = true) : x.f0 = y.f0 := by
 unfold efB at h
 rw [Bool.and_eq_true, decide_eq_true_iff] at h
 exact h.1
theorem ilin_l (a b : List S59) (hl : a.length = b.length) (hb : a.length < 9223372036854775807) (d : Nat) : ∀ i : Nat, i + d = a.length → Ev (fun k => impl_Point.l0 k a b (a.length : Int) (i : Int)) (ptsB (a.drop i) (b.drop i)) := by
 induction d with
 | zero =>
  intro i hi
  rw [List.drop_of_length_le (by omega), List.drop_of_length_le (by omega)]
  refine Ev.step (f := fun _ => some true) (fun k => ?_) (Ev.now _)
  simp only [impl_Point.l0]
  rw [if_neg (by omega)]
 | succ d ih =>
  intro i hi
  have h1 : i < a.length := by omega
  have h2 : i < b.length := by omega
  rw [List.drop_eq_getElem_cons h1, List.drop_eq_getElem_cons h2, ptsB]
  by_cases hc : a[i].f0 = b[i].f0 ∧ a[i].f1 = b[i].f1
  ·rw [decide_eq_true hc.1, decide_eq_true hc.2, Bool.true_and, Bool.true_and]
   refine Ev.step (fun k => ?_) (ih (i + 1) (by omega))
   simp only [impl_Point.l0, es_rd a i h1, es_rd b i h2]
   rw [if_pos (by omega), if_pos (by omega), if_pos (by omega), if_pos (by omega), if_neg (by simp [hc.1, hc.2]), es_w i (by omega)]
  ·have : (decide (a[i].f0 = b[i].f0) && (decide (a[i].f1 = b[i].f1) && ptsB (a.drop (i + 1)) (b.drop (i + 1)))) = false := by
    by_cases q : a[i].f0 = b[i].f0
    ·rw [decide_eq_false (fun h => hc ⟨q, h⟩)]; simp
    ·rw [decide_eq_false q]; simp
   rw [this]
   refine Ev.step (f := fun _ => some false) (fun k => ?_) (Ev.now _)
   simp only [impl_Point.l0, es_rd a i h1, es_rd b i h2]
   rw [if_pos (by omega), if_pos (by omega), if_pos (by omega), if_pos (by omega), if_pos (by by_cases q : a[i].f0 = b[i].f0 <;> simp [q]; intro h; exact hc ⟨q, h⟩)]
theorem ilin_f (a b : List S59) (hb : a.length < 9223372036854775807) : Ev (fun k => impl_Point.f k a b) (ptsB a b) := by
 unfold impl_Point.f
 by_cases hl : a.length = b.length
 ·simp only [if_pos (show (a.length : Int) = (b.length : Int) by omega)]
  exact ilin_l a b hl hb a.length 0 (by omega)
 ·simp only [if_neg (show ¬ (a.length : Int) = (b.length : Int) by omega)]
  rw [ptsB_len a b hl]
  exact Ev.now _
theorem ief_ev (x y : S57) (hb : x.f4.length < 9223372036854775807) : Ev (fun k => impl_EqualFeatures.f k x.f0 x.f1 x.f2 x.f3 x.f4 y.f0 y.f1 y.f2 y.f3 y.f4) (efB x y) := by
 unfold impl_EqualFeatures.f efB
 by_cases h0 : x.f0 = y.f0
 ·by_cases h1 : x.f1 = y.f1
  ·by_cases h2 : x.f2 = y.f2
   ·by_cases h3 : x.f3.toList = y.f3.toList
    ·simp only [if_pos h0, if_pos h1, if_pos h2, if_pos h3, decide_eq_true h0, decide_eq_true h1, decide_eq_true h2, decide_eq_true h3, Bool.true_and]
     exact Ev.bind (ilin_f _ _ hb) (Ev.now _)
    ·simp only [if_pos h0, if_pos h1, if_pos h2, if_neg h3, decide_eq_true h0, decide_eq_true h1, decide_eq_true h2, decide_eq_false h3, Bool.true_and, Bool.false_and]
     exact Ev.now _
   ·simp only [if_pos h0, if_pos h1, if_neg h2, decide_eq_true h0, decide_eq_true h1, decide_eq_false h2, Bool.true_and, Bool.false_and]
    exact Ev.now _
  ·simp only [if_pos h0, if_neg h1, decide_eq_true h0, decide_eq_false h1, Bool.true_and, Bool.false_and]
   exact Ev.now _
 ·simp only [if_neg h0, decide_eq_false h0, Bool.false_and]
  exact Ev.now _
theorem slin_l (a b : List S59) (hl : a.length = b.length) (hb : a.length < 9223372036854775807) (d : Nat) : ∀ i : Nat, i + d = a.length → Ev (fun k => spec_EqualLines.l0 k a b (i : Int)) (ptsB (a.drop i) (b.drop i)) := by
 induction d with
 | zero =>
  intro i hi
  rw [List.drop_of_length_le (by omega), List.drop_of_length_le (by omega)]
  refine Ev.step (f := fun _ => some true) (fun k => ?_) (Ev.now _)
  simp only [spec_EqualLines.l0]
  rw [if_neg (by omega)]
 | succ d ih =>
  intro i hi
  have h1 : i < a.length := by omega
  have h2 : i < b.length := by omega
  rw [List.drop_eq_getElem_cons h1, List.drop_eq_getElem_cons h2, ptsB]
  by_cases hc : a[i].f0 = b[i].f0 ∧ a[i].f1 = b[i].f1
  ·rw [decide_eq_true hc.1, decide_eq_true hc.2, Bool.true_and, Bool.true_and]
   refine Ev.step (fun k => ?_) (ih (i + 1) (by omega))
   simp only [spec_EqualLines.l0, es_rd a i h1, es_rd b i h2]
   rw [if_pos (by omega), if_pos (by omega), if_pos (by omega), if_neg (by simp [hc.1, hc.2]), es_w i (by omega)]
  ·have : (decide (a[i].f0 = b[i].f0) && (decide (a[i].f1 = b[i].f1) && ptsB (a.drop (i + 1)) (b.drop (i + 1)))) = false := by
    by_cases q : a[i].f0 = b[i].f0
    ·rw [decide_eq_false (fun h => hc ⟨q, h⟩)]; simp
    ·rw [decide_eq_false q]; simp
   rw [this]
   refine Ev.step (f := fun _ => some false) (fun k => ?_) (Ev.now _)
   simp only [spec_EqualLines.l0, es_rd a i h1, es_rd b i h2]
   rw [if_pos (by omega), if_pos (by omega), if_pos (by omega), if_pos (by by_cases q : a[i].f0 = b[i].f0 <;> simp [q]; intro h; exact hc ⟨q, h⟩)]
theorem slin_f (a b : List S59) (hb : a.length < 9223372036854775807) : Ev (fun k => spec_EqualLines.f k a b) (ptsB a b) := by
 unfold spec_EqualLines.f
 by_cases hl : a.length = b.length
 ·simp only [if_pos (show (a.length : Int) = (b.length : Int) by omega)]
  exact slin_l a b hl hb a.length 0 (by omega)
 ·simp only [if_neg (show ¬ (a.length : Int) = (b.length : Int) by omega)]
  rw [ptsB_len a b hl]
  exact Ev.now _
theorem sef_ev (x y : S57) (hb : x.f4.length < 9223372036854775807) : Ev (fun k => spec_EqualFeatures.f k x.f0 x.f1 x.f2 x.f3 x.f4 y.f0 y.f1 y.f2 y.f3 y.f4) (efB x y) := by
 unfold spec_EqualFeatures.f efB
 by_cases h0 : x.f0 = y.f0
 ·by_cases h1 : x.f1 = y.f1
  ·by_cases h2 : x.f2 = y.f2
   ·by_cases h3 : x.f3.toList = y.f3.toList
    ·simp only [if_pos h0, if_pos h1, if_pos h2, if_pos h3, decide_eq_true h0, decide_eq_true h1, decide_eq_true h2, decide_eq_true h3, Bool.true_and]
     exact Ev.bind (slin_f _ _ hb) (Ev.now _)
    ·simp only [if_pos h0, if_pos h1, if_pos h2, if_neg h3, decide_eq_true h0, decide_eq_true h1, decide_eq_true h2, decide_eq_false h3, Bool.true_and, Bool.false_and]
     exact Ev.now _
   ·simp only [if_pos h0, if_pos h1, if_neg h2, decide_eq_true h0, decide_eq_true h1, decide_eq_false h2, Bool.true_and, Bool.false_and]
    exact Ev.now _
  ·simp only [if_pos h0, if_neg h1, decide_eq_true h0, decide_eq_false h1, Bool.true_and, Bool.false_and]
   exact Ev.now _
 ·simp only [if_neg h0, decide_eq_false h0, Bool.false_and]
  exact Ev.now _
def Asc (l : List Int) : Prop := l.Pairwise (· < ·)
theorem asc_eq : ∀ {a b : List Int}, Asc a → Asc b → (∀ x, x ∈ a ↔ x ∈ b) → a = b
 | [], [], _, _, _ => rfl
 | [], y :: b, _, _, h => absurd ((h y).2 (List.mem_cons_self ..)) (by simp)
 | x :: a, [], _, _, h => absurd ((h x).1 (List.mem_cons_self ..)) (by simp)
 | x :: a, y :: b, ha, hb, h => by
  have ha' := List.pairwise_cons.1 ha
  have hb' := List.pairwise_cons.1 hb
  have e : x = y := by
   rcases List.mem_cons.1 ((h x).1 (List.mem_cons_self ..)) with e | h1
   ·exact e
   ·rcases List.mem_cons.1 ((h y).2 (List.mem_cons_self ..)) with e | h2
    ·exact e.symm
    ·have := ha'.1 y h2
     have := hb'.1 x h1
     omega
  subst e
  rw [asc_eq ha'.2 hb'.2 (fun z => ⟨fun hz => ?_, fun hz => ?_⟩)]
  ·rcases List.mem_cons.1 ((h z).1 (List.mem_cons_of_mem _ hz)) with e | h1
   ·subst e; have := ha'.1 z hz; omega
   ·exact h1
  ·rcases List.mem_cons.1 ((h z).2 (List.mem_cons_of_mem _ hz)) with e | h1
   ·subst e; have := hb'.1 z hz; omega
   ·exact h1
def putL : List Int → Int → List Int
 | [], n => [n]
 | x :: t, n => if x < n then x :: putL t n else if x = n then x :: t else n :: x :: t
theorem putL_mem (l : List Int) (n x : Int) : x ∈ putL l n ↔ x = n ∨ x ∈ l := by
 induction l with
 | nil => simp [putL]
 | cons y t ih =>
  unfold putL
  split
  ·rw [List.mem_cons, ih, List.mem_cons]
   constructor
   ·rintro (h | h | h) <;> simp [h]
   ·rintro (h | h | h) <;> simp [h]
  ·split
   ·rename_i h
    subst h
    simp
   ·simp
theorem putL_asc {l : List Int} (h : Asc l) (n : Int) : Asc (putL l n) := by
 induction l with
 | nil => exact List.pairwise_singleton _ _
 | cons y t ih =>
  have h' := List.pairwise_cons.1 h
  unfold putL
  split
  ·rename_i hy
   refine List.pairwise_cons.2 ⟨fun z hz => ?_, ih h'.2⟩
   rcases (putL_mem t n z).1 hz with e | hz
   ·subst e; exact hy
   ·exact h'.1 z hz
  ·split
   ·exact h
   ·rename_i h1 h2
    refine List.pairwise_cons.2 ⟨fun z hz => ?_, h⟩
    rcases List.mem_cons.1 hz with e | hz
    ·subst e; omega
    ·have := h'.1 z hz; omega
theorem putL_len (l : List Int) (n : Int) : (putL l n).length ≤ l.length + 1 := by
 induction l with
 | nil => simp [putL]
 | cons y t ih =>
  unfold putL
  split
  ·simp; omega
  ·split <;> simp
theorem put_l (l : List Int) (n : Int) (hb : l.length < 1000000000) (d : Nat) : ∀ i : Nat, i + d = l.length → Ev (fun k => spec_l14Put.l0 k l n (i : Int)) (l.take i ++ putL (l.drop i) n) := by
 induction d with
 | zero =>
  intro i hi
  refine Ev.step (f := fun _ => some (l.take i ++ putL (l.drop i) n)) (fun k => ?_) (Ev.now _)
  simp only [spec_l14Put.l0]
  rw [if_neg (by omega)]
  have e1 : l.take i = l := List.take_of_length_le (by omega)
  have e2 : l.drop i = [] := List.drop_of_length_le (by omega)
  simp only [Option.bind_some, Int.toNat_natCast, e1, e2, List.nil_append, List.length_nil, List.length_append, List.length_cons, putL, List.append_nil]
  rw [if_pos (by omega), if_pos (by omega), if_pos (by omega), if_pos (by omega), if_pos (by omega)]
 | succ d ih =>
  intro i hi
  have h1 : i < l.length := by omega
  have e := List.drop_eq_getElem_cons h1
  by_cases hc : l[i] < n
  ·have := ih (i + 1) (by omega)
   have e' : l.take (i + 1) ++ putL (l.drop (i + 1)) n = l.take i ++ putL (l.drop i) n := by
    rw [e, List.take_succ_eq_append_getElem h1, List.append_assoc]
    simp [putL, hc]
   rw [e'] at this
   refine Ev.step (fun k => ?_) this
   simp only [spec_l14Put.l0]
   rw [if_pos (by omega), if_pos (by omega), rd_at l i h1, if_pos hc, w1 i (by omega)]
  ·by_cases hn : l[i] = n
   ·have e' : l.take i ++ putL (l.drop i) n = l := by
     rw [e]
     simp only [putL, if_neg hc, if_pos hn]
     rw [← e, List.take_append_drop]
    rw [e']
    refine Ev.step (f := fun _ => some l) (fun k => ?_) (Ev.now _)
    simp only [spec_l14Put.l0]
    rw [if_pos (by omega), if_pos (by omega), rd_at l i h1, if_neg hc, if_pos hn]
    simp only [Option.bind_some, List.nil_append, List.length_nil]
    rw [if_pos (by omega)]
   ·have e' : putL (l.drop i) n = n :: l.drop i := by
     rw [e]
     simp only [putL, if_neg hc, if_neg hn]
    rw [e']
    refine Ev.step (f := fun _ => some (l.take i ++ n :: l.drop i)) (fun k => ?_) (Ev.now _)
    simp only [spec_l14Put.l0]
    rw [if_pos (by omega), if_pos (by omega), rd_at l i h1, if_neg hc, if_neg hn]
    simp only [Option.bind_some, Int.toNat_natCast, List.nil_append, List.length_nil, List.length_append, List.length_cons, List.length_take, List.length_drop]
    rw [if_pos (by omega), if_pos (by omega), if_pos (by omega), if_pos (by omega)]
    simp
theorem put (l : List Int) (n : Int) (hb : l.length < 1000000000) : Ev (fun k => spec_l14Put.f k l n) (putL l n) := by
 have := put_l l n hb l.length 0 (by omega)
 simpa [spec_l14Put.f] using this
def putAll (s : List Int) (l : List Int) : List Int := l.foldl putL s
theorem putAll_asc (l : List Int) : ∀ s, Asc s → Asc (putAll s l) := by
 induction l with
 | nil => intro s h; exact h
 | cons x t ih => intro s h; exact ih _ (putL_asc h x)
theorem putAll_mem (l : List Int) : ∀ s x, x ∈ putAll s l ↔ x ∈ s ∨ x ∈ l := by
 induction l with
 | nil => intro s x; simp [putAll]
 | cons y t ih =>
  intro s x
  have := ih (putL s y) x
  rw [putL_mem] at this
  show x ∈ putAll (putL s y) t ↔ _
  rw [this, List.mem_cons]
  constructor
  ·rintro ((h | h) | h) <;> simp [h]
  ·rintro (h | h | h) <;> simp [h]
theorem putAll_len (l : List Int) : ∀ s, (putAll s l).length ≤ s.length + l.length := by
 induction l with
 | nil => intro s; simp [putAll]
 | cons y t ih =>
  intro s
  have h1 := ih (putL s y)
  have h2 := putL_len s y
  show (putAll (putL s y) t).length ≤ _
  simp only [List.length_cons]
  omega
theorem compact_mem (l : List Int) (x : Int) : x ∈ Go.Lib.compact l ↔ x ∈ l := by
 unfold Go.Lib.compact Go.Lib.compactUpTo
 simp only [List.mem_map, List.mem_filter, List.mem_range]
 constructor
 ·rintro ⟨j, ⟨hj, _⟩, rfl⟩
  have : l.toArray[j]! = l[j] := by simp [hj]
  rw [this]
  exact List.getElem_mem _
 ·intro hx
  -- the first place that holds x
  have ex : ∃ j, j < l.length ∧ l.toArray[j]! = x ∧ ∀ i, i < j → l.toArray[i]! ≠ x := by
   obtain ⟨m, hm, e⟩ := List.getElem_of_mem hx
   have main : ∀ n, (∃ j, j < n ∧ j < l.length ∧ l.toArray[j]! = x) → ∃ j, j < l.length ∧ l.toArray[j]! = x ∧ ∀ i, i < j → l.toArray[i]! ≠ x := by
    intro n
    induction n with
    | zero => rintro ⟨j, hj, _⟩; omega
    | succ n ih =>
     rintro ⟨j, hj, hl, e⟩
     by_cases h : ∃ i, i < n ∧ i < l.length ∧ l.toArray[i]! = x
     ·exact ih h
     ·have : j = n := by
       rcases Nat.lt_or_ge j n with h' | h'
       ·exact absurd ⟨j, h', hl, e⟩ h
       ·omega
      subst this
      exact ⟨j, hl, e, fun i hi he => h ⟨i, hi, by omega, he⟩⟩
   exact main (m + 1) ⟨m, by omega, hm, by simp [hm, e]⟩
  obtain ⟨j, hj, e, hf⟩ := ex
  refine ⟨j, ⟨hj, ?_⟩, e⟩
  by_cases h0 : j = 0
  ·subst h0; simp [Go.Lib.keeps]
  ·exact Go.Lib.keeps_pos (by rw [e]; exact fun h => hf (j - 1) (by omega) h.symm)
theorem compact_asc {l : List Int} (h : l.Pairwise (· ≤ ·)) : Asc (Go.Lib.compact l) := by
 unfold Go.Lib.compact Go.Lib.compactUpTo Asc
 rw [List.pairwise_map]
 have hp : ((List.range l.length).filter (Go.Lib.keeps l.toArray)).Pairwise (· < ·) := List.Pairwise.filter _ List.pairwise_lt_range
 refine hp.imp_of_mem ?_
 intro a b ha hb hab
 have ha' := List.mem_filter.1 ha
 have hb' := List.mem_filter.1 hb
 have la := List.mem_range.1 ha'.1
 have lb := List.mem_range.1 hb'.1
 have ea : l.toArray[a]! = l[a] := by simp [la]
 have eb : l.toArray[b]! = l[b] := by simp [lb]
 have eb' : l.toArray[b - 1]! = l[b - 1] := by simp [show b - 1 < l.length by omega]
 have hne : l[b] ≠ l[b - 1] := by
  intro he
  have := Go.Lib.keeps_neg (d := l.toArray) (m := b) (by omega) (by rw [eb, eb', he])
  rw [this] at hb'
  exact absurd hb'.2 (by simp)
 have h1 : l[b - 1] ≤ l[b] := List.pairwise_iff_getElem.1 h (b - 1) b (by omega) lb (by omega)
 have h2 : l[a] ≤ l[b - 1] := by
  by_cases e : a = b - 1
  ·subst e; exact Int.le_refl _
  ·exact List.pairwise_iff_getElem.1 h a (b - 1) la (by omega) (by omega)
 rw [ea, eb]
 omega
theorem sorted_int (l : List Int) : (l.mergeSort fun x y => decide (x ≤ y)).Pairwise (· ≤ ·) := by
 have := List.pairwise_mergeSort (le := fun x y : Int => decide (x ≤ y)) (fun a b c h1 h2 => by simp at *; omega) (fun a b => by simp; omega) l
 exact this.imp (fun h => by simpa using h)
/-- Sorted and struck: the ascending list of the same elements. -/
theorem uniq_asc (l : List Int) : Asc (Go.Lib.compact (l.mergeSort fun x y => decide (x ≤ y))) := compact_asc (sorted_int l)
theorem uniq_mem (l : List Int) (x : Int) : x ∈ Go.Lib.compact (l.mergeSort fun x y => decide (x ≤ y)) ↔ x ∈ l := by rw [compact_mem]; exact List.mem_mergeSort
/-- That a source has a feature. -/
def hasB (b : List S57) (f : S57) : Bool := b.any fun y => efB y f
theorem has_l (b : List S57) (hb : b.length < 9223372036854775807) (hx : ∀ x ∈ b, x.f4.length < 9223372036854775807) (f : S57) (d : Nat) :
  ∀ i : Nat, i + d = b.length → Ev (fun k => spec_l21Has.l0 k b (i : Int) f.f0 f.f1 f.f2 f.f3 f.f4) (hasB (b.drop i) f) := by
 induction d with
 | zero =>
  intro i hi
  rw [List.drop_of_length_le (by omega)]
  refine Ev.step (f := fun _ => some false) (fun k => ?_) (Ev.now _)
  simp only [spec_l21Has.l0]
  rw [if_neg (by omega)]
 | succ d ih =>
  intro i hi
  have hl : i < b.length := by omega
  have e := sef_ev b[i] f (hx _ (List.getElem_mem hl))
  rw [List.drop_eq_getElem_cons hl]
  refine Ev.step (f := fun k => (spec_EqualFeatures.f k b[i].f0 b[i].f1 b[i].f2 b[i].f3 b[i].f4 f.f0 f.f1 f.f2 f.f3 f.f4).bind fun t => if t = true then some true else spec_l21Has.l0 k b ((i + 1 : Nat) : Int) f.f0 f.f1 f.f2 f.f3 f.f4) (fun k => ?_) (Ev.bind e ?_)
  ·simp only [spec_l21Has.l0, rdF_at b i hl]
   rw [if_pos (by omega), if_pos (by omega), w1 i (by omega)]
  ·unfold hasB
   rw [List.any_cons]
   cases hv : efB b[i] f
   ·simp only [Bool.false_eq_true, if_false, Bool.false_or]
    exact ih (i + 1) (by omega)
   ·simp only [if_true, Bool.true_or]
    exact Ev.now _
theorem has_f (b : List S57) (hb : b.length < 9223372036854775807) (hx : ∀ x ∈ b, x.f4.length < 9223372036854775807) (f : S57) : Ev (fun k => spec_l21Has.f k b f.f0 f.f1 f.f2 f.f3 f.f4) (hasB b f) := by
 have := has_l b hb hx f b.length 0 (by omega)
 rwa [List.drop_zero] at this
theorem src_next {l : List S57} (hs : srB l = true) (i : Nat) (h0 : 0 < i) (hi : i < l.length) : (l.getD (i - 1) z57).f0 < (l.getD i z57).f0 := by
 unfold srB srcR at hs
 rw [Bool.and_eq_true, List.all_eq_true] at hs
 have := hs.1 i (List.mem_range'_1.2 ⟨Nat.zero_le _, by omega⟩)
 unfold chk at this
 rw [Bool.and_eq_true, Bool.or_eq_true, decide_eq_true_iff, decide_eq_true_iff] at this
 rcases this.2 with h | h
 ·omega
 ·exact h
theorem src_lt {l : List S57} (hs : srB l = true) (i : Nat) : ∀ j : Nat, i < j → j < l.length → (l.getD i z57).f0 < (l.getD j z57).f0 := by
 intro j
 induction j with
 | zero => intro h; omega
 | succ j ih =>
  intro h1 h2
  have hn := src_next hs (j + 1) (by omega) h2
  rw [Nat.add_sub_cancel] at hn
  by_cases e : i = j
  ·subst e; exact hn
  ·have := ih (by omega) (by omega); omega
theorem src_inj {l : List S57} (hs : srB l = true) (i j : Nat) (hi : i < l.length) (hj : j < l.length) (e : (l.getD i z57).f0 = (l.getD j z57).f0) : i = j := by
 rcases Nat.lt_trichotomy i j with h | h | h
 ·have := src_lt hs i j h hj; omega
 ·exact h
 ·have := src_lt hs j i h hi; omega
/-- The program's way: the first of that number, and equal. -/
theorem has_find (b : List S57) (hs : srB b = true) (f : S57) : (ffI b f.f0 0 < 0 ∧ hasB b f = false) ∨ ∃ i : Nat, i < b.length ∧ ffI b f.f0 0 = (i : Int) ∧ hasB b f = efB f (b.getD i z57) := by
 by_cases h : ∃ x ∈ b, x.f0 = f.f0
 ·obtain ⟨i, h1, h2, h3⟩ := ffI_in b f.f0 h 0
  refine .inr ⟨i, h1, by omega, ?_⟩
  have hm : b.getD i z57 ∈ b := by rw [List.getD_eq_getElem?_getD, List.getElem?_eq_getElem h1]; exact List.getElem_mem h1
  rw [Bool.eq_iff_iff]
  unfold hasB
  rw [List.any_eq_true]
  constructor
  ·rintro ⟨y, hy, e⟩
   obtain ⟨j, hj, ej⟩ := List.mem_iff_getElem.1 hy
   have hg : b.getD j z57 = y := by rw [List.getD_eq_getElem?_getD, List.getElem?_eq_getElem hj]; exact ej
   have hij := src_inj hs i j h1 hj (by rw [h3, hg]; exact (efB_id e).symm)
   subst hij
   rw [hg, efB_symm]; exact e
  ·intro e
   exact ⟨_, hm, by rw [efB_symm]; exact e⟩
 ·have hno : ∀ x ∈ b, x.f0 ≠ f.f0 := fun x hx e => h ⟨x, hx, e⟩
  refine .inl ⟨by rw [ffI_no b f.f0 hno 0]; omega, ?_⟩
  unfold hasB
  rw [List.any_eq_false]
  intro y hy e
  exact hno y hy (efB_id e)
def tlsF (x : S57) : List Int := tlsB x.f0 x.f1 x.f2 x.f3 x.f4
/-- The tiles of the features of one source that the other one lacks. -/
def bey (b : List S57) (l : List S57) : List Int := l.flatMap fun x => if hasB b x = true then [] else tlsF x
theorem bey_cons (b : List S57) (x : S57) (l : List S57) : bey b (x :: l) = (if hasB b x = true then [] else tlsF x) ++ bey b l := by unfold bey; rw [List.flatMap_cons]
theorem bey_len (b : List S57) : ∀ l : List S57, (bey b l).length ≤ 441 * l.length
 | [] => by simp [bey]
 | x :: l => by
  have := bey_len b l
  have h2 := tlsB_len x.f0 x.f1 x.f2 x.f3 x.f4
  rw [bey_cons, List.length_append, List.length_cons]
  unfold tlsF
  split
  ·simp only [List.length_nil]; omega
  ·omega
section
variable (a b : List S57) (ha : a.length ≤ 16) (hb : b.length ≤ 16) (hxa : ∀ x ∈ a, x.f3.size ≤ 9223372036854775807 ∧ x.f4.length < 9223372036854775807) (hxb : ∀ x ∈ b, x.f3.size ≤ 9223372036854775807 ∧ x.f4.length < 9223372036854775807)
include ha hb hxa hxb
omit ha hb hxa hxb in
theorem add_l1 (i : Nat) (t : List Int) (ht : t.length ≤ 441) (v : List Int) (d : Nat) : ∀ (j : Nat) (o : List Int), j + d = t.length → o.length + d ≤ 100000 →
  Ev (fun k => spec_l21Add.l0 k (putAll o (t.drop j)) a b ((i + 1 : Nat) : Int)) v → i < 16 → Ev (fun k => spec_l21Add.l1 k o a b (i : Int) t (j : Int)) v := by
 induction d with
 | zero =>
  intro j o hj ho h hi
  rw [List.drop_of_length_le (by omega)] at h
  refine Ev.step (fun k => ?_) h
  simp only [spec_l21Add.l1]
  rw [if_neg (by omega), w1 i (by omega)]
  rfl
 | succ d ih =>
  intro j o hj ho h hi
  have hl : j < t.length := by omega
  rw [List.drop_eq_getElem_cons hl] at h
  have hp := putL_len o t[j]
  refine Ev.step (f := fun k => (spec_l14Put.f k o t[j]).bind fun q => spec_l21Add.l1 k q a b (i : Int) t ((j + 1 : Nat) : Int)) (fun k => ?_) (Ev.bind (put o t[j] (by omega)) (ih (j + 1) (putL o t[j]) (by omega) (by omega) h hi))
  simp only [spec_l21Add.l1]
  rw [if_pos (by omega), if_pos (by omega), rd_at t j hl, w1 j (by omega)]
theorem add_l (d : Nat) : ∀ (i : Nat) (o : List Int), i + d = a.length → o.length + 441 * d ≤ 90000 → Ev (fun k => spec_l21Add.l0 k o a b (i : Int)) (putAll o (bey b (a.drop i))) := by
 induction d with
 | zero =>
  intro i o hi ho
  rw [List.drop_of_length_le (by omega)]
  refine Ev.step (f := fun _ => some o) (fun k => ?_) (Ev.now _)
  simp only [spec_l21Add.l0]
  rw [if_neg (by omega)]
 | succ d ih =>
  intro i o hi ho
  have hl : i < a.length := by omega
  obtain ⟨g1, g2⟩ := hxa _ (List.getElem_mem hl)
  have hh := has_f b (by omega) (fun x hx => (hxb x hx).2) a[i]
  have ht := tt_s a[i].f0 a[i].f1 a[i].f2 a[i].f3 g1 a[i].f4 g2
  have htl := tlsB_len a[i].f0 a[i].f1 a[i].f2 a[i].f3 a[i].f4
  rw [List.drop_eq_getElem_cons hl, bey_cons]
  refine Ev.step (f := fun k => (spec_l21Has.f k b a[i].f0 a[i].f1 a[i].f2 a[i].f3 a[i].f4).bind fun t383 => (if t383 = true then (spec_l21Add.l0 k o a b ((i + 1 : Nat) : Int)) else ((spec_TouchedTiles.f k a[i].f0 a[i].f1 a[i].f2 a[i].f3 a[i].f4).bind fun t385 => (spec_l21Add.l1 k o a b (i : Int) t385 ((0 : Nat) : Int))))) (fun k => ?_) (Ev.bind hh ?_)
  ·simp only [spec_l21Add.l0, rdF_at a i hl]
   rw [if_pos (by omega), if_pos (by omega), w1 i (by omega)]
   rfl
  ·cases hv : hasB b a[i]
   ·simp only [Bool.false_eq_true, if_false]
    refine Ev.bind ht (add_l1 a b i _ htl _ _ 0 o (Nat.zero_add _) (by omega) ?_ (by omega))
    have hp := putAll_len (tlsB a[i].f0 a[i].f1 a[i].f2 a[i].f3 a[i].f4) o
    have := ih (i + 1) (putAll o (tlsB a[i].f0 a[i].f1 a[i].f2 a[i].f3 a[i].f4)) (by omega) (by omega)
    rw [List.drop_zero]
    unfold tlsF
    unfold putAll at this ⊢
    rw [List.foldl_append]
    exact this
   ·simp only [if_true, List.nil_append]
    exact ih (i + 1) o (by omega) (by omega)
theorem add_f (o : List Int) (ho : o.length ≤ 20000) : Ev (fun k => spec_l21Add.f k o a b) (putAll o (bey b a)) := by
 have := add_l a b ha hb hxa hxb a.length 0 o (by omega) (by omega)
 rwa [List.drop_zero] at this
omit hxb in
theorem bey_l (hs : srB b = true) (d : Nat) : ∀ (i : Nat) (o : List Int), i + d = a.length → o.length + 441 * d ≤ 90000 → Ev (fun k => impl_touchedBeyond.l0 k b o a (a.length : Int) (i : Int)) (o ++ bey b (a.drop i)) := by
 induction d with
 | zero =>
  intro i o hi ho
  rw [List.drop_of_length_le (by omega)]
  refine Ev.step (f := fun _ => some (o ++ bey b [])) (fun k => ?_) (Ev.now _)
  simp only [impl_touchedBeyond.l0]
  rw [if_neg (by omega)]
  simp [bey]
 | succ d ih =>
  intro i o hi ho
  have hl : i < a.length := by omega
  obtain ⟨g1, g2⟩ := hxa _ (List.getElem_mem hl)
  have ht := tt_i a[i].f0 a[i].f1 a[i].f2 a[i].f3 g1 a[i].f4 g2
  have htl := tlsB_len a[i].f0 a[i].f1 a[i].f2 a[i].f3 a[i].f4
  have hff := ff_i b (by omega) a[i].f0
  rw [List.drop_eq_getElem_cons hl, bey_cons, ← List.append_assoc]
  have more : Ev (fun k => impl_touchedBeyond.l0 k b (o ++ tlsF a[i]) a (a.length : Int) ((i + 1 : Nat) : Int)) (o ++ tlsF a[i] ++ bey b (a.drop (i + 1))) := ih (i + 1) _ (by omega) (by rw [List.length_append]; unfold tlsF; omega)
  rcases has_find b hs a[i] with ⟨h1, h2⟩ | ⟨j, h1, h2, h3⟩
  ·rw [h2]
   simp only [Bool.false_eq_true, if_false]
   refine Ev.step (f := fun k => (impl_TouchedTiles.f k a[i].f0 a[i].f1 a[i].f2 a[i].f3 a[i].f4).bind fun t612 => (if o.length + t612.length < 17592186044416 then (impl_touchedBeyond.l0 k b (o ++ t612) a (a.length : Int) ((i + 1 : Nat) : Int)) else none)) (fun k => ?_) (Ev.bind ht ?_)
   ·simp only [impl_touchedBeyond.l0, rdF_at a i hl, hff, Option.bind_some]
    rw [if_pos (by omega), if_pos (by omega), if_pos (by omega), if_pos h1, w1 i (by omega)]
   ·simp only [if_pos (show o.length + (tlsB a[i].f0 a[i].f1 a[i].f2 a[i].f3 a[i].f4).length < 17592186044416 by omega)]
    exact more
  ·have hq := ief_ev a[i] (b.getD j z57) g2
   rw [h3]
   refine Ev.step (f := fun k => ((impl_EqualFeatures.f k a[i].f0 a[i].f1 a[i].f2 a[i].f3 a[i].f4 (b.getD j z57).f0 (b.getD j z57).f1 (b.getD j z57).f2 (b.getD j z57).f3 (b.getD j z57).f4).bind fun t619 => (if t619 = true then (impl_touchedBeyond.l0 k b o a (a.length : Int) ((i + 1 : Nat) : Int)) else ((impl_TouchedTiles.f k a[i].f0 a[i].f1 a[i].f2 a[i].f3 a[i].f4).bind fun t620 => (if o.length + t620.length < 17592186044416 then (impl_touchedBeyond.l0 k b (o ++ t620) a (a.length : Int) ((i + 1 : Nat) : Int)) else none))))) (fun k => ?_) (Ev.bind hq ?_)
   ·simp only [impl_touchedBeyond.l0, rdF_at a i hl, hff, h2, Option.bind_some, rdFg]
    rw [if_pos (by omega), if_pos (by omega), if_pos (by omega), if_neg (by omega), if_pos (by omega), if_pos (by omega), w1 i (by omega)]
   ·cases hv : efB a[i] (b.getD j z57)
    ·simp only [Bool.false_eq_true, if_false]
     refine Ev.bind ht ?_
     simp only [if_pos (show o.length + (tlsB a[i].f0 a[i].f1 a[i].f2 a[i].f3 a[i].f4).length < 17592186044416 by omega)]
     exact more
    ·simp only [if_true, List.append_nil]
     exact ih (i + 1) o (by omega) (by omega)
omit hxb in
theorem bey_f (hs : srB b = true) : Ev (fun k => impl_touchedBeyond.f k a b) (bey b a) := by
 have := bey_l a b ha hb hxa hs a.length 0 [] (by omega) (by simp; omega)
 rwa [List.drop_zero, List.nil_append] at this
end
/-- The tiles that a change touches. -/
def chV (a b : List S57) : List Int := if srB a = true ∧ srB b = true then putAll [] (bey b a ++ bey a b) else []
theorem src_16 {l : List S57} (h : srB l = true) : l.length ≤ 16 := by
 unfold srB at h
 rw [Bool.and_eq_true, decide_eq_true_iff] at h
 omega
section
variable (a b : List S57) (ha : a.length < 9223372036854775807) (hb : b.length < 9223372036854775807) (hxa : ∀ x ∈ a, x.f3.size ≤ 9223372036854775807 ∧ x.f4.length < 9223372036854775807) (hxb : ∀ x ∈ b, x.f3.size ≤ 9223372036854775807 ∧ x.f4.length < 9223372036854775807)
theorem chV_len : (chV a b).length ≤ 20000 := by
 unfold chV
 split
 ·rename_i h
  have h1 := src_16 h.1
  have h2 := src_16 h.2
  have h3 := putAll_len (bey b a ++ bey a b) []
  have h4 := bey_len b a
  have h5 := bey_len a b
  rw [List.length_append] at h3
  simp only [List.length_nil] at h3
  omega
 ·simp
include ha hb hxa hxb
theorem ch_s : Ev (fun k => spec_ChangedTiles.f k a b) (chV a b) := by
 unfold spec_ChangedTiles.f
 refine Ev.bind (src_s a ha hxa) ?_
 have none' : ∀ h : ¬ (srB a = true ∧ srB b = true), Ev (fun k => spec_ChangedTiles.j0 k a b true) (chV a b) := fun h => by
  unfold chV
  rw [if_neg h]
  exact Ev.step (f := fun _ => some []) (fun k => by simp [spec_ChangedTiles.j0]) (Ev.now _)
 cases h1 : srB a
 ·simp only [Bool.false_eq_true, if_false]
  exact none' (fun h => by rw [h1] at h; cases h.1)
 ·simp only [if_true]
  refine Ev.bind (src_s b hb hxb) ?_
  cases h2 : srB b
  ·exact none' (fun h => by rw [h2] at h; cases h.2)
  ·have a16 := src_16 h1
   have b16 := src_16 h2
   have l1 := bey_len b a
   have l2 := putAll_len (bey b a) []
   simp only [List.length_nil] at l2
   refine Ev.step (f := fun k => (spec_l21Add.f k [] a b).bind fun t400 => ((spec_l21Add.f k t400 b a).bind fun t403 => (some t403))) (fun k => by simp [spec_ChangedTiles.j0]) ?_
   refine Ev.bind (add_f a b a16 b16 hxa hxb [] (by simp)) (Ev.bind (add_f b a b16 a16 hxb hxa _ (by omega)) ?_)
   have e : chV a b = putAll (putAll [] (bey b a)) (bey a b) := by
    unfold chV
    rw [if_pos ⟨h1, h2⟩]
    unfold putAll
    rw [List.foldl_append]
   rw [e]
   exact Ev.now _
theorem ch_i : Ev (fun k => impl_ChangedTiles.f k a b) (chV a b) := by
 unfold impl_ChangedTiles.f
 refine Ev.bind (src_i a ha hxa) ?_
 have none' : ∀ h : ¬ (srB a = true ∧ srB b = true), Ev (fun k => impl_ChangedTiles.j0 k a b true) (chV a b) := fun h => by
  unfold chV
  rw [if_neg h]
  exact Ev.step (f := fun _ => some []) (fun k => by simp [impl_ChangedTiles.j0]) (Ev.now _)
 cases h1 : srB a
 ·simp only [Bool.false_eq_true, if_false]
  exact none' (fun h => by rw [h1] at h; cases h.1)
 ·simp only [if_true]
  refine Ev.bind (src_i b hb hxb) ?_
  cases h2 : srB b
  ·exact none' (fun h => by rw [h2] at h; cases h.2)
  ·have a16 := src_16 h1
   have b16 := src_16 h2
   have l1 := bey_len b a
   have l2 := bey_len a b
   refine Ev.step (f := fun k => ((impl_touchedBeyond.f k a b).bind fun t631 => ((impl_touchedBeyond.f k b a).bind fun t634 => (if t631.length + t634.length < 17592186044416 then ((slices_Sort_int_int.f (t631 ++ t634)).bind fun t640 => ((slices_Compact_int_int.f t640).bind fun t641 => (some t641))) else (none))))) (fun k => by simp [impl_ChangedTiles.j0]) ?_
   refine Ev.bind (bey_f a b a16 b16 hxa h2) (Ev.bind (bey_f b a b16 a16 hxb h1) ?_)
   have e : chV a b = Go.Lib.compact ((bey b a ++ bey a b).mergeSort fun x y => decide (x ≤ y)) := by
    unfold chV
    rw [if_pos ⟨h1, h2⟩]
    exact asc_eq (putAll_asc _ [] List.Pairwise.nil) (uniq_asc _) (fun x => by rw [putAll_mem, uniq_mem]; simp)
   have hlen : (bey b a ++ bey a b).length < 4611686018427387904 := by rw [List.length_append]; omega
   simp only [if_pos (show (bey b a).length + (bey a b).length < 17592186044416 by omega), slices_Sort_int_int.f, slices_Compact_int_int.f, if_pos hlen, Option.bind_some]
   rw [List.length_mergeSort, if_pos (by omega), e]
   exact Ev.now _
end
theorem szFeaturesN (n : Int) (hn : 0 ≤ n) (hn1 : n ≤ 1048576) (l : List S50) (hl : ∀ x ∈ l, x.f3.size ≤ 9223372036854775807 ∧ x.f4.length ≤ 9223372036854775807) (hb : l.length ≤ 9223372036854775807) : ∃ r, r ≤ 1048576 ∧ Ev (fun k => laws_szFeatureS.f k l n) r ∧ (¬ r < 0 → l.length ≤ 1048576 ∧ ∀ x ∈ l, x.f3.size ≤ 1048576 ∧ x.f4.length ≤ 1048576) := by
 unfold laws_szFeatureS.f
 have hw : wrap64 (n - (l.length : Int)) = n - (l.length : Int) := by unfold wrap64; omega
 rw [hw]
 by_cases hc : n - (l.length : Int) < 0
 ·exact ⟨-1, by omega, by simp only [if_pos hc]; exact Ev.now _, fun h => by omega⟩
 ·simp only [if_neg hc]
  obtain ⟨r, hr0, hr, hr2⟩ := szFeaturesB_l l hl (by omega) l.length 0 (n - (l.length : Int)) (by omega) (by omega) (by omega)
  exact ⟨r, hr0, hr, fun h => ⟨by omega, by simpa using hr2 h⟩⟩
theorem convF_all {l : List S50} (h2 : ∀ x ∈ l, x.f3.size ≤ 1048576 ∧ x.f4.length ≤ 1048576) : ∀ x ∈ l.map convF, (x.f3.size ≤ 9223372036854775807 ∧ x.f4.length < 9223372036854775807) ∧ x.f4.length ≤ 1048576 ∧ x.f3.size ≤ 1048576 := by
 intro x hx
 obtain ⟨y, hy, rfl⟩ := List.mem_map.1 hx
 have := h2 y hy
 unfold convF
 simp only [List.length_map]
 omega
theorem eqInts_l (a b : List Int) (hl : a.length = b.length) (hb : a.length < 9223372036854775807) (d : Nat) : ∀ i : Nat, i + d = a.length → Ev (fun k => laws_eqIntS.l0 k a b (i : Int)) (decide (a.drop i = b.drop i)) := by
 induction d with
 | zero =>
  intro i hi
  refine Ev.step (f := fun _ => some (decide (a.drop i = b.drop i))) (fun k => ?_) (Ev.now _)
  simp only [laws_eqIntS.l0]
  rw [if_neg (by omega), List.drop_of_length_le (by omega), List.drop_of_length_le (by omega)]
  simp
 | succ d ih =>
  intro i hi
  have h1 : i < a.length := by omega
  have h2 : i < b.length := by omega
  have ea := List.drop_eq_getElem_cons h1
  have eb := List.drop_eq_getElem_cons h2
  by_cases he : a[i] = b[i]
  ·have := ih (i + 1) (by omega)
   have e : decide (a.drop i = b.drop i) = decide (a.drop (i + 1) = b.drop (i + 1)) := decide_eq_decide.2 (by rw [ea, eb, List.cons.injEq]; exact ⟨fun h => h.2, fun h => ⟨he, h⟩⟩)
   rw [e]
   refine Ev.step (fun k => ?_) this
   simp only [laws_eqIntS.l0]
   rw [if_pos (by omega), if_pos (by omega), if_pos (by omega), rd_at a i h1, rd_at b i h2, if_pos he, w1 i (by omega)]
  ·have e : decide (a.drop i = b.drop i) = false := decide_eq_false (by rw [ea, eb, List.cons.injEq]; exact fun h => he h.1)
   rw [e]
   refine Ev.step (f := fun _ => some false) (fun k => ?_) (Ev.now _)
   simp only [laws_eqIntS.l0]
   rw [if_pos (by omega), if_pos (by omega), if_pos (by omega), rd_at a i h1, rd_at b i h2, if_neg he]
theorem eqInts (a b : List Int) (hb : a.length < 9223372036854775807) : Ev (fun k => laws_eqIntS.f k a b) (decide (a = b)) := by
 unfold laws_eqIntS.f
 by_cases hl : a.length = b.length
 ·simp only [if_pos (show (a.length : Int) = (b.length : Int) by omega)]
  have := eqInts_l a b hl hb a.length 0 (by omega)
  simpa using this
 ·simp only [if_neg (show ¬ (a.length : Int) = (b.length : Int) by omega)]
  have e : decide (a = b) = false := by simp; intro h; exact hl (by rw [h])
  rw [e]
  exact Ev.now _
theorem toInts_l (l : List Int) (hb : l.length < 9223372036854775807) (d : Nat) : ∀ i : Nat, i + d = l.length → Ev (fun k => laws_toIntS.l0 k l (l.take i ++ List.replicate d 0) (i : Int)) l := by
 induction d with
 | zero =>
  intro i hi
  refine Ev.step (f := fun _ => some l) (fun k => ?_) (Ev.now _)
  simp only [laws_toIntS.l0]
  rw [if_neg (by omega), List.take_of_length_le (by omega)]
  simp
 | succ d ih =>
  intro i hi
  have h1 : i < l.length := by omega
  refine Ev.step (fun k => ?_) (ih (i + 1) (by omega))
  simp only [laws_toIntS.l0]
  rw [if_pos (by omega), if_pos (by omega), if_pos (by simp; omega), rd_at l i h1, w1 i (by omega)]
  congr 1
  rw [Int.toNat_natCast, List.set_append_right _ _ (by simp; omega), List.take_succ_eq_append_getElem h1, List.append_assoc]
  congr 1
  have : i - (l.take i).length = 0 := by simp; omega
  rw [this, List.replicate_succ]
  rfl
theorem toInts (l : List Int) (hb : l.length ≤ 35184372088832) : Ev (fun k => laws_toIntS.f k l) l := by
 unfold laws_toIntS.f
 simp only [if_pos (show 0 ≤ (l.length : Int) by omega), Int.toNat_natCast, if_pos hb]
 exact toInts_l l (by omega) l.length 0 (by omega)
theorem indexAny_l (l : List Int) (hl : l.length ≤ 1000000) (x : Int) (d : Nat) : ∀ i : Nat, i + d = l.length → ∃ r : Int, Ev (fun k => slices_Index_int_int.l0 k l x (l.length : Int) (i : Int)) r ∧ (r ≥ 0 ↔ x ∈ l.drop i) := by
 induction d with
 | zero =>
  intro i hi
  have e : l.drop i = [] := List.drop_of_length_le (by omega)
  rw [e]
  refine ⟨-1, Ev.step (f := fun _ => some (-1)) (fun k => ?_) (Ev.now _), by simp⟩
  simp only [slices_Index_int_int.l0]
  rw [if_neg (by omega)]
 | succ d ih =>
  intro i hi
  have h1 : i < l.length := by omega
  have e := List.drop_eq_getElem_cons h1
  rw [e]
  by_cases hx : x = l[i]
  ·refine ⟨(i : Int), Ev.step (f := fun _ => some (i : Int)) (fun k => ?_) (Ev.now _), ?_⟩
   ·simp only [slices_Index_int_int.l0]
    rw [if_pos (by omega), if_pos (by omega), if_pos (by omega), rd_at l i h1, if_pos hx]
   ·rw [hx]
    exact ⟨fun _ => List.mem_cons_self, fun _ => by omega⟩
  ·obtain ⟨r, h2, h3⟩ := ih (i + 1) (by omega)
   refine ⟨r, Ev.step (fun k => ?_) h2, ?_⟩
   ·simp only [slices_Index_int_int.l0]
    rw [if_pos (by omega), if_pos (by omega), if_pos (by omega), rd_at l i h1, if_neg hx, w1 i (by omega)]
   ·rw [h3, List.mem_cons]
    exact ⟨fun h => .inr h, fun h => h.resolve_left hx⟩
theorem contains_f (l : List Int) (hl : l.length ≤ 1000000) (x : Int) : Ev (fun k => slices_Contains_int_int.f k l x) (decide (x ∈ l)) := by
 unfold slices_Contains_int_int.f slices_Index_int_int.f
 obtain ⟨r, h1, h2⟩ := indexAny_l l hl x l.length 0 (by omega)
 rw [List.drop_zero] at h2
 refine Ev.bind h1 ?_
 have e : decide (r ≥ 0) = decide (x ∈ l) := decide_eq_decide.2 h2
 rw [e]
 exact Ev.now _
theorem has14_l (l : List Int) (hl : l.length ≤ 1000000) (x : Int) (d : Nat) : ∀ i : Nat, i + d = l.length → Ev (fun k => spec_l14Has.l0 k l x (i : Int)) (decide (x ∈ l.drop i)) := by
 induction d with
 | zero =>
  intro i hi
  have e : l.drop i = [] := List.drop_of_length_le (by omega)
  rw [e]
  refine Ev.step (f := fun _ => some (decide (x ∈ ([] : List Int)))) (fun k => ?_) (Ev.now _)
  simp only [spec_l14Has.l0]
  rw [if_neg (by omega)]
  simp
 | succ d ih =>
  intro i hi
  have h1 : i < l.length := by omega
  rw [List.drop_eq_getElem_cons h1]
  by_cases hv : l[i] = x
  ·refine Ev.step (f := fun _ => some (decide (x ∈ l[i] :: l.drop (i + 1)))) (fun k => ?_) (Ev.now _)
   simp only [spec_l14Has.l0]
   rw [if_pos (by omega), if_pos (by omega), rd_at l i h1, if_pos hv]
   simp [hv]
  ·have e : decide (x ∈ l[i] :: l.drop (i + 1)) = decide (x ∈ l.drop (i + 1)) := by
    rw [decide_eq_decide, List.mem_cons]
    exact ⟨fun h => h.resolve_left (fun e => hv e.symm), .inr⟩
   rw [e]
   refine Ev.step (fun k => ?_) (ih (i + 1) (by omega))
   simp only [spec_l14Has.l0]
   rw [if_pos (by omega), if_pos (by omega), rd_at l i h1, if_neg hv, w1 i (by omega)]
theorem has14_f (l : List Int) (hl : l.length ≤ 1000000) (x : Int) : Ev (fun k => spec_l14Has.f k l x) (decide (x ∈ l)) := by
 have := has14_l l hl x l.length 0 (by omega)
 rwa [List.drop_zero] at this
/-- That the tiles a change leaves alone have the same digests. -/
def elB (a b : List S57) (t : List Int) : Bool := t.all fun x => decide (x ∈ chV a b) || decide (tdV a x = tdV b x)
theorem elB_cons (a b : List S57) (x : Int) (t : List Int) : elB a b (x :: t) = ((decide (x ∈ chV a b) || decide (tdV a x = tdV b x)) && elB a b t) := by unfold elB; rw [List.all_cons]
section
variable (a b : List S57) (ha : a.length < 9223372036854775807) (hb : b.length < 9223372036854775807) (hxa : ∀ x ∈ a, x.f3.size ≤ 9223372036854775807 ∧ x.f4.length < 9223372036854775807) (hxb : ∀ x ∈ b, x.f3.size ≤ 9223372036854775807 ∧ x.f4.length < 9223372036854775807) (hya : ∀ x ∈ a, x.f3.size ≤ 1048576) (hyb : ∀ x ∈ b, x.f3.size ≤ 1048576)
include ha hb hxa hxb hya hyb
theorem el_sl (t : List Int) (ht : t.length ≤ 1048576) (d : Nat) : ∀ i : Nat, i + d = t.length → Ev (fun k => spec_SameElsewhere.l0 k a b t (chV a b) (i : Int)) (elB a b (t.drop i) && (srB a && srB b)) := by
 have hv := chV_len a b
 induction d with
 | zero =>
  intro i hi
  rw [List.drop_of_length_le (by omega)]
  refine Ev.step (f := fun k => (spec_IsSource.f k a).bind fun t492 => (if t492 = true then ((spec_IsSource.f k b).bind fun t493 => (some t493)) else (some false))) (fun k => ?_) (Ev.bind (src_s a ha hxa) ?_)
  ·simp only [spec_SameElsewhere.l0]
   rw [if_neg (by omega)]
  ·have e : elB a b [] = true := rfl
   rw [e, Bool.true_and]
   cases srB a
   ·simp only [Bool.false_eq_true, if_false, Bool.false_and]; exact Ev.now _
   ·simp only [if_true, Bool.true_and]; exact Ev.bind (src_s b hb hxb) (Ev.now _)
 | succ d ih =>
  intro i hi
  have hl : i < t.length := by omega
  have hh := has14_f (chV a b) (by omega) t[i]
  have d1 := td_s a ha hxa hya t[i]
  have d2 := td_s b hb hxb hyb t[i]
  rw [List.drop_eq_getElem_cons hl, elB_cons]
  refine Ev.step (f := fun k => (spec_l14Has.f k (chV a b) t[i]).bind fun t495 => (if t495 = true then (spec_SameElsewhere.l0 k a b t (chV a b) ((i + 1 : Nat) : Int)) else ((spec_TileDigest.f k a t[i]).bind fun t497 => ((spec_TileDigest.f k b t[i]).bind fun t499 => (if t497 = t499 then (spec_SameElsewhere.l0 k a b t (chV a b) ((i + 1 : Nat) : Int)) else (some false)))))) (fun k => ?_) (Ev.bind hh ?_)
  ·simp only [spec_SameElsewhere.l0]
   rw [if_pos (by omega), if_pos (by omega), rd_at t i hl, w1 i (by omega)]
  ·by_cases hm : t[i] ∈ chV a b
   ·simp only [decide_eq_true hm, if_true, Bool.true_or, Bool.true_and]
    exact ih (i + 1) (by omega)
   ·simp only [decide_eq_false hm, Bool.false_eq_true, if_false, Bool.false_or]
    refine Ev.bind d1 (Ev.bind d2 ?_)
    by_cases he : tdV a t[i] = tdV b t[i]
    ·simp only [if_pos he, decide_eq_true he, Bool.true_and]
     exact ih (i + 1) (by omega)
    ·simp only [if_neg he, decide_eq_false he, Bool.false_and]
     exact Ev.now _
theorem el_s (t : List Int) (ht : t.length ≤ 1048576) : Ev (fun k => spec_SameElsewhere.f k a b t) (elB a b t && (srB a && srB b)) := by
 unfold spec_SameElsewhere.f
 refine Ev.bind (ch_s a b ha hb hxa hxb) ?_
 have := el_sl a b ha hb hxa hxb hya hyb t ht t.length 0 (by omega)
 rwa [List.drop_zero] at this
theorem el_il (t : List Int) (ht : t.length ≤ 1048576) (d : Nat) : ∀ i : Nat, i + d = t.length → Ev (fun k => impl_SameElsewhere.l0 k a b (chV a b) t (t.length : Int) (i : Int)) (elB a b (t.drop i)) := by
 have hv := chV_len a b
 induction d with
 | zero =>
  intro i hi
  rw [List.drop_of_length_le (by omega)]
  refine Ev.step (f := fun _ => some true) (fun k => ?_) (Ev.now _)
  simp only [impl_SameElsewhere.l0]
  rw [if_neg (by omega)]
 | succ d ih =>
  intro i hi
  have hl : i < t.length := by omega
  have hh := contains_f (chV a b) (by omega) t[i]
  have d1 := td_i a ha hxa hya t[i]
  have d2 := td_i b hb hxb hyb t[i]
  rw [List.drop_eq_getElem_cons hl, elB_cons]
  refine Ev.step (f := fun k => (slices_Contains_int_int.f k (chV a b) t[i]).bind fun t825 => (if t825 = true then (impl_SameElsewhere.l0 k a b (chV a b) t (t.length : Int) ((i + 1 : Nat) : Int)) else ((impl_TileDigest.f k a t[i]).bind fun t826 => ((impl_TileDigest.f k b t[i]).bind fun t827 => (if t826 = t827 then (impl_SameElsewhere.l0 k a b (chV a b) t (t.length : Int) ((i + 1 : Nat) : Int)) else (some false)))))) (fun k => ?_) (Ev.bind hh ?_)
  ·simp only [impl_SameElsewhere.l0]
   rw [if_pos (by omega), if_pos (by omega), if_pos (by omega), rd_at t i hl, w1 i (by omega)]
  ·by_cases hm : t[i] ∈ chV a b
   ·simp only [decide_eq_true hm, if_true, Bool.true_or, Bool.true_and]
    exact ih (i + 1) (by omega)
   ·simp only [decide_eq_false hm, Bool.false_eq_true, if_false, Bool.false_or]
    refine Ev.bind d1 (Ev.bind d2 ?_)
    by_cases he : tdV a t[i] = tdV b t[i]
    ·simp only [if_pos he, decide_eq_true he, Bool.true_and]
     exact ih (i + 1) (by omega)
    ·simp only [if_neg he, decide_eq_false he, Bool.false_and]
     exact Ev.now _
theorem el_i (t : List Int) (ht : t.length ≤ 1048576) : Ev (fun k => impl_SameElsewhere.f k a b t) (elB a b t && (srB a && srB b)) := by
 unfold impl_SameElsewhere.f
 refine Ev.bind (src_i a ha hxa) ?_
 have no : Ev (fun k => impl_SameElsewhere.j0 k a b t true) false := Ev.step (f := fun _ => some false) (fun k => by simp [impl_SameElsewhere.j0]) (Ev.now _)
 cases srB a
 ·simp only [Bool.false_eq_true, if_false, Bool.false_and, Bool.and_false]
  exact no
 ·simp only [if_true, Bool.true_and]
  refine Ev.bind (src_i b hb hxb) ?_
  cases srB b
  ·simp only [Bool.not_false, Bool.and_false]
   exact no
  ·simp only [Bool.not_true, Bool.and_true]
   refine Ev.step (f := fun k => (impl_ChangedTiles.f k a b).bind fun t821 => (impl_SameElsewhere.l0 k a b t821 t (t.length : Int) ((0 : Nat) : Int))) (fun k => by simp [impl_SameElsewhere.j0]) (Ev.bind (ch_i a b ha hb hxa hxb) ?_)
   have := el_il a b ha hb hxa hxb hya hyb t ht t.length 0 (by omega)
   rwa [List.drop_zero] at this
end
theorem main : ∀ (l0 : List (S50)) (l1 : List (S50)) (l2 : List (Int)), (l0.length ≤ 9223372036854775807 ∧ ∀ x ∈ l0, ((Lit.int .i64 x.f0).wf = true ∧ (Lit.int .i64 x.f1).wf = true ∧ (Lit.int .i64 x.f2).wf = true ∧ x.f3.size ≤ 9223372036854775807 ∧ (x.f4.length ≤ 9223372036854775807 ∧ ∀ y ∈ x.f4, ((Lit.int .i64 y.f0).wf = true ∧ (Lit.int .i64 y.f1).wf = true)))) → (l1.length ≤ 9223372036854775807 ∧ ∀ x ∈ l1, ((Lit.int .i64 x.f0).wf = true ∧ (Lit.int .i64 x.f1).wf = true ∧ (Lit.int .i64 x.f2).wf = true ∧ x.f3.size ≤ 9223372036854775807 ∧ (x.f4.length ≤ 9223372036854775807 ∧ ∀ y ∈ x.f4, ((Lit.int .i64 y.f0).wf = true ∧ (Lit.int .i64 y.f1).wf = true)))) → (l2.length ≤ 9223372036854775807 ∧ ∀ x ∈ l2, (Lit.int .i64 x).wf = true) → ∃ k, laws_FnExactSameElsewhere.f k l0 l1 l2 = some true := by
 intro l m t hl hm ht
 refine Ev.rounds (r := true) ?_
 unfold laws_FnExactSameElsewhere.f
 by_cases hbig : (t.length : Int) > 1048576
 ·simp only [if_pos hbig]; exact Ev.now _
 simp only [if_neg hbig]
 have ht1 : t.length ≤ 1048576 := by omega
 obtain ⟨r, hr0, hr, hb⟩ := szFeaturesN 1048576 (by omega) (by omega) l (fun x hx => ⟨(hl.2 x hx).2.2.2.1, (hl.2 x hx).2.2.2.2.1⟩) hl.1
 refine Ev.bind hr ?_
 by_cases hc : r < 0
 ·simp only [if_pos hc]; exact Ev.now _
 ·simp only [if_neg hc]
  obtain ⟨q, hq0, hq, hd⟩ := szFeaturesN r (by omega) hr0 m (fun x hx => ⟨(hm.2 x hx).2.2.2.1, (hm.2 x hx).2.2.2.2.1⟩) hm.1
  refine Ev.bind hq ?_
  by_cases hc2 : q < 0
  ·simp only [if_pos hc2]; exact Ev.now _
  ·simp only [if_neg hc2]
   obtain ⟨h1, h2⟩ := hb hc
   obtain ⟨g1, g2⟩ := hd hc2
   have tl := toFeatures l h1 (fun x hx => (h2 x hx).2)
   have tm := toFeatures m g1 (fun x hx => (g2 x hx).2)
   have ti := toInts t (by omega)
   have hx := convF_all h2
   have hx' := convF_all g2
   have hL : (l.map convF).length ≤ 1048576 := by simpa using h1
   have hM : (m.map convF).length ≤ 1048576 := by simpa using g1
   generalize l.map convF = L at tl hx hL
   generalize m.map convF = M at tm hx' hM
   have s1 := el_s L M (by omega) (by omega) (fun x h => (hx x h).1) (fun x h => (hx' x h).1) (fun x h => (hx x h).2.2) (fun x h => (hx' x h).2.2) t ht1
   have s2 := el_i L M (by omega) (by omega) (fun x h => (hx x h).1) (fun x h => (hx' x h).1) (fun x h => (hx x h).2.2) (fun x h => (hx' x h).2.2) t ht1
   generalize (elB L M t && (srB L && srB M)) = v at s1 s2
   have eq := eqInts t t (by omega)
   simp only [decide_true] at eq
   have e1 := eqFeatures L (by omega) (fun x h => (hx x h).1.2)
   have e2 := eqFeatures M (by omega) (fun x h => (hx' x h).1.2)
   refine Ev.bind tl (Ev.bind tm (Ev.bind ti (Ev.bind s1 (Ev.bind tl (Ev.bind tm (Ev.bind ti (Ev.bind s2 ?_)))))))
   simp only [bne_self_eq_false, Bool.false_eq_true, if_false]
   refine Ev.bind tl (Ev.bind e1 ?_)
   simp only [if_true]
   refine Ev.bind tm (Ev.bind e2 ?_)
   simp only [if_true]
   refine Ev.bind ti (Ev.bind eq ?_)
   simp only [if_true]
   exact Ev.now _
end Go.Proofs.YtellpkihlbbnhaaGreat.Pure.FnExactSameElsewhere
