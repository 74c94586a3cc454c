
/- The names that found no place: the program and the reference answer the same ids: those of the anchors that are not among the placed names' ids. No condition. -/
import Derived.Test.YtkomgmgpgnjooaaGreatPFnExactUnplacedx
import Derived.Test.YtkomgmgpgnjooaaGreatMeet
namespace Go.Proofs.YtkomgmgpgnjooaaGreat.Pure.FnExactUnplaced
open Go Go.RowKit Go.Proofs.YtkomgmgpgnjooaaGreat.PFnExactUnplaced Go.Proofs.YtkomgmgpgnjooaaGreatW.PrintWords Go.Proofs.YtkomgmgpgnjooaaGreatW.PrintLast Go.Proofs.YtkomgmgpgnjooaaGreatW.PrintMore Go.Proofs.YtkomgmgpgnjooaaGreatGeo
set_option linter.unusedVariables false
set_option linter.unusedSimpArgs false
open Go.Proofs.YtkomgmgpgnjooaaGreatMeet
theorem w1 (i : Nat) (h : i < 9223372036854775807) : wrap64 ((i : Int) + 1) = ((i + 1 : Nat) : Int) := by unfold wrap64; omega
theorem rd_at (l : List Int) (i : Nat) (h : i < l.length) : rd l (i : Int) = l[i] := by
 unfold rd
 rw [Int.toNat_natCast, List.getD_eq_getElem?_getD, List.getElem?_eq_getElem h]
 rfl
theorem how_s (a b c d e f g h : Int) : Ev (fun _ => spec_HowMeet.f a b c d e f g h) (howS a b c d e f g h) := Ev.now _
theorem before_key {x y x' y' : Int} (h : isPt x y = true) (h' : isPt x' y' = true) : beforeI x y x' y' = decide (kyI x y < kyI x' y') := by
 rw [isPt_iff] at h h'
 unfold beforeI kyI
 rw [Bool.eq_iff_iff]; simp; omega
theorem j3_i (a b c d : Int) (h : isPt a b = true) (h' : isPt c d = true) : Ev (fun k => impl_HowMeet.j3 k a b c d) (if kyI c d < kyI a b then 0 else if kyI a b = kyI c d then 1 else 3) := by
 refine Ev.step (f := fun _ => some (if kyI c d < kyI a b then 0 else if kyI a b = kyI c d then 1 else 3)) (fun k => ?_) (Ev.now _)
 simp only [impl_HowMeet.j3, impl_BeforePoint.f, before_key h' h, Option.bind_some, decide_eq_true_eq]
 have e : (a == c && b == d) = decide (kyI a b = kyI c d) := by
  rw [← ky_inj h h']
  rw [Bool.eq_iff_iff]; simp
 rw [e]
 by_cases z : kyI c d < kyI a b
 ·rw [if_pos z, if_pos z]
 ·rw [if_neg z, if_neg z]
  by_cases z' : kyI a b = kyI c d
  ·simp [z']
  ·simp [z']
theorem j2_i (e f g h a b c d : Int) (h1 : isPt g h = true) (h2 : isPt a b = true) (h3 : isPt c d = true) : Ev (fun k => impl_HowMeet.j2 k e f g h a b c d) (if mn (kyI c d) (kyI g h) < kyI a b then 0 else if kyI a b = mn (kyI c d) (kyI g h) then 1 else 3) := by
 refine Ev.step (f := fun k => if kyI g h < kyI c d then impl_HowMeet.j3 k a b g h else impl_HowMeet.j3 k a b c d) (fun k => ?_) ?_
 ·simp only [impl_HowMeet.j2, impl_BeforePoint.f, before_key h1 h3, Option.bind_some, decide_eq_true_eq]
 ·unfold mn
  by_cases z : kyI g h < kyI c d
  ·simp only [if_pos z]; exact j3_i a b g h h2 h1
  ·simp only [if_neg z]; exact j3_i a b c d h2 h3
theorem fwd_i (a b c d : Int) (h : isPt a b = true) (h' : isPt c d = true) : ∃ x y u v, impl_forward.f a b c d = some (x, y, u, v) ∧ isPt x y = true ∧ isPt u v = true ∧ kyI x y = mn (kyI a b) (kyI c d) ∧ kyI u v = mx (kyI a b) (kyI c d) := by
 unfold impl_forward.f impl_BeforePoint.f impl_TurnSegment.f
 simp only [before_key h' h, Option.bind_some, decide_eq_true_eq]
 by_cases z : kyI c d < kyI a b
 ·exact ⟨c, d, a, b, by rw [if_pos z], h', h, by unfold mn; rw [if_pos z], by unfold mx; rw [if_neg (by omega)]⟩
 ·exact ⟨a, b, c, d, by rw [if_neg z], h, h', by unfold mn; rw [if_neg z], by unfold mx; split <;> omega⟩
theorem how_i (a b c d e f g h : Int) : Ev (fun k => impl_HowMeet.f k a b c d e f g h) (howS a b c d e f g h) := by
 rw [← how_eq]
 unfold impl_HowMeet.f howP impl_IsSegment.f
 simp only [Option.bind_some]
 have dead : Ev (fun k => impl_HowMeet.j0 k true a b c d e f g h) 0 := Ev.step (f := fun _ => some 0) (fun k => by simp [impl_HowMeet.j0]) (Ev.now _)
 cases h1 : isSeg a b c d
 ·simp only [Bool.false_eq_true, if_false, true_or, if_true]; exact dead
 ·cases h2 : isSeg e f g h
  ·simp only [if_true, Bool.not_false, or_true]; exact dead
  ·simp only [if_true, Bool.not_true, Bool.true_eq_false, or_self, if_false]
   obtain ⟨ha, hc, _⟩ := isSeg_iff.mp h1
   obtain ⟨he, hg, _⟩ := isSeg_iff.mp h2
   have j4t : Ev (fun k => impl_HowMeet.j4 k true a b c d e f g h) 2 := Ev.step (f := fun _ => some 2) (fun k => by simp [impl_HowMeet.j4]) (Ev.now _)
   have j4f : Ev (fun k => impl_HowMeet.j4 k false a b c d e f g h) (if isOnI a b c d e f || isOnI a b c d g h || isOnI e f g h a b || isOnI e f g h c d then 1 else 0) := by
    refine Ev.step (f := fun _ => some (if isOnI a b c d e f || isOnI a b c d g h || isOnI e f g h a b || isOnI e f g h c d then 1 else 0)) (fun k => ?_) (Ev.now _)
    simp only [impl_HowMeet.j4, impl_IsOn.f, Option.bind_some, Bool.false_eq_true, if_false]
    cases isOnI a b c d e f <;> cases isOnI a b c d g h <;> cases isOnI e f g h a b <;> cases isOnI e f g h c d <;> rfl
   by_cases hcol : sideI a b c d e f = 0 ∧ sideI a b c d g h = 0
   ·rw [if_pos hcol]
    obtain ⟨x, y, u, v, f1, p1, p2, k1, k2⟩ := fwd_i a b c d ha hc
    obtain ⟨x', y', u', v', f2, p1', p2', k1', k2'⟩ := fwd_i e f g h he hg
    refine Ev.step (f := fun k => impl_HowMeet.j1 k (sideI a b c d e f) (sideI a b c d g h) true a b c d e f g h) (fun k => ?_) ?_
    ·simp [impl_HowMeet.j0, impl_SideOf.f, hcol.1, hcol.2]
    ·refine Ev.step (f := fun k => if kyI x y < kyI x' y' then impl_HowMeet.j2 k x' y' u' v' x' y' u v else impl_HowMeet.j2 k x' y' u' v' x y u v) (fun k => ?_) ?_
     ·simp only [impl_HowMeet.j1, f1, f2, impl_BeforePoint.f, Option.bind_some, before_key p1 p1', decide_eq_true_eq, if_true]
     ·rw [← k1, ← k2, ← k1', ← k2']
      by_cases z : kyI x y < kyI x' y'
      ·simp only [if_pos z]
       have e : mx (kyI x y) (kyI x' y') = kyI x' y' := by unfold mx; rw [if_pos z]
       rw [e]
       exact j2_i x' y' u' v' x' y' u v p2' p1' p2
      ·simp only [if_neg z]
       have e : mx (kyI x y) (kyI x' y') = kyI x y := by unfold mx; rw [if_neg z]
       rw [e]
       exact j2_i x' y' u' v' x y u v p2' p1 p2
   ·rw [if_neg hcol]
    refine Ev.step (f := fun k => impl_HowMeet.j1 k (sideI a b c d e f) (sideI a b c d g h) false a b c d e f g h) (fun k => ?_) ?_
    ·simp only [impl_HowMeet.j0, impl_SideOf.f, Option.bind_some, Bool.false_eq_true, if_false]
     by_cases z : sideI a b c d e f = 0
     ·have z' : ¬ sideI a b c d g h = 0 := fun q => hcol ⟨z, q⟩
      have z'' : (sideI a b c d g h == 0) = false := by simp [z']
      rw [if_pos z, z'']
     ·rw [if_neg z]
    ·have w1 := wrap_sd _ _ (sd_bd a b c d e f) (sd_bd a b c d g h)
     have w2 := wrap_sd _ _ (sd_bd e f g h a b) (sd_bd e f g h c d)
     by_cases zu : sideI a b c d e f * sideI a b c d g h < 0
     ·by_cases zv : sideI e f g h a b * sideI e f g h c d < 0
      ·rw [if_pos ⟨zu, zv⟩]
       refine Ev.step (fun k => ?_) j4t
       simp [impl_HowMeet.j1, impl_SideOf.f, w1, w2, zu, zv]
      ·rw [if_neg (fun q => zv q.2)]
       refine Ev.step (fun k => ?_) j4f
       simp [impl_HowMeet.j1, impl_SideOf.f, w1, w2, zu, zv]
     ·rw [if_neg (fun q => zu q.1)]
      refine Ev.step (fun k => ?_) j4f
      simp [impl_HowMeet.j1, impl_SideOf.f, w1, zu]
/-- A line's points, one behind the other: each a point, none like the one ahead of it. -/
def chkL : Option S75 → List S75 → Bool
 | _, [] => true
 | o, p :: r => isPt p.f0 p.f1 && ((match o with | none => true | some q => !eqP q p) && chkL (some p) r)
theorem chkL_cons (o : Option S75) (p : S75) (r : List S75) : chkL o (p :: r) = (isPt p.f0 p.f1 && ((match o with | none => true | some q => !eqP q p) && chkL (some p) r)) := by cases o <;> rfl
def lnB (l : List S75) : Bool := inR (l.length : Int) 2 10 && chkL none l
def prevL (l : List S75) (i : Nat) : Option S75 := if i = 0 then none else some (l.getD (i - 1) z75)
theorem prevL_succ (l : List S75) (i : Nat) (h : i < l.length) : prevL l (i + 1) = some l[i] := by
 unfold prevL
 rw [if_neg (by omega), Nat.add_sub_cancel, List.getD_eq_getElem?_getD, List.getElem?_eq_getElem h]; rfl
theorem w1m (i : Nat) (h : 0 < i) (h' : i < 9223372036854775807) : wrap64 ((i : Int) - 1) = ((i - 1 : Nat) : Int) := by unfold wrap64; omega
theorem isLine_sl (l : List S75) (hl : l.length < 9223372036854775807) (d : Nat) : ∀ i : Nat, i + d = l.length → Ev (fun k => spec_IsLine.l0 k l (i : Int)) (chkL (prevL l i) (l.drop i) && inR (l.length : Int) 2 10) := by
 induction d with
 | zero =>
  intro i hi
  rw [List.drop_of_length_le (by omega)]
  refine Ev.step (f := fun _ => some _) (fun k => ?_) (Ev.now _)
  simp only [spec_IsLine.l0, spec_l1In.f]
  rw [if_neg (by omega)]
  simp [chkL]
 | succ d ih =>
  intro i hi
  have h1 : i < l.length := by omega
  have hd := List.drop_eq_getElem_cons h1
  rw [hd, chkL_cons]
  cases hp : isPt l[i].f0 l[i].f1
  ·refine Ev.step (f := fun _ => some false) (fun k => ?_) (Ev.now _)
   simp only [spec_IsLine.l0, spec_IsPoint.f, Option.bind_some]
   rw [if_pos (by omega), if_pos (by omega), rdPt l i h1, hp]
   simp
  ·have ih' := ih (i + 1) (by omega)
   rw [prevL_succ l i h1] at ih'
   by_cases h0 : i = 0
   ·subst h0
    refine Ev.step (fun k => ?_) ih'
    simp only [spec_IsLine.l0, spec_IsPoint.f, Option.bind_some]
    rw [if_pos (by omega), if_pos (by omega), rdPt l 0 h1, hp, if_pos rfl, if_neg (by omega), w1' 0 (by omega)]
   ·have hi1 : i - 1 < l.length := by omega
    have eP : prevL l i = some l[i - 1] := by unfold prevL; rw [if_neg h0, List.getD_eq_getElem?_getD, List.getElem?_eq_getElem hi1]; rfl
    rw [eP]
    dsimp only
    have eq : (((l[i - 1]).f0) == (l[i].f0) && (((l[i - 1]).f1) == (l[i].f1))) = eqP l[i - 1] l[i] := by
     unfold eqP; rw [Bool.eq_iff_iff]; simp
    cases he : eqP l[i - 1] l[i]
    ·refine Ev.step (fun k => ?_) ih'
     simp only [spec_IsLine.l0, spec_IsPoint.f, Option.bind_some]
     rw [if_pos (by omega), if_pos (by omega), rdPt l i h1, hp, if_pos rfl, if_pos (by omega), w1m i (by omega) (by omega), if_pos (by omega), if_pos (by omega), rdPt l (i - 1) hi1, eq, he, w1' i (by omega)]
     simp
    ·refine Ev.step (f := fun _ => some false) (fun k => ?_) (Ev.now _)
     simp only [spec_IsLine.l0, spec_IsPoint.f, Option.bind_some]
     rw [if_pos (by omega), if_pos (by omega), rdPt l i h1, hp, if_pos rfl, if_pos (by omega), w1m i (by omega) (by omega), if_pos (by omega), if_pos (by omega), rdPt l (i - 1) hi1, eq, he]
     simp
theorem isLine_s (l : List S75) (hl : l.length < 9223372036854775807) : Ev (fun k => spec_IsLine.f k l) (lnB l) := by
 unfold spec_IsLine.f lnB
 rw [Bool.and_comm]
 exact isLine_sl l hl l.length 0 (by omega)
theorem isLine_il (l : List S75) (hl : l.length < 9223372036854775807) (d : Nat) : ∀ i : Nat, i + d = l.length → Ev (fun k => impl_IsLine.l0 k l l (l.length : Int) (i : Int)) (chkL (prevL l i) (l.drop i)) := by
 induction d with
 | zero =>
  intro i hi
  rw [List.drop_of_length_le (by omega)]
  refine Ev.step (f := fun _ => some _) (fun k => ?_) (Ev.now _)
  simp only [impl_IsLine.l0]
  rw [if_neg (by omega)]
  simp [chkL]
 | succ d ih =>
  intro i hi
  have h1 : i < l.length := by omega
  have hd := List.drop_eq_getElem_cons h1
  rw [hd, chkL_cons]
  cases hp : isPt l[i].f0 l[i].f1
  ·refine Ev.step (f := fun _ => some false) (fun k => ?_) (Ev.now _)
   simp only [impl_IsLine.l0, impl_IsPoint.f, Option.bind_some]
   rw [if_pos (by omega), if_pos (by omega), if_pos (by omega), rdPt l i h1, hp]
   simp
  ·have ih' := ih (i + 1) (by omega)
   rw [prevL_succ l i h1] at ih'
   by_cases h0 : i = 0
   ·subst h0
    refine Ev.step (fun k => ?_) ih'
    simp only [impl_IsLine.l0, impl_IsPoint.f, Option.bind_some]
    rw [if_pos (by omega), if_pos (by omega), if_pos (by omega), rdPt l 0 h1, hp, if_pos rfl, if_neg (by omega), w1' 0 (by omega)]
   ·have hi1 : i - 1 < l.length := by omega
    have eP : prevL l i = some l[i - 1] := by unfold prevL; rw [if_neg h0, List.getD_eq_getElem?_getD, List.getElem?_eq_getElem hi1]; rfl
    rw [eP]
    dsimp only
    have eq : (((l[i]).f0) == (l[i - 1].f0) && (((l[i]).f1) == (l[i - 1].f1))) = eqP l[i - 1] l[i] := by
     unfold eqP; rw [Bool.eq_iff_iff]; simp; omega
    cases he : eqP l[i - 1] l[i]
    ·refine Ev.step (fun k => ?_) ih'
     simp only [impl_IsLine.l0, impl_IsPoint.f, Option.bind_some]
     rw [if_pos (by omega), if_pos (by omega), if_pos (by omega), rdPt l i h1, hp, if_pos rfl, if_pos (by omega), w1m i (by omega) (by omega), if_pos (by omega), if_pos (by omega), rdPt l (i - 1) hi1, eq, he, w1' i (by omega)]
     simp
    ·refine Ev.step (f := fun _ => some false) (fun k => ?_) (Ev.now _)
     simp only [impl_IsLine.l0, impl_IsPoint.f, Option.bind_some]
     rw [if_pos (by omega), if_pos (by omega), if_pos (by omega), rdPt l i h1, hp, if_pos rfl, if_pos (by omega), w1m i (by omega) (by omega), if_pos (by omega), if_pos (by omega), rdPt l (i - 1) hi1, eq, he]
     simp
theorem isLine_i (l : List S75) (hl : l.length < 9223372036854775807) : Ev (fun k => impl_IsLine.f k l) (lnB l) := by
 unfold impl_IsLine.f lnB
 have dead : Ev (fun k => impl_IsLine.j0 k l true) false := Ev.step (f := fun _ => some false) (fun k => by simp [impl_IsLine.j0]) (Ev.now _)
 by_cases h2 : (l.length : Int) < 2
 ·simp only [if_pos h2]
  have : inR (l.length : Int) 2 10 = false := by unfold inR; simp; omega
  rw [this]; exact dead
 ·simp only [if_neg h2]
  by_cases h10 : (l.length : Int) > 10
  ·have : inR (l.length : Int) 2 10 = false := by unfold inR; simp; omega
   rw [this, decide_eq_true h10]; exact dead
  ·have : inR (l.length : Int) 2 10 = true := by unfold inR; simp; omega
   rw [this, decide_eq_false h10]
   exact Ev.step (fun k => by simp [impl_IsLine.j0]) (isLine_il l hl l.length 0 (by omega))
theorem rdSg (l : List S133) (i : Nat) (h : i < l.length) : rd_T133 l (i : Int) = l.getD i z133 := by
 unfold rd_T133
 rw [Int.toNat_natCast]
def howL (p q : S133) : Int := howS p.f0.f0 p.f0.f1 p.f1.f0 p.f1.f1 q.f0.f0 q.f0.f1 q.f1.f0 q.f1.f1
def segL (p : S133) : Bool := isSeg p.f0.f0 p.f0.f1 p.f1.f0 p.f1.f1
def wantR (n i k : Nat) : Int := if k + 1 = i ∨ (k = 0 ∧ i + 1 = n) then 1 else 0
def inRow (s : List S133) (i : Nat) (k : Nat) : Bool := decide (howL (s.getD i z133) (s.getD k z133) = wantR s.length i k)
def ringS (s : List S133) (i d : Nat) : Bool := (List.range' i d).all fun i => segL (s.getD i z133) && (List.range' 0 i).all (inRow s i)
/-- The segments around. -/
def arR (l : List S75) : List S133 := (List.range l.length).map fun i => (⟨l.getD i z75, l.getD ((i + 1) % l.length) z75⟩ : S133)
def rgB (l : List S75) : Bool := inR (l.length : Int) 3 10 && ringS (arR l) 0 l.length
theorem arR_len (l : List S75) : (arR l).length = l.length := by simp [arR]
theorem arR_take (l : List S75) (i : Nat) (h : i < l.length) : (arR l).take (i + 1) = (arR l).take i ++ [(⟨l.getD i z75, l.getD ((i + 1) % l.length) z75⟩ : S133)] := by
 rw [List.take_succ_eq_append_getElem (by rw [arR_len]; exact h)]
 simp [arR]
theorem tmod_nat (a n : Nat) : Int.tmod (a : Int) (n : Int) = ((a % n : Nat) : Int) := by rw [Int.ofNat_tmod]
theorem rdPd (l : List S75) (i : Nat) : rd_T75 l (i : Int) = l.getD i z75 := by
 unfold rd_T75
 rw [Int.toNat_natCast]
theorem around_sl (l : List S75) (hl : l.length < 1000) (d : Nat) : ∀ i : Nat, i + d = l.length → Ev (fun k => spec_l7Segments.l0 k l ((arR l).take i) (i : Int)) (arR l) := by
 induction d with
 | zero =>
  intro i hi
  rw [List.take_of_length_le (by rw [arR_len]; omega)]
  refine Ev.step (f := fun _ => some _) (fun k => ?_) (Ev.now _)
  simp only [spec_l7Segments.l0]
  rw [if_neg (by omega)]
 | succ d ih =>
  intro i hi
  have h1 : i < l.length := by omega
  have hm : (i + 1) % l.length < l.length := Nat.mod_lt _ (by omega)
  refine Ev.step (fun k => ?_) (ih (i + 1) (by omega))
  have hlen : ((arR l).take i).length < 4398046511104 := by rw [List.length_take, arR_len]; omega
  simp only [spec_l7Segments.l0]
  rw [if_pos (by omega), if_pos (by omega), if_neg (by omega), w1' i (by omega), tmod_nat, if_pos (by omega), if_pos (by omega), if_pos hlen, rdPd, rdPd, arR_take l i h1]
theorem around_s (l : List S75) (hl : l.length < 1000) : Ev (fun k => spec_l7Segments.f k l) (arR l) := by
 unfold spec_l7Segments.f
 exact around_sl l hl l.length 0 (by omega)
theorem around_il (l : List S75) (hl : l.length < 1000) (d : Nat) : ∀ i : Nat, i + d = l.length → Ev (fun k => impl_around.l0 k l ((arR l).take i) l (l.length : Int) (i : Int)) (arR l) := by
 induction d with
 | zero =>
  intro i hi
  rw [List.take_of_length_le (by rw [arR_len]; omega)]
  refine Ev.step (f := fun _ => some _) (fun k => ?_) (Ev.now _)
  simp only [impl_around.l0]
  rw [if_neg (by omega)]
 | succ d ih =>
  intro i hi
  have h1 : i < l.length := by omega
  have hm : (i + 1) % l.length < l.length := Nat.mod_lt _ (by omega)
  refine Ev.step (fun k => ?_) (ih (i + 1) (by omega))
  have hlen : ((arR l).take i).length < 4398046511104 := by rw [List.length_take, arR_len]; omega
  simp only [impl_around.l0]
  rw [if_pos (by omega), if_pos (by omega), if_pos (by omega), if_neg (by omega), w1' i (by omega), tmod_nat, if_pos (by omega), if_pos (by omega), if_pos hlen, rdPd, rdPd, arR_take l i h1]
theorem around_i (l : List S75) (hl : l.length < 1000) : Ev (fun k => impl_around.f k l) (arR l) := by
 unfold impl_around.f
 exact around_il l hl l.length 0 (by omega)
theorem ring_s1 (s : List S133) (hs : s.length < 1000) (i : Nat) (hi : i < s.length) (rest : Bool) (hr : Ev (fun k => spec_IsRing.l0 k s ((i + 1 : Nat) : Int)) rest) (d : Nat) :
  ∀ k : Nat, k + d = i → Ev (fun n => spec_IsRing.l1 n s (i : Int) (k : Int)) ((List.range' k d).all (inRow s i) && rest) := by
 induction d with
 | zero =>
  intro k hk
  refine Ev.step (fun n => ?_) hr
  simp only [spec_IsRing.l1]
  rw [if_neg (by omega), w1' i (by omega)]
 | succ d ih =>
  intro k hk
  have hk1 : k < s.length := by omega
  rw [List.range'_succ, List.all_cons]
  have e2 : Ev (fun n => (spec_HowMeet.f (s.getD i z133).f0.f0 (s.getD i z133).f0.f1 (s.getD i z133).f1.f0 (s.getD i z133).f1.f1 (s.getD k z133).f0.f0 (s.getD k z133).f0.f1 (s.getD k z133).f1.f0 (s.getD k z133).f1.f1).bind fun t => if t = wantR s.length i k then spec_IsRing.l1 n s (i : Int) ((k + 1 : Nat) : Int) else some false) (inRow s i k && (List.range' (k + 1) d).all (inRow s i) && rest) := by
   refine Ev.bind (how_s _ _ _ _ _ _ _ _) ?_
   by_cases hw : howL (s.getD i z133) (s.getD k z133) = wantR s.length i k
   ·have e : inRow s i k = true := by unfold inRow; exact decide_eq_true hw
    rw [e, Bool.true_and]
    have : Ev (fun n => spec_IsRing.l1 n s (i : Int) ((k + 1 : Nat) : Int)) ((List.range' (k + 1) d).all (inRow s i) && rest) := ih (k + 1) (by omega)
    refine Ev.congr (fun n => ?_) this
    exact if_pos hw
   ·have e : inRow s i k = false := by unfold inRow; exact decide_eq_false hw
    rw [e]
    refine Ev.congr (fun n => ?_) (Ev.now _)
    exact if_neg hw
  have j : ∀ b : Bool, (if b = true then (1 : Int) else 0) = wantR s.length i k → Ev (fun n => spec_IsRing.j2 n s (i : Int) (k : Int) 0 b) (inRow s i k && (List.range' (k + 1) d).all (inRow s i) && rest) := by
   intro b hb
   refine Ev.step (fun n => ?_) e2
   simp only [spec_IsRing.j2]
   rw [← hb]
   cases b
   ·rw [if_neg (by simp), if_pos (by omega), if_pos (by omega), if_pos (by omega), if_pos (by omega), rdSg s i hi, rdSg s k hk1, w1' k (by omega)]; rfl
   ·rw [if_pos rfl, if_pos (by omega), if_pos (by omega), if_pos (by omega), if_pos (by omega), rdSg s i hi, rdSg s k hk1, w1' k (by omega)]; rfl
  by_cases z : k + 1 = i
  ·refine Ev.step (fun n => ?_) (j true (by show (1 : Int) = _; unfold wantR; rw [if_pos (.inl z)]))
   simp only [spec_IsRing.l1]
   rw [if_pos (by omega), w1' k (by omega), if_pos (by omega)]
  ·by_cases z0 : k = 0
   ·refine Ev.step (fun n => ?_) (j (decide (i + 1 = s.length)) (by unfold wantR; by_cases q : i + 1 = s.length <;> simp [q, z0] <;> omega))
    simp only [spec_IsRing.l1]
    rw [if_pos (by omega), w1' k (by omega), if_neg (by omega), if_pos (by omega), w1' i (by omega)]
    congr 1
    rw [Bool.eq_iff_iff]; simp; omega
   ·refine Ev.step (fun n => ?_) (j false (by show (0 : Int) = _; unfold wantR; rw [if_neg (by omega)]))
    simp only [spec_IsRing.l1]
    rw [if_pos (by omega), w1' k (by omega), if_neg (by omega), if_neg (by omega)]
theorem ring_s0 (s : List S133) (hs : s.length < 1000) (d : Nat) : ∀ i : Nat, i + d = s.length → Ev (fun n => spec_IsRing.l0 n s (i : Int)) (ringS s i d) := by
 induction d with
 | zero =>
  intro i hi
  refine Ev.step (f := fun _ => some true) (fun n => ?_) (Ev.now _)
  simp only [spec_IsRing.l0]
  rw [if_neg (by omega)]
 | succ d ih =>
  intro i hi
  have h1 : i < s.length := by omega
  unfold ringS
  rw [List.range'_succ, List.all_cons]
  cases hq : segL (s.getD i z133)
  ·refine Ev.step (f := fun _ => some false) (fun n => ?_) (Ev.now _)
   simp only [spec_IsRing.l0, spec_IsSegment.f, Option.bind_some]
   rw [if_pos (by omega), if_pos (by omega), rdSg s i h1]
   unfold segL at hq
   rw [hq]; simp
  ·refine Ev.step (fun n => ?_) (ring_s1 s hs i h1 _ (ih (i + 1) (by omega)) i 0 (by omega))
   simp only [spec_IsRing.l0, spec_IsSegment.f, Option.bind_some]
   rw [if_pos (by omega), if_pos (by omega), rdSg s i h1]
   unfold segL at hq
   rw [hq, if_pos rfl]; rfl
theorem isRing_s (l : List S75) (hl : l.length < 9223372036854775807) : Ev (fun k => spec_IsRing.f k l) (rgB l) := by
 unfold spec_IsRing.f rgB spec_l1In.f
 simp only [Option.bind_some]
 cases h : inR (l.length : Int) 3 10
 ·simp only [Bool.false_eq_true, if_false, Bool.false_and]; exact Ev.now _
 ·have hb : l.length < 1000 := by unfold inR at h; simp at h; omega
  simp only [if_true, Bool.true_and]
  refine Ev.bind (around_s l hb) ?_
  have := ring_s0 (arR l) (by rw [arR_len]; exact hb) l.length 0 (by rw [arR_len]; omega)
  exact this
theorem ring_i1 (s : List S133) (hs : s.length < 1000) (i : Nat) (hi : i < s.length) (rest : Bool) (hr : Ev (fun k => impl_IsRing.l0 k s (s.length : Int) ((i + 1 : Nat) : Int)) rest) (d : Nat) :
  ∀ k : Nat, k + d = i → Ev (fun n => impl_IsRing.l1 n s (i : Int) (s.length : Int) (i : Int) (i : Int) (k : Int)) ((List.range' k d).all (inRow s i) && rest) := by
 induction d with
 | zero =>
  intro k hk
  refine Ev.step (fun n => ?_) hr
  simp only [impl_IsRing.l1]
  rw [if_neg (by omega), w1' i (by omega)]
 | succ d ih =>
  intro k hk
  have hk1 : k < s.length := by omega
  rw [List.range'_succ, List.all_cons]
  have e2 : Ev (fun n => (impl_HowMeet.f n (s.getD i z133).f0.f0 (s.getD i z133).f0.f1 (s.getD i z133).f1.f0 (s.getD i z133).f1.f1 (s.getD k z133).f0.f0 (s.getD k z133).f0.f1 (s.getD k z133).f1.f0 (s.getD k z133).f1.f1).bind fun t => if t = wantR s.length i k then impl_IsRing.l1 n s (i : Int) (s.length : Int) (i : Int) (i : Int) ((k + 1 : Nat) : Int) else some false) (inRow s i k && (List.range' (k + 1) d).all (inRow s i) && rest) := by
   refine Ev.bind (how_i _ _ _ _ _ _ _ _) ?_
   by_cases hw : howL (s.getD i z133) (s.getD k z133) = wantR s.length i k
   ·have e : inRow s i k = true := by unfold inRow; exact decide_eq_true hw
    rw [e, Bool.true_and]
    refine Ev.congr (fun n => ?_) (ih (k + 1) (by omega))
    exact if_pos hw
   ·have e : inRow s i k = false := by unfold inRow; exact decide_eq_false hw
    rw [e]
    refine Ev.congr (fun n => ?_) (Ev.now _)
    exact if_neg hw
  have j : ∀ b : Bool, (if b = true then (1 : Int) else 0) = wantR s.length i k → Ev (fun n => impl_IsRing.j3 n s (i : Int) (k : Int) 0 (s.length : Int) (i : Int) (i : Int) (k : Int) b) (inRow s i k && (List.range' (k + 1) d).all (inRow s i) && rest) := by
   intro b hb
   refine Ev.step (fun n => ?_) e2
   simp only [impl_IsRing.j3]
   rw [← hb]
   cases b
   ·rw [if_neg (by simp), if_pos (by omega), if_pos (by omega), if_pos (by omega), if_pos (by omega), rdSg s i hi, rdSg s k hk1, w1' k (by omega)]; rfl
   ·rw [if_pos rfl, if_pos (by omega), if_pos (by omega), if_pos (by omega), if_pos (by omega), rdSg s i hi, rdSg s k hk1, w1' k (by omega)]; rfl
  have wi : wrap64 ((i : Int) - 1) = (i : Int) - 1 := by unfold wrap64; omega
  have wn : wrap64 ((s.length : Int) - 1) = (s.length : Int) - 1 := by unfold wrap64; omega
  by_cases z : k + 1 = i
  ·refine Ev.step (fun n => ?_) (j true (by show (1 : Int) = _; unfold wantR; rw [if_pos (.inl z)]))
   simp only [impl_IsRing.l1]
   rw [if_pos (by omega), wi, if_pos (by omega)]
  ·by_cases z0 : k = 0
   ·refine Ev.step (fun n => ?_) (j (decide (i + 1 = s.length)) (by unfold wantR; by_cases q : i + 1 = s.length <;> simp [q, z0] <;> omega))
    simp only [impl_IsRing.l1]
    rw [if_pos (by omega), wi, if_neg (by omega), if_pos (by omega), wn]
    congr 1
    rw [Bool.eq_iff_iff]; simp; omega
   ·refine Ev.step (fun n => ?_) (j false (by show (0 : Int) = _; unfold wantR; rw [if_neg (by omega)]))
    simp only [impl_IsRing.l1]
    rw [if_pos (by omega), wi, if_neg (by omega), if_neg (by omega)]
theorem ring_i0 (s : List S133) (hs : s.length < 1000) (d : Nat) : ∀ i : Nat, i + d = s.length → Ev (fun n => impl_IsRing.l0 n s (s.length : Int) (i : Int)) (ringS s i d) := by
 induction d with
 | zero =>
  intro i hi
  refine Ev.step (f := fun _ => some true) (fun n => ?_) (Ev.now _)
  simp only [impl_IsRing.l0]
  rw [if_neg (by omega)]
 | succ d ih =>
  intro i hi
  have h1 : i < s.length := by omega
  unfold ringS
  rw [List.range'_succ, List.all_cons]
  cases hq : segL (s.getD i z133)
  ·refine Ev.step (f := fun _ => some false) (fun n => ?_) (Ev.now _)
   simp only [impl_IsRing.l0, impl_IsSegment.f, Option.bind_some]
   rw [if_pos (by omega), if_pos (by omega), if_pos (by omega), rdSg s i h1]
   unfold segL at hq
   rw [hq]; simp
  ·refine Ev.step (fun n => ?_) (ring_i1 s hs i h1 _ (ih (i + 1) (by omega)) i 0 (by omega))
   simp only [impl_IsRing.l0, impl_IsSegment.f, Option.bind_some]
   rw [if_pos (by omega), if_pos (by omega), if_pos (by omega), rdSg s i h1]
   unfold segL at hq
   rw [hq, if_pos rfl]; rfl
theorem isRing_i (l : List S75) (hl : l.length < 9223372036854775807) : Ev (fun k => impl_IsRing.f k l) (rgB l) := by
 unfold impl_IsRing.f rgB
 have dead : Ev (fun k => impl_IsRing.j0 k l true) false := Ev.step (f := fun _ => some false) (fun k => by simp [impl_IsRing.j0]) (Ev.now _)
 by_cases h2 : (l.length : Int) < 3
 ·simp only [if_pos h2]
  have : inR (l.length : Int) 3 10 = false := by unfold inR; simp; omega
  rw [this]; exact dead
 ·simp only [if_neg h2]
  by_cases h10 : (l.length : Int) > 10
  ·have : inR (l.length : Int) 3 10 = false := by unfold inR; simp; omega
   rw [this, decide_eq_true h10]; exact dead
  ·have : inR (l.length : Int) 3 10 = true := by unfold inR; simp; omega
   rw [this, decide_eq_false h10]
   have hb : l.length < 1000 := by omega
   refine Ev.step (f := fun k => (impl_around.f k l).bind fun t => impl_IsRing.l0 k t (t.length : Int) 0) (fun k => by simp [impl_IsRing.j0]) (Ev.bind (around_i l hb) ?_)
   exact ring_i0 (arR l) (by rw [arR_len]; exact hb) l.length 0 (by rw [arR_len]; omega)
def nmB (s : ByteArray) : Bool := (List.range' 0 s.size).all (fun (i : Nat) => decide (97 ≤ bt s (i : Int)) && decide (bt s (i : Int) ≤ 122)) && inR (s.size : Int) 1 8
theorem nm_loop_s (s : ByteArray) (hs : s.size ≤ 9223372036854775807) (d : Nat) : ∀ i : Nat, i + d = s.size → Ev (fun k => spec_IsName.l0 k s (i : Int)) ((List.range' i d).all (fun (i : Nat) => decide (97 ≤ bt s (i : Int)) && decide (bt s (i : Int) ≤ 122)) && inR (s.size : Int) 1 8) := by
 induction d with
 | zero =>
  intro i hi
  refine Ev.step (f := fun _ => some (inR (s.size : Int) 1 8)) (fun k => ?_) (Ev.now _)
  simp only [spec_IsName.l0, spec_l1In.f]
  rw [if_neg (by omega)]; rfl
 | succ d ih =>
  intro i hi
  rw [List.range'_succ, List.all_cons]
  by_cases h1 : bt s (i : Int) < 97
  ·rw [decide_eq_false (show ¬ 97 ≤ bt s (i : Int) by omega)]
   refine Ev.step (f := fun _ => some false) (fun k => ?_) (Ev.now _)
   simp only [spec_IsName.l0]
   rw [if_pos (by omega), if_pos (by omega), if_pos h1]
  ·by_cases h2 : bt s (i : Int) > 122
   ·rw [decide_eq_true (show 97 ≤ bt s (i : Int) by omega), decide_eq_false (show ¬ bt s (i : Int) ≤ 122 by omega)]
    refine Ev.step (f := fun _ => some false) (fun k => ?_) (Ev.now _)
    simp only [spec_IsName.l0]
    rw [if_pos (by omega), if_pos (by omega), if_neg h1, if_pos h2]
   ·rw [decide_eq_true (show 97 ≤ bt s (i : Int) by omega), decide_eq_true (show bt s (i : Int) ≤ 122 by omega)]
    refine Ev.step (fun k => ?_) (ih (i + 1) (by omega))
    simp only [spec_IsName.l0]
    rw [if_pos (by omega), if_pos (by omega), if_neg h1, if_neg h2, w1' i (by omega)]
theorem nm_s (s : ByteArray) (hs : s.size ≤ 9223372036854775807) : Ev (fun k => spec_IsName.f k s) (nmB s) := nm_loop_s s hs s.size 0 (by omega)
theorem nm_loop_i (s : ByteArray) (hs : s.size ≤ 9223372036854775807) (d : Nat) : ∀ i : Nat, i + d = s.size → Ev (fun k => impl_IsName.l0 k s (s.size : Int) (i : Int)) ((List.range' i d).all (fun (i : Nat) => decide (97 ≤ bt s (i : Int)) && decide (bt s (i : Int) ≤ 122)) && inR (s.size : Int) 1 8) := by
 induction d with
 | zero =>
  intro i hi
  refine Ev.step (f := fun _ => some (inR (s.size : Int) 1 8)) (fun k => ?_) (Ev.now _)
  simp only [impl_IsName.l0, impl_InRange.f]
  rw [if_neg (by omega)]; rfl
 | succ d ih =>
  intro i hi
  rw [List.range'_succ, List.all_cons]
  by_cases h1 : bt s (i : Int) < 97
  ·rw [decide_eq_false (show ¬ 97 ≤ bt s (i : Int) by omega)]
   refine Ev.step (f := fun _ => some false) (fun k => ?_) (Ev.now _)
   simp only [impl_IsName.l0]
   rw [if_pos (by omega), if_pos (by omega), if_pos (by omega), if_pos h1]
  ·by_cases h2 : bt s (i : Int) > 122
   ·rw [decide_eq_true (show 97 ≤ bt s (i : Int) by omega), decide_eq_false (show ¬ bt s (i : Int) ≤ 122 by omega)]
    refine Ev.step (f := fun _ => some false) (fun k => ?_) (Ev.now _)
    simp only [impl_IsName.l0]
    rw [if_pos (by omega), if_pos (by omega), if_pos (by omega), if_neg h1, if_pos h2]
   ·rw [decide_eq_true (show 97 ≤ bt s (i : Int) by omega), decide_eq_true (show bt s (i : Int) ≤ 122 by omega)]
    refine Ev.step (fun k => ?_) (ih (i + 1) (by omega))
    simp only [impl_IsName.l0]
    rw [if_pos (by omega), if_pos (by omega), if_pos (by omega), if_neg h1, if_neg h2, w1' i (by omega)]
theorem nm_i (s : ByteArray) (hs : s.size ≤ 9223372036854775807) : Ev (fun k => impl_IsName.f k s) (nmB s) := nm_loop_i s hs s.size 0 (by omega)
theorem lnB_len {l : List S75} (h : lnB l = true) : 2 ≤ l.length ∧ l.length ≤ 10 := by
 unfold lnB inR at h; simp at h; omega
/-- The segments of a line, one behind the other. -/
def sgR (l : List S75) : List S133 := (List.range (l.length - 1)).map fun i => (⟨l.getD i z75, l.getD (i + 1) z75⟩ : S133)
def sgL (l : List S75) : List S133 := if lnB l then sgR l else []
theorem sgR_len (l : List S75) : (sgR l).length = l.length - 1 := by simp [sgR]
theorem sgR_take (l : List S75) (i : Nat) (h : i + 1 < l.length) : (sgR l).take (i + 1) = (sgR l).take i ++ [(⟨l.getD i z75, l.getD (i + 1) z75⟩ : S133)] := by
 rw [List.take_succ_eq_append_getElem (by rw [sgR_len]; omega)]
 simp [sgR]
theorem seg_sl (l : List S75) (hl : lnB l = true) (d : Nat) : ∀ i : Nat, i + 1 + d = l.length → Ev (fun k => spec_SegmentsOf.l0 k l ((sgR l).take i) ((i + 1 : Nat) : Int)) (sgR l) := by
 have hb := lnB_len hl
 induction d with
 | zero =>
  intro i hi
  rw [List.take_of_length_le (by rw [sgR_len]; omega)]
  refine Ev.step (f := fun _ => some _) (fun k => ?_) (Ev.now _)
  simp only [spec_SegmentsOf.l0]
  rw [if_neg (by omega)]
 | succ d ih =>
  intro i hi
  have hlen : ((sgR l).take i).length < 4398046511104 := by rw [List.length_take, sgR_len]; omega
  have w : wrap64 (((i + 1 : Nat) : Int) - 1) = (i : Int) := by unfold wrap64; omega
  refine Ev.step (f := fun k => (spec_IsLine.f k l).bind fun t => if t = true then spec_SegmentsOf.l0 k l ((sgR l).take (i + 1)) ((i + 1 + 1 : Nat) : Int) else some ((sgR l).take i)) (fun k => ?_) (Ev.bind (isLine_s l (by omega)) ?_)
  ·simp only [spec_SegmentsOf.l0]
   rw [if_pos (by omega), w, if_pos (by omega), if_pos (by omega), if_pos (by omega), if_pos hlen, rdPd, rdPd, sgR_take l i (by omega), w1' (i + 1) (by omega)]
  ·rw [hl]
   simp only [if_true]
   exact ih (i + 1) (by omega)
theorem seg_s (l : List S75) (hl : l.length < 9223372036854775807) : Ev (fun k => spec_SegmentsOf.f k l) (sgL l) := by
 unfold spec_SegmentsOf.f sgL
 cases h : lnB l
 ·by_cases h1 : (1 : Int) < (l.length : Int)
  ·refine Ev.step (f := fun k => (spec_IsLine.f k l).bind fun t => if t = true then spec_SegmentsOf.l0 (k + 1) l [] 1 else some []) (fun k => ?_) (Ev.bind (isLine_s l hl) ?_)
   ·simp only [spec_SegmentsOf.l0]
    rw [if_pos h1]
    cases hh : spec_IsLine.f k l with
    | none => rfl
    | some b => cases b <;> simp [h1]
   ·rw [h]; simp only [Bool.false_eq_true, if_false]; exact Ev.now _
  ·refine Ev.step (f := fun _ => some []) (fun k => ?_) (Ev.now _)
   simp only [spec_SegmentsOf.l0]
   rw [if_neg h1]
 ·have hb := lnB_len h
  exact seg_sl l h (l.length - 1) 0 (by omega)
theorem seg_il (l : List S75) (hl : lnB l = true) (d : Nat) : ∀ i : Nat, i + 1 + d = l.length → Ev (fun k => impl_SegmentsOf.l0 k l ((sgR l).take i) ((i + 1 : Nat) : Int)) (sgR l) := by
 have hb := lnB_len hl
 induction d with
 | zero =>
  intro i hi
  rw [List.take_of_length_le (by rw [sgR_len]; omega)]
  refine Ev.step (f := fun _ => some _) (fun k => ?_) (Ev.now _)
  simp only [impl_SegmentsOf.l0]
  rw [if_neg (by omega)]
 | succ d ih =>
  intro i hi
  have hlen : ((sgR l).take i).length < 4398046511104 := by rw [List.length_take, sgR_len]; omega
  have w : wrap64 (((i + 1 : Nat) : Int) - 1) = (i : Int) := by unfold wrap64; omega
  refine Ev.step (fun k => ?_) (ih (i + 1) (by omega))
  simp only [impl_SegmentsOf.l0]
  rw [if_pos (by omega), w, if_pos (by omega), if_pos (by omega), if_pos (by omega), if_pos hlen, rdPd, rdPd, sgR_take l i (by omega), w1' (i + 1) (by omega)]
theorem seg_i (l : List S75) (hl : l.length < 9223372036854775807) : Ev (fun k => impl_SegmentsOf.f k l) (sgL l) := by
 unfold impl_SegmentsOf.f sgL
 simp only [Option.bind_some]
 refine Ev.bind (isLine_i l hl) ?_
 cases h : lnB l
 ·simp only [Bool.false_eq_true, if_false]; exact Ev.now _
 ·have hb := lnB_len h
  simp only [if_true]
  exact seg_il l h (l.length - 1) 0 (by omega)
def wantS (i k : Nat) : Int := if k + 1 = i then 1 else 0
def inRow2 (s : List S133) (i : Nat) (k : Nat) : Bool := decide (howL (s.getD i z133) (s.getD k z133) = wantS i k)
def simS (s : List S133) (i d : Nat) : Bool := (List.range' i d).all fun i => (List.range' 0 i).all (inRow2 s i)
def smB (l : List S75) : Bool := lnB l && simS (sgL l) 0 (sgL l).length
theorem sim_s1 (l : List S75) (s : List S133) (hs : s.length < 1000) (i : Nat) (hi : i < s.length) (rest : Bool) (hr : Ev (fun k => spec_IsSimple.l0 k l s ((i + 1 : Nat) : Int)) rest) (d : Nat) :
  ∀ k : Nat, k + d = i → Ev (fun n => spec_IsSimple.l1 n l s (i : Int) (k : Int)) ((List.range' k d).all (inRow2 s i) && rest) := by
 induction d with
 | zero =>
  intro k hk
  refine Ev.step (fun n => ?_) hr
  simp only [spec_IsSimple.l1]
  rw [if_neg (by omega), w1' i (by omega)]
 | succ d ih =>
  intro k hk
  have hk1 : k < s.length := by omega
  rw [List.range'_succ, List.all_cons]
  have e2 : Ev (fun n => (spec_HowMeet.f (s.getD i z133).f0.f0 (s.getD i z133).f0.f1 (s.getD i z133).f1.f0 (s.getD i z133).f1.f1 (s.getD k z133).f0.f0 (s.getD k z133).f0.f1 (s.getD k z133).f1.f0 (s.getD k z133).f1.f1).bind fun t => if t = wantS i k then spec_IsSimple.l1 n l s (i : Int) ((k + 1 : Nat) : Int) else some false) (inRow2 s i k && (List.range' (k + 1) d).all (inRow2 s i) && rest) := by
   refine Ev.bind (how_s _ _ _ _ _ _ _ _) ?_
   by_cases hw : howL (s.getD i z133) (s.getD k z133) = wantS i k
   ·have e : inRow2 s i k = true := by unfold inRow2; exact decide_eq_true hw
    rw [e, Bool.true_and]
    refine Ev.congr (fun n => ?_) (ih (k + 1) (by omega))
    exact if_pos hw
   ·have e : inRow2 s i k = false := by unfold inRow2; exact decide_eq_false hw
    rw [e]
    refine Ev.congr (fun n => ?_) (Ev.now _)
    exact if_neg hw
  refine Ev.step (fun n => ?_) e2
  simp only [spec_IsSimple.l1]
  by_cases z : k + 1 = i
  ·have hw : wantS i k = 1 := by unfold wantS; rw [if_pos z]
   rw [hw, if_pos (by omega), w1' k (by omega), if_pos (by omega), if_pos (by omega), if_pos (by omega), if_pos (by omega), if_pos (by omega), rdSg s i hi, rdSg s k hk1]
  ·have hw : wantS i k = 0 := by unfold wantS; rw [if_neg z]
   rw [hw, if_pos (by omega), w1' k (by omega), if_neg (by omega), if_pos (by omega), if_pos (by omega), if_pos (by omega), if_pos (by omega), rdSg s i hi, rdSg s k hk1]
theorem sim_s0 (l : List S75) (hl : l.length < 9223372036854775807) (s : List S133) (hs : s.length < 1000) (d : Nat) : ∀ i : Nat, i + d = s.length → Ev (fun n => spec_IsSimple.l0 n l s (i : Int)) (simS s i d && lnB l) := by
 induction d with
 | zero =>
  intro i hi
  refine Ev.step (f := fun k => (spec_IsLine.f k l).bind fun t => some t) (fun n => ?_) (Ev.bind (isLine_s l hl) (Ev.now _))
  simp only [spec_IsSimple.l0]
  rw [if_neg (by omega)]
 | succ d ih =>
  intro i hi
  have h1 : i < s.length := by omega
  unfold simS
  rw [List.range'_succ, List.all_cons, Bool.and_assoc]
  refine Ev.step (fun n => ?_) (sim_s1 l s hs i h1 _ (ih (i + 1) (by omega)) i 0 (by omega))
  simp only [spec_IsSimple.l0]
  rw [if_pos (by omega)]; rfl
theorem sgL_len (l : List S75) : (sgL l).length < 1000 := by
 unfold sgL
 cases h : lnB l
 ·simp
 ·have := lnB_len h; simp [sgR_len]; omega
theorem isSimple_s (l : List S75) (hl : l.length < 9223372036854775807) : Ev (fun k => spec_IsSimple.f k l) (smB l) := by
 unfold spec_IsSimple.f smB
 refine Ev.bind (seg_s l hl) ?_
 rw [Bool.and_comm]
 exact sim_s0 l hl (sgL l) (sgL_len l) (sgL l).length 0 (by omega)
theorem sim_i1 (s : List S133) (hs : s.length < 1000) (i : Nat) (hi : i < s.length) (rest : Bool) (hr : Ev (fun k => impl_IsSimple.l0 k s (s.length : Int) ((i + 1 : Nat) : Int)) rest) (d : Nat) :
  ∀ k : Nat, k + d = i → Ev (fun n => impl_IsSimple.l1 n s (i : Int) (s.length : Int) (i : Int) (i : Int) (k : Int)) ((List.range' k d).all (inRow2 s i) && rest) := by
 induction d with
 | zero =>
  intro k hk
  refine Ev.step (fun n => ?_) hr
  simp only [impl_IsSimple.l1]
  rw [if_neg (by omega), w1' i (by omega)]
 | succ d ih =>
  intro k hk
  have hk1 : k < s.length := by omega
  rw [List.range'_succ, List.all_cons]
  have e2 : Ev (fun n => (impl_HowMeet.f n (s.getD i z133).f0.f0 (s.getD i z133).f0.f1 (s.getD i z133).f1.f0 (s.getD i z133).f1.f1 (s.getD k z133).f0.f0 (s.getD k z133).f0.f1 (s.getD k z133).f1.f0 (s.getD k z133).f1.f1).bind fun t => if t = wantS i k then impl_IsSimple.l1 n s (i : Int) (s.length : Int) (i : Int) (i : Int) ((k + 1 : Nat) : Int) else some false) (inRow2 s i k && (List.range' (k + 1) d).all (inRow2 s i) && rest) := by
   refine Ev.bind (how_i _ _ _ _ _ _ _ _) ?_
   by_cases hw : howL (s.getD i z133) (s.getD k z133) = wantS i k
   ·have e : inRow2 s i k = true := by unfold inRow2; exact decide_eq_true hw
    rw [e, Bool.true_and]
    refine Ev.congr (fun n => ?_) (ih (k + 1) (by omega))
    exact if_pos hw
   ·have e : inRow2 s i k = false := by unfold inRow2; exact decide_eq_false hw
    rw [e]
    refine Ev.congr (fun n => ?_) (Ev.now _)
    exact if_neg hw
  have wi : wrap64 ((i : Int) - 1) = (i : Int) - 1 := by unfold wrap64; omega
  refine Ev.step (fun n => ?_) e2
  simp only [impl_IsSimple.l1]
  by_cases z : k + 1 = i
  ·have hw : wantS i k = 1 := by unfold wantS; rw [if_pos z]
   rw [hw, if_pos (by omega), wi, if_pos (by omega), if_pos (by omega), if_pos (by omega), if_pos (by omega), if_pos (by omega), rdSg s i hi, rdSg s k hk1, w1' k (by omega)]
  ·have hw : wantS i k = 0 := by unfold wantS; rw [if_neg z]
   rw [hw, if_pos (by omega), wi, if_neg (by omega), if_pos (by omega), if_pos (by omega), if_pos (by omega), if_pos (by omega), rdSg s i hi, rdSg s k hk1, w1' k (by omega)]
theorem sim_i0 (s : List S133) (hs : s.length < 1000) (d : Nat) : ∀ i : Nat, i + d = s.length → Ev (fun n => impl_IsSimple.l0 n s (s.length : Int) (i : Int)) (simS s i d) := by
 induction d with
 | zero =>
  intro i hi
  refine Ev.step (f := fun _ => some true) (fun n => ?_) (Ev.now _)
  simp only [impl_IsSimple.l0]
  rw [if_neg (by omega)]
 | succ d ih =>
  intro i hi
  have h1 : i < s.length := by omega
  unfold simS
  rw [List.range'_succ, List.all_cons]
  refine Ev.step (fun n => ?_) (sim_i1 s hs i h1 _ (ih (i + 1) (by omega)) i 0 (by omega))
  simp only [impl_IsSimple.l0]
  rw [if_pos (by omega)]; rfl
theorem isSimple_i (l : List S75) (hl : l.length < 9223372036854775807) : Ev (fun k => impl_IsSimple.f k l) (smB l) := by
 unfold impl_IsSimple.f smB
 refine Ev.bind (isLine_i l hl) ?_
 cases h : lnB l
 ·simp only [Bool.false_eq_true, if_false, Bool.false_and]; exact Ev.now _
 ·simp only [if_true, Bool.true_and]
  refine Ev.bind (seg_i l hl) ?_
  exact sim_i0 (sgL l) (sgL_len l) (sgL l).length 0 (by omega)
def kdB (kd : Int) (l : List S75) : Bool := if kd = 1 then decide (l.length = 1) && isPt (l.getD 0 z75).f0 (l.getD 0 z75).f1 else if kd = 2 then smB l else if kd = 3 then rgB l else false
def ftB (a b c : Int) (s : ByteArray) (l : List S75) : Bool := inR a 1 99 && (inR c 0 9 && ((decide (s.toList = ([] : List UInt8)) || nmB s) && kdB b l))
theorem rdP0 (l : List S75) : rd_T75 l 0 = l.getD 0 z75 := rfl
theorem ft_js (a b c : Int) (s : ByteArray) (l : List S75) (hl : l.length < 9223372036854775807) (q : Bool) : Ev (fun k => spec_IsFeature.j0 k q a b c s l) (!q && kdB b l) := by
 cases q
 ·unfold kdB
  by_cases h1 : b = 1
  ·refine Ev.step (f := fun _ => some (decide (l.length = 1) && isPt (l.getD 0 z75).f0 (l.getD 0 z75).f1)) (fun k => ?_) (by simp only [if_pos h1]; exact Ev.now _)
   simp only [spec_IsFeature.j0, Bool.false_eq_true, if_false, if_pos h1, spec_IsPoint.f, Option.bind_some, rdP0]
   by_cases h : (l.length : Int) = 1
   ·rw [if_pos h, if_pos (by omega), decide_eq_true (show l.length = 1 by omega)]; rfl
   ·rw [if_neg h, decide_eq_false (show ¬ l.length = 1 by omega)]; rfl
  ·by_cases h2 : b = 2
   ·simp only [if_neg h1, if_pos h2]
    refine Ev.step (f := fun k => (spec_IsSimple.f k l).bind fun t => some t) (fun k => ?_) (Ev.bind (isSimple_s l hl) (Ev.now _))
    simp only [spec_IsFeature.j0, Bool.false_eq_true, if_false, if_neg h1, if_pos h2]
   ·by_cases h3 : b = 3
    ·simp only [if_neg h1, if_neg h2, if_pos h3]
     refine Ev.step (f := fun k => (spec_IsRing.f k l).bind fun t => some t) (fun k => ?_) (Ev.bind (isRing_s l hl) (Ev.now _))
     simp only [spec_IsFeature.j0, Bool.false_eq_true, if_false, if_neg h1, if_neg h2, if_pos h3]
    ·simp only [if_neg h1, if_neg h2, if_neg h3]
     refine Ev.step (f := fun _ => some false) (fun k => ?_) (Ev.now _)
     simp only [spec_IsFeature.j0, Bool.false_eq_true, if_false, if_neg h1, if_neg h2, if_neg h3]
 ·refine Ev.step (f := fun _ => some false) (fun k => ?_) (Ev.now _)
  simp [spec_IsFeature.j0]
theorem ft_s (a b c : Int) (s : ByteArray) (hs : s.size ≤ 9223372036854775807) (l : List S75) (hl : l.length < 9223372036854775807) : Ev (fun k => spec_IsFeature.f k a b c s l) (ftB a b c s l) := by
 unfold spec_IsFeature.f ftB spec_l1In.f
 simp only [Option.bind_some]
 cases inR a 1 99
 ·simp only [Bool.false_eq_true, if_false]; exact ft_js a b c s l hl true
 ·cases inR c 0 9
  ·simp only [if_true, Bool.false_eq_true, if_false]; exact ft_js a b c s l hl true
  ·simp only [if_true, Bool.true_and]
   by_cases he : s.toList = ([] : List UInt8)
   ·simp only [if_pos he, decide_eq_true he, Bool.true_or]; exact ft_js a b c s l hl false
   ·simp only [if_neg he, decide_eq_false he, Bool.false_or]
    refine Ev.bind (nm_s s hs) ?_
    have := ft_js a b c s l hl (!nmB s)
    rw [Bool.not_not] at this
    exact this
theorem ft_ji (a b c : Int) (s : ByteArray) (l : List S75) (hl : l.length < 9223372036854775807) (q : Bool) : Ev (fun k => impl_IsFeature.j0 k q a b c s l) (!q && kdB b l) := by
 cases q
 ·unfold kdB
  by_cases h1 : b = 1
  ·refine Ev.step (f := fun _ => some (decide (l.length = 1) && isPt (l.getD 0 z75).f0 (l.getD 0 z75).f1)) (fun k => ?_) (by simp only [if_pos h1]; exact Ev.now _)
   simp only [impl_IsFeature.j0, Bool.false_eq_true, if_false, if_pos h1, impl_IsPoint.f, Option.bind_some, rdP0]
   by_cases h : (l.length : Int) = 1
   ·rw [if_pos h, if_pos (by omega), decide_eq_true (show l.length = 1 by omega)]; rfl
   ·rw [if_neg h, decide_eq_false (show ¬ l.length = 1 by omega)]; rfl
  ·by_cases h2 : b = 2
   ·simp only [if_neg h1, if_pos h2]
    refine Ev.step (f := fun k => (impl_IsSimple.f k l).bind fun t => some t) (fun k => ?_) (Ev.bind (isSimple_i l hl) (Ev.now _))
    simp only [impl_IsFeature.j0, Bool.false_eq_true, if_false, if_neg h1, if_pos h2]
   ·by_cases h3 : b = 3
    ·simp only [if_neg h1, if_neg h2, if_pos h3]
     refine Ev.step (f := fun k => (impl_IsRing.f k l).bind fun t => some t) (fun k => ?_) (Ev.bind (isRing_i l hl) (Ev.now _))
     simp only [impl_IsFeature.j0, Bool.false_eq_true, if_false, if_neg h1, if_neg h2, if_pos h3]
    ·simp only [if_neg h1, if_neg h2, if_neg h3]
     refine Ev.step (f := fun _ => some false) (fun k => ?_) (Ev.now _)
     simp only [impl_IsFeature.j0, Bool.false_eq_true, if_false, if_neg h1, if_neg h2, if_neg h3]
 ·refine Ev.step (f := fun _ => some false) (fun k => ?_) (Ev.now _)
  simp [impl_IsFeature.j0]
theorem ft_i (a b c : Int) (s : ByteArray) (hs : s.size ≤ 9223372036854775807) (l : List S75) (hl : l.length < 9223372036854775807) : Ev (fun k => impl_IsFeature.f k a b c s l) (ftB a b c s l) := by
 unfold impl_IsFeature.f ftB impl_InRange.f
 simp only [Option.bind_some]
 cases inR a 1 99
 ·simp only [Bool.false_eq_true, if_false]; exact ft_ji a b c s l hl true
 ·cases inR c 0 9
  ·simp only [if_true, Bool.false_eq_true, if_false]; exact ft_ji a b c s l hl true
  ·simp only [if_true, Bool.true_and]
   by_cases he : s.toList = ([] : List UInt8)
   ·simp only [if_pos he, decide_eq_true he, Bool.true_or]; exact ft_ji a b c s l hl false
   ·simp only [if_neg he, decide_eq_false he, Bool.false_or]
    refine Ev.bind (nm_i s hs) ?_
    have := ft_ji a b c s l hl (!nmB s)
    rw [Bool.not_not] at this
    exact this
theorem rdp_at (l : List S136) (i : Nat) (h : i < l.length) : rd_T136 l (i : Int) = l[i] := by
 unfold rd_T136
 rw [Int.toNat_natCast, List.getD_eq_getElem?_getD, List.getElem?_eq_getElem h]
 rfl
def convP (x : S136) : S75 := ⟨x.f0, x.f1⟩
theorem toPoints_l (l : List S136) (hb : l.length < 9223372036854775807) (d : Nat) : ∀ i : Nat, i + d = l.length → Ev (fun k => laws_toPointS.l0 k l ((l.map convP).take i ++ List.replicate d z75) (i : Int)) (l.map convP) := by
 induction d with
 | zero =>
  intro i hi
  refine Ev.step (f := fun _ => some (l.map convP)) (fun k => ?_) (Ev.now _)
  simp only [laws_toPointS.l0]
  rw [if_neg (by omega), List.take_of_length_le (by simp; omega)]
  simp
 | succ d ih =>
  intro i hi
  have h1 : i < l.length := by omega
  refine Ev.step (fun k => ?_) (ih (i + 1) (by omega))
  simp only [laws_toPointS.l0, laws_toPoint.f, Option.bind_some]
  rw [if_pos (by omega), if_pos (by omega), if_pos (by simp; omega), rdp_at l i h1, w1 i (by omega)]
  congr 1
  have hm : i < (l.map convP).length := by simpa using h1
  rw [Int.toNat_natCast, List.set_append_right _ _ (by simp; omega), List.take_succ_eq_append_getElem hm, List.replicate_succ]
  simp only [List.length_take, List.length_map, Nat.min_eq_left (show i ≤ l.length by omega), Nat.sub_self, List.set_cons_zero, List.append_assoc, List.singleton_append, List.getElem_map, convP]
theorem toPoints (l : List S136) (hb : l.length ≤ 1048576) : Ev (fun k => laws_toPointS.f k l) (l.map convP) := by
 unfold laws_toPointS.f
 simp only [if_pos (show (0 : Int) ≤ (l.length : Int) by omega), Int.toNat_natCast, if_pos (show l.length ≤ 17592186044416 by omega)]
 have := toPoints_l l (by omega) l.length 0 (by omega)
 simpa using this
theorem eqPoints_l (l : List S75) (hb : l.length < 9223372036854775807) (d : Nat) : ∀ i : Nat, i + d = l.length → Ev (fun k => laws_eqPointS.l0 k l l (i : Int)) true := by
 induction d with
 | zero =>
  intro i hi
  refine Ev.step (f := fun _ => some true) (fun k => ?_) (Ev.now _)
  simp only [laws_eqPointS.l0]
  rw [if_neg (by omega)]
 | succ d ih =>
  intro i hi
  have h1 : i < l.length := by omega
  refine Ev.step (fun k => ?_) (ih (i + 1) (by omega))
  simp only [laws_eqPointS.l0, laws_eqPoint.f]
  rw [if_pos (by omega), if_pos (by omega), if_pos (by omega), w1 i (by omega)]
  simp
theorem eqPoints (l : List S75) (hb : l.length < 9223372036854775807) : Ev (fun k => laws_eqPointS.f k l l) true := by
 unfold laws_eqPointS.f
 simp only [if_true]
 exact eqPoints_l l hb l.length 0 (by omega)
theorem rdf_at (l : List S52) (i : Nat) (h : i < l.length) : rd_T52 l (i : Int) = l[i] := by
 unfold rd_T52
 rw [Int.toNat_natCast, List.getD_eq_getElem?_getD, List.getElem?_eq_getElem h]
 rfl
theorem rdF_at (l : List S59) (i : Nat) (h : i < l.length) : rd_T59 l (i : Int) = l[i] := by
 unfold rd_T59
 rw [Int.toNat_natCast, List.getD_eq_getElem?_getD, List.getElem?_eq_getElem h]
 rfl
def convF (x : S52) : S59 := ⟨x.f0, x.f1, x.f2, x.f3, x.f4.map convP⟩
theorem toFeatures_l (l : List S52) (hb : l.length < 9223372036854775807) (hp : ∀ x ∈ l, x.f4.length ≤ 1048576) (d : Nat) : ∀ i : Nat, i + d = l.length → Ev (fun k => laws_toFeatureS.l0 k l ((l.map convF).take i ++ List.replicate d z59) (i : Int)) (l.map convF) := by
 induction d with
 | zero =>
  intro i hi
  refine Ev.step (f := fun _ => some (l.map convF)) (fun k => ?_) (Ev.now _)
  simp only [laws_toFeatureS.l0]
  rw [if_neg (by omega), List.take_of_length_le (by simp; omega)]
  simp
 | succ d ih =>
  intro i hi
  have h1 : i < l.length := by omega
  have ht := toPoints l[i].f4 (hp _ (List.getElem_mem h1))
  have hf : Ev (fun k => laws_toFeature.f k l[i].f0 l[i].f1 l[i].f2 l[i].f3 l[i].f4) (l[i].f0, l[i].f1, l[i].f2, l[i].f3, l[i].f4.map convP) := by
   unfold laws_toFeature.f
   exact Ev.bind ht (Ev.now _)
  refine Ev.step (f := fun k => (laws_toFeature.f k l[i].f0 l[i].f1 l[i].f2 l[i].f3 l[i].f4).bind fun b => laws_toFeatureS.l0 k l (((l.map convF).take i ++ List.replicate (d + 1) z59).set i (⟨b.1, b.2.1, b.2.2.1, b.2.2.2.1, b.2.2.2.2⟩ : S59)) ((i + 1 : Nat) : Int)) (fun k => ?_) (Ev.bind hf ?_)
  ·simp only [laws_toFeatureS.l0]
   have hlen : (i : Int) < (((l.map convF).take i ++ List.replicate (d + 1) z59).length : Int) := by simp; omega
   rw [if_pos (by omega), if_pos (by omega), rdf_at l i h1, w1 i (by omega), Int.toNat_natCast]
   simp only [if_pos hlen]
  ·have hm : i < (l.map convF).length := by simpa using h1
   have e : ((l.map convF).take i ++ List.replicate (d + 1) z59).set i (⟨l[i].f0, l[i].f1, l[i].f2, l[i].f3, l[i].f4.map convP⟩ : S59) = (l.map convF).take (i + 1) ++ List.replicate d z59 := by
    rw [List.set_append_right _ _ (by simp; omega), List.take_succ_eq_append_getElem hm, List.replicate_succ]
    simp only [List.length_take, List.length_map, Nat.min_eq_left (show i ≤ l.length by omega), Nat.sub_self, List.set_cons_zero, List.append_assoc, List.singleton_append, List.getElem_map, convF]
   simp only [e]
   exact ih (i + 1) (by omega)
theorem toFeatures (l : List S52) (hb : l.length ≤ 1048576) (hp : ∀ x ∈ l, x.f4.length ≤ 1048576) : Ev (fun k => laws_toFeatureS.f k l) (l.map convF) := by
 unfold laws_toFeatureS.f
 simp only [if_pos (show (0 : Int) ≤ (l.length : Int) by omega), Int.toNat_natCast, if_pos (show l.length ≤ 4398046511104 by omega)]
 have := toFeatures_l l (by omega) hp l.length 0 (by omega)
 simpa using this
theorem eqFeatures_l (l : List S59) (hb : l.length < 9223372036854775807) (hp : ∀ x ∈ l, x.f4.length < 9223372036854775807) (d : Nat) : ∀ i : Nat, i + d = l.length → Ev (fun k => laws_eqFeatureS.l0 k l l (i : Int)) true := by
 induction d with
 | zero =>
  intro i hi
  refine Ev.step (f := fun _ => some true) (fun k => ?_) (Ev.now _)
  simp only [laws_eqFeatureS.l0]
  rw [if_neg (by omega)]
 | succ d ih =>
  intro i hi
  have h1 : i < l.length := by omega
  have hf : Ev (fun k => laws_eqFeature.f k l[i].f0 l[i].f1 l[i].f2 l[i].f3 l[i].f4 l[i].f0 l[i].f1 l[i].f2 l[i].f3 l[i].f4) true := by
   unfold laws_eqFeature.f
   simp only [if_true]
   refine Ev.bind (eqPoints l[i].f4 (hp _ (List.getElem_mem h1))) ?_
   simp only [if_true]
   exact Ev.now _
  refine Ev.step (f := fun k => (laws_eqFeature.f k l[i].f0 l[i].f1 l[i].f2 l[i].f3 l[i].f4 l[i].f0 l[i].f1 l[i].f2 l[i].f3 l[i].f4).bind fun t => if t = true then laws_eqFeatureS.l0 k l l ((i + 1 : Nat) : Int) else some false) (fun k => ?_) (Ev.bind hf ?_)
  ·simp only [laws_eqFeatureS.l0]
   rw [if_pos (by omega), if_pos (by omega), if_pos (by omega), rdF_at l i h1, w1 i (by omega)]
  ·simp only [if_true]
   exact ih (i + 1) (by omega)
theorem eqFeatures (l : List S59) (hb : l.length < 9223372036854775807) (hp : ∀ x ∈ l, x.f4.length < 9223372036854775807) : Ev (fun k => laws_eqFeatureS.f k l l) true := by
 unfold laws_eqFeatureS.f
 simp only [if_true]
 exact eqFeatures_l l hb hp l.length 0 (by omega)
theorem szFeatures_l (l : List S52) (hl : ∀ x ∈ l, x.f3.size ≤ 9223372036854775807 ∧ x.f4.length ≤ 9223372036854775807) (hb : l.length < 9223372036854775807) (d : Nat) :
  ∀ (i : Nat) (n : Int), i + d = l.length → 0 ≤ n → n ≤ 1048576 → ∃ r, Ev (fun k => laws_szFeatureS.l0 k l n (i : Int)) r ∧ (¬ r < 0 → ∀ x ∈ l.drop i, x.f3.size ≤ 1048576 ∧ x.f4.length ≤ 1048576) := by
 induction d with
 | zero =>
  intro i n hi h0 h1
  have e : l.drop i = [] := List.drop_of_length_le (by omega)
  rw [e]
  refine ⟨n, Ev.step (f := fun _ => some n) (fun k => ?_) (Ev.now _), fun _ x hx => by simp at hx⟩
  simp only [laws_szFeatureS.l0]
  rw [if_neg (by omega)]
 | succ d ih =>
  intro i n hi h0 h1
  have hl1 : i < l.length := by omega
  obtain ⟨hx1, hx2⟩ := hl _ (List.getElem_mem hl1)
  have e := List.drop_eq_getElem_cons hl1
  rw [e]
  have hw : wrap64 (n - (l[i].f3.size : Int)) = n - (l[i].f3.size : Int) := by unfold wrap64; omega
  by_cases hc : n - (l[i].f3.size : Int) < 0
  ·refine ⟨-1, Ev.step (f := fun _ => some (-1)) (fun k => ?_) (Ev.now _), fun h => by omega⟩
   simp only [laws_szFeatureS.l0, laws_szFeature.f]
   rw [if_pos (by omega), if_pos (by omega), rdf_at l i hl1, hw, if_pos hc]
   rfl
  ·have hw2 : wrap64 (n - (l[i].f3.size : Int) - (l[i].f4.length : Int)) = n - (l[i].f3.size : Int) - (l[i].f4.length : Int) := by unfold wrap64; omega
   by_cases hc2 : n - (l[i].f3.size : Int) - (l[i].f4.length : Int) < 0
   ·refine ⟨-1, Ev.step (f := fun _ => some (-1)) (fun k => ?_) (Ev.now _), fun h => by omega⟩
    simp only [laws_szFeatureS.l0, laws_szFeature.f, laws_szPointS.f]
    rw [if_pos (by omega), if_pos (by omega), rdf_at l i hl1, hw, if_neg hc, hw2, if_pos hc2]
    rfl
   ·obtain ⟨r, hr, hr2⟩ := ih (i + 1) (n - (l[i].f3.size : Int) - (l[i].f4.length : Int)) (by omega) (by omega) (by omega)
    refine ⟨r, Ev.step (fun k => ?_) hr, fun h x hx => ?_⟩
    ·simp only [laws_szFeatureS.l0, laws_szFeature.f, laws_szPointS.f]
     rw [if_pos (by omega), if_pos (by omega), rdf_at l i hl1, hw, if_neg hc, hw2, if_neg hc2]
     simp only [Option.bind_some]
     rw [if_neg hc2]
     simp only [Option.bind_some]
     rw [if_neg hc2, w1 i (by omega)]
    ·rcases List.mem_cons.1 hx with hx | hx
     ·subst hx; omega
     ·exact hr2 h x hx
theorem szFeatures (l : List S52) (hl : ∀ x ∈ l, x.f3.size ≤ 9223372036854775807 ∧ x.f4.length ≤ 9223372036854775807) (hb : l.length ≤ 9223372036854775807) : ∃ r, Ev (fun k => laws_szFeatureS.f k l 1048576) r ∧ (¬ r < 0 → l.length ≤ 1048576 ∧ ∀ x ∈ l, x.f3.size ≤ 1048576 ∧ x.f4.length ≤ 1048576) := by
 unfold laws_szFeatureS.f
 have hw : wrap64 (1048576 - (l.length : Int)) = 1048576 - (l.length : Int) := by unfold wrap64; omega
 rw [hw]
 by_cases hc : 1048576 - (l.length : Int) < 0
 ·exact ⟨-1, by simp only [if_pos hc]; exact Ev.now _, fun h => by omega⟩
 ·simp only [if_neg hc]
  obtain ⟨r, hr, hr2⟩ := szFeatures_l l hl (by omega) l.length 0 (1048576 - (l.length : Int)) (by omega) (by omega) (by omega)
  exact ⟨r, hr, fun h => ⟨by omega, by simpa using hr2 h⟩⟩
theorem rdFg (l : List S59) (i : Nat) : rd_T59 l (i : Int) = l.getD i z59 := by unfold rd_T59; rw [Int.toNat_natCast]
def ftF (x : S59) : Bool := ftB x.f0 x.f1 x.f2 x.f3 x.f4
def chk (l : List S59) (i : Nat) : Bool := ftF (l.getD i z59) && (decide (i = 0) || decide ((l.getD (i - 1) z59).f0 < (l.getD i z59).f0))
def srcR (l : List S59) (i d : Nat) : Bool := (List.range' i d).all (chk l)
/-- That features are a source. -/
def srB (l : List S59) : Bool := srcR l 0 l.length && decide ((l.length : Int) ≤ 16)
section
variable (l : List S59) (hb : l.length < 9223372036854775807) (hx : ∀ x ∈ l, x.f3.size ≤ 9223372036854775807 ∧ x.f4.length < 9223372036854775807)
include hb hx
theorem src_sl (d : Nat) : ∀ i : Nat, i + d = l.length → Ev (fun k => spec_IsSource.l0 k l (i : Int)) (srcR l i d && decide ((l.length : Int) ≤ 16)) := by
 induction d with
 | zero =>
  intro i hi
  refine Ev.step (f := fun _ => some (decide ((l.length : Int) ≤ 16))) (fun k => ?_) (by simp only [srcR, List.range'_zero, List.all_nil, Bool.true_and]; exact Ev.now _)
  simp only [spec_IsSource.l0]
  rw [if_neg (by omega)]
 | succ d ih =>
  intro i hi
  have hlt : i < l.length := by omega
  have hm : l.getD i z59 ∈ l := by rw [List.getD_eq_getElem?_getD, List.getElem?_eq_getElem hlt]; exact List.getElem_mem hlt
  obtain ⟨g1, g2⟩ := hx _ hm
  have e : srcR l i (d + 1) = (chk l i && srcR l (i + 1) d) := by unfold srcR; rw [List.range'_succ, List.all_cons]
  rw [e]
  have hr := ih (i + 1) (by omega)
  have ft := ft_s (l.getD i z59).f0 (l.getD i z59).f1 (l.getD i z59).f2 (l.getD i z59).f3 g1 (l.getD i z59).f4 g2
  refine Ev.step (f := fun k => (spec_IsFeature.f k (l.getD i z59).f0 (l.getD i z59).f1 (l.getD i z59).f2 (l.getD i z59).f3 (l.getD i z59).f4).bind fun t242 => (if t242 = true then (if (i : Int) > 0 then (if 0 ≤ (wrap64 ((i : Int) - 1)) then (if (wrap64 ((i : Int) - 1)) < (l.length : Int) then (if ((rd_T59 l (wrap64 ((i : Int) - 1))).f0) ≥ ((l.getD i z59).f0) then (some false) else (spec_IsSource.l0 k l ((i + 1 : Nat) : Int))) else (none)) else (none)) else (spec_IsSource.l0 k l ((i + 1 : Nat) : Int))) else (some false))) (fun k => ?_) (Ev.bind ft ?_)
  ·simp only [spec_IsSource.l0]
   rw [if_pos (by omega), if_pos (by omega), rdFg, w1' i (by omega)]
  ·unfold chk ftF
   cases hf : ftB (l.getD i z59).f0 (l.getD i z59).f1 (l.getD i z59).f2 (l.getD i z59).f3 (l.getD i z59).f4
   ·simp only [Bool.false_eq_true, if_false, Bool.false_and]; exact Ev.now _
   ·simp only [if_true, Bool.true_and]
    by_cases h0 : i = 0
    ·subst h0
     simp only [if_neg (show ¬ (((0 : Nat) : Int) > 0) by omega), decide_true, Bool.true_or, Bool.true_and]
     exact hr
    ·have hw : wrap64 ((i : Int) - 1) = ((i - 1 : Nat) : Int) := by unfold wrap64; omega
     simp only [if_pos (show (i : Int) > 0 by omega), hw, if_pos (show 0 ≤ ((i - 1 : Nat) : Int) by omega), if_pos (show ((i - 1 : Nat) : Int) < (l.length : Int) by omega), rdFg, decide_eq_false h0, Bool.false_or]
     by_cases hc : (l.getD (i - 1) z59).f0 < (l.getD i z59).f0
     ·simp only [if_neg (show ¬ ((l.getD (i - 1) z59).f0 ≥ (l.getD i z59).f0) by omega), decide_eq_true hc, Bool.true_and]
      exact hr
     ·simp only [if_pos (show (l.getD (i - 1) z59).f0 ≥ (l.getD i z59).f0 by omega), decide_eq_false hc, Bool.false_and]
      exact Ev.now _
theorem src_il (d : Nat) : ∀ i : Nat, i + d = l.length → Ev (fun k => impl_IsSource.l0 k l l (l.length : Int) (i : Int)) (srcR l i d) := by
 induction d with
 | zero =>
  intro i hi
  refine Ev.step (f := fun _ => some true) (fun k => ?_) (Ev.now _)
  simp only [impl_IsSource.l0]
  rw [if_neg (by omega)]
 | succ d ih =>
  intro i hi
  have hlt : i < l.length := by omega
  have hm : l.getD i z59 ∈ l := by rw [List.getD_eq_getElem?_getD, List.getElem?_eq_getElem hlt]; exact List.getElem_mem hlt
  obtain ⟨g1, g2⟩ := hx _ hm
  have e : srcR l i (d + 1) = (chk l i && srcR l (i + 1) d) := by unfold srcR; rw [List.range'_succ, List.all_cons]
  rw [e]
  have hr := ih (i + 1) (by omega)
  have ft := ft_i (l.getD i z59).f0 (l.getD i z59).f1 (l.getD i z59).f2 (l.getD i z59).f3 g1 (l.getD i z59).f4 g2
  refine Ev.step (f := fun k => (impl_IsFeature.f k (l.getD i z59).f0 (l.getD i z59).f1 (l.getD i z59).f2 (l.getD i z59).f3 (l.getD i z59).f4).bind fun t242 => (if t242 = true then (if (i : Int) > 0 then (if 0 ≤ (wrap64 ((i : Int) - 1)) then (if (wrap64 ((i : Int) - 1)) < (l.length : Int) then (if ((l.getD i z59).f0) ≤ ((rd_T59 l (wrap64 ((i : Int) - 1))).f0) then (some false) else (impl_IsSource.l0 k l l (l.length : Int) ((i + 1 : Nat) : Int))) else (none)) else (none)) else (impl_IsSource.l0 k l l (l.length : Int) ((i + 1 : Nat) : Int))) else (some false))) (fun k => ?_) (Ev.bind ft ?_)
  ·simp only [impl_IsSource.l0]
   rw [if_pos (by omega), if_pos (by omega), if_pos (by omega), rdFg, w1' i (by omega)]
  ·unfold chk ftF
   cases hf : ftB (l.getD i z59).f0 (l.getD i z59).f1 (l.getD i z59).f2 (l.getD i z59).f3 (l.getD i z59).f4
   ·simp only [Bool.false_eq_true, if_false, Bool.false_and]; exact Ev.now _
   ·simp only [if_true, Bool.true_and]
    by_cases h0 : i = 0
    ·subst h0
     simp only [if_neg (show ¬ (((0 : Nat) : Int) > 0) by omega), decide_true, Bool.true_or, Bool.true_and]
     exact hr
    ·have hw : wrap64 ((i : Int) - 1) = ((i - 1 : Nat) : Int) := by unfold wrap64; omega
     simp only [if_pos (show (i : Int) > 0 by omega), hw, if_pos (show 0 ≤ ((i - 1 : Nat) : Int) by omega), if_pos (show ((i - 1 : Nat) : Int) < (l.length : Int) by omega), rdFg, decide_eq_false h0, Bool.false_or]
     by_cases hc : (l.getD (i - 1) z59).f0 < (l.getD i z59).f0
     ·simp only [if_neg (show ¬ ((l.getD i z59).f0 ≤ (l.getD (i - 1) z59).f0) by omega), decide_eq_true hc, Bool.true_and]
      exact hr
     ·simp only [if_pos (show (l.getD i z59).f0 ≤ (l.getD (i - 1) z59).f0 by omega), decide_eq_false hc, Bool.false_and]
      exact Ev.now _
theorem src_s : Ev (fun k => spec_IsSource.f k l) (srB l) := src_sl l hb hx l.length 0 (by omega)
theorem src_i : Ev (fun k => impl_IsSource.f k l) (srB l) := by
 unfold impl_IsSource.f srB
 by_cases h : (l.length : Int) > 16
 ·simp only [if_pos h, decide_eq_false (show ¬ ((l.length : Int) ≤ 16) by omega), Bool.and_false]; exact Ev.now _
 ·simp only [if_neg h, decide_eq_true (show (l.length : Int) ≤ 16 by omega), Bool.and_true]
  exact src_il l hb hx l.length 0 (by omega)
end
theorem mfT_bound (l : List S59) (h : ∀ x ∈ l, x.f4.length ≤ 1048576) : mfT l ≤ l.length * 2097156 := by
 induction l with
 | nil => simp [mfT]
 | cons x l ih =>
  have h1 := h x (by simp)
  have h2 := ih (fun y hy => h y (by simp [hy]))
  simp only [mfT, List.length_cons, Nat.add_mul, Nat.one_mul]
  omega
theorem markF (l : List S59) (hb : l.length ≤ 1048576) (h : ∀ x ∈ l, x.f4.length ≤ 1048576) : laws_markFeatureS.f l 1 = some (1 + (mfT l : Int)) := by
 have := mfT_bound l h
 unfold laws_markFeatureS.f
 rw [if_pos ⟨by omega, by omega⟩]
theorem sm_pos {L : List S75} (h : smB L = true) : 0 < L.length := by
 unfold smB lnB inR at h
 simp only [Bool.and_eq_true, decide_eq_true_eq] at h
 omega
theorem rg_pos {L : List S75} (h : rgB L = true) : 0 < L.length ∧ L.length ≤ 10 := by
 unfold rgB inR at h
 simp only [Bool.and_eq_true, decide_eq_true_eq] at h
 omega
/-- The sums of a ring's corners, as the machine adds them. -/
def mdR (L : List S75) : Nat → Nat → Int → Int → Int × Int
 | _, 0, x, y => (x, y)
 | i, d + 1, x, y => mdR L (i + 1) d (wrap64 (x + (L.getD i z75).f0)) (wrap64 (y + (L.getD i z75).f1))
theorem rm_sl (L : List S75) (h0 : 0 < L.length) (hb : L.length < 9223372036854775807) (d : Nat) : ∀ (i : Nat) (x y : Int), i + d = L.length → Ev (fun k => spec_RingMiddle.l0 k L (i : Int) x y) (wrap64 (Int.tdiv (mdR L i d x y).1 (L.length : Int)), wrap64 (Int.tdiv (mdR L i d x y).2 (L.length : Int)), true) := by
 induction d with
 | zero =>
  intro i x y hi
  refine Ev.step (f := fun _ => some (wrap64 (Int.tdiv x (L.length : Int)), wrap64 (Int.tdiv y (L.length : Int)), true)) (fun k => ?_) (Ev.now _)
  simp only [spec_RingMiddle.l0]
  rw [if_neg (by omega), if_neg (by omega)]
 | succ d ih =>
  intro i x y hi
  refine Ev.step (fun k => ?_) (ih (i + 1) _ _ (by omega))
  simp only [spec_RingMiddle.l0, rdPd]
  rw [if_pos (by omega), if_pos (by omega), w1' i (by omega)]
theorem rm_il (L : List S75) (h0 : 0 < L.length) (hb : L.length < 9223372036854775807) (d : Nat) : ∀ (i : Nat) (x y : Int), i + d = L.length → Ev (fun k => impl_RingMiddle.l0 k L L (L.length : Int) (i : Int) x y) (wrap64 (Int.tdiv (mdR L i d x y).1 (L.length : Int)), wrap64 (Int.tdiv (mdR L i d x y).2 (L.length : Int)), true) := by
 induction d with
 | zero =>
  intro i x y hi
  refine Ev.step (f := fun _ => some (wrap64 (Int.tdiv x (L.length : Int)), wrap64 (Int.tdiv y (L.length : Int)), true)) (fun k => ?_) (Ev.now _)
  simp only [impl_RingMiddle.l0]
  rw [if_neg (by omega), if_neg (by omega)]
 | succ d ih =>
  intro i x y hi
  refine Ev.step (fun k => ?_) (ih (i + 1) _ _ (by omega))
  simp only [impl_RingMiddle.l0, rdPd]
  rw [if_pos (by omega), if_pos (by omega), if_pos (by omega), w1' i (by omega)]
def mdP (L : List S75) : S75 := ⟨wrap64 (Int.tdiv (mdR L 0 L.length 0 0).1 (L.length : Int)), wrap64 (Int.tdiv (mdR L 0 L.length 0 0).2 (L.length : Int))⟩
theorem rm_s (L : List S75) (h : rgB L = true) : Ev (fun k => spec_RingMiddle.f k L) ((mdP L).f0, (mdP L).f1, true) := by
 have hp := rg_pos h
 have r := isRing_s L (by omega)
 rw [h] at r
 unfold spec_RingMiddle.f
 refine Ev.bind r ?_
 simp only [if_true]
 exact rm_sl L hp.1 (by omega) L.length 0 0 0 (by omega)
theorem rm_i (L : List S75) (h : rgB L = true) : Ev (fun k => impl_RingMiddle.f k L) ((mdP L).f0, (mdP L).f1, true) := by
 have hp := rg_pos h
 have r := isRing_i L (by omega)
 rw [h] at r
 unfold impl_RingMiddle.f
 refine Ev.bind r ?_
 simp only [if_true]
 exact rm_il L hp.1 (by omega) L.length 0 0 0 (by omega)
/-- Where a feature's name is anchored. -/
def anP (x : S59) : S75 := if x.f1 = 3 then mdP x.f4 else x.f4.getD (x.f4.length / 2) z75
def anB (x : S59) : List S77 := if x.f3.toList = ([] : List UInt8) then [] else [⟨x.f0, anP x, x.f2⟩]
def anF (l : List S59) (i d : Nat) : List S77 := (List.range' i d).flatMap fun i => anB (l.getD i z59)
theorem anF_step (l : List S59) (i d : Nat) : anF l i (d + 1) = anB (l.getD i z59) ++ anF l (i + 1) d := by unfold anF; rw [List.range'_succ, List.flatMap_cons]
theorem anB_len (x : S59) : (anB x).length ≤ 1 := by unfold anB; split <;> simp
theorem anF_len (l : List S59) (d : Nat) : ∀ i, (anF l i d).length ≤ d := by
 induction d with
 | zero => intro i; simp [anF]
 | succ d ih =>
  intro i
  have h1 := anB_len (l.getD i z59)
  have h2 := ih (i + 1)
  rw [anF_step, List.length_append]
  omega
theorem src_ft {l : List S59} (hs : srB l = true) (i : Nat) (hi : i < l.length) : ftF (l.getD i z59) = true := by
 unfold srB srcR at hs
 rw [Bool.and_eq_true, List.all_eq_true] at hs
 have := hs.1 i (by simp [List.mem_range']; omega)
 unfold chk at this
 rw [Bool.and_eq_true] at this
 exact this.1
theorem ft_kinds {x : S59} (h : ftF x = true) : (x.f1 = 1 ∧ x.f4.length = 1) ∨ (x.f1 = 2 ∧ 0 < x.f4.length) ∨ (x.f1 = 3 ∧ rgB x.f4 = true) := by
 unfold ftF ftB kdB at h
 simp only [Bool.and_eq_true] at h
 have h := h.2.2.2
 by_cases h1 : x.f1 = 1
 ·rw [if_pos h1, Bool.and_eq_true, decide_eq_true_eq] at h
  exact .inl ⟨h1, h.1⟩
 ·rw [if_neg h1] at h
  by_cases h2 : x.f1 = 2
  ·rw [if_pos h2] at h
   exact .inr (.inl ⟨h2, sm_pos h⟩)
  ·rw [if_neg h2] at h
   by_cases h3 : x.f1 = 3
   ·rw [if_pos h3] at h
    exact .inr (.inr ⟨h3, h⟩)
   ·rw [if_neg h3] at h; cases h
theorem half (n : Nat) (h : n < 9223372036854775807) : wrap64 ((n : Int) / 2) = ((n / 2 : Nat) : Int) := by unfold wrap64; omega
section
variable (l : List S59) (hb : l.length < 9223372036854775807) (hx : ∀ x ∈ l, x.f3.size ≤ 9223372036854775807 ∧ x.f4.length < 9223372036854775807)
include hb hx
theorem an_sl (hs : srB l = true) (d : Nat) : ∀ (i : Nat) (o : List S77), i + d = l.length → o.length + d ≤ 900000 → Ev (fun k => spec_AnchorsOf.l0 k l o (i : Int)) (o ++ anF l i d) := by
 induction d with
 | zero =>
  intro i o hi ho
  rw [show anF l i 0 = [] from rfl, List.append_nil]
  refine Ev.step (f := fun k => spec_AnchorsOf.j1 k l o (i : Int) false) (fun k => ?_) (Ev.step (f := fun _ => some o) (fun k => by simp [spec_AnchorsOf.j1]) (Ev.now _))
  simp only [spec_AnchorsOf.l0]
  rw [if_neg (by omega)]
 | succ d ih =>
  intro i o hi ho
  have hlt : i < l.length := by omega
  have hm : l.getD i z59 ∈ l := by rw [List.getD_eq_getElem?_getD, List.getElem?_eq_getElem hlt]; exact List.getElem_mem hlt
  obtain ⟨g1, g2⟩ := hx _ hm
  have src := src_s l hb hx
  rw [hs] at src
  have kinds := ft_kinds (src_ft hs i hlt)
  have hr := ih (i + 1) (o ++ anB (l.getD i z59)) (by omega) (by have := anB_len (l.getD i z59); rw [List.length_append]; omega)
  rw [anF_step, ← List.append_assoc]
  refine Ev.step (f := fun k => (spec_IsSource.f k l).bind fun t190 => spec_AnchorsOf.j1 k l o (i : Int) t190) (fun k => ?_) (Ev.bind src ?_)
  ·simp only [spec_AnchorsOf.l0]
   rw [if_pos (by omega)]
  ·generalize hX : l.getD i z59 = X at *
   have hh := half X.f4.length g2
   unfold anB at hr ⊢
   by_cases hn : X.f3.toList = ([] : List UInt8)
   ·rw [if_pos hn, List.append_nil] at hr ⊢
    refine Ev.step (fun k => ?_) hr
    simp only [spec_AnchorsOf.j1, if_true, rdFg, hX]
    rw [if_pos (by omega), if_pos (by omega), if_pos hn, w1' i (by omega)]
   ·rw [if_neg hn] at hr ⊢
    have hpos : X.f4.length / 2 < X.f4.length := by
     rcases kinds with ⟨_, h⟩ | ⟨_, h⟩ | ⟨_, h⟩
     ·omega
     ·omega
     ·have := rg_pos h; omega
    by_cases h3 : X.f1 = 3
    ·have hrg : rgB X.f4 = true := by
      rcases kinds with ⟨h, _⟩ | ⟨h, _⟩ | ⟨_, h⟩
      ·omega
      ·omega
      ·exact h
     have e : anP X = mdP X.f4 := by unfold anP; rw [if_pos h3]
     rw [e] at hr ⊢
     refine Ev.step (f := fun k => (spec_RingMiddle.f k X.f4).bind fun bt195 => (if o.length < 4398046511104 then (spec_AnchorsOf.l0 k l (o ++ [(⟨X.f0, (⟨bt195.1, bt195.2.1⟩ : S75), X.f2⟩ : S77)]) ((i + 1 : Nat) : Int)) else (none))) (fun k => ?_) (Ev.bind (rm_s X.f4 hrg) ?_)
     ·simp only [spec_AnchorsOf.j1, if_true, rdFg, hX, hh]
      rw [if_pos (by omega), if_pos (by omega), if_neg hn, if_pos (by omega), if_pos (by omega), if_pos h3, w1' i (by omega)]
     ·simp only [if_pos (show o.length < 4398046511104 by omega)]
      exact hr
    ·have e : anP X = X.f4.getD (X.f4.length / 2) z75 := by unfold anP; rw [if_neg h3]
     rw [e] at hr ⊢
     refine Ev.step (fun k => ?_) hr
     simp only [spec_AnchorsOf.j1, if_true, rdFg, hX, hh, rdPd]
     rw [if_pos (by omega), if_pos (by omega), if_neg hn, if_pos (by omega), if_pos (by omega), if_neg h3, if_pos (by omega), w1' i (by omega)]
theorem an_s : Ev (fun k => spec_AnchorsOf.f k l) (if srB l = true then anF l 0 l.length else []) := by
 unfold spec_AnchorsOf.f
 by_cases hs : srB l = true
 ·rw [if_pos hs]
  have h16 : l.length ≤ 16 := by
   have h := hs
   unfold srB at h
   rw [Bool.and_eq_true, decide_eq_true_eq] at h
   omega
  have h := an_sl l hb hx hs l.length 0 [] (by omega) (by simp; omega)
  rw [List.nil_append] at h
  exact h
 ·rw [if_neg hs]
  have hf : srB l = false := by simpa using hs
  have src := src_s l hb hx
  rw [hf] at src
  have dead : Ev (fun k => spec_AnchorsOf.j1 k l [] 0 false) [] := Ev.step (f := fun _ => some []) (fun k => by simp [spec_AnchorsOf.j1]) (Ev.now _)
  by_cases h0 : (0 : Int) < (l.length : Int)
  ·refine Ev.step (f := fun k => (spec_IsSource.f k l).bind fun t248 => spec_AnchorsOf.j1 k l [] 0 t248) (fun k => ?_) (Ev.bind src dead)
   simp only [spec_AnchorsOf.l0]
   rw [if_pos h0]
  ·refine Ev.step (fun k => ?_) dead
   simp only [spec_AnchorsOf.l0]
   rw [if_neg h0]
theorem an_il (hs : srB l = true) (d : Nat) : ∀ (i : Nat) (o : List S77), i + d = l.length → o.length + d ≤ 900000 → Ev (fun k => impl_AnchorsOf.l0 k o l (l.length : Int) (i : Int)) (o ++ anF l i d) := by
 induction d with
 | zero =>
  intro i o hi ho
  rw [show anF l i 0 = [] from rfl, List.append_nil]
  refine Ev.step (f := fun _ => some o) (fun k => ?_) (Ev.now _)
  simp only [impl_AnchorsOf.l0]
  rw [if_neg (by omega)]
 | succ d ih =>
  intro i o hi ho
  have hlt : i < l.length := by omega
  have hm : l.getD i z59 ∈ l := by rw [List.getD_eq_getElem?_getD, List.getElem?_eq_getElem hlt]; exact List.getElem_mem hlt
  obtain ⟨g1, g2⟩ := hx _ hm
  have kinds := ft_kinds (src_ft hs i hlt)
  have hr := ih (i + 1) (o ++ anB (l.getD i z59)) (by omega) (by have := anB_len (l.getD i z59); rw [List.length_append]; omega)
  rw [anF_step, ← List.append_assoc]
  generalize hX : l.getD i z59 = X at *
  have hh := half X.f4.length g2
  unfold anB at hr ⊢
  by_cases hn : X.f3.toList = ([] : List UInt8)
  ·rw [if_pos hn, List.append_nil] at hr ⊢
   refine Ev.step (fun k => ?_) hr
   simp only [impl_AnchorsOf.l0, rdFg, hX]
   rw [if_pos (by omega), if_pos (by omega), if_pos (by omega), if_pos hn, w1' i (by omega)]
  ·rw [if_neg hn] at hr ⊢
   rcases kinds with ⟨h1, hL⟩ | ⟨h2, hL⟩ | ⟨h3, hL⟩
   ·have e : anP X = X.f4.getD 0 z75 := by unfold anP; rw [if_neg (by omega), hL]
    rw [e] at hr ⊢
    refine Ev.step (fun k => ?_) hr
    have e0 : rd_T75 X.f4 0 = X.f4.getD 0 z75 := rfl
    simp only [impl_AnchorsOf.l0, rdFg, hX, e0]
    rw [if_pos (by omega), if_pos (by omega), if_pos (by omega), if_neg hn, if_pos h1, if_pos (by omega), if_pos (by omega), w1' i (by omega)]
   ·have e : anP X = X.f4.getD (X.f4.length / 2) z75 := by unfold anP; rw [if_neg (by omega)]
    rw [e] at hr ⊢
    refine Ev.step (fun k => ?_) hr
    simp only [impl_AnchorsOf.l0, rdFg, hX, hh, rdPd]
    rw [if_pos (by omega), if_pos (by omega), if_pos (by omega), if_neg hn, if_neg (by omega), if_pos h2, if_pos (by omega), if_pos (by omega), if_pos (by omega), w1' i (by omega)]
   ·have e : anP X = mdP X.f4 := by unfold anP; rw [if_pos h3]
    rw [e] at hr ⊢
    refine Ev.step (f := fun k => (impl_RingMiddle.f k X.f4).bind fun bt195 => (if o.length < 4398046511104 then (impl_AnchorsOf.l0 k (o ++ [(⟨X.f0, (⟨bt195.1, bt195.2.1⟩ : S75), X.f2⟩ : S77)]) l (l.length : Int) ((i + 1 : Nat) : Int)) else (none))) (fun k => ?_) (Ev.bind (rm_i X.f4 hL) ?_)
    ·simp only [impl_AnchorsOf.l0, rdFg, hX]
     rw [if_pos (by omega), if_pos (by omega), if_pos (by omega), if_neg hn, if_neg (by omega), if_neg (by omega), if_pos h3, w1' i (by omega)]
    ·simp only [if_pos (show o.length < 4398046511104 by omega)]
     exact hr
theorem an_i : Ev (fun k => impl_AnchorsOf.f k l) (if srB l = true then anF l 0 l.length else []) := by
 unfold impl_AnchorsOf.f
 simp only [Option.bind_some]
 refine Ev.bind (src_i l hb hx) ?_
 by_cases hs : srB l = true
 ·simp only [if_pos hs]
  have h16 : l.length ≤ 16 := by
   have h := hs
   unfold srB at h
   rw [Bool.and_eq_true, decide_eq_true_eq] at h
   omega
  have h := an_il l hb hx hs l.length 0 [] (by omega) (by simp; omega)
  rw [List.nil_append] at h
  exact h
 ·simp only [if_neg hs]
  exact Ev.now _
end
theorem ffs_l (l : List S59) (hb : l.length < 9223372036854775807) (id : Int) (d : Nat) : ∀ i : Nat, i + d = l.length → Ev (fun k => spec_FindFeature.l0 k l id (i : Int)) (ffI (l.drop i) id (i : Int)) := by
 induction d with
 | zero =>
  intro i hi
  rw [List.drop_of_length_le (by omega)]
  refine Ev.step (f := fun _ => some (-1)) (fun k => ?_) (Ev.now _)
  simp only [spec_FindFeature.l0]
  rw [if_neg (by omega)]
 | succ d ih =>
  intro i hi
  have hlt : i < l.length := by omega
  rw [List.drop_eq_getElem_cons hlt, ffI]
  have hg : l.getD i z59 = l[i] := by rw [List.getD_eq_getElem?_getD, List.getElem?_eq_getElem hlt]; rfl
  by_cases he : l[i].f0 = id
  ·rw [if_pos he]
   refine Ev.step (f := fun _ => some (i : Int)) (fun k => ?_) (Ev.now _)
   simp only [spec_FindFeature.l0, rdFg, hg]
   rw [if_pos (by omega), if_pos (by omega), if_pos he]
  ·rw [if_neg he]
   refine Ev.step (fun k => ?_) (ih (i + 1) (by omega))
   simp only [spec_FindFeature.l0, rdFg, hg]
   rw [if_pos (by omega), if_pos (by omega), if_neg he, w1' i (by omega)]
theorem ff_s (l : List S59) (hb : l.length < 9223372036854775807) (id : Int) : Ev (fun k => spec_FindFeature.f k l id) (ffI l id 0) := by
 have := ffs_l l hb id l.length 0 (by omega)
 rw [List.drop_zero] at this
 exact this
theorem ff_i (l : List S59) (hb : l.length < 9223372036854775807) (id : Int) : impl_FindFeature.f l id = some (ffI l id 0) := by
 unfold impl_FindFeature.f
 rw [if_pos (by omega)]
theorem ffI_in (l : List S59) (id : Int) : (∃ x ∈ l, x.f0 = id) → ∀ b : Int, ∃ i : Nat, i < l.length ∧ ffI l id b = b + (i : Int) ∧ (l.getD i z59).f0 = id := by
 induction l with
 | nil => rintro ⟨x, hx, _⟩; cases hx
 | cons y r ih =>
  rintro ⟨x, hx, he⟩ b
  by_cases hy : y.f0 = id
  ·exact ⟨0, by simp, by rw [ffI, if_pos hy]; simp, by simpa using hy⟩
  ·rcases List.mem_cons.1 hx with rfl | hx
   ·exact absurd he hy
   ·obtain ⟨i, h1, h2, h3⟩ := ih ⟨x, hx, he⟩ (b + 1)
    exact ⟨i + 1, by simpa using h1, by rw [ffI, if_neg hy, h2]; push_cast; omega, by simpa using h3⟩
theorem l1 (a b c : Int) : ∃ r, spec_l1In.f a b c = some r ∧ impl_InRange.f a b c = some r := by
 unfold spec_l1In.f impl_InRange.f
 first
 | exact ⟨_, rfl, rfl⟩
 | (by_cases h : a ≥ b; (rw [if_pos h]; exact ⟨_, rfl, rfl⟩); (rw [if_neg h]; exact ⟨_, rfl, rfl⟩))
theorem wrap_up {i n : Int} (h0 : 0 ≤ i) (h : i < n) (hn : n ≤ 9223372036854775807) : wrap64 (i + 1) = i + 1 := by unfold wrap64; omega
theorem name_loop (s : ByteArray) (hs : s.size ≤ 9223372036854775807) (d : Nat) : ∀ i : Int, 0 ≤ i → (s.size : Int) - i = d → ∃ r, Ev (fun k => spec_IsName.l0 k s i) r ∧ Ev (fun k => impl_IsName.l0 k s (s.size : Int) i) r := by
 induction d with
 | zero =>
  intro i h0 hd
  obtain ⟨r, h1, h2⟩ := l1 (s.size : Int) 1 8
  refine ⟨r, Ev.step (f := fun _ => some r) (fun k => ?_) (Ev.now r), Ev.step (f := fun _ => some r) (fun k => ?_) (Ev.now r)⟩
  ·simp only [spec_IsName.l0]; rw [if_neg (by omega), h1]; rfl
  ·simp only [impl_IsName.l0]; rw [if_neg (by omega), h2]; rfl
 | succ d ih =>
  intro i h0 hd
  have hlt : i < (s.size : Int) := by omega
  by_cases hc : bt s i < 97
  ·refine ⟨false, Ev.step (f := fun _ => some false) (fun k => ?_) (Ev.now _), Ev.step (f := fun _ => some false) (fun k => ?_) (Ev.now _)⟩
   ·simp only [spec_IsName.l0]; rw [if_pos hlt, if_pos h0, if_pos hc]
   ·simp only [impl_IsName.l0]; rw [if_pos hlt, if_pos h0, if_pos hlt, if_pos hc]
  ·by_cases hc' : bt s i > 122
   ·refine ⟨false, Ev.step (f := fun _ => some false) (fun k => ?_) (Ev.now _), Ev.step (f := fun _ => some false) (fun k => ?_) (Ev.now _)⟩
    ·simp only [spec_IsName.l0]; rw [if_pos hlt, if_pos h0, if_neg hc, if_pos hc']
    ·simp only [impl_IsName.l0]; rw [if_pos hlt, if_pos h0, if_pos hlt, if_neg hc, if_pos hc']
   ·obtain ⟨r, h1, h2⟩ := ih (i + 1) (by omega) (by omega)
    refine ⟨r, Ev.step (fun k => ?_) h1, Ev.step (fun k => ?_) h2⟩
    ·simp only [spec_IsName.l0]; rw [if_pos hlt, if_pos h0, if_neg hc, if_neg hc', wrap_up h0 hlt (by omega)]
    ·simp only [impl_IsName.l0]; rw [if_pos hlt, if_pos h0, if_pos hlt, if_neg hc, if_neg hc', wrap_up h0 hlt (by omega)]
theorem name_same (s : ByteArray) (hs : s.size ≤ 9223372036854775807) : ∃ r, Ev (fun k => spec_IsName.f k s) r ∧ Ev (fun k => impl_IsName.f k s) r := by
 obtain ⟨r, h1, h2⟩ := name_loop s hs s.size 0 (by omega) (by omega)
 exact ⟨r, h1, h2⟩
theorem width_same (s : ByteArray) (hs : s.size ≤ 9223372036854775807) : ∃ r, Ev (fun k => spec_NameWidth.f k s) r ∧ Ev (fun k => impl_NameWidth.f k s) r := by
 obtain ⟨r, h1, h2⟩ := name_same s hs
 refine ⟨if r = true then wrap64 (2 * (s.size : Int)) else 0, ?_, ?_⟩
 ·unfold spec_NameWidth.f
  refine Ev.bind h1 ?_
  cases r
  ·simp only [Bool.false_eq_true, if_false]; exact Ev.now _
  ·simp only [if_true]; exact Ev.now _
 ·unfold impl_NameWidth.f
  refine Ev.bind h2 ?_
  cases r
  ·simp only [Bool.false_eq_true, if_false]; exact Ev.now _
  ·simp only [if_true]; exact Ev.now _
def inB (a b c : Int) : Bool := decide (b ≤ a) && decide (a ≤ c)
theorem in_s (a b c : Int) : spec_l1In.f a b c = some (inB a b c) := by
 unfold spec_l1In.f inB
 first
 | rfl
 | (by_cases h : a ≥ b; (rw [if_pos h, decide_eq_true (show b ≤ a from h)]; rfl); (rw [if_neg h, decide_eq_false (show ¬ b ≤ a from h)]; rfl))
theorem in_i (a b c : Int) : impl_InRange.f a b c = some (inB a b c) := in_s a b c
def ptB (x y : Int) : Bool := inB x 0 200 && inB y 0 200
theorem pt_s (x y : Int) : spec_IsPoint.f x y = some (ptB x y) := by
 unfold spec_IsPoint.f ptB
 first
 | rfl
 | (rw [in_s, in_s]; cases inB x 0 200 <;> rfl)
theorem pt_i (x y : Int) : impl_IsPoint.f x y = some (ptB x y) := by
 unfold impl_IsPoint.f ptB
 first
 | rfl
 | (rw [in_i, in_i]; cases inB x 0 200 <;> rfl)
def boxB (a b c d : Int) : Bool := ptB a b && (ptB c d && (decide (a ≤ c) && decide (b ≤ d)))
theorem box_s (a b c d : Int) : spec_IsBox.f a b c d = some (boxB a b c d) := by
 unfold spec_IsBox.f boxB
 rw [pt_s, pt_s]
 cases ptB a b
 ·rfl
 ·cases ptB c d
  ·rfl
  ·by_cases h : a ≤ c
   ·simp [h]
   ·simp [h]
theorem box_i (a b c d : Int) : impl_IsBox.f a b c d = some (boxB a b c d) := by
 unfold impl_IsBox.f boxB
 rw [pt_i, pt_i]
 cases ptB a b
 ·rfl
 ·cases ptB c d
  ·rfl
  ·by_cases h : a ≤ c
   ·simp [h]
   ·simp [h]
/-- The answer for a box: itself when it is one. -/
def askB (a b c d : Int) : Int × Int × Int × Int × Bool := if boxB a b c d = true then (a, b, c, d, true) else (0, 0, 0, 0, false)
theorem label_same (x y : Int) (s : ByteArray) (p : Int) (hs : s.size ≤ 9223372036854775807) : ∃ R, Ev (fun k => spec_LabelBox.f k x y s p) R ∧ Ev (fun k => impl_LabelBox.f k x y s p) R := by
 obtain ⟨r, n1, n2⟩ := name_same s hs
 obtain ⟨w, w1, w2⟩ := width_same s hs
 have no_s : Ev (fun k => spec_LabelBox.j0 k s p true x y) (0, 0, 0, 0, false) := Ev.step (f := fun _ => some (0, 0, 0, 0, false)) (fun k => by simp [spec_LabelBox.j0]) (Ev.now _)
 have no_i : Ev (fun k => impl_LabelBox.j0 k s p true x y) (0, 0, 0, 0, false) := Ev.step (f := fun _ => some (0, 0, 0, 0, false)) (fun k => by simp [impl_LabelBox.j0]) (Ev.now _)
 have j1_s : ∀ a b c d : Int, Ev (fun k => spec_LabelBox.j1 k p x y a b c d) (if p ≥ 2 then askB a (wrap64 (y - 3)) c y else askB a b c d) := by
  intro a b c d
  refine Ev.step (f := fun _ => some (if p ≥ 2 then askB a (wrap64 (y - 3)) c y else askB a b c d)) (fun k => ?_) (Ev.now _)
  simp only [spec_LabelBox.j1, box_s, Option.bind_some]
  unfold askB
  split
  ·split <;> rfl
  ·split <;> rfl
 have j1_i : ∀ a b c d : Int, Ev (fun k => impl_LabelBox.j1 k p a b c d) (if p < 2 then askB a b c (wrap64 (d + 3)) else askB a (wrap64 (b - 3)) c d) := by
  intro a b c d
  refine Ev.step (f := fun _ => some (if p < 2 then askB a b c (wrap64 (d + 3)) else askB a (wrap64 (b - 3)) c d)) (fun k => ?_) (Ev.now _)
  simp only [impl_LabelBox.j1, box_i, Option.bind_some]
  unfold askB
  split
  ·split <;> rfl
  ·split <;> rfl
 unfold spec_LabelBox.f impl_LabelBox.f
 simp only [pt_s, pt_i, in_s, in_i, Option.bind_some]
 by_cases hp : ptB x y = true
 ·simp only [if_pos hp]
  cases r with
  | false =>
   refine ⟨(0, 0, 0, 0, false), Ev.bind n1 ?_, Ev.bind n2 ?_⟩
   ·simp only [Bool.false_eq_true, if_false]; exact no_s
   ·simp only [Bool.false_eq_true, if_false]; exact no_i
  | true =>
   cases hc : inB p 0 3 with
   | false =>
    refine ⟨(0, 0, 0, 0, false), Ev.bind n1 ?_, Ev.bind n2 ?_⟩
    ·simp only [if_true, Bool.not_false]; exact no_s
    ·simp only [if_true, Bool.not_false]; exact no_i
   | true =>
    have hr : 0 ≤ p ∧ p ≤ 3 := by simpa [inB] using hc
    have ht : Int.tmod p 2 = p % 2 := Int.tmod_eq_emod_of_nonneg hr.1
    by_cases ho : p % 2 = 1
    ·refine ⟨if p ≥ 2 then askB (wrap64 (x - w)) (wrap64 (y - 3)) x y else askB (wrap64 (x - w)) y x (wrap64 (y + 3)), Ev.bind n1 ?_, Ev.bind n2 ?_⟩
     ·simp only [if_true, Bool.not_true]
      refine Ev.step (f := fun k => (spec_NameWidth.f k s).bind fun t => (spec_NameWidth.f k s).bind fun u => spec_LabelBox.j1 k p x y (wrap64 (x - u)) y x (wrap64 (y + 3))) (fun k => ?_) (Ev.bind w1 (Ev.bind w1 (j1_s _ _ _ _)))
      simp only [spec_LabelBox.j0, Bool.false_eq_true, if_false, ht, if_pos ho]
     ·simp only [if_true, Bool.not_true]
      have := j1_i (wrap64 (x - w)) y x y
      have e : (if p < 2 then askB (wrap64 (x - w)) y x (wrap64 (y + 3)) else askB (wrap64 (x - w)) (wrap64 (y - 3)) x y) = (if p ≥ 2 then askB (wrap64 (x - w)) (wrap64 (y - 3)) x y else askB (wrap64 (x - w)) y x (wrap64 (y + 3))) := by
       by_cases h2 : p ≥ 2
       ·rw [if_pos h2, if_neg (by omega)]
       ·rw [if_neg h2, if_pos (by omega)]
      rw [e] at this
      refine Ev.step (f := fun k => (impl_NameWidth.f k s).bind fun t => impl_LabelBox.j1 k p (wrap64 (x - t)) y x y) (fun k => ?_) (Ev.bind w2 this)
      simp only [impl_LabelBox.j0, Bool.false_eq_true, if_false, ht, if_neg (show ¬ p % 2 = 0 by omega)]
    ·refine ⟨if p ≥ 2 then askB x (wrap64 (y - 3)) (wrap64 (x + w)) y else askB x y (wrap64 (x + w)) (wrap64 (y + 3)), Ev.bind n1 ?_, Ev.bind n2 ?_⟩
     ·simp only [if_true, Bool.not_true]
      refine Ev.step (f := fun k => (spec_NameWidth.f k s).bind fun t => spec_LabelBox.j1 k p x y x y (wrap64 (x + t)) (wrap64 (y + 3))) (fun k => ?_) (Ev.bind w1 (j1_s _ _ _ _))
      simp only [spec_LabelBox.j0, Bool.false_eq_true, if_false, ht, if_neg ho]
     ·simp only [if_true, Bool.not_true]
      have := j1_i x y (wrap64 (x + w)) y
      have e : (if p < 2 then askB x y (wrap64 (x + w)) (wrap64 (y + 3)) else askB x (wrap64 (y - 3)) (wrap64 (x + w)) y) = (if p ≥ 2 then askB x (wrap64 (y - 3)) (wrap64 (x + w)) y else askB x y (wrap64 (x + w)) (wrap64 (y + 3))) := by
       by_cases h2 : p ≥ 2
       ·rw [if_pos h2, if_neg (by omega)]
       ·rw [if_neg h2, if_pos (by omega)]
      rw [e] at this
      refine Ev.step (f := fun k => (impl_NameWidth.f k s).bind fun t => impl_LabelBox.j1 k p x y (wrap64 (x + t)) y) (fun k => ?_) (Ev.bind w2 this)
      simp only [impl_LabelBox.j0, Bool.false_eq_true, if_false, ht, if_pos (show p % 2 = 0 by omega)]
 ·simp only [if_neg hp]
  exact ⟨_, no_s, no_i⟩
theorem isPt_bd {x y : Int} (h : isPt x y = true) : 0 ≤ x ∧ x ≤ 200 ∧ 0 ≤ y ∧ y ≤ 200 := by
 simp only [isPt, inR, Bool.and_eq_true, decide_eq_true_eq] at h
 omega
theorem isPt_mk {x y : Int} (h : 0 ≤ x ∧ x ≤ 200 ∧ 0 ≤ y ∧ y ≤ 200) : isPt x y = true := by
 simp only [isPt, inR, Bool.and_eq_true, decide_eq_true_eq]
 omega
theorem box_bound {a b c d : Int} (h : boxB a b c d = true) : 0 ≤ a ∧ a ≤ 200 ∧ 0 ≤ b ∧ b ≤ 200 ∧ 0 ≤ c ∧ c ≤ 200 ∧ 0 ≤ d ∧ d ≤ 200 := by
 simp only [boxB, ptB, inB, Bool.and_eq_true, decide_eq_true_eq] at h
 omega
theorem rdB_at (l : List S80) (i : Nat) (h : i < l.length) : rd_T80 l (i : Int) = l[i] := by
 unfold rd_T80
 rw [Int.toNat_natCast, List.getD_eq_getElem?_getD, List.getElem?_eq_getElem h]
 rfl
def ovB (a b c d e f g h : Int) : Bool := boxB a b c d && (boxB e f g h && (decide (mx a e < mn c g) && decide (mx b f < mn d h)))
theorem ov_s (a b c d e f g h : Int) : spec_BoxesOverlap.f a b c d e f g h = some (ovB a b c d e f g h) := by
 unfold spec_BoxesOverlap.f ovB spec_Min.f spec_Max.f
 simp only [box_s, Option.bind_some]
 cases boxB a b c d
 ·rfl
 ·cases boxB e f g h
  ·rfl
  ·by_cases h1 : mx a e < mn c g
   ·simp [h1]
   ·simp [h1]
theorem mn_bound (a b : Int) (h : 0 ≤ a ∧ a ≤ 200) (h' : 0 ≤ b ∧ b ≤ 200) : 0 ≤ mn a b ∧ mn a b ≤ 200 := by unfold mn; split <;> omega
theorem mx_bound (a b : Int) (h : 0 ≤ a ∧ a ≤ 200) (h' : 0 ≤ b ∧ b ≤ 200) : 0 ≤ mx a b ∧ mx a b ≤ 200 := by unfold mx; split <;> omega
theorem wrap_mid {a : Int} (h : -1000 ≤ a) (h' : a ≤ 1000) : wrap64 a = a := by unfold wrap64; omega
theorem ov_i (a b c d e f g h : Int) : impl_BoxesOverlap.f a b c d e f g h = some (ovB a b c d e f g h) := by
 unfold impl_BoxesOverlap.f impl_common.f ovB
 simp only [box_i, Option.bind_some]
 cases h1 : boxB a b c d
 ·rfl
 ·cases h2 : boxB e f g h
  ·rfl
  ·have b1 := box_bound h1
   have b2 := box_bound h2
   have m1 := mn_bound c g (by omega) (by omega)
   have m2 := mx_bound a e (by omega) (by omega)
   have m3 := mn_bound d h (by omega) (by omega)
   have m4 := mx_bound b f (by omega) (by omega)
   rw [wrap_mid (a := mn c g - mx a e) (by omega) (by omega), wrap_mid (a := mn d h - mx b f) (by omega) (by omega)]
   by_cases h3 : mx a e < mn c g
   ·simp only [if_true, if_pos (show mn c g - mx a e > 0 by omega), decide_eq_true h3, Bool.true_and]
    rw [decide_eq_decide.2 (show mn d h - mx b f > 0 ↔ mx b f < mn d h by omega)]
   ·simp only [if_true, if_neg (show ¬ mn c g - mx a e > 0 by omega), decide_eq_false h3, Bool.true_and, Bool.false_and]
theorem corners_l (x y : Int) (s : ByteArray) (hs : s.size ≤ 9223372036854775807) (d : Nat) : ∀ (i : Int) (a : List Int), 0 ≤ i → i + (d : Int) = 4 → (a.length : Int) ≤ i → ∃ L : List Int, L.length ≤ 4 ∧ Ev (fun k => spec_CornersFor.l0 k s a i x y) L ∧ Ev (fun k => impl_CornersFor.l0 k s a i x y) L := by
 induction d with
 | zero =>
  intro i a h0 hi ha
  refine ⟨a, by omega, Ev.step (f := fun _ => some a) (fun k => ?_) (Ev.now _), Ev.step (f := fun _ => some a) (fun k => ?_) (Ev.now _)⟩
  ·simp only [spec_CornersFor.l0]; rw [if_neg (by omega)]
  ·simp only [impl_CornersFor.l0]; rw [if_neg (by omega)]
 | succ d ih =>
  intro i a h0 hi ha
  obtain ⟨R, e1, e2⟩ := label_same x y s i hs
  have hw : wrap64 (i + 1) = i + 1 := by unfold wrap64; omega
  by_cases hR : R.2.2.2.2 = true
  ·obtain ⟨L, hL, f1, f2⟩ := ih (i + 1) (a ++ [i]) (by omega) (by omega) (by simp; omega)
   refine ⟨L, hL, ?_, ?_⟩
   ·refine Ev.step (f := fun k => (spec_LabelBox.f k x y s i).bind fun b => if b.2.2.2.2 = true then (if a.length < 17592186044416 then spec_CornersFor.l0 k s (a ++ [i]) (i + 1) x y else none) else spec_CornersFor.l0 k s a (i + 1) x y) (fun k => ?_) (Ev.bind e1 ?_)
    ·simp only [spec_CornersFor.l0]; rw [if_pos (by omega), hw]
    ·simp only [if_pos hR, if_pos (show a.length < 17592186044416 by omega)]; exact f1
   ·refine Ev.step (f := fun k => (impl_LabelBox.f k x y s i).bind fun b => if b.2.2.2.2 = true then (if a.length < 17592186044416 then impl_CornersFor.l0 k s (a ++ [i]) (i + 1) x y else none) else impl_CornersFor.l0 k s a (i + 1) x y) (fun k => ?_) (Ev.bind e2 ?_)
    ·simp only [impl_CornersFor.l0]; rw [if_pos (by omega), hw]
    ·simp only [if_pos hR, if_pos (show a.length < 17592186044416 by omega)]; exact f2
  ·obtain ⟨L, hL, f1, f2⟩ := ih (i + 1) a (by omega) (by omega) (by omega)
   refine ⟨L, hL, ?_, ?_⟩
   ·refine Ev.step (f := fun k => (spec_LabelBox.f k x y s i).bind fun b => if b.2.2.2.2 = true then (if a.length < 17592186044416 then spec_CornersFor.l0 k s (a ++ [i]) (i + 1) x y else none) else spec_CornersFor.l0 k s a (i + 1) x y) (fun k => ?_) (Ev.bind e1 ?_)
    ·simp only [spec_CornersFor.l0]; rw [if_pos (by omega), hw]
    ·simp only [if_neg hR]; exact f1
   ·refine Ev.step (f := fun k => (impl_LabelBox.f k x y s i).bind fun b => if b.2.2.2.2 = true then (if a.length < 17592186044416 then impl_CornersFor.l0 k s (a ++ [i]) (i + 1) x y else none) else impl_CornersFor.l0 k s a (i + 1) x y) (fun k => ?_) (Ev.bind e2 ?_)
    ·simp only [impl_CornersFor.l0]; rw [if_pos (by omega), hw]
    ·simp only [if_neg hR]; exact f2
theorem corners_same (x y : Int) (s : ByteArray) (hs : s.size ≤ 9223372036854775807) : ∃ L : List Int, L.length ≤ 4 ∧ Ev (fun k => spec_CornersFor.f k x y s) L ∧ Ev (fun k => impl_CornersFor.f k x y s) L := by
 obtain ⟨L, hL, f1, f2⟩ := corners_l x y s hs 4 0 [] (by omega) (by omega) (by simp)
 exact ⟨L, hL, f1, f2⟩
def offB (a b c d : Int) (x : S80) : Bool := !ovB a b c d x.f0.f0 x.f0.f1 x.f1.f0 x.f1.f1
theorem isFree_l (B : List S80) (hB : B.length ≤ 1048576) (a b c d : Int) (n : Nat) : ∀ j : Nat, j + n = B.length → Ev (fun k => impl_isFree.l0 k B (B.length : Int) (j : Int) a b c d) ((B.drop j).all (offB a b c d)) := by
 induction n with
 | zero =>
  intro j hj
  have e : B.drop j = [] := List.drop_of_length_le (by omega)
  rw [e]
  refine Ev.step (f := fun _ => some true) (fun k => ?_) (Ev.now _)
  simp only [impl_isFree.l0]
  rw [if_neg (by omega)]
 | succ n ih =>
  intro j hj
  have h1 : j < B.length := by omega
  rw [List.drop_eq_getElem_cons h1, List.all_cons]
  cases hv : ovB a b c d B[j].f0.f0 B[j].f0.f1 B[j].f1.f0 B[j].f1.f1 with
  | true =>
   have e : offB a b c d B[j] = false := by unfold offB; rw [hv]; rfl
   rw [e, Bool.false_and]
   refine Ev.step (f := fun _ => some false) (fun k => ?_) (Ev.now _)
   simp only [impl_isFree.l0, ov_i]
   rw [if_pos (by omega), if_pos (by omega), if_pos (by omega), rdB_at B j h1, hv]
   simp
  | false =>
   have e : offB a b c d B[j] = true := by unfold offB; rw [hv]; rfl
   rw [e, Bool.true_and]
   refine Ev.step (fun k => ?_) (ih (j + 1) (by omega))
   simp only [impl_isFree.l0, ov_i]
   rw [if_pos (by omega), if_pos (by omega), if_pos (by omega), rdB_at B j h1, hv, w1 j (by omega)]
   simp
theorem freeS_l (x y : Int) (s : ByteArray) (B : List S80) (hB : B.length ≤ 1048576) (L : List Int) (i : Nat) (hi : i < L.length) (hL : L.length ≤ 4) (a b c d : Int) (v : Int) (n : Nat) :
  ∀ (j : Nat) (fl : Bool), j + n = B.length → (if (fl && (B.drop j).all (offB a b c d)) = true then L[i] = v else Ev (fun k => spec_FreeCorner.l0 k s B L ((i + 1 : Nat) : Int) x y) v) → Ev (fun k => spec_FreeCorner.l1 k s B L (i : Int) fl (j : Int) x y a b c d) v := by
 induction n with
 | zero =>
  intro j fl hj h
  have e : B.drop j = [] := List.drop_of_length_le (by omega)
  rw [e] at h
  cases fl with
  | true =>
   have h' : L[i] = v := by simpa using h
   refine Ev.step (f := fun _ => some v) (fun k => ?_) (Ev.now _)
   simp only [spec_FreeCorner.l1, if_true]
   rw [if_neg (by omega), if_pos (by omega), if_pos (by omega), rd_at L i hi, h']
  | false =>
   simp only [Bool.false_and, Bool.false_eq_true, if_false] at h
   refine Ev.step (fun k => ?_) h
   simp only [spec_FreeCorner.l1, Bool.false_eq_true, if_false]
   rw [if_neg (by omega), w1 i (by omega)]
 | succ n ih =>
  intro j fl hj h
  have h1 : j < B.length := by omega
  rw [List.drop_eq_getElem_cons h1, List.all_cons] at h
  cases fl with
  | true =>
   rw [Bool.true_and] at h
   refine Ev.step (fun k => ?_) (ih (j + 1) (offB a b c d B[j]) (by omega) h)
   simp only [spec_FreeCorner.l1, if_true, ov_s, Option.bind_some]
   rw [if_pos (by omega), if_pos (by omega), rdB_at B j h1, w1 j (by omega)]
   rfl
  | false =>
   refine Ev.step (fun k => ?_) (ih (j + 1) false (by omega) (by simpa using h))
   simp only [spec_FreeCorner.l1, Bool.false_eq_true, if_false]
   rw [if_pos (by omega), w1 j (by omega)]
theorem free_l (x y : Int) (s : ByteArray) (hs : s.size ≤ 9223372036854775807) (B : List S80) (hB : B.length ≤ 1048576) (L : List Int) (hL : L.length ≤ 4) (n : Nat) : ∀ i : Nat, i + n = L.length → ∃ v, Ev (fun k => spec_FreeCorner.l0 k s B L (i : Int) x y) v ∧ Ev (fun k => impl_FreeCorner.l0 k s B L (L.length : Int) (i : Int) x y) v := by
 induction n with
 | zero =>
  intro i hi
  refine ⟨-1, Ev.step (f := fun _ => some (-1)) (fun k => ?_) (Ev.now _), Ev.step (f := fun _ => some (-1)) (fun k => ?_) (Ev.now _)⟩
  ·simp only [spec_FreeCorner.l0]; rw [if_neg (by omega)]
  ·simp only [impl_FreeCorner.l0]; rw [if_neg (by omega)]
 | succ n ih =>
  intro i hi
  have h1 : i < L.length := by omega
  obtain ⟨R, e1, e2⟩ := label_same x y s L[i] hs
  obtain ⟨u, f1, f2⟩ := ih (i + 1) (by omega)
  have hfree := isFree_l B hB R.1 R.2.1 R.2.2.1 R.2.2.2.1 B.length 0 (by omega)
  rw [List.drop_zero] at hfree
  have spec : ∀ v, (if (true && (B.drop 0).all (offB R.1 R.2.1 R.2.2.1 R.2.2.2.1)) = true then L[i] = v else Ev (fun k => spec_FreeCorner.l0 k s B L ((i + 1 : Nat) : Int) x y) v) → Ev (fun k => spec_FreeCorner.l0 k s B L (i : Int) x y) v := by
   intro v hv
   refine Ev.step (f := fun k => (spec_LabelBox.f k x y s L[i]).bind fun b => spec_FreeCorner.l1 k s B L (i : Int) true ((0 : Nat) : Int) x y b.1 b.2.1 b.2.2.1 b.2.2.2.1) (fun k => ?_) (Ev.bind e1 (freeS_l x y s B hB L i h1 hL _ _ _ _ v B.length 0 true (by omega) hv))
   simp only [spec_FreeCorner.l0]
   rw [if_pos (by omega), if_pos (by omega), rd_at L i h1]
   rfl
  have impl : ∀ v, (if B.all (offB R.1 R.2.1 R.2.2.1 R.2.2.2.1) = true then L[i] = v else Ev (fun k => impl_FreeCorner.l0 k s B L (L.length : Int) ((i + 1 : Nat) : Int) x y) v) → Ev (fun k => impl_FreeCorner.l0 k s B L (L.length : Int) (i : Int) x y) v := by
   intro v hv
   refine Ev.step (f := fun k => (impl_LabelBox.f k x y s L[i]).bind fun b => (impl_isFree.f k b.1 b.2.1 b.2.2.1 b.2.2.2.1 B).bind fun t => if t = true then some L[i] else impl_FreeCorner.l0 k s B L (L.length : Int) ((i + 1 : Nat) : Int) x y) (fun k => ?_) (Ev.bind e2 (Ev.bind (show Ev (fun k => impl_isFree.f k R.1 R.2.1 R.2.2.1 R.2.2.2.1 B) _ from hfree) ?_))
   ·simp only [impl_FreeCorner.l0]
    rw [if_pos (by omega), if_pos (by omega), if_pos (by omega), rd_at L i h1, w1 i (by omega)]
   ·by_cases hc : B.all (offB R.1 R.2.1 R.2.2.1 R.2.2.2.1) = true
    ·rw [if_pos hc] at hv
     simp only [if_pos hc, hv]
     exact Ev.now _
    ·rw [if_neg hc] at hv
     simp only [if_neg hc]
     exact hv
  by_cases hc : B.all (offB R.1 R.2.1 R.2.2.1 R.2.2.2.1) = true
  ·exact ⟨L[i], spec _ (by rw [List.drop_zero, Bool.true_and, if_pos hc]), impl _ (by rw [if_pos hc])⟩
  ·exact ⟨u, spec _ (by rw [List.drop_zero, Bool.true_and, if_neg hc]; exact f1), impl _ (by rw [if_neg hc]; exact f2)⟩
theorem src_next {l : List S59} (hs : srB l = true) (i : Nat) (h0 : 0 < i) (hi : i < l.length) : (l.getD (i - 1) z59).f0 < (l.getD i z59).f0 := by
 unfold srB srcR at hs
 rw [Bool.and_eq_true, List.all_eq_true] at hs
 have := hs.1 i (List.mem_range'_1.2 ⟨Nat.zero_le _, by omega⟩)
 unfold chk at this
 rw [Bool.and_eq_true, Bool.or_eq_true, decide_eq_true_iff, decide_eq_true_iff] at this
 rcases this.2 with h | h
 ·omega
 ·exact h
theorem src_lt {l : List S59} (hs : srB l = true) (i : Nat) : ∀ j : Nat, i < j → j < l.length → (l.getD i z59).f0 < (l.getD j z59).f0 := by
 intro j
 induction j with
 | zero => intro h; omega
 | succ j ih =>
  intro h1 h2
  have hn := src_next hs (j + 1) (by omega) h2
  rw [Nat.add_sub_cancel] at hn
  by_cases e : i = j
  ·subst e; exact hn
  ·have := ih (by omega) (by omega); omega
theorem getPd_at (l : List S75) (i : Nat) (h : i < l.length) : l.getD i z75 = l[i] := by rw [List.getD_eq_getElem?_getD, List.getElem?_eq_getElem h]; rfl
theorem chkL_pts : ∀ (l : List S75) (o : Option S75), chkL o l = true → ∀ p ∈ l, isPt p.f0 p.f1 = true
 | [], _, _, p, hp => by cases hp
 | q :: r, o, h, p, hp => by
  rw [chkL_cons, Bool.and_eq_true, Bool.and_eq_true] at h
  rcases List.mem_cons.1 hp with rfl | hp
  ·exact h.1
  ·exact chkL_pts r (some q) h.2.2 p hp
theorem lnB_pts {l : List S75} (h : lnB l = true) : ∀ p ∈ l, isPt p.f0 p.f1 = true := by
 unfold lnB at h
 rw [Bool.and_eq_true] at h
 exact chkL_pts l none h.2
theorem rgB_pts {l : List S75} (h : rgB l = true) : ∀ i, i < l.length → isPt (l.getD i z75).f0 (l.getD i z75).f1 = true := by
 intro i hi
 unfold rgB ringS at h
 rw [Bool.and_eq_true, List.all_eq_true] at h
 have := h.2 i (List.mem_range'_1.2 ⟨Nat.zero_le _, by omega⟩)
 rw [Bool.and_eq_true] at this
 have hs := this.1
 have e : (arR l).getD i z133 = ⟨l.getD i z75, l.getD ((i + 1) % l.length) z75⟩ := by
  unfold arR
  rw [List.getD_eq_getElem?_getD, List.getElem?_map, List.getElem?_range hi]; rfl
 rw [e] at hs
 unfold segL isSeg at hs
 rw [Bool.and_eq_true, Bool.and_eq_true] at hs
 exact hs.1.1
theorem mdR_bd (L : List S75) (hp : ∀ i, i < L.length → isPt (L.getD i z75).f0 (L.getD i z75).f1 = true) (hl : L.length ≤ 10) (d : Nat) : ∀ (i : Nat) (x y : Int), i + d = L.length → 0 ≤ x ∧ x ≤ 200 * (i : Int) → 0 ≤ y ∧ y ≤ 200 * (i : Int) → (0 ≤ (mdR L i d x y).1 ∧ (mdR L i d x y).1 ≤ 200 * (L.length : Int)) ∧ (0 ≤ (mdR L i d x y).2 ∧ (mdR L i d x y).2 ≤ 200 * (L.length : Int)) := by
 induction d with
 | zero => intro i x y hi h1 h2; unfold mdR; dsimp only; omega
 | succ d ih =>
  intro i x y hi h1 h2
  have b := isPt_bd (hp i (by omega))
  unfold mdR
  have w1 : wrap64 (x + (L.getD i z75).f0) = x + (L.getD i z75).f0 := by unfold wrap64; omega
  have w2 : wrap64 (y + (L.getD i z75).f1) = y + (L.getD i z75).f1 := by unfold wrap64; omega
  rw [w1, w2]
  exact ih (i + 1) _ _ (by omega) (by omega) (by omega)
theorem md_pt {L : List S75} (h : rgB L = true) : isPt (mdP L).f0 (mdP L).f1 = true := by
 have hp := rg_pos h
 have b := mdR_bd L (rgB_pts h) hp.2 L.length 0 0 0 (by omega) (by omega) (by omega)
 have q : ∀ s : Int, 0 ≤ s → s ≤ 200 * (L.length : Int) → 0 ≤ wrap64 (Int.tdiv s (L.length : Int)) ∧ wrap64 (Int.tdiv s (L.length : Int)) ≤ 200 := by
  intro s h0 h1
  rw [Int.tdiv_eq_ediv_of_nonneg h0]
  have e0 : 0 ≤ s / (L.length : Int) := Int.ediv_nonneg h0 (by omega)
  have e1 : s / (L.length : Int) ≤ 200 := by
   have := Int.ediv_le_ediv (show (0 : Int) < (L.length : Int) by omega) h1
   rwa [Int.mul_ediv_cancel _ (show (L.length : Int) ≠ 0 by omega)] at this
  unfold wrap64
  omega
 have q1 := q _ b.1.1 b.1.2
 have q2 := q _ b.2.1 b.2.2
 exact isPt_mk ⟨q1.1, q1.2, q2.1, q2.2⟩
theorem an_pt {x : S59} (h : ftF x = true) : isPt (anP x).f0 (anP x).f1 = true := by
 have hk := h
 unfold ftF ftB at hk
 simp only [Bool.and_eq_true] at hk
 have hk := hk.2.2.2
 unfold kdB at hk
 unfold anP
 by_cases h3 : x.f1 = 3
 ·rw [if_neg (by omega), if_neg (by omega), if_pos h3] at hk
  rw [if_pos h3]
  exact md_pt hk
 ·rw [if_neg h3]
  by_cases h1 : x.f1 = 1
  ·rw [if_pos h1, Bool.and_eq_true, decide_eq_true_eq] at hk
   rw [show x.f4.length / 2 = 0 by omega]
   exact hk.2
  ·rw [if_neg h1] at hk
   by_cases h2 : x.f1 = 2
   ·rw [if_pos h2] at hk
    have hp := sm_pos hk
    unfold smB at hk
    rw [Bool.and_eq_true] at hk
    rw [getPd_at _ _ (by omega)]
    exact lnB_pts hk.1 _ (List.getElem_mem _)
   ·rw [if_neg h2, if_neg h3] at hk; cases hk
theorem anF_mem {l : List S59} {p : S77} {d : Nat} : ∀ {i : Nat}, p ∈ anF l i d → ∃ j, i ≤ j ∧ j < i + d ∧ p = ⟨(l.getD j z59).f0, anP (l.getD j z59), (l.getD j z59).f2⟩ := by
 intro i hp
 unfold anF at hp
 obtain ⟨j, hj, hp⟩ := List.mem_flatMap.1 hp
 have := List.mem_range'_1.1 hj
 unfold anB at hp
 split at hp
 ·cases hp
 ·rw [List.mem_singleton] at hp
  exact ⟨j, by omega, by omega, hp⟩
theorem anF_asc {l : List S59} (hs : srB l = true) (d : Nat) : ∀ i : Nat, i + d = l.length → (anF l i d).Pairwise (fun a b => a.f0 < b.f0) := by
 induction d with
 | zero => intro i hi; exact List.Pairwise.nil
 | succ d ih =>
  intro i hi
  rw [anF_step, List.pairwise_append]
  refine ⟨?_, ih (i + 1) (by omega), ?_⟩
  ·unfold anB
   split
   ·exact List.Pairwise.nil
   ·exact List.pairwise_singleton _ _
  ·intro a ha b hb
   obtain ⟨j, h1, h2, rfl⟩ := anF_mem hb
   unfold anB at ha
   split at ha
   ·cases ha
   ·rw [List.mem_singleton] at ha
    subst ha
    exact src_lt hs i j (by omega) (by omega)
/-- The anchors of a source. -/
def anV (l : List S59) : List S77 := if srB l = true then anF l 0 l.length else []
theorem anV_len (l : List S59) : (anV l).length ≤ 16 := by
 unfold anV
 split
 ·rename_i h
  unfold srB at h
  rw [Bool.and_eq_true, decide_eq_true_eq] at h
  have := anF_len l l.length 0
  omega
 ·simp
theorem anV_mem {l : List S59} {p : S77} (h : p ∈ anV l) : srB l = true ∧ isPt p.f1.f0 p.f1.f1 = true ∧ ∃ j, j < l.length ∧ p.f0 = (l.getD j z59).f0 := by
 unfold anV at h
 split at h
 ·rename_i hs
  obtain ⟨j, h1, h2, rfl⟩ := anF_mem h
  exact ⟨hs, an_pt (src_ft hs j (by omega)), j, by omega, rfl⟩
 ·cases h
theorem anV_asc (l : List S59) : (anV l).Pairwise (fun a b => a.f0 < b.f0) := by
 unfold anV
 split
 ·rename_i hs; exact anF_asc hs l.length 0 (by omega)
 ·exact List.Pairwise.nil
theorem putL_perm (l : List S77) (x : S77) : (putL l x).Perm (x :: l) := by
 unfold putL
 have h := List.take_append_drop (posL l x l.length) l
 have e : (l.take (posL l x l.length) ++ [x] ++ l.drop (posL l x l.length)).Perm ([x] ++ l.take (posL l x l.length) ++ l.drop (posL l x l.length)) := List.Perm.append_right _ List.perm_append_comm
 rw [List.append_assoc [x], h] at e
 exact e
theorem foldL_perm (l : List S77) : ∀ m : List S77, (l.foldl putL m).Perm (l ++ m) := by
 induction l with
 | nil => intro m; exact List.Perm.refl _
 | cons x l ih =>
  intro m
  rw [List.foldl_cons]
  refine (ih (putL m x)).trans ?_
  refine (List.Perm.append_left l (putL_perm m x)).trans ?_
  exact List.perm_middle
theorem sortL_perm (l : List S77) : (sortL l).Perm l := by
 have := foldL_perm l []
 rw [List.append_nil] at this
 exact this
theorem sortL_mem (l : List S77) (x : S77) : x ∈ sortL l ↔ x ∈ l := (sortL_perm l).mem_iff
theorem apart_sort {l : List S77} (h : l.Pairwise (fun a b => a.f0 < b.f0)) : (sortL l).Pairwise (fun a b => a.f0 ≠ b.f0) :=
 ((sortL_perm l).pairwise_iff (fun {x y} h => fun e => h e.symm)).2 (h.imp (fun h => by omega))
theorem far_nn {a b c d : Int} (h1 : isPt a b = true) (h2 : isPt c d = true) : ∃ t, spec_FarSquared.f a b c d = some t ∧ 0 ≤ t := by
 have b1 := isPt_bd h1
 have b2 := isPt_bd h2
 unfold spec_FarSquared.f spec_IsPoint.f
 simp only [h1, h2, Option.bind_some, if_true]
 refine ⟨_, rfl, ?_⟩
 have w1 : wrap64 (a - c) = a - c := by unfold wrap64; omega
 have w2 : wrap64 (b - d) = b - d := by unfold wrap64; omega
 rw [w1, w2]
 have sq : ∀ z : Int, -200 ≤ z → z ≤ 200 → 0 ≤ z * z ∧ z * z ≤ 40000 := by
  intro z hz1 hz2
  rcases Int.le_total 0 z with h | h
  ·exact ⟨Int.mul_nonneg h h, Int.le_trans (Int.mul_le_mul hz2 hz2 h (by omega)) (by decide)⟩
  ·have e : z * z = (-z) * (-z) := by rw [Int.neg_mul_neg]
   rw [e]
   exact ⟨Int.mul_nonneg (by omega) (by omega), Int.le_trans (Int.mul_le_mul (show -z ≤ 200 by omega) (show -z ≤ 200 by omega) (by omega) (by omega)) (by decide)⟩
 have s1 := sq (a - c) (by omega) (by omega)
 have s2 := sq (b - d) (by omega) (by omega)
 generalize (a - c) * (a - c) = u at s1 ⊢
 generalize (b - d) * (b - d) = v at s2 ⊢
 have w3 : wrap64 u = u := by unfold wrap64; omega
 have w4 : wrap64 v = v := by unfold wrap64; omega
 have w5 : wrap64 (u + v) = u + v := by unfold wrap64; omega
 rw [w3, w4, w5]
 omega
theorem wz0 : wrap64 (0 * 0) = 0 := by unfold wrap64; omega
theorem kp_true (y : S77) (hy : isPt y.f1.f0 y.f1.f1 = true) : ∀ l : List S77, (∀ x ∈ l, isPt x.f1.f0 x.f1.f1 = true) → kpS (wrap64 (0 * 0)) y l true = some true
 | [], _ => rfl
 | x :: r, h => by
  obtain ⟨t, e, h0⟩ := far_nn (h x (List.mem_cons_self ..)) hy
  rw [kpS, e, Option.bind_some, decide_eq_true (show wrap64 (0 * 0) ≤ t by rw [wz0]; exact h0)]
  exact kp_true y hy r (fun z hz => h z (List.mem_cons_of_mem _ hz))
theorem kept_all : ∀ (l out : List S77), (∀ x ∈ l, isPt x.f1.f0 x.f1.f1 = true) → (∀ x ∈ out, isPt x.f1.f0 x.f1.f1 = true) → keptS (wrap64 (0 * 0)) l out = some (out ++ l)
 | [], out, _, _ => by rw [keptS, List.append_nil]
 | y :: r, out, h, ho => by
  have hy := h y (List.mem_cons_self ..)
  rw [keptS, kp_true y hy out ho, Option.bind_some, if_pos rfl, kept_all r _ (fun x hx => h x (List.mem_cons_of_mem _ hx)) (fun x hx => by
   rcases List.mem_append.1 hx with hx | hx
   ·exact ho x hx
   ·rw [List.mem_singleton] at hx; subst hx; exact hy), List.append_assoc]
  rfl
/-- Nothing is dropped at distance 0. -/
theorem kept_zero (l : List S77) (hl : l.length ≤ 16) (h : ∀ x ∈ l, isPt x.f1.f0 x.f1.f1 = true) : spec_l14Kept.f l 0 = some (sortL l) := by
 unfold spec_l14Kept.f
 rw [if_pos (by omega), kept_all _ _ (fun x hx => h x ((sortL_mem l x).1 hx)) (fun x hx => by cases hx), List.nil_append]
theorem free_same (x y : Int) (s : ByteArray) (hs : s.size ≤ 9223372036854775807) (B : List S80) (hB : B.length ≤ 1048576) : ∃ v, Ev (fun k => spec_FreeCorner.f k x y s B) v ∧ Ev (fun k => impl_FreeCorner.f k x y s B) v := by
 obtain ⟨L, hL, c1, c2⟩ := corners_same x y s hs
 obtain ⟨v, f1, f2⟩ := free_l x y s hs B hB L hL L.length 0 (by omega)
 exact ⟨v, by unfold spec_FreeCorner.f; exact Ev.bind c1 f1, by unfold impl_FreeCorner.f; exact Ev.bind c2 f2⟩
theorem getLb_at (l : List S84) (i : Nat) (h : i < l.length) : l.getD i z84 = l[i] := by rw [List.getD_eq_getElem?_getD, List.getElem?_eq_getElem h]; rfl
theorem posB_hi (l : List S84) (a : Int) : ∀ k i, posB l a k ≤ i → i < k → a < (l.getD i z84).f0
 | 0, _, _, h => by omega
 | k + 1, i, h, h' => by
  unfold posB at h
  split at h
  ·rename_i h1
   by_cases e : i = k
   ·subst e; exact h1
   ·exact posB_hi l a k i h (by omega)
  ·omega
theorem posB_lo (l : List S84) (a : Int) : ∀ k, 0 < posB l a k → ¬ a < (l.getD (posB l a k - 1) z84).f0
 | 0, h => by simp [posB] at h
 | k + 1, h => by
  unfold posB at h ⊢
  split
  ·rename_i h1
   rw [if_pos h1] at h
   exact posB_lo l a k h
  ·rename_i h1
   simpa using h1
def AscB (l : List S84) : Prop := l.Pairwise (fun x y => x.f0 ≤ y.f0)
theorem putB_asc {l : List S84} (h : AscB l) (y : S84) : AscB (putB l y) := by
 have hle := posB_le l y.f0 l.length
 unfold putB
 have h' := h
 unfold AscB at h' ⊢
 rw [← List.take_append_drop (posB l y.f0 l.length) l, List.pairwise_append] at h'
 rw [List.append_assoc, List.singleton_append, List.pairwise_append, List.pairwise_cons]
 have hlo : ∀ z ∈ l.take (posB l y.f0 l.length), z.f0 ≤ y.f0 := by
  intro z hz
  obtain ⟨i, hi, rfl⟩ := List.getElem_of_mem hz
  rw [List.length_take] at hi
  rw [List.getElem_take]
  have h1 := posB_lo l y.f0 l.length (by omega)
  rw [getLb_at l _ (by omega)] at h1
  by_cases e : i = posB l y.f0 l.length - 1
  ·subst e; omega
  ·have := List.pairwise_iff_getElem.1 h i (posB l y.f0 l.length - 1) (by omega) (by omega) (by omega)
   omega
 have hhi : ∀ z ∈ l.drop (posB l y.f0 l.length), y.f0 ≤ z.f0 := by
  intro z hz
  obtain ⟨i, hi, rfl⟩ := List.getElem_of_mem hz
  rw [List.length_drop] at hi
  rw [List.getElem_drop]
  have := posB_hi l y.f0 l.length (posB l y.f0 l.length + i) (by omega) (by omega)
  rw [getLb_at l _ (by omega)] at this
  omega
 refine ⟨h'.1, ⟨hhi, h'.2.1⟩, fun a ha b hb => ?_⟩
 rcases List.mem_cons.1 hb with rfl | hb
 ·exact hlo a ha
 ·have := hlo a ha; have := hhi b hb; omega
theorem putB_perm (l : List S84) (y : S84) : (putB l y).Perm (y :: l) := by
 unfold putB
 have h := List.take_append_drop (posB l y.f0 l.length) l
 have e : (l.take (posB l y.f0 l.length) ++ [y] ++ l.drop (posB l y.f0 l.length)).Perm ([y] ++ l.take (posB l y.f0 l.length) ++ l.drop (posB l y.f0 l.length)) := List.Perm.append_right _ List.perm_append_comm
 rw [List.append_assoc [y], h] at e
 exact e
theorem putB_len (l : List S84) (y : S84) : (putB l y).length = l.length + 1 := (putB_perm l y).length_eq
theorem foldB_asc (ls : List S84) : ∀ {m : List S84}, AscB m → AscB (ls.foldl putB m) := by
 induction ls with
 | nil => intro m h; exact h
 | cons y ls ih => intro m h; exact ih (putB_asc h y)
theorem foldB_perm (ls : List S84) : ∀ m : List S84, (ls.foldl putB m).Perm (ls ++ m) := by
 induction ls with
 | nil => intro m; exact List.Perm.refl _
 | cons y ls ih =>
  intro m
  rw [List.foldl_cons]
  refine (ih (putB m y)).trans ?_
  refine (List.Perm.append_left ls (putB_perm m y)).trans ?_
  exact List.perm_middle
theorem fold_sort {ls : List S84} (hd : apartB ls) : ls.foldl putB [] = sortB ls := by
 have hp := foldB_perm ls []
 rw [List.append_nil] at hp
 exact sortB_of hp hd (foldB_asc ls List.Pairwise.nil)
section
variable (l : List S59) (hb : l.length < 9223372036854775807) (hx : ∀ x ∈ l, x.f3.size ≤ 9223372036854775807 ∧ x.f4.length < 9223372036854775807)
include hb hx
theorem pn_both (O : List S77) : (∀ p ∈ O, ∃ j, j < l.length ∧ p.f0 = (l.getD j z59).f0) → ∀ (out out' : List S84) (tk : List S80), out.length + O.length ≤ 100 → out'.length + O.length ≤ 100 → tk.length + O.length ≤ 100 →
  ∃ ls : List S84, (ls.map (·.f0)).Sublist (O.map (·.f0)) ∧ Ev (fun k => pnS k l O out tk) (ls.foldl putB out) ∧ Ev (fun k => pnI k l O out' tk) (out' ++ ls) := by
 induction O with
 | nil =>
  intro _ out out' tk _ _ _
  refine ⟨[], List.Sublist.refl _, ?_, ?_⟩
  ·show Ev (fun k => some out) out
   exact Ev.now _
  ·rw [List.append_nil]
   show Ev (fun k => some out') out'
   exact Ev.now _
 | cons p O ih =>
  intro hO out out' tk h1 h2 h3
  rw [List.length_cons] at h1 h2 h3
  obtain ⟨j, hj, ej⟩ := hO p (List.mem_cons_self ..)
  have hm : l.getD j z59 ∈ l := by rw [List.getD_eq_getElem?_getD, List.getElem?_eq_getElem hj]; exact List.getElem_mem hj
  obtain ⟨i, hi, ei, _⟩ := ffI_in l p.f0 ⟨_, hm, ej.symm⟩ 0
  rw [Int.zero_add] at ei
  have fs := ff_s l hb p.f0
  have fi := ff_i l hb p.f0
  rw [ei] at fs fi
  have hmi : l.getD i z59 ∈ l := by rw [List.getD_eq_getElem?_getD, List.getElem?_eq_getElem hi]; exact List.getElem_mem hi
  have hs := (hx _ hmi).1
  have hin : 0 ≤ (i : Int) ∧ (i : Int) < (l.length : Int) := by omega
  obtain ⟨c, cs, ci⟩ := free_same p.f1.f0 p.f1.f1 (l.getD i z59).f3 hs tk (by omega)
  have hO' : ∀ q ∈ O, ∃ j, j < l.length ∧ q.f0 = (l.getD j z59).f0 := fun q hq => hO q (List.mem_cons_of_mem _ hq)
  by_cases hc : c < 0
  ·obtain ⟨ls, g1, g2, g3⟩ := ih hO' out out' tk (by omega) (by omega) (by omega)
   refine ⟨ls, by rw [List.map_cons]; exact g1.cons _, ?_, ?_⟩
   ·show Ev (fun k => (spec_FindFeature.f k l p.f0).bind fun i => if 0 ≤ i ∧ i < (l.length : Int) then (spec_FreeCorner.f k p.f1.f0 p.f1.f1 (l.getD i.toNat z59).f3 tk).bind fun c => if c < 0 then pnS k l O out tk else _ else none) _
    refine Ev.bind fs ?_
    simp only [if_pos hin, Int.toNat_natCast]
    refine Ev.bind cs ?_
    simp only [if_pos hc]
    exact g2
   ·show Ev (fun k => (impl_FindFeature.f l p.f0).bind fun i => if 0 ≤ i ∧ i < (l.length : Int) then (impl_FreeCorner.f k p.f1.f0 p.f1.f1 (l.getD i.toNat z59).f3 tk).bind fun c => if c < 0 then pnI k l O out' tk else _ else none) _
    simp only [fi, Option.bind_some, if_pos hin, Int.toNat_natCast]
    refine Ev.bind ci ?_
    simp only [if_pos hc]
    exact g3
  ·obtain ⟨R, r1, r2⟩ := label_same p.f1.f0 p.f1.f1 (l.getD i z59).f3 c hs
   obtain ⟨ls, g1, g2, g3⟩ := ih hO' (putB out ⟨p.f0, (l.getD i z59).f3, ⟨⟨R.1, R.2.1⟩, ⟨R.2.2.1, R.2.2.2.1⟩⟩⟩) (out' ++ [⟨p.f0, (l.getD i z59).f3, ⟨⟨R.1, R.2.1⟩, ⟨R.2.2.1, R.2.2.2.1⟩⟩⟩]) (tk ++ [⟨⟨R.1, R.2.1⟩, ⟨R.2.2.1, R.2.2.2.1⟩⟩]) (by rw [putB_len]; omega) (by simp; omega) (by simp; omega)
   refine ⟨⟨p.f0, (l.getD i z59).f3, ⟨⟨R.1, R.2.1⟩, ⟨R.2.2.1, R.2.2.2.1⟩⟩⟩ :: ls, by rw [List.map_cons, List.map_cons]; exact g1.cons_cons _, ?_, ?_⟩
   ·show Ev (fun k => (spec_FindFeature.f k l p.f0).bind fun i => if 0 ≤ i ∧ i < (l.length : Int) then (spec_FreeCorner.f k p.f1.f0 p.f1.f1 (l.getD i.toNat z59).f3 tk).bind fun c => if c < 0 then pnS k l O out tk else (spec_LabelBox.f k p.f1.f0 p.f1.f1 (l.getD i.toNat z59).f3 c).bind fun b => if out.length < 1000000 ∧ tk.length < 1000000 then pnS k l O (putB out ⟨p.f0, (l.getD i.toNat z59).f3, ⟨⟨b.1, b.2.1⟩, ⟨b.2.2.1, b.2.2.2.1⟩⟩⟩) (tk ++ [⟨⟨b.1, b.2.1⟩, ⟨b.2.2.1, b.2.2.2.1⟩⟩]) else none else none) _
    refine Ev.bind fs ?_
    simp only [if_pos hin, Int.toNat_natCast]
    refine Ev.bind cs ?_
    simp only [if_neg hc]
    refine Ev.bind r1 ?_
    simp only [if_pos (show out.length < 1000000 ∧ tk.length < 1000000 by omega)]
    exact g2
   ·show Ev (fun k => (impl_FindFeature.f l p.f0).bind fun i => if 0 ≤ i ∧ i < (l.length : Int) then (impl_FreeCorner.f k p.f1.f0 p.f1.f1 (l.getD i.toNat z59).f3 tk).bind fun c => if c < 0 then pnI k l O out' tk else (impl_LabelBox.f k p.f1.f0 p.f1.f1 (l.getD i.toNat z59).f3 c).bind fun b => if out'.length < 1000000 ∧ tk.length < 1000000 then pnI k l O (out' ++ [⟨p.f0, (l.getD i.toNat z59).f3, ⟨⟨b.1, b.2.1⟩, ⟨b.2.2.1, b.2.2.2.1⟩⟩⟩]) (tk ++ [⟨⟨b.1, b.2.1⟩, ⟨b.2.2.1, b.2.2.2.1⟩⟩]) else none else none) _
    simp only [fi, Option.bind_some, if_pos hin, Int.toNat_natCast]
    refine Ev.bind ci ?_
    simp only [if_neg hc]
    refine Ev.bind r2 ?_
    simp only [if_pos (show out'.length < 1000000 ∧ tk.length < 1000000 by omega)]
    have e : out' ++ ⟨p.f0, (l.getD i z59).f3, ⟨⟨R.1, R.2.1⟩, ⟨R.2.2.1, R.2.2.2.1⟩⟩⟩ :: ls = (out' ++ [⟨p.f0, (l.getD i z59).f3, ⟨⟨R.1, R.2.1⟩, ⟨R.2.2.1, R.2.2.2.1⟩⟩⟩]) ++ ls := by simp
    rw [e]
    exact g3
/-- The names placed, by the program and by the reference. -/
theorem place_both : ∃ v : List S84, v.length ≤ 16 ∧ Ev (fun k => spec_PlaceNames.f k l) v ∧ Ev (fun k => impl_PlaceNames.f k l) v := by
 have an1 := an_s l hb hx
 have an2 := an_i l hb hx
 have hA : (anV l).length ≤ 16 := anV_len l
 have hm := fun p (hp : p ∈ anV l) => anV_mem hp
 have ha := apart_sort (anV_asc l)
 have hk := kept_zero (anV l) hA (fun x hx => (hm x hx).2.1)
 have hf : impl_fromAbove.f (anV l) = some (sortL (anV l)) := by unfold impl_fromAbove.f; rw [if_pos (by omega)]
 have hl : (sortL (anV l)).length ≤ 16 := by rw [sortL_len]; exact hA
 obtain ⟨ls, g1, g2, g3⟩ := pn_both l hb hx (sortL (anV l)) (fun p hp => (hm p ((sortL_mem _ _).1 hp)).2.2) [] [] [] (by simp; omega) (by simp; omega) (by simp; omega)
 have hlen : ls.length ≤ 16 := by
  have := g1.length_le
  rw [List.length_map, List.length_map] at this
  omega
 have hap : apartB ls := by
  unfold apartB
  have h := List.Pairwise.sublist g1 (List.pairwise_map.2 (show (sortL (anV l)).Pairwise (fun a b => a.f0 ≠ b.f0) from ha))
  exact List.pairwise_map.1 h
 rw [List.nil_append] at g3
 refine ⟨sortB ls, by rw [sortB_len]; exact hlen, ?_, ?_⟩
 ·unfold spec_PlaceNames.f
  refine Ev.bind (show Ev (fun k => spec_AnchorsOf.f k l) (anV l) from an1) ?_
  simp only [hk, Option.bind_some, if_pos (show (sortL (anV l)).length < 1000000 by omega)]
  rw [← fold_sort hap]
  exact g2
 ·unfold impl_PlaceNames.f
  refine Ev.bind (show Ev (fun k => impl_AnchorsOf.f k l) (anV l) from an2) ?_
  simp only [hf, Option.bind_some, if_pos (show (sortL (anV l)).length < 1000000 by omega)]
  refine Ev.bind g3 ?_
  simp only [if_pos (show ls.length < 2000000 ∧ apartB ls from ⟨by omega, hap⟩)]
  exact Ev.now _
end
theorem eqInts_l (a b : List Int) (hl : a.length = b.length) (hb : a.length < 9223372036854775807) (d : Nat) : ∀ i : Nat, i + d = a.length → Ev (fun k => laws_eqIntS.l0 k a b (i : Int)) (decide (a.drop i = b.drop i)) := by
 induction d with
 | zero =>
  intro i hi
  refine Ev.step (f := fun _ => some (decide (a.drop i = b.drop i))) (fun k => ?_) (Ev.now _)
  simp only [laws_eqIntS.l0]
  rw [if_neg (by omega), List.drop_of_length_le (by omega), List.drop_of_length_le (by omega)]
  simp
 | succ d ih =>
  intro i hi
  have h1 : i < a.length := by omega
  have h2 : i < b.length := by omega
  have ea := List.drop_eq_getElem_cons h1
  have eb := List.drop_eq_getElem_cons h2
  by_cases he : a[i] = b[i]
  ·have := ih (i + 1) (by omega)
   have e : decide (a.drop i = b.drop i) = decide (a.drop (i + 1) = b.drop (i + 1)) := decide_eq_decide.2 (by rw [ea, eb, List.cons.injEq]; exact ⟨fun h => h.2, fun h => ⟨he, h⟩⟩)
   rw [e]
   refine Ev.step (fun k => ?_) this
   simp only [laws_eqIntS.l0]
   rw [if_pos (by omega), if_pos (by omega), if_pos (by omega), rd_at a i h1, rd_at b i h2, if_pos he, w1 i (by omega)]
  ·have e : decide (a.drop i = b.drop i) = false := decide_eq_false (by rw [ea, eb, List.cons.injEq]; exact fun h => he h.1)
   rw [e]
   refine Ev.step (f := fun _ => some false) (fun k => ?_) (Ev.now _)
   simp only [laws_eqIntS.l0]
   rw [if_pos (by omega), if_pos (by omega), if_pos (by omega), rd_at a i h1, rd_at b i h2, if_neg he]
theorem eqInts (a b : List Int) (hb : a.length < 9223372036854775807) : Ev (fun k => laws_eqIntS.f k a b) (decide (a = b)) := by
 unfold laws_eqIntS.f
 by_cases hl : a.length = b.length
 ·simp only [if_pos (show (a.length : Int) = (b.length : Int) by omega)]
  have := eqInts_l a b hl hb a.length 0 (by omega)
  simpa using this
 ·simp only [if_neg (show ¬ (a.length : Int) = (b.length : Int) by omega)]
  have e : decide (a = b) = false := by simp; intro h; exact hl (by rw [h])
  rw [e]
  exact Ev.now _
def marks (v : Int) (n : Nat) : List Int := (List.range n).map fun (j : Nat) => v + (j : Int)
theorem marks_zero (v : Int) : marks v 0 = [] := rfl
theorem marks_succ (v : Int) (n : Nat) : marks v (n + 1) = v :: marks (v + 1) n := by
 unfold marks
 rw [List.range_succ_eq_map]
 simp only [List.map_cons, List.map_map, List.cons.injEq]
 refine ⟨by simp, List.map_congr_left fun j _ => ?_⟩
 simp only [Function.comp]
 omega
theorem wrapv (v : Int) (h0 : 0 ≤ v) (h : v < 9223372036854775807) : wrap64 (v + 1) = v + 1 := by unfold wrap64; omega
theorem markInts_l (suf : List Int) : ∀ (pre : List Int) (v : Int), 0 ≤ v → pre.length + suf.length < 4611686018427387904 → v + (suf.length : Int) < 4611686018427387904 →
  Ev (fun k => laws_markIntS.l0 k (pre ++ suf) v (pre.length : Int)) (v + (suf.length : Int), pre ++ marks v suf.length) := by
 induction suf with
 | nil =>
  intro pre v h0 h1 h2
  refine Ev.step (f := fun _ => some (v + (([] : List Int).length : Int), pre ++ marks v 0)) (fun k => ?_) (Ev.now _)
  simp only [laws_markIntS.l0]
  rw [if_neg (by simp)]
  simp [marks_zero]
 | cons x suf ih =>
  intro pre v h0 h1 h2
  simp only [List.length_cons] at h1 h2
  have := ih (pre ++ [v]) (v + 1) (by omega) (by simp; omega) (by omega)
  have e : (v + 1 + (suf.length : Int), (pre ++ [v]) ++ marks (v + 1) suf.length) = (v + ((x :: suf).length : Int), pre ++ marks v (x :: suf).length) := by
   simp only [List.length_cons, marks_succ, List.append_assoc, List.singleton_append, Prod.mk.injEq, and_true]
   omega
  rw [e] at this
  refine Ev.step (fun k => ?_) this
  simp only [laws_markIntS.l0]
  rw [if_pos (by simp; omega), if_pos (by omega), wrapv v h0 (by omega), w1 pre.length (by omega)]
  congr 1
  ·rw [Int.toNat_natCast, List.set_append_right _ _ (Nat.le_refl _), Nat.sub_self]
   simp
  ·simp
theorem markInts (l : List Int) (h : l.length < 2305843009213693952) : Ev (fun k => laws_markIntS.f k l 1) (1 + (l.length : Int), marks 1 l.length) := by
 have := markInts_l l [] 1 (by omega) (by simp; omega) (by omega)
 simpa [laws_markIntS.f] using this
theorem heldInts_l (n : Nat) : ∀ (pre : List Int) (v : Int), 0 ≤ v → pre.length + n < 4611686018427387904 → v + (n : Int) < 4611686018427387904 →
  Ev (fun k => laws_heldIntS.l0 k (pre ++ marks v n) v (pre.length : Int)) (v + (n : Int)) := by
 induction n with
 | zero =>
  intro pre v h0 h1 h2
  refine Ev.step (f := fun _ => some (v + ((0 : Nat) : Int))) (fun k => ?_) (Ev.now _)
  simp only [laws_heldIntS.l0]
  rw [if_neg (by simp [marks_zero])]
  simp
 | succ n ih =>
  intro pre v h0 h1 h2
  have := ih (pre ++ [v]) (v + 1) (by omega) (by simp; omega) (by omega)
  have e : (pre ++ [v]) ++ marks (v + 1) n = pre ++ marks v (n + 1) := by rw [marks_succ]; simp
  have e2 : v + 1 + (n : Int) = v + ((n + 1 : Nat) : Int) := by omega
  rw [e, e2] at this
  refine Ev.step (fun k => ?_) this
  simp only [laws_heldIntS.l0]
  have hlen : (pre ++ marks v (n + 1)).length = pre.length + (n + 1) := by simp [marks]
  rw [if_pos (by rw [hlen]; omega), if_pos (by omega), rd_at _ pre.length (by rw [hlen]; omega)]
  rw [if_pos (by simp [marks_succ]), wrapv v h0 (by omega), w1 pre.length (by omega)]
  congr 1
  simp
theorem heldInts (n : Nat) (h : n < 2305843009213693952) : Ev (fun k => laws_heldIntS.f k (marks 1 n) 1) (1 + (n : Int)) := by
 have := heldInts_l n [] 1 (by omega) (by simp; omega) (by omega)
 simpa [laws_heldIntS.f] using this
theorem indexAny_l (l : List Int) (hl : l.length ≤ 1000000) (x : Int) (d : Nat) : ∀ i : Nat, i + d = l.length → ∃ r : Int, Ev (fun k => slices_Index_int_int.l0 k l x (l.length : Int) (i : Int)) r ∧ (r ≥ 0 ↔ x ∈ l.drop i) := by
 induction d with
 | zero =>
  intro i hi
  have e : l.drop i = [] := List.drop_of_length_le (by omega)
  rw [e]
  refine ⟨-1, Ev.step (f := fun _ => some (-1)) (fun k => ?_) (Ev.now _), by simp⟩
  simp only [slices_Index_int_int.l0]
  rw [if_neg (by omega)]
 | succ d ih =>
  intro i hi
  have h1 : i < l.length := by omega
  have e := List.drop_eq_getElem_cons h1
  rw [e]
  by_cases hx : x = l[i]
  ·refine ⟨(i : Int), Ev.step (f := fun _ => some (i : Int)) (fun k => ?_) (Ev.now _), ?_⟩
   ·simp only [slices_Index_int_int.l0]
    rw [if_pos (by omega), if_pos (by omega), if_pos (by omega), rd_at l i h1, if_pos hx]
   ·rw [hx]
    exact ⟨fun _ => List.mem_cons_self, fun _ => by omega⟩
  ·obtain ⟨r, h2, h3⟩ := ih (i + 1) (by omega)
   refine ⟨r, Ev.step (fun k => ?_) h2, ?_⟩
   ·simp only [slices_Index_int_int.l0]
    rw [if_pos (by omega), if_pos (by omega), if_pos (by omega), rd_at l i h1, if_neg hx, w1 i (by omega)]
   ·rw [h3, List.mem_cons]
    exact ⟨fun h => .inr h, fun h => h.resolve_left hx⟩
theorem contains_f (l : List Int) (hl : l.length ≤ 1000000) (x : Int) : Ev (fun k => slices_Contains_int_int.f k l x) (decide (x ∈ l)) := by
 unfold slices_Contains_int_int.f slices_Index_int_int.f
 obtain ⟨r, h1, h2⟩ := indexAny_l l hl x l.length 0 (by omega)
 rw [List.drop_zero] at h2
 refine Ev.bind h1 ?_
 have e : decide (r ≥ 0) = decide (x ∈ l) := decide_eq_decide.2 h2
 rw [e]
 exact Ev.now _
theorem has_l (l : List Int) (hl : l.length ≤ 1000000) (x : Int) (d : Nat) : ∀ i : Nat, i + d = l.length → Ev (fun k => spec_l14Has.l0 k l x (i : Int)) (decide (x ∈ l.drop i)) := by
 induction d with
 | zero =>
  intro i hi
  have e : l.drop i = [] := List.drop_of_length_le (by omega)
  rw [e, decide_eq_false (by simp)]
  refine Ev.step (f := fun _ => some false) (fun k => ?_) (Ev.now _)
  simp only [spec_l14Has.l0]
  rw [if_neg (by omega)]
 | succ d ih =>
  intro i hi
  have h1 : i < l.length := by omega
  rw [List.drop_eq_getElem_cons h1]
  by_cases hx : l[i] = x
  ·rw [decide_eq_true (show x ∈ l[i] :: l.drop (i + 1) by rw [hx]; exact List.mem_cons_self)]
   refine Ev.step (f := fun _ => some true) (fun k => ?_) (Ev.now _)
   simp only [spec_l14Has.l0]
   rw [if_pos (by omega), if_pos (by omega), rd_at l i h1, if_pos hx]
  ·have e : decide (x ∈ l[i] :: l.drop (i + 1)) = decide (x ∈ l.drop (i + 1)) := decide_eq_decide.2 (by rw [List.mem_cons]; exact ⟨fun h => h.resolve_left (fun h => hx h.symm), .inr⟩)
   rw [e]
   refine Ev.step (fun k => ?_) (ih (i + 1) (by omega))
   simp only [spec_l14Has.l0]
   rw [if_pos (by omega), if_pos (by omega), rd_at l i h1, if_neg hx, w1 i (by omega)]
theorem has_f (l : List Int) (hl : l.length ≤ 1000000) (x : Int) : Ev (fun k => spec_l14Has.f k l x) (decide (x ∈ l)) := by
 have := has_l l hl x l.length 0 (by omega)
 rw [List.drop_zero] at this
 exact this
theorem rdLb (l : List S84) (i : Nat) : rd_T84 l (i : Int) = l.getD i z84 := by unfold rd_T84; rw [Int.toNat_natCast]
theorem rdPc77 (l : List S77) (i : Nat) : rd_T77 l (i : Int) = l.getD i z77 := by unfold rd_T77; rw [Int.toNat_natCast]
theorem idsL (L : List S84) (hb : L.length ≤ 1048576) (d : Nat) : ∀ (i : Nat) (a : List Int), i + d = L.length → a.length ≤ i → ∃ v : List Int, v.length ≤ L.length ∧ Ev (fun k => spec_NamedIds.l0 k L a (i : Int)) v ∧ Ev (fun k => impl_NamedIds.l0 k a L (L.length : Int) (i : Int)) v := by
 induction d with
 | zero =>
  intro i a hi ha
  refine ⟨a, by omega, Ev.step (f := fun _ => some a) (fun k => ?_) (Ev.now _), Ev.step (f := fun _ => some a) (fun k => ?_) (Ev.now _)⟩
  ·simp only [spec_NamedIds.l0]; rw [if_neg (by omega)]
  ·simp only [impl_NamedIds.l0]; rw [if_neg (by omega)]
 | succ d ih =>
  intro i a hi ha
  have h1 : i < L.length := by omega
  obtain ⟨v, hv, e1, e2⟩ := ih (i + 1) (a ++ [(L.getD i z84).f0]) (by omega) (by simp; omega)
  refine ⟨v, hv, Ev.step (fun k => ?_) e1, Ev.step (fun k => ?_) e2⟩
  ·simp only [spec_NamedIds.l0]
   rw [if_pos (by omega), if_pos (by omega), if_pos (by omega), rdLb, w1' i (by omega)]
  ·simp only [impl_NamedIds.l0]
   rw [if_pos (by omega), if_pos (by omega), if_pos (by omega), if_pos (by omega), rdLb, w1' i (by omega)]
theorem unpl_both (N : List Int) (hN : N.length ≤ 1000000) (P : List S77) (hP : P.length ≤ 1000000) (d : Nat) : ∀ (i : Nat) (o : List Int), i + d = P.length → o.length ≤ i → ∃ v : List Int, v.length ≤ 1000000 ∧ Ev (fun k => spec_Unplaced.l0 k o P N (i : Int)) v ∧ Ev (fun k => impl_Unplaced.l0 k N o P (P.length : Int) (i : Int)) v := by
 induction d with
 | zero =>
  intro i o hi ho
  refine ⟨o, by omega, Ev.step (f := fun _ => some o) (fun k => ?_) (Ev.now _), Ev.step (f := fun _ => some o) (fun k => ?_) (Ev.now _)⟩
  ·simp only [spec_Unplaced.l0]; rw [if_neg (by omega)]
  ·simp only [impl_Unplaced.l0]; rw [if_neg (by omega)]
 | succ d ih =>
  intro i o hi ho
  have hs := has_f N hN (P.getD i z77).f0
  have hc := contains_f N hN (P.getD i z77).f0
  by_cases hm : (P.getD i z77).f0 ∈ N
  ·rw [decide_eq_true hm] at hs hc
   obtain ⟨v, hv, e1, e2⟩ := ih (i + 1) o (by omega) (by omega)
   refine ⟨v, hv, Ev.step (f := fun k => (spec_l14Has.f k N (P.getD i z77).f0).bind fun t => if t = true then spec_Unplaced.l0 k o P N ((i + 1 : Nat) : Int) else if o.length < 17592186044416 then spec_Unplaced.l0 k (o ++ [(P.getD i z77).f0]) P N ((i + 1 : Nat) : Int) else none) (fun k => ?_) (Ev.bind hs ?_), Ev.step (f := fun k => (slices_Contains_int_int.f k N (P.getD i z77).f0).bind fun t => if t = true then impl_Unplaced.l0 k N o P (P.length : Int) ((i + 1 : Nat) : Int) else if o.length < 17592186044416 then impl_Unplaced.l0 k N (o ++ [(P.getD i z77).f0]) P (P.length : Int) ((i + 1 : Nat) : Int) else none) (fun k => ?_) (Ev.bind hc ?_)⟩
   ·simp only [spec_Unplaced.l0, rdPc77]
    rw [if_pos (by omega), if_pos (by omega), w1' i (by omega)]
   ·simp only [if_true]; exact e1
   ·simp only [impl_Unplaced.l0, rdPc77]
    rw [if_pos (by omega), if_pos (by omega), if_pos (by omega), w1' i (by omega)]
   ·simp only [if_true]; exact e2
  ·rw [decide_eq_false hm] at hs hc
   obtain ⟨v, hv, e1, e2⟩ := ih (i + 1) (o ++ [(P.getD i z77).f0]) (by omega) (by simp; omega)
   refine ⟨v, hv, Ev.step (f := fun k => (spec_l14Has.f k N (P.getD i z77).f0).bind fun t => if t = true then spec_Unplaced.l0 k o P N ((i + 1 : Nat) : Int) else if o.length < 17592186044416 then spec_Unplaced.l0 k (o ++ [(P.getD i z77).f0]) P N ((i + 1 : Nat) : Int) else none) (fun k => ?_) (Ev.bind hs ?_), Ev.step (f := fun k => (slices_Contains_int_int.f k N (P.getD i z77).f0).bind fun t => if t = true then impl_Unplaced.l0 k N o P (P.length : Int) ((i + 1 : Nat) : Int) else if o.length < 17592186044416 then impl_Unplaced.l0 k N (o ++ [(P.getD i z77).f0]) P (P.length : Int) ((i + 1 : Nat) : Int) else none) (fun k => ?_) (Ev.bind hc ?_)⟩
   ·simp only [spec_Unplaced.l0, rdPc77]
    rw [if_pos (by omega), if_pos (by omega), w1' i (by omega)]
   ·simp only [Bool.false_eq_true, if_false, if_pos (show o.length < 17592186044416 by omega)]; exact e1
   ·simp only [impl_Unplaced.l0, rdPc77]
    rw [if_pos (by omega), if_pos (by omega), if_pos (by omega), w1' i (by omega)]
   ·simp only [Bool.false_eq_true, if_false, if_pos (show o.length < 17592186044416 by omega)]; exact e2
theorem unplaced_both (L : List S59) (hL : L.length < 9223372036854775807) (hx : ∀ x ∈ L, x.f3.size ≤ 9223372036854775807 ∧ x.f4.length < 9223372036854775807) : ∃ v : List Int, v.length ≤ 1000000 ∧ Ev (fun k => spec_Unplaced.f k L) v ∧ Ev (fun k => impl_Unplaced.f k L) v := by
 obtain ⟨A, hA, s1, s2⟩ := place_both L hL hx
 obtain ⟨N, hN, n1, n2⟩ := idsL A (by omega) A.length 0 [] (by omega) (by simp)
 have hN2 : N.length ≤ 1000000 := by omega
 have a1 := an_s L hL hx
 have a2 := an_i L hL hx
 have hv := anV_len L
 obtain ⟨v, h1, e1, e2⟩ := unpl_both N hN2 (anV L) (by omega) (anV L).length 0 [] (by omega) (by simp)
 refine ⟨v, h1, ?_, ?_⟩
 ·unfold spec_Unplaced.f
  refine Ev.bind (show Ev (fun k => spec_AnchorsOf.f k L) (anV L) from a1) (Ev.bind s1 (Ev.bind (show Ev (fun k => spec_NamedIds.f k A) N from n1) e1))
 ·unfold impl_Unplaced.f
  refine Ev.bind s2 (Ev.bind (show Ev (fun k => impl_NamedIds.f k A) N from n2) (Ev.bind (show Ev (fun k => impl_AnchorsOf.f k L) (anV L) from a2) e2))
theorem main : ∀ (l0 : List (S52)), (l0.length ≤ 9223372036854775807 ∧ ∀ x ∈ l0, ((Lit.int .i64 x.f0).wf = true ∧ (Lit.int .i64 x.f1).wf = true ∧ (Lit.int .i64 x.f2).wf = true ∧ x.f3.size ≤ 9223372036854775807 ∧ (x.f4.length ≤ 9223372036854775807 ∧ ∀ y ∈ x.f4, ((Lit.int .i64 y.f0).wf = true ∧ (Lit.int .i64 y.f1).wf = true)))) → ∃ k, laws_FnExactUnplaced.f k l0 = some true := by
 intro l hl
 refine Ev.rounds (r := true) ?_
 unfold laws_FnExactUnplaced.f
 obtain ⟨r, hr, hb⟩ := szFeatures l (fun x hx => ⟨(hl.2 x hx).2.2.2.1, (hl.2 x hx).2.2.2.2.1⟩) hl.1
 refine Ev.bind hr ?_
 by_cases hc : r < 0
 ·simp only [if_pos hc]; exact Ev.now _
 ·simp only [if_neg hc]
  obtain ⟨h1, h2⟩ := hb hc
  have t := toFeatures l h1 (fun x hx => (h2 x hx).2)
  have hxL : ∀ x ∈ l.map convF, x.f3.size ≤ 9223372036854775807 ∧ x.f4.length < 9223372036854775807 := by
   intro x hx
   obtain ⟨y, hy, rfl⟩ := List.mem_map.1 hx
   have := h2 y hy
   unfold convF
   simp only [List.length_map]
   omega
  have hxL2 : ∀ x ∈ l.map convF, x.f4.length ≤ 1048576 := by
   intro x hx
   obtain ⟨y, hy, rfl⟩ := List.mem_map.1 hx
   have := h2 y hy
   unfold convF
   simp only [List.length_map]
   omega
  have hL1 : (l.map convF).length ≤ 1048576 := by simpa using h1
  have hL : (l.map convF).length < 9223372036854775807 := by omega
  generalize l.map convF = L at t hxL hxL2 hL1 hL
  obtain ⟨A, hA, s1, s2⟩ := unplaced_both L hL hxL
  have ei := eqInts A A (by omega)
  rw [decide_eq_true rfl] at ei
  have ef := eqFeatures L hL (fun x hx => (hxL x hx).2)
  have mf := markF L hL1 hxL2
  have m1 := markInts A (by omega)
  have m2 := heldInts A.length (by omega)
  refine Ev.bind t (Ev.bind s1 (Ev.bind s2 (Ev.bind ei (Ev.bind ef ?_))))
  simp only [mf, Option.bind_some]
  refine Ev.bind m1 (Ev.bind m2 ?_)
  have c1 : (0 : Int) ≤ 1 + (mfT L : Int) := by omega
  have c2 : (0 : Int) ≤ 1 + (A.length : Int) := by omega
  rw [if_pos ⟨trivial, trivial, c1, c2, rfl⟩]
  exact Ev.now _
end Go.Proofs.YtkomgmgpgnjooaaGreat.Pure.FnExactUnplaced
