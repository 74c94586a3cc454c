
/- The ids shown at a level: the program and the reference answer the same list: those of the kept points and of all other features of the rank. No condition. -/
import Derived.Test.YtkomgmgpgnjooaaGreatPFnExactShownIdsx
import Derived.Test.YtkomgmgpgnjooaaGreatMeet
namespace Go.Proofs.YtkomgmgpgnjooaaGreat.Pure.FnExactShownIds
open Go Go.RowKit Go.Proofs.YtkomgmgpgnjooaaGreat.PFnExactShownIds Go.Proofs.YtkomgmgpgnjooaaGreatW.PrintWords Go.Proofs.YtkomgmgpgnjooaaGreatW.PrintLast Go.Proofs.YtkomgmgpgnjooaaGreatW.PrintMore Go.Proofs.YtkomgmgpgnjooaaGreatGeo
set_option linter.unusedVariables false
set_option linter.unusedSimpArgs false
open Go.Proofs.YtkomgmgpgnjooaaGreatMeet
theorem w1 (i : Nat) (h : i < 9223372036854775807) : wrap64 ((i : Int) + 1) = ((i + 1 : Nat) : Int) := by unfold wrap64; omega
theorem rd_at (l : List Int) (i : Nat) (h : i < l.length) : rd l (i : Int) = l[i] := by
 unfold rd
 rw [Int.toNat_natCast, List.getD_eq_getElem?_getD, List.getElem?_eq_getElem h]
 rfl
theorem how_s (a b c d e f g h : Int) : Ev (fun _ => spec_HowMeet.f a b c d e f g h) (howS a b c d e f g h) := Ev.now _
theorem before_key {x y x' y' : Int} (h : isPt x y = true) (h' : isPt x' y' = true) : beforeI x y x' y' = decide (kyI x y < kyI x' y') := by
 rw [isPt_iff] at h h'
 unfold beforeI kyI
 rw [Bool.eq_iff_iff]; simp; omega
theorem j3_i (a b c d : Int) (h : isPt a b = true) (h' : isPt c d = true) : Ev (fun k => impl_HowMeet.j3 k a b c d) (if kyI c d < kyI a b then 0 else if kyI a b = kyI c d then 1 else 3) := by
 refine Ev.step (f := fun _ => some (if kyI c d < kyI a b then 0 else if kyI a b = kyI c d then 1 else 3)) (fun k => ?_) (Ev.now _)
 simp only [impl_HowMeet.j3, impl_BeforePoint.f, before_key h' h, Option.bind_some, decide_eq_true_eq]
 have e : (a == c && b == d) = decide (kyI a b = kyI c d) := by
  rw [← ky_inj h h']
  rw [Bool.eq_iff_iff]; simp
 rw [e]
 by_cases z : kyI c d < kyI a b
 ·rw [if_pos z, if_pos z]
 ·rw [if_neg z, if_neg z]
  by_cases z' : kyI a b = kyI c d
  ·simp [z']
  ·simp [z']
theorem j2_i (e f g h a b c d : Int) (h1 : isPt g h = true) (h2 : isPt a b = true) (h3 : isPt c d = true) : Ev (fun k => impl_HowMeet.j2 k e f g h a b c d) (if mn (kyI c d) (kyI g h) < kyI a b then 0 else if kyI a b = mn (kyI c d) (kyI g h) then 1 else 3) := by
 refine Ev.step (f := fun k => if kyI g h < kyI c d then impl_HowMeet.j3 k a b g h else impl_HowMeet.j3 k a b c d) (fun k => ?_) ?_
 ·simp only [impl_HowMeet.j2, impl_BeforePoint.f, before_key h1 h3, Option.bind_some, decide_eq_true_eq]
 ·unfold mn
  by_cases z : kyI g h < kyI c d
  ·simp only [if_pos z]; exact j3_i a b g h h2 h1
  ·simp only [if_neg z]; exact j3_i a b c d h2 h3
theorem fwd_i (a b c d : Int) (h : isPt a b = true) (h' : isPt c d = true) : ∃ x y u v, impl_forward.f a b c d = some (x, y, u, v) ∧ isPt x y = true ∧ isPt u v = true ∧ kyI x y = mn (kyI a b) (kyI c d) ∧ kyI u v = mx (kyI a b) (kyI c d) := by
 unfold impl_forward.f impl_BeforePoint.f impl_TurnSegment.f
 simp only [before_key h' h, Option.bind_some, decide_eq_true_eq]
 by_cases z : kyI c d < kyI a b
 ·exact ⟨c, d, a, b, by rw [if_pos z], h', h, by unfold mn; rw [if_pos z], by unfold mx; rw [if_neg (by omega)]⟩
 ·exact ⟨a, b, c, d, by rw [if_neg z], h, h', by unfold mn; rw [if_neg z], by unfold mx; split <;> omega⟩
theorem how_i (a b c d e f g h : Int) : Ev (fun k => impl_HowMeet.f k a b c d e f g h) (howS a b c d e f g h) := by
 rw [← how_eq]
 unfold impl_HowMeet.f howP impl_IsSegment.f
 simp only [Option.bind_some]
 have dead : Ev (fun k => impl_HowMeet.j0 k true a b c d e f g h) 0 := Ev.step (f := fun _ => some 0) (fun k => by simp [impl_HowMeet.j0]) (Ev.now _)
 cases h1 : isSeg a b c d
 ·simp only [Bool.false_eq_true, if_false, true_or, if_true]; exact dead
 ·cases h2 : isSeg e f g h
  ·simp only [if_true, Bool.not_false, or_true]; exact dead
  ·simp only [if_true, Bool.not_true, Bool.true_eq_false, or_self, if_false]
   obtain ⟨ha, hc, _⟩ := isSeg_iff.mp h1
   obtain ⟨he, hg, _⟩ := isSeg_iff.mp h2
   have j4t : Ev (fun k => impl_HowMeet.j4 k true a b c d e f g h) 2 := Ev.step (f := fun _ => some 2) (fun k => by simp [impl_HowMeet.j4]) (Ev.now _)
   have j4f : Ev (fun k => impl_HowMeet.j4 k false a b c d e f g h) (if isOnI a b c d e f || isOnI a b c d g h || isOnI e f g h a b || isOnI e f g h c d then 1 else 0) := by
    refine Ev.step (f := fun _ => some (if isOnI a b c d e f || isOnI a b c d g h || isOnI e f g h a b || isOnI e f g h c d then 1 else 0)) (fun k => ?_) (Ev.now _)
    simp only [impl_HowMeet.j4, impl_IsOn.f, Option.bind_some, Bool.false_eq_true, if_false]
    cases isOnI a b c d e f <;> cases isOnI a b c d g h <;> cases isOnI e f g h a b <;> cases isOnI e f g h c d <;> rfl
   by_cases hcol : sideI a b c d e f = 0 ∧ sideI a b c d g h = 0
   ·rw [if_pos hcol]
    obtain ⟨x, y, u, v, f1, p1, p2, k1, k2⟩ := fwd_i a b c d ha hc
    obtain ⟨x', y', u', v', f2, p1', p2', k1', k2'⟩ := fwd_i e f g h he hg
    refine Ev.step (f := fun k => impl_HowMeet.j1 k (sideI a b c d e f) (sideI a b c d g h) true a b c d e f g h) (fun k => ?_) ?_
    ·simp [impl_HowMeet.j0, impl_SideOf.f, hcol.1, hcol.2]
    ·refine Ev.step (f := fun k => if kyI x y < kyI x' y' then impl_HowMeet.j2 k x' y' u' v' x' y' u v else impl_HowMeet.j2 k x' y' u' v' x y u v) (fun k => ?_) ?_
     ·simp only [impl_HowMeet.j1, f1, f2, impl_BeforePoint.f, Option.bind_some, before_key p1 p1', decide_eq_true_eq, if_true]
     ·rw [← k1, ← k2, ← k1', ← k2']
      by_cases z : kyI x y < kyI x' y'
      ·simp only [if_pos z]
       have e : mx (kyI x y) (kyI x' y') = kyI x' y' := by unfold mx; rw [if_pos z]
       rw [e]
       exact j2_i x' y' u' v' x' y' u v p2' p1' p2
      ·simp only [if_neg z]
       have e : mx (kyI x y) (kyI x' y') = kyI x y := by unfold mx; rw [if_neg z]
       rw [e]
       exact j2_i x' y' u' v' x y u v p2' p1 p2
   ·rw [if_neg hcol]
    refine Ev.step (f := fun k => impl_HowMeet.j1 k (sideI a b c d e f) (sideI a b c d g h) false a b c d e f g h) (fun k => ?_) ?_
    ·simp only [impl_HowMeet.j0, impl_SideOf.f, Option.bind_some, Bool.false_eq_true, if_false]
     by_cases z : sideI a b c d e f = 0
     ·have z' : ¬ sideI a b c d g h = 0 := fun q => hcol ⟨z, q⟩
      have z'' : (sideI a b c d g h == 0) = false := by simp [z']
      rw [if_pos z, z'']
     ·rw [if_neg z]
    ·have w1 := wrap_sd _ _ (sd_bd a b c d e f) (sd_bd a b c d g h)
     have w2 := wrap_sd _ _ (sd_bd e f g h a b) (sd_bd e f g h c d)
     by_cases zu : sideI a b c d e f * sideI a b c d g h < 0
     ·by_cases zv : sideI e f g h a b * sideI e f g h c d < 0
      ·rw [if_pos ⟨zu, zv⟩]
       refine Ev.step (fun k => ?_) j4t
       simp [impl_HowMeet.j1, impl_SideOf.f, w1, w2, zu, zv]
      ·rw [if_neg (fun q => zv q.2)]
       refine Ev.step (fun k => ?_) j4f
       simp [impl_HowMeet.j1, impl_SideOf.f, w1, w2, zu, zv]
     ·rw [if_neg (fun q => zu q.1)]
      refine Ev.step (fun k => ?_) j4f
      simp [impl_HowMeet.j1, impl_SideOf.f, w1, zu]
/-- A line's points, one behind the other: each a point, none like the one ahead of it. -/
def chkL : Option S75 → List S75 → Bool
 | _, [] => true
 | o, p :: r => isPt p.f0 p.f1 && ((match o with | none => true | some q => !eqP q p) && chkL (some p) r)
theorem chkL_cons (o : Option S75) (p : S75) (r : List S75) : chkL o (p :: r) = (isPt p.f0 p.f1 && ((match o with | none => true | some q => !eqP q p) && chkL (some p) r)) := by cases o <;> rfl
def lnB (l : List S75) : Bool := inR (l.length : Int) 2 10 && chkL none l
def prevL (l : List S75) (i : Nat) : Option S75 := if i = 0 then none else some (l.getD (i - 1) z75)
theorem prevL_succ (l : List S75) (i : Nat) (h : i < l.length) : prevL l (i + 1) = some l[i] := by
 unfold prevL
 rw [if_neg (by omega), Nat.add_sub_cancel, List.getD_eq_getElem?_getD, List.getElem?_eq_getElem h]; rfl
theorem w1m (i : Nat) (h : 0 < i) (h' : i < 9223372036854775807) : wrap64 ((i : Int) - 1) = ((i - 1 : Nat) : Int) := by unfold wrap64; omega
theorem isLine_sl (l : List S75) (hl : l.length < 9223372036854775807) (d : Nat) : ∀ i : Nat, i + d = l.length → Ev (fun k => spec_IsLine.l0 k l (i : Int)) (chkL (prevL l i) (l.drop i) && inR (l.length : Int) 2 10) := by
 induction d with
 | zero =>
  intro i hi
  rw [List.drop_of_length_le (by omega)]
  refine Ev.step (f := fun _ => some _) (fun k => ?_) (Ev.now _)
  simp only [spec_IsLine.l0, spec_l1In.f]
  rw [if_neg (by omega)]
  simp [chkL]
 | succ d ih =>
  intro i hi
  have h1 : i < l.length := by omega
  have hd := List.drop_eq_getElem_cons h1
  rw [hd, chkL_cons]
  cases hp : isPt l[i].f0 l[i].f1
  ·refine Ev.step (f := fun _ => some false) (fun k => ?_) (Ev.now _)
   simp only [spec_IsLine.l0, spec_IsPoint.f, Option.bind_some]
   rw [if_pos (by omega), if_pos (by omega), rdPt l i h1, hp]
   simp
  ·have ih' := ih (i + 1) (by omega)
   rw [prevL_succ l i h1] at ih'
   by_cases h0 : i = 0
   ·subst h0
    refine Ev.step (fun k => ?_) ih'
    simp only [spec_IsLine.l0, spec_IsPoint.f, Option.bind_some]
    rw [if_pos (by omega), if_pos (by omega), rdPt l 0 h1, hp, if_pos rfl, if_neg (by omega), w1' 0 (by omega)]
   ·have hi1 : i - 1 < l.length := by omega
    have eP : prevL l i = some l[i - 1] := by unfold prevL; rw [if_neg h0, List.getD_eq_getElem?_getD, List.getElem?_eq_getElem hi1]; rfl
    rw [eP]
    dsimp only
    have eq : (((l[i - 1]).f0) == (l[i].f0) && (((l[i - 1]).f1) == (l[i].f1))) = eqP l[i - 1] l[i] := by
     unfold eqP; rw [Bool.eq_iff_iff]; simp
    cases he : eqP l[i - 1] l[i]
    ·refine Ev.step (fun k => ?_) ih'
     simp only [spec_IsLine.l0, spec_IsPoint.f, Option.bind_some]
     rw [if_pos (by omega), if_pos (by omega), rdPt l i h1, hp, if_pos rfl, if_pos (by omega), w1m i (by omega) (by omega), if_pos (by omega), if_pos (by omega), rdPt l (i - 1) hi1, eq, he, w1' i (by omega)]
     simp
    ·refine Ev.step (f := fun _ => some false) (fun k => ?_) (Ev.now _)
     simp only [spec_IsLine.l0, spec_IsPoint.f, Option.bind_some]
     rw [if_pos (by omega), if_pos (by omega), rdPt l i h1, hp, if_pos rfl, if_pos (by omega), w1m i (by omega) (by omega), if_pos (by omega), if_pos (by omega), rdPt l (i - 1) hi1, eq, he]
     simp
theorem isLine_s (l : List S75) (hl : l.length < 9223372036854775807) : Ev (fun k => spec_IsLine.f k l) (lnB l) := by
 unfold spec_IsLine.f lnB
 rw [Bool.and_comm]
 exact isLine_sl l hl l.length 0 (by omega)
theorem isLine_il (l : List S75) (hl : l.length < 9223372036854775807) (d : Nat) : ∀ i : Nat, i + d = l.length → Ev (fun k => impl_IsLine.l0 k l l (l.length : Int) (i : Int)) (chkL (prevL l i) (l.drop i)) := by
 induction d with
 | zero =>
  intro i hi
  rw [List.drop_of_length_le (by omega)]
  refine Ev.step (f := fun _ => some _) (fun k => ?_) (Ev.now _)
  simp only [impl_IsLine.l0]
  rw [if_neg (by omega)]
  simp [chkL]
 | succ d ih =>
  intro i hi
  have h1 : i < l.length := by omega
  have hd := List.drop_eq_getElem_cons h1
  rw [hd, chkL_cons]
  cases hp : isPt l[i].f0 l[i].f1
  ·refine Ev.step (f := fun _ => some false) (fun k => ?_) (Ev.now _)
   simp only [impl_IsLine.l0, impl_IsPoint.f, Option.bind_some]
   rw [if_pos (by omega), if_pos (by omega), if_pos (by omega), rdPt l i h1, hp]
   simp
  ·have ih' := ih (i + 1) (by omega)
   rw [prevL_succ l i h1] at ih'
   by_cases h0 : i = 0
   ·subst h0
    refine Ev.step (fun k => ?_) ih'
    simp only [impl_IsLine.l0, impl_IsPoint.f, Option.bind_some]
    rw [if_pos (by omega), if_pos (by omega), if_pos (by omega), rdPt l 0 h1, hp, if_pos rfl, if_neg (by omega), w1' 0 (by omega)]
   ·have hi1 : i - 1 < l.length := by omega
    have eP : prevL l i = some l[i - 1] := by unfold prevL; rw [if_neg h0, List.getD_eq_getElem?_getD, List.getElem?_eq_getElem hi1]; rfl
    rw [eP]
    dsimp only
    have eq : (((l[i]).f0) == (l[i - 1].f0) && (((l[i]).f1) == (l[i - 1].f1))) = eqP l[i - 1] l[i] := by
     unfold eqP; rw [Bool.eq_iff_iff]; simp; omega
    cases he : eqP l[i - 1] l[i]
    ·refine Ev.step (fun k => ?_) ih'
     simp only [impl_IsLine.l0, impl_IsPoint.f, Option.bind_some]
     rw [if_pos (by omega), if_pos (by omega), if_pos (by omega), rdPt l i h1, hp, if_pos rfl, if_pos (by omega), w1m i (by omega) (by omega), if_pos (by omega), if_pos (by omega), rdPt l (i - 1) hi1, eq, he, w1' i (by omega)]
     simp
    ·refine Ev.step (f := fun _ => some false) (fun k => ?_) (Ev.now _)
     simp only [impl_IsLine.l0, impl_IsPoint.f, Option.bind_some]
     rw [if_pos (by omega), if_pos (by omega), if_pos (by omega), rdPt l i h1, hp, if_pos rfl, if_pos (by omega), w1m i (by omega) (by omega), if_pos (by omega), if_pos (by omega), rdPt l (i - 1) hi1, eq, he]
     simp
theorem isLine_i (l : List S75) (hl : l.length < 9223372036854775807) : Ev (fun k => impl_IsLine.f k l) (lnB l) := by
 unfold impl_IsLine.f lnB
 have dead : Ev (fun k => impl_IsLine.j0 k l true) false := Ev.step (f := fun _ => some false) (fun k => by simp [impl_IsLine.j0]) (Ev.now _)
 by_cases h2 : (l.length : Int) < 2
 ·simp only [if_pos h2]
  have : inR (l.length : Int) 2 10 = false := by unfold inR; simp; omega
  rw [this]; exact dead
 ·simp only [if_neg h2]
  by_cases h10 : (l.length : Int) > 10
  ·have : inR (l.length : Int) 2 10 = false := by unfold inR; simp; omega
   rw [this, decide_eq_true h10]; exact dead
  ·have : inR (l.length : Int) 2 10 = true := by unfold inR; simp; omega
   rw [this, decide_eq_false h10]
   exact Ev.step (fun k => by simp [impl_IsLine.j0]) (isLine_il l hl l.length 0 (by omega))
theorem rdSg (l : List S133) (i : Nat) (h : i < l.length) : rd_T133 l (i : Int) = l.getD i z133 := by
 unfold rd_T133
 rw [Int.toNat_natCast]
def howL (p q : S133) : Int := howS p.f0.f0 p.f0.f1 p.f1.f0 p.f1.f1 q.f0.f0 q.f0.f1 q.f1.f0 q.f1.f1
def segL (p : S133) : Bool := isSeg p.f0.f0 p.f0.f1 p.f1.f0 p.f1.f1
def wantR (n i k : Nat) : Int := if k + 1 = i ∨ (k = 0 ∧ i + 1 = n) then 1 else 0
def inRow (s : List S133) (i : Nat) (k : Nat) : Bool := decide (howL (s.getD i z133) (s.getD k z133) = wantR s.length i k)
def ringS (s : List S133) (i d : Nat) : Bool := (List.range' i d).all fun i => segL (s.getD i z133) && (List.range' 0 i).all (inRow s i)
/-- The segments around. -/
def arR (l : List S75) : List S133 := (List.range l.length).map fun i => (⟨l.getD i z75, l.getD ((i + 1) % l.length) z75⟩ : S133)
def rgB (l : List S75) : Bool := inR (l.length : Int) 3 10 && ringS (arR l) 0 l.length
theorem arR_len (l : List S75) : (arR l).length = l.length := by simp [arR]
theorem arR_take (l : List S75) (i : Nat) (h : i < l.length) : (arR l).take (i + 1) = (arR l).take i ++ [(⟨l.getD i z75, l.getD ((i + 1) % l.length) z75⟩ : S133)] := by
 rw [List.take_succ_eq_append_getElem (by rw [arR_len]; exact h)]
 simp [arR]
theorem tmod_nat (a n : Nat) : Int.tmod (a : Int) (n : Int) = ((a % n : Nat) : Int) := by rw [Int.ofNat_tmod]
theorem rdPd (l : List S75) (i : Nat) : rd_T75 l (i : Int) = l.getD i z75 := by
 unfold rd_T75
 rw [Int.toNat_natCast]
theorem around_sl (l : List S75) (hl : l.length < 1000) (d : Nat) : ∀ i : Nat, i + d = l.length → Ev (fun k => spec_l7Segments.l0 k l ((arR l).take i) (i : Int)) (arR l) := by
 induction d with
 | zero =>
  intro i hi
  rw [List.take_of_length_le (by rw [arR_len]; omega)]
  refine Ev.step (f := fun _ => some _) (fun k => ?_) (Ev.now _)
  simp only [spec_l7Segments.l0]
  rw [if_neg (by omega)]
 | succ d ih =>
  intro i hi
  have h1 : i < l.length := by omega
  have hm : (i + 1) % l.length < l.length := Nat.mod_lt _ (by omega)
  refine Ev.step (fun k => ?_) (ih (i + 1) (by omega))
  have hlen : ((arR l).take i).length < 4398046511104 := by rw [List.length_take, arR_len]; omega
  simp only [spec_l7Segments.l0]
  rw [if_pos (by omega), if_pos (by omega), if_neg (by omega), w1' i (by omega), tmod_nat, if_pos (by omega), if_pos (by omega), if_pos hlen, rdPd, rdPd, arR_take l i h1]
theorem around_s (l : List S75) (hl : l.length < 1000) : Ev (fun k => spec_l7Segments.f k l) (arR l) := by
 unfold spec_l7Segments.f
 exact around_sl l hl l.length 0 (by omega)
theorem around_il (l : List S75) (hl : l.length < 1000) (d : Nat) : ∀ i : Nat, i + d = l.length → Ev (fun k => impl_around.l0 k l ((arR l).take i) l (l.length : Int) (i : Int)) (arR l) := by
 induction d with
 | zero =>
  intro i hi
  rw [List.take_of_length_le (by rw [arR_len]; omega)]
  refine Ev.step (f := fun _ => some _) (fun k => ?_) (Ev.now _)
  simp only [impl_around.l0]
  rw [if_neg (by omega)]
 | succ d ih =>
  intro i hi
  have h1 : i < l.length := by omega
  have hm : (i + 1) % l.length < l.length := Nat.mod_lt _ (by omega)
  refine Ev.step (fun k => ?_) (ih (i + 1) (by omega))
  have hlen : ((arR l).take i).length < 4398046511104 := by rw [List.length_take, arR_len]; omega
  simp only [impl_around.l0]
  rw [if_pos (by omega), if_pos (by omega), if_pos (by omega), if_neg (by omega), w1' i (by omega), tmod_nat, if_pos (by omega), if_pos (by omega), if_pos hlen, rdPd, rdPd, arR_take l i h1]
theorem around_i (l : List S75) (hl : l.length < 1000) : Ev (fun k => impl_around.f k l) (arR l) := by
 unfold impl_around.f
 exact around_il l hl l.length 0 (by omega)
theorem ring_s1 (s : List S133) (hs : s.length < 1000) (i : Nat) (hi : i < s.length) (rest : Bool) (hr : Ev (fun k => spec_IsRing.l0 k s ((i + 1 : Nat) : Int)) rest) (d : Nat) :
  ∀ k : Nat, k + d = i → Ev (fun n => spec_IsRing.l1 n s (i : Int) (k : Int)) ((List.range' k d).all (inRow s i) && rest) := by
 induction d with
 | zero =>
  intro k hk
  refine Ev.step (fun n => ?_) hr
  simp only [spec_IsRing.l1]
  rw [if_neg (by omega), w1' i (by omega)]
 | succ d ih =>
  intro k hk
  have hk1 : k < s.length := by omega
  rw [List.range'_succ, List.all_cons]
  have e2 : Ev (fun n => (spec_HowMeet.f (s.getD i z133).f0.f0 (s.getD i z133).f0.f1 (s.getD i z133).f1.f0 (s.getD i z133).f1.f1 (s.getD k z133).f0.f0 (s.getD k z133).f0.f1 (s.getD k z133).f1.f0 (s.getD k z133).f1.f1).bind fun t => if t = wantR s.length i k then spec_IsRing.l1 n s (i : Int) ((k + 1 : Nat) : Int) else some false) (inRow s i k && (List.range' (k + 1) d).all (inRow s i) && rest) := by
   refine Ev.bind (how_s _ _ _ _ _ _ _ _) ?_
   by_cases hw : howL (s.getD i z133) (s.getD k z133) = wantR s.length i k
   ·have e : inRow s i k = true := by unfold inRow; exact decide_eq_true hw
    rw [e, Bool.true_and]
    have : Ev (fun n => spec_IsRing.l1 n s (i : Int) ((k + 1 : Nat) : Int)) ((List.range' (k + 1) d).all (inRow s i) && rest) := ih (k + 1) (by omega)
    refine Ev.congr (fun n => ?_) this
    exact if_pos hw
   ·have e : inRow s i k = false := by unfold inRow; exact decide_eq_false hw
    rw [e]
    refine Ev.congr (fun n => ?_) (Ev.now _)
    exact if_neg hw
  have j : ∀ b : Bool, (if b = true then (1 : Int) else 0) = wantR s.length i k → Ev (fun n => spec_IsRing.j2 n s (i : Int) (k : Int) 0 b) (inRow s i k && (List.range' (k + 1) d).all (inRow s i) && rest) := by
   intro b hb
   refine Ev.step (fun n => ?_) e2
   simp only [spec_IsRing.j2]
   rw [← hb]
   cases b
   ·rw [if_neg (by simp), if_pos (by omega), if_pos (by omega), if_pos (by omega), if_pos (by omega), rdSg s i hi, rdSg s k hk1, w1' k (by omega)]; rfl
   ·rw [if_pos rfl, if_pos (by omega), if_pos (by omega), if_pos (by omega), if_pos (by omega), rdSg s i hi, rdSg s k hk1, w1' k (by omega)]; rfl
  by_cases z : k + 1 = i
  ·refine Ev.step (fun n => ?_) (j true (by show (1 : Int) = _; unfold wantR; rw [if_pos (.inl z)]))
   simp only [spec_IsRing.l1]
   rw [if_pos (by omega), w1' k (by omega), if_pos (by omega)]
  ·by_cases z0 : k = 0
   ·refine Ev.step (fun n => ?_) (j (decide (i + 1 = s.length)) (by unfold wantR; by_cases q : i + 1 = s.length <;> simp [q, z0] <;> omega))
    simp only [spec_IsRing.l1]
    rw [if_pos (by omega), w1' k (by omega), if_neg (by omega), if_pos (by omega), w1' i (by omega)]
    congr 1
    rw [Bool.eq_iff_iff]; simp; omega
   ·refine Ev.step (fun n => ?_) (j false (by show (0 : Int) = _; unfold wantR; rw [if_neg (by omega)]))
    simp only [spec_IsRing.l1]
    rw [if_pos (by omega), w1' k (by omega), if_neg (by omega), if_neg (by omega)]
theorem ring_s0 (s : List S133) (hs : s.length < 1000) (d : Nat) : ∀ i : Nat, i + d = s.length → Ev (fun n => spec_IsRing.l0 n s (i : Int)) (ringS s i d) := by
 induction d with
 | zero =>
  intro i hi
  refine Ev.step (f := fun _ => some true) (fun n => ?_) (Ev.now _)
  simp only [spec_IsRing.l0]
  rw [if_neg (by omega)]
 | succ d ih =>
  intro i hi
  have h1 : i < s.length := by omega
  unfold ringS
  rw [List.range'_succ, List.all_cons]
  cases hq : segL (s.getD i z133)
  ·refine Ev.step (f := fun _ => some false) (fun n => ?_) (Ev.now _)
   simp only [spec_IsRing.l0, spec_IsSegment.f, Option.bind_some]
   rw [if_pos (by omega), if_pos (by omega), rdSg s i h1]
   unfold segL at hq
   rw [hq]; simp
  ·refine Ev.step (fun n => ?_) (ring_s1 s hs i h1 _ (ih (i + 1) (by omega)) i 0 (by omega))
   simp only [spec_IsRing.l0, spec_IsSegment.f, Option.bind_some]
   rw [if_pos (by omega), if_pos (by omega), rdSg s i h1]
   unfold segL at hq
   rw [hq, if_pos rfl]; rfl
theorem isRing_s (l : List S75) (hl : l.length < 9223372036854775807) : Ev (fun k => spec_IsRing.f k l) (rgB l) := by
 unfold spec_IsRing.f rgB spec_l1In.f
 simp only [Option.bind_some]
 cases h : inR (l.length : Int) 3 10
 ·simp only [Bool.false_eq_true, if_false, Bool.false_and]; exact Ev.now _
 ·have hb : l.length < 1000 := by unfold inR at h; simp at h; omega
  simp only [if_true, Bool.true_and]
  refine Ev.bind (around_s l hb) ?_
  have := ring_s0 (arR l) (by rw [arR_len]; exact hb) l.length 0 (by rw [arR_len]; omega)
  exact this
theorem ring_i1 (s : List S133) (hs : s.length < 1000) (i : Nat) (hi : i < s.length) (rest : Bool) (hr : Ev (fun k => impl_IsRing.l0 k s (s.length : Int) ((i + 1 : Nat) : Int)) rest) (d : Nat) :
  ∀ k : Nat, k + d = i → Ev (fun n => impl_IsRing.l1 n s (i : Int) (s.length : Int) (i : Int) (i : Int) (k : Int)) ((List.range' k d).all (inRow s i) && rest) := by
 induction d with
 | zero =>
  intro k hk
  refine Ev.step (fun n => ?_) hr
  simp only [impl_IsRing.l1]
  rw [if_neg (by omega), w1' i (by omega)]
 | succ d ih =>
  intro k hk
  have hk1 : k < s.length := by omega
  rw [List.range'_succ, List.all_cons]
  have e2 : Ev (fun n => (impl_HowMeet.f n (s.getD i z133).f0.f0 (s.getD i z133).f0.f1 (s.getD i z133).f1.f0 (s.getD i z133).f1.f1 (s.getD k z133).f0.f0 (s.getD k z133).f0.f1 (s.getD k z133).f1.f0 (s.getD k z133).f1.f1).bind fun t => if t = wantR s.length i k then impl_IsRing.l1 n s (i : Int) (s.length : Int) (i : Int) (i : Int) ((k + 1 : Nat) : Int) else some false) (inRow s i k && (List.range' (k + 1) d).all (inRow s i) && rest) := by
   refine Ev.bind (how_i _ _ _ _ _ _ _ _) ?_
   by_cases hw : howL (s.getD i z133) (s.getD k z133) = wantR s.length i k
   ·have e : inRow s i k = true := by unfold inRow; exact decide_eq_true hw
    rw [e, Bool.true_and]
    refine Ev.congr (fun n => ?_) (ih (k + 1) (by omega))
    exact if_pos hw
   ·have e : inRow s i k = false := by unfold inRow; exact decide_eq_false hw
    rw [e]
    refine Ev.congr (fun n => ?_) (Ev.now _)
    exact if_neg hw
  have j : ∀ b : Bool, (if b = true then (1 : Int) else 0) = wantR s.length i k → Ev (fun n => impl_IsRing.j3 n s (i : Int) (k : Int) 0 (s.length : Int) (i : Int) (i : Int) (k : Int) b) (inRow s i k && (List.range' (k + 1) d).all (inRow s i) && rest) := by
   intro b hb
   refine Ev.step (fun n => ?_) e2
   simp only [impl_IsRing.j3]
   rw [← hb]
   cases b
   ·rw [if_neg (by simp), if_pos (by omega), if_pos (by omega), if_pos (by omega), if_pos (by omega), rdSg s i hi, rdSg s k hk1, w1' k (by omega)]; rfl
   ·rw [if_pos rfl, if_pos (by omega), if_pos (by omega), if_pos (by omega), if_pos (by omega), rdSg s i hi, rdSg s k hk1, w1' k (by omega)]; rfl
  have wi : wrap64 ((i : Int) - 1) = (i : Int) - 1 := by unfold wrap64; omega
  have wn : wrap64 ((s.length : Int) - 1) = (s.length : Int) - 1 := by unfold wrap64; omega
  by_cases z : k + 1 = i
  ·refine Ev.step (fun n => ?_) (j true (by show (1 : Int) = _; unfold wantR; rw [if_pos (.inl z)]))
   simp only [impl_IsRing.l1]
   rw [if_pos (by omega), wi, if_pos (by omega)]
  ·by_cases z0 : k = 0
   ·refine Ev.step (fun n => ?_) (j (decide (i + 1 = s.length)) (by unfold wantR; by_cases q : i + 1 = s.length <;> simp [q, z0] <;> omega))
    simp only [impl_IsRing.l1]
    rw [if_pos (by omega), wi, if_neg (by omega), if_pos (by omega), wn]
    congr 1
    rw [Bool.eq_iff_iff]; simp; omega
   ·refine Ev.step (fun n => ?_) (j false (by show (0 : Int) = _; unfold wantR; rw [if_neg (by omega)]))
    simp only [impl_IsRing.l1]
    rw [if_pos (by omega), wi, if_neg (by omega), if_neg (by omega)]
theorem ring_i0 (s : List S133) (hs : s.length < 1000) (d : Nat) : ∀ i : Nat, i + d = s.length → Ev (fun n => impl_IsRing.l0 n s (s.length : Int) (i : Int)) (ringS s i d) := by
 induction d with
 | zero =>
  intro i hi
  refine Ev.step (f := fun _ => some true) (fun n => ?_) (Ev.now _)
  simp only [impl_IsRing.l0]
  rw [if_neg (by omega)]
 | succ d ih =>
  intro i hi
  have h1 : i < s.length := by omega
  unfold ringS
  rw [List.range'_succ, List.all_cons]
  cases hq : segL (s.getD i z133)
  ·refine Ev.step (f := fun _ => some false) (fun n => ?_) (Ev.now _)
   simp only [impl_IsRing.l0, impl_IsSegment.f, Option.bind_some]
   rw [if_pos (by omega), if_pos (by omega), if_pos (by omega), rdSg s i h1]
   unfold segL at hq
   rw [hq]; simp
  ·refine Ev.step (fun n => ?_) (ring_i1 s hs i h1 _ (ih (i + 1) (by omega)) i 0 (by omega))
   simp only [impl_IsRing.l0, impl_IsSegment.f, Option.bind_some]
   rw [if_pos (by omega), if_pos (by omega), if_pos (by omega), rdSg s i h1]
   unfold segL at hq
   rw [hq, if_pos rfl]; rfl
theorem isRing_i (l : List S75) (hl : l.length < 9223372036854775807) : Ev (fun k => impl_IsRing.f k l) (rgB l) := by
 unfold impl_IsRing.f rgB
 have dead : Ev (fun k => impl_IsRing.j0 k l true) false := Ev.step (f := fun _ => some false) (fun k => by simp [impl_IsRing.j0]) (Ev.now _)
 by_cases h2 : (l.length : Int) < 3
 ·simp only [if_pos h2]
  have : inR (l.length : Int) 3 10 = false := by unfold inR; simp; omega
  rw [this]; exact dead
 ·simp only [if_neg h2]
  by_cases h10 : (l.length : Int) > 10
  ·have : inR (l.length : Int) 3 10 = false := by unfold inR; simp; omega
   rw [this, decide_eq_true h10]; exact dead
  ·have : inR (l.length : Int) 3 10 = true := by unfold inR; simp; omega
   rw [this, decide_eq_false h10]
   have hb : l.length < 1000 := by omega
   refine Ev.step (f := fun k => (impl_around.f k l).bind fun t => impl_IsRing.l0 k t (t.length : Int) 0) (fun k => by simp [impl_IsRing.j0]) (Ev.bind (around_i l hb) ?_)
   exact ring_i0 (arR l) (by rw [arR_len]; exact hb) l.length 0 (by rw [arR_len]; omega)
def nmB (s : ByteArray) : Bool := (List.range' 0 s.size).all (fun (i : Nat) => decide (97 ≤ bt s (i : Int)) && decide (bt s (i : Int) ≤ 122)) && inR (s.size : Int) 1 8
theorem nm_loop_s (s : ByteArray) (hs : s.size ≤ 9223372036854775807) (d : Nat) : ∀ i : Nat, i + d = s.size → Ev (fun k => spec_IsName.l0 k s (i : Int)) ((List.range' i d).all (fun (i : Nat) => decide (97 ≤ bt s (i : Int)) && decide (bt s (i : Int) ≤ 122)) && inR (s.size : Int) 1 8) := by
 induction d with
 | zero =>
  intro i hi
  refine Ev.step (f := fun _ => some (inR (s.size : Int) 1 8)) (fun k => ?_) (Ev.now _)
  simp only [spec_IsName.l0, spec_l1In.f]
  rw [if_neg (by omega)]; rfl
 | succ d ih =>
  intro i hi
  rw [List.range'_succ, List.all_cons]
  by_cases h1 : bt s (i : Int) < 97
  ·rw [decide_eq_false (show ¬ 97 ≤ bt s (i : Int) by omega)]
   refine Ev.step (f := fun _ => some false) (fun k => ?_) (Ev.now _)
   simp only [spec_IsName.l0]
   rw [if_pos (by omega), if_pos (by omega), if_pos h1]
  ·by_cases h2 : bt s (i : Int) > 122
   ·rw [decide_eq_true (show 97 ≤ bt s (i : Int) by omega), decide_eq_false (show ¬ bt s (i : Int) ≤ 122 by omega)]
    refine Ev.step (f := fun _ => some false) (fun k => ?_) (Ev.now _)
    simp only [spec_IsName.l0]
    rw [if_pos (by omega), if_pos (by omega), if_neg h1, if_pos h2]
   ·rw [decide_eq_true (show 97 ≤ bt s (i : Int) by omega), decide_eq_true (show bt s (i : Int) ≤ 122 by omega)]
    refine Ev.step (fun k => ?_) (ih (i + 1) (by omega))
    simp only [spec_IsName.l0]
    rw [if_pos (by omega), if_pos (by omega), if_neg h1, if_neg h2, w1' i (by omega)]
theorem nm_s (s : ByteArray) (hs : s.size ≤ 9223372036854775807) : Ev (fun k => spec_IsName.f k s) (nmB s) := nm_loop_s s hs s.size 0 (by omega)
theorem nm_loop_i (s : ByteArray) (hs : s.size ≤ 9223372036854775807) (d : Nat) : ∀ i : Nat, i + d = s.size → Ev (fun k => impl_IsName.l0 k s (s.size : Int) (i : Int)) ((List.range' i d).all (fun (i : Nat) => decide (97 ≤ bt s (i : Int)) && decide (bt s (i : Int) ≤ 122)) && inR (s.size : Int) 1 8) := by
 induction d with
 | zero =>
  intro i hi
  refine Ev.step (f := fun _ => some (inR (s.size : Int) 1 8)) (fun k => ?_) (Ev.now _)
  simp only [impl_IsName.l0, impl_InRange.f]
  rw [if_neg (by omega)]; rfl
 | succ d ih =>
  intro i hi
  rw [List.range'_succ, List.all_cons]
  by_cases h1 : bt s (i : Int) < 97
  ·rw [decide_eq_false (show ¬ 97 ≤ bt s (i : Int) by omega)]
   refine Ev.step (f := fun _ => some false) (fun k => ?_) (Ev.now _)
   simp only [impl_IsName.l0]
   rw [if_pos (by omega), if_pos (by omega), if_pos (by omega), if_pos h1]
  ·by_cases h2 : bt s (i : Int) > 122
   ·rw [decide_eq_true (show 97 ≤ bt s (i : Int) by omega), decide_eq_false (show ¬ bt s (i : Int) ≤ 122 by omega)]
    refine Ev.step (f := fun _ => some false) (fun k => ?_) (Ev.now _)
    simp only [impl_IsName.l0]
    rw [if_pos (by omega), if_pos (by omega), if_pos (by omega), if_neg h1, if_pos h2]
   ·rw [decide_eq_true (show 97 ≤ bt s (i : Int) by omega), decide_eq_true (show bt s (i : Int) ≤ 122 by omega)]
    refine Ev.step (fun k => ?_) (ih (i + 1) (by omega))
    simp only [impl_IsName.l0]
    rw [if_pos (by omega), if_pos (by omega), if_pos (by omega), if_neg h1, if_neg h2, w1' i (by omega)]
theorem nm_i (s : ByteArray) (hs : s.size ≤ 9223372036854775807) : Ev (fun k => impl_IsName.f k s) (nmB s) := nm_loop_i s hs s.size 0 (by omega)
theorem lnB_len {l : List S75} (h : lnB l = true) : 2 ≤ l.length ∧ l.length ≤ 10 := by
 unfold lnB inR at h; simp at h; omega
/-- The segments of a line, one behind the other. -/
def sgR (l : List S75) : List S133 := (List.range (l.length - 1)).map fun i => (⟨l.getD i z75, l.getD (i + 1) z75⟩ : S133)
def sgL (l : List S75) : List S133 := if lnB l then sgR l else []
theorem sgR_len (l : List S75) : (sgR l).length = l.length - 1 := by simp [sgR]
theorem sgR_take (l : List S75) (i : Nat) (h : i + 1 < l.length) : (sgR l).take (i + 1) = (sgR l).take i ++ [(⟨l.getD i z75, l.getD (i + 1) z75⟩ : S133)] := by
 rw [List.take_succ_eq_append_getElem (by rw [sgR_len]; omega)]
 simp [sgR]
theorem seg_sl (l : List S75) (hl : lnB l = true) (d : Nat) : ∀ i : Nat, i + 1 + d = l.length → Ev (fun k => spec_SegmentsOf.l0 k l ((sgR l).take i) ((i + 1 : Nat) : Int)) (sgR l) := by
 have hb := lnB_len hl
 induction d with
 | zero =>
  intro i hi
  rw [List.take_of_length_le (by rw [sgR_len]; omega)]
  refine Ev.step (f := fun _ => some _) (fun k => ?_) (Ev.now _)
  simp only [spec_SegmentsOf.l0]
  rw [if_neg (by omega)]
 | succ d ih =>
  intro i hi
  have hlen : ((sgR l).take i).length < 4398046511104 := by rw [List.length_take, sgR_len]; omega
  have w : wrap64 (((i + 1 : Nat) : Int) - 1) = (i : Int) := by unfold wrap64; omega
  refine Ev.step (f := fun k => (spec_IsLine.f k l).bind fun t => if t = true then spec_SegmentsOf.l0 k l ((sgR l).take (i + 1)) ((i + 1 + 1 : Nat) : Int) else some ((sgR l).take i)) (fun k => ?_) (Ev.bind (isLine_s l (by omega)) ?_)
  ·simp only [spec_SegmentsOf.l0]
   rw [if_pos (by omega), w, if_pos (by omega), if_pos (by omega), if_pos (by omega), if_pos hlen, rdPd, rdPd, sgR_take l i (by omega), w1' (i + 1) (by omega)]
  ·rw [hl]
   simp only [if_true]
   exact ih (i + 1) (by omega)
theorem seg_s (l : List S75) (hl : l.length < 9223372036854775807) : Ev (fun k => spec_SegmentsOf.f k l) (sgL l) := by
 unfold spec_SegmentsOf.f sgL
 cases h : lnB l
 ·by_cases h1 : (1 : Int) < (l.length : Int)
  ·refine Ev.step (f := fun k => (spec_IsLine.f k l).bind fun t => if t = true then spec_SegmentsOf.l0 (k + 1) l [] 1 else some []) (fun k => ?_) (Ev.bind (isLine_s l hl) ?_)
   ·simp only [spec_SegmentsOf.l0]
    rw [if_pos h1]
    cases hh : spec_IsLine.f k l with
    | none => rfl
    | some b => cases b <;> simp [h1]
   ·rw [h]; simp only [Bool.false_eq_true, if_false]; exact Ev.now _
  ·refine Ev.step (f := fun _ => some []) (fun k => ?_) (Ev.now _)
   simp only [spec_SegmentsOf.l0]
   rw [if_neg h1]
 ·have hb := lnB_len h
  exact seg_sl l h (l.length - 1) 0 (by omega)
theorem seg_il (l : List S75) (hl : lnB l = true) (d : Nat) : ∀ i : Nat, i + 1 + d = l.length → Ev (fun k => impl_SegmentsOf.l0 k l ((sgR l).take i) ((i + 1 : Nat) : Int)) (sgR l) := by
 have hb := lnB_len hl
 induction d with
 | zero =>
  intro i hi
  rw [List.take_of_length_le (by rw [sgR_len]; omega)]
  refine Ev.step (f := fun _ => some _) (fun k => ?_) (Ev.now _)
  simp only [impl_SegmentsOf.l0]
  rw [if_neg (by omega)]
 | succ d ih =>
  intro i hi
  have hlen : ((sgR l).take i).length < 4398046511104 := by rw [List.length_take, sgR_len]; omega
  have w : wrap64 (((i + 1 : Nat) : Int) - 1) = (i : Int) := by unfold wrap64; omega
  refine Ev.step (fun k => ?_) (ih (i + 1) (by omega))
  simp only [impl_SegmentsOf.l0]
  rw [if_pos (by omega), w, if_pos (by omega), if_pos (by omega), if_pos (by omega), if_pos hlen, rdPd, rdPd, sgR_take l i (by omega), w1' (i + 1) (by omega)]
theorem seg_i (l : List S75) (hl : l.length < 9223372036854775807) : Ev (fun k => impl_SegmentsOf.f k l) (sgL l) := by
 unfold impl_SegmentsOf.f sgL
 simp only [Option.bind_some]
 refine Ev.bind (isLine_i l hl) ?_
 cases h : lnB l
 ·simp only [Bool.false_eq_true, if_false]; exact Ev.now _
 ·have hb := lnB_len h
  simp only [if_true]
  exact seg_il l h (l.length - 1) 0 (by omega)
def wantS (i k : Nat) : Int := if k + 1 = i then 1 else 0
def inRow2 (s : List S133) (i : Nat) (k : Nat) : Bool := decide (howL (s.getD i z133) (s.getD k z133) = wantS i k)
def simS (s : List S133) (i d : Nat) : Bool := (List.range' i d).all fun i => (List.range' 0 i).all (inRow2 s i)
def smB (l : List S75) : Bool := lnB l && simS (sgL l) 0 (sgL l).length
theorem sim_s1 (l : List S75) (s : List S133) (hs : s.length < 1000) (i : Nat) (hi : i < s.length) (rest : Bool) (hr : Ev (fun k => spec_IsSimple.l0 k l s ((i + 1 : Nat) : Int)) rest) (d : Nat) :
  ∀ k : Nat, k + d = i → Ev (fun n => spec_IsSimple.l1 n l s (i : Int) (k : Int)) ((List.range' k d).all (inRow2 s i) && rest) := by
 induction d with
 | zero =>
  intro k hk
  refine Ev.step (fun n => ?_) hr
  simp only [spec_IsSimple.l1]
  rw [if_neg (by omega), w1' i (by omega)]
 | succ d ih =>
  intro k hk
  have hk1 : k < s.length := by omega
  rw [List.range'_succ, List.all_cons]
  have e2 : Ev (fun n => (spec_HowMeet.f (s.getD i z133).f0.f0 (s.getD i z133).f0.f1 (s.getD i z133).f1.f0 (s.getD i z133).f1.f1 (s.getD k z133).f0.f0 (s.getD k z133).f0.f1 (s.getD k z133).f1.f0 (s.getD k z133).f1.f1).bind fun t => if t = wantS i k then spec_IsSimple.l1 n l s (i : Int) ((k + 1 : Nat) : Int) else some false) (inRow2 s i k && (List.range' (k + 1) d).all (inRow2 s i) && rest) := by
   refine Ev.bind (how_s _ _ _ _ _ _ _ _) ?_
   by_cases hw : howL (s.getD i z133) (s.getD k z133) = wantS i k
   ·have e : inRow2 s i k = true := by unfold inRow2; exact decide_eq_true hw
    rw [e, Bool.true_and]
    refine Ev.congr (fun n => ?_) (ih (k + 1) (by omega))
    exact if_pos hw
   ·have e : inRow2 s i k = false := by unfold inRow2; exact decide_eq_false hw
    rw [e]
    refine Ev.congr (fun n => ?_) (Ev.now _)
    exact if_neg hw
  refine Ev.step (fun n => ?_) e2
  simp only [spec_IsSimple.l1]
  by_cases z : k + 1 = i
  ·have hw : wantS i k = 1 := by unfold wantS; rw [if_pos z]
   rw [hw, if_pos (by omega), w1' k (by omega), if_pos (by omega), if_pos (by omega), if_pos (by omega), if_pos (by omega), if_pos (by omega), rdSg s i hi, rdSg s k hk1]
  ·have hw : wantS i k = 0 := by unfold wantS; rw [if_neg z]
   rw [hw, if_pos (by omega), w1' k (by omega), if_neg (by omega), if_pos (by omega), if_pos (by omega), if_pos (by omega), if_pos (by omega), rdSg s i hi, rdSg s k hk1]
theorem sim_s0 (l : List S75) (hl : l.length < 9223372036854775807) (s : List S133) (hs : s.length < 1000) (d : Nat) : ∀ i : Nat, i + d = s.length → Ev (fun n => spec_IsSimple.l0 n l s (i : Int)) (simS s i d && lnB l) := by
 induction d with
 | zero =>
  intro i hi
  refine Ev.step (f := fun k => (spec_IsLine.f k l).bind fun t => some t) (fun n => ?_) (Ev.bind (isLine_s l hl) (Ev.now _))
  simp only [spec_IsSimple.l0]
  rw [if_neg (by omega)]
 | succ d ih =>
  intro i hi
  have h1 : i < s.length := by omega
  unfold simS
  rw [List.range'_succ, List.all_cons, Bool.and_assoc]
  refine Ev.step (fun n => ?_) (sim_s1 l s hs i h1 _ (ih (i + 1) (by omega)) i 0 (by omega))
  simp only [spec_IsSimple.l0]
  rw [if_pos (by omega)]; rfl
theorem sgL_len (l : List S75) : (sgL l).length < 1000 := by
 unfold sgL
 cases h : lnB l
 ·simp
 ·have := lnB_len h; simp [sgR_len]; omega
theorem isSimple_s (l : List S75) (hl : l.length < 9223372036854775807) : Ev (fun k => spec_IsSimple.f k l) (smB l) := by
 unfold spec_IsSimple.f smB
 refine Ev.bind (seg_s l hl) ?_
 rw [Bool.and_comm]
 exact sim_s0 l hl (sgL l) (sgL_len l) (sgL l).length 0 (by omega)
theorem sim_i1 (s : List S133) (hs : s.length < 1000) (i : Nat) (hi : i < s.length) (rest : Bool) (hr : Ev (fun k => impl_IsSimple.l0 k s (s.length : Int) ((i + 1 : Nat) : Int)) rest) (d : Nat) :
  ∀ k : Nat, k + d = i → Ev (fun n => impl_IsSimple.l1 n s (i : Int) (s.length : Int) (i : Int) (i : Int) (k : Int)) ((List.range' k d).all (inRow2 s i) && rest) := by
 induction d with
 | zero =>
  intro k hk
  refine Ev.step (fun n => ?_) hr
  simp only [impl_IsSimple.l1]
  rw [if_neg (by omega), w1' i (by omega)]
 | succ d ih =>
  intro k hk
  have hk1 : k < s.length := by omega
  rw [List.range'_succ, List.all_cons]
  have e2 : Ev (fun n => (impl_HowMeet.f n (s.getD i z133).f0.f0 (s.getD i z133).f0.f1 (s.getD i z133).f1.f0 (s.getD i z133).f1.f1 (s.getD k z133).f0.f0 (s.getD k z133).f0.f1 (s.getD k z133).f1.f0 (s.getD k z133).f1.f1).bind fun t => if t = wantS i k then impl_IsSimple.l1 n s (i : Int) (s.length : Int) (i : Int) (i : Int) ((k + 1 : Nat) : Int) else some false) (inRow2 s i k && (List.range' (k + 1) d).all (inRow2 s i) && rest) := by
   refine Ev.bind (how_i _ _ _ _ _ _ _ _) ?_
   by_cases hw : howL (s.getD i z133) (s.getD k z133) = wantS i k
   ·have e : inRow2 s i k = true := by unfold inRow2; exact decide_eq_true hw
    rw [e, Bool.true_and]
    refine Ev.congr (fun n => ?_) (ih (k + 1) (by omega))
    exact if_pos hw
   ·have e : inRow2 s i k = false := by unfold inRow2; exact decide_eq_false hw
    rw [e]
    refine Ev.congr (fun n => ?_) (Ev.now _)
    exact if_neg hw
  have wi : wrap64 ((i : Int) - 1) = (i : Int) - 1 := by unfold wrap64; omega
  refine Ev.step (fun n => ?_) e2
  simp only [impl_IsSimple.l1]
  by_cases z : k + 1 = i
  ·have hw : wantS i k = 1 := by unfold wantS; rw [if_pos z]
   rw [hw, if_pos (by omega), wi, if_pos (by omega), if_pos (by omega), if_pos (by omega), if_pos (by omega), if_pos (by omega), rdSg s i hi, rdSg s k hk1, w1' k (by omega)]
  ·have hw : wantS i k = 0 := by unfold wantS; rw [if_neg z]
   rw [hw, if_pos (by omega), wi, if_neg (by omega), if_pos (by omega), if_pos (by omega), if_pos (by omega), if_pos (by omega), rdSg s i hi, rdSg s k hk1, w1' k (by omega)]
theorem sim_i0 (s : List S133) (hs : s.length < 1000) (d : Nat) : ∀ i : Nat, i + d = s.length → Ev (fun n => impl_IsSimple.l0 n s (s.length : Int) (i : Int)) (simS s i d) := by
 induction d with
 | zero =>
  intro i hi
  refine Ev.step (f := fun _ => some true) (fun n => ?_) (Ev.now _)
  simp only [impl_IsSimple.l0]
  rw [if_neg (by omega)]
 | succ d ih =>
  intro i hi
  have h1 : i < s.length := by omega
  unfold simS
  rw [List.range'_succ, List.all_cons]
  refine Ev.step (fun n => ?_) (sim_i1 s hs i h1 _ (ih (i + 1) (by omega)) i 0 (by omega))
  simp only [impl_IsSimple.l0]
  rw [if_pos (by omega)]; rfl
theorem isSimple_i (l : List S75) (hl : l.length < 9223372036854775807) : Ev (fun k => impl_IsSimple.f k l) (smB l) := by
 unfold impl_IsSimple.f smB
 refine Ev.bind (isLine_i l hl) ?_
 cases h : lnB l
 ·simp only [Bool.false_eq_true, if_false, Bool.false_and]; exact Ev.now _
 ·simp only [if_true, Bool.true_and]
  refine Ev.bind (seg_i l hl) ?_
  exact sim_i0 (sgL l) (sgL_len l) (sgL l).length 0 (by omega)
def kdB (kd : Int) (l : List S75) : Bool := if kd = 1 then decide (l.length = 1) && isPt (l.getD 0 z75).f0 (l.getD 0 z75).f1 else if kd = 2 then smB l else if kd = 3 then rgB l else false
def ftB (a b c : Int) (s : ByteArray) (l : List S75) : Bool := inR a 1 99 && (inR c 0 9 && ((decide (s.toList = ([] : List UInt8)) || nmB s) && kdB b l))
theorem rdP0 (l : List S75) : rd_T75 l 0 = l.getD 0 z75 := rfl
theorem ft_js (a b c : Int) (s : ByteArray) (l : List S75) (hl : l.length < 9223372036854775807) (q : Bool) : Ev (fun k => spec_IsFeature.j0 k q a b c s l) (!q && kdB b l) := by
 cases q
 ·unfold kdB
  by_cases h1 : b = 1
  ·refine Ev.step (f := fun _ => some (decide (l.length = 1) && isPt (l.getD 0 z75).f0 (l.getD 0 z75).f1)) (fun k => ?_) (by simp only [if_pos h1]; exact Ev.now _)
   simp only [spec_IsFeature.j0, Bool.false_eq_true, if_false, if_pos h1, spec_IsPoint.f, Option.bind_some, rdP0]
   by_cases h : (l.length : Int) = 1
   ·rw [if_pos h, if_pos (by omega), decide_eq_true (show l.length = 1 by omega)]; rfl
   ·rw [if_neg h, decide_eq_false (show ¬ l.length = 1 by omega)]; rfl
  ·by_cases h2 : b = 2
   ·simp only [if_neg h1, if_pos h2]
    refine Ev.step (f := fun k => (spec_IsSimple.f k l).bind fun t => some t) (fun k => ?_) (Ev.bind (isSimple_s l hl) (Ev.now _))
    simp only [spec_IsFeature.j0, Bool.false_eq_true, if_false, if_neg h1, if_pos h2]
   ·by_cases h3 : b = 3
    ·simp only [if_neg h1, if_neg h2, if_pos h3]
     refine Ev.step (f := fun k => (spec_IsRing.f k l).bind fun t => some t) (fun k => ?_) (Ev.bind (isRing_s l hl) (Ev.now _))
     simp only [spec_IsFeature.j0, Bool.false_eq_true, if_false, if_neg h1, if_neg h2, if_pos h3]
    ·simp only [if_neg h1, if_neg h2, if_neg h3]
     refine Ev.step (f := fun _ => some false) (fun k => ?_) (Ev.now _)
     simp only [spec_IsFeature.j0, Bool.false_eq_true, if_false, if_neg h1, if_neg h2, if_neg h3]
 ·refine Ev.step (f := fun _ => some false) (fun k => ?_) (Ev.now _)
  simp [spec_IsFeature.j0]
theorem ft_s (a b c : Int) (s : ByteArray) (hs : s.size ≤ 9223372036854775807) (l : List S75) (hl : l.length < 9223372036854775807) : Ev (fun k => spec_IsFeature.f k a b c s l) (ftB a b c s l) := by
 unfold spec_IsFeature.f ftB spec_l1In.f
 simp only [Option.bind_some]
 cases inR a 1 99
 ·simp only [Bool.false_eq_true, if_false]; exact ft_js a b c s l hl true
 ·cases inR c 0 9
  ·simp only [if_true, Bool.false_eq_true, if_false]; exact ft_js a b c s l hl true
  ·simp only [if_true, Bool.true_and]
   by_cases he : s.toList = ([] : List UInt8)
   ·simp only [if_pos he, decide_eq_true he, Bool.true_or]; exact ft_js a b c s l hl false
   ·simp only [if_neg he, decide_eq_false he, Bool.false_or]
    refine Ev.bind (nm_s s hs) ?_
    have := ft_js a b c s l hl (!nmB s)
    rw [Bool.not_not] at this
    exact this
theorem ft_ji (a b c : Int) (s : ByteArray) (l : List S75) (hl : l.length < 9223372036854775807) (q : Bool) : Ev (fun k => impl_IsFeature.j0 k q a b c s l) (!q && kdB b l) := by
 cases q
 ·unfold kdB
  by_cases h1 : b = 1
  ·refine Ev.step (f := fun _ => some (decide (l.length = 1) && isPt (l.getD 0 z75).f0 (l.getD 0 z75).f1)) (fun k => ?_) (by simp only [if_pos h1]; exact Ev.now _)
   simp only [impl_IsFeature.j0, Bool.false_eq_true, if_false, if_pos h1, impl_IsPoint.f, Option.bind_some, rdP0]
   by_cases h : (l.length : Int) = 1
   ·rw [if_pos h, if_pos (by omega), decide_eq_true (show l.length = 1 by omega)]; rfl
   ·rw [if_neg h, decide_eq_false (show ¬ l.length = 1 by omega)]; rfl
  ·by_cases h2 : b = 2
   ·simp only [if_neg h1, if_pos h2]
    refine Ev.step (f := fun k => (impl_IsSimple.f k l).bind fun t => some t) (fun k => ?_) (Ev.bind (isSimple_i l hl) (Ev.now _))
    simp only [impl_IsFeature.j0, Bool.false_eq_true, if_false, if_neg h1, if_pos h2]
   ·by_cases h3 : b = 3
    ·simp only [if_neg h1, if_neg h2, if_pos h3]
     refine Ev.step (f := fun k => (impl_IsRing.f k l).bind fun t => some t) (fun k => ?_) (Ev.bind (isRing_i l hl) (Ev.now _))
     simp only [impl_IsFeature.j0, Bool.false_eq_true, if_false, if_neg h1, if_neg h2, if_pos h3]
    ·simp only [if_neg h1, if_neg h2, if_neg h3]
     refine Ev.step (f := fun _ => some false) (fun k => ?_) (Ev.now _)
     simp only [impl_IsFeature.j0, Bool.false_eq_true, if_false, if_neg h1, if_neg h2, if_neg h3]
 ·refine Ev.step (f := fun _ => some false) (fun k => ?_) (Ev.now _)
  simp [impl_IsFeature.j0]
theorem ft_i (a b c : Int) (s : ByteArray) (hs : s.size ≤ 9223372036854775807) (l : List S75) (hl : l.length < 9223372036854775807) : Ev (fun k => impl_IsFeature.f k a b c s l) (ftB a b c s l) := by
 unfold impl_IsFeature.f ftB impl_InRange.f
 simp only [Option.bind_some]
 cases inR a 1 99
 ·simp only [Bool.false_eq_true, if_false]; exact ft_ji a b c s l hl true
 ·cases inR c 0 9
  ·simp only [if_true, Bool.false_eq_true, if_false]; exact ft_ji a b c s l hl true
  ·simp only [if_true, Bool.true_and]
   by_cases he : s.toList = ([] : List UInt8)
   ·simp only [if_pos he, decide_eq_true he, Bool.true_or]; exact ft_ji a b c s l hl false
   ·simp only [if_neg he, decide_eq_false he, Bool.false_or]
    refine Ev.bind (nm_i s hs) ?_
    have := ft_ji a b c s l hl (!nmB s)
    rw [Bool.not_not] at this
    exact this
theorem rdp_at (l : List S136) (i : Nat) (h : i < l.length) : rd_T136 l (i : Int) = l[i] := by
 unfold rd_T136
 rw [Int.toNat_natCast, List.getD_eq_getElem?_getD, List.getElem?_eq_getElem h]
 rfl
def convP (x : S136) : S75 := ⟨x.f0, x.f1⟩
theorem toPoints_l (l : List S136) (hb : l.length < 9223372036854775807) (d : Nat) : ∀ i : Nat, i + d = l.length → Ev (fun k => laws_toPointS.l0 k l ((l.map convP).take i ++ List.replicate d z75) (i : Int)) (l.map convP) := by
 induction d with
 | zero =>
  intro i hi
  refine Ev.step (f := fun _ => some (l.map convP)) (fun k => ?_) (Ev.now _)
  simp only [laws_toPointS.l0]
  rw [if_neg (by omega), List.take_of_length_le (by simp; omega)]
  simp
 | succ d ih =>
  intro i hi
  have h1 : i < l.length := by omega
  refine Ev.step (fun k => ?_) (ih (i + 1) (by omega))
  simp only [laws_toPointS.l0, laws_toPoint.f, Option.bind_some]
  rw [if_pos (by omega), if_pos (by omega), if_pos (by simp; omega), rdp_at l i h1, w1 i (by omega)]
  congr 1
  have hm : i < (l.map convP).length := by simpa using h1
  rw [Int.toNat_natCast, List.set_append_right _ _ (by simp; omega), List.take_succ_eq_append_getElem hm, List.replicate_succ]
  simp only [List.length_take, List.length_map, Nat.min_eq_left (show i ≤ l.length by omega), Nat.sub_self, List.set_cons_zero, List.append_assoc, List.singleton_append, List.getElem_map, convP]
theorem toPoints (l : List S136) (hb : l.length ≤ 1048576) : Ev (fun k => laws_toPointS.f k l) (l.map convP) := by
 unfold laws_toPointS.f
 simp only [if_pos (show (0 : Int) ≤ (l.length : Int) by omega), Int.toNat_natCast, if_pos (show l.length ≤ 17592186044416 by omega)]
 have := toPoints_l l (by omega) l.length 0 (by omega)
 simpa using this
theorem eqPoints_l (l : List S75) (hb : l.length < 9223372036854775807) (d : Nat) : ∀ i : Nat, i + d = l.length → Ev (fun k => laws_eqPointS.l0 k l l (i : Int)) true := by
 induction d with
 | zero =>
  intro i hi
  refine Ev.step (f := fun _ => some true) (fun k => ?_) (Ev.now _)
  simp only [laws_eqPointS.l0]
  rw [if_neg (by omega)]
 | succ d ih =>
  intro i hi
  have h1 : i < l.length := by omega
  refine Ev.step (fun k => ?_) (ih (i + 1) (by omega))
  simp only [laws_eqPointS.l0, laws_eqPoint.f]
  rw [if_pos (by omega), if_pos (by omega), if_pos (by omega), w1 i (by omega)]
  simp
theorem eqPoints (l : List S75) (hb : l.length < 9223372036854775807) : Ev (fun k => laws_eqPointS.f k l l) true := by
 unfold laws_eqPointS.f
 simp only [if_true]
 exact eqPoints_l l hb l.length 0 (by omega)
theorem rdf_at (l : List S52) (i : Nat) (h : i < l.length) : rd_T52 l (i : Int) = l[i] := by
 unfold rd_T52
 rw [Int.toNat_natCast, List.getD_eq_getElem?_getD, List.getElem?_eq_getElem h]
 rfl
theorem rdF_at (l : List S59) (i : Nat) (h : i < l.length) : rd_T59 l (i : Int) = l[i] := by
 unfold rd_T59
 rw [Int.toNat_natCast, List.getD_eq_getElem?_getD, List.getElem?_eq_getElem h]
 rfl
def convF (x : S52) : S59 := ⟨x.f0, x.f1, x.f2, x.f3, x.f4.map convP⟩
theorem toFeatures_l (l : List S52) (hb : l.length < 9223372036854775807) (hp : ∀ x ∈ l, x.f4.length ≤ 1048576) (d : Nat) : ∀ i : Nat, i + d = l.length → Ev (fun k => laws_toFeatureS.l0 k l ((l.map convF).take i ++ List.replicate d z59) (i : Int)) (l.map convF) := by
 induction d with
 | zero =>
  intro i hi
  refine Ev.step (f := fun _ => some (l.map convF)) (fun k => ?_) (Ev.now _)
  simp only [laws_toFeatureS.l0]
  rw [if_neg (by omega), List.take_of_length_le (by simp; omega)]
  simp
 | succ d ih =>
  intro i hi
  have h1 : i < l.length := by omega
  have ht := toPoints l[i].f4 (hp _ (List.getElem_mem h1))
  have hf : Ev (fun k => laws_toFeature.f k l[i].f0 l[i].f1 l[i].f2 l[i].f3 l[i].f4) (l[i].f0, l[i].f1, l[i].f2, l[i].f3, l[i].f4.map convP) := by
   unfold laws_toFeature.f
   exact Ev.bind ht (Ev.now _)
  refine Ev.step (f := fun k => (laws_toFeature.f k l[i].f0 l[i].f1 l[i].f2 l[i].f3 l[i].f4).bind fun b => laws_toFeatureS.l0 k l (((l.map convF).take i ++ List.replicate (d + 1) z59).set i (⟨b.1, b.2.1, b.2.2.1, b.2.2.2.1, b.2.2.2.2⟩ : S59)) ((i + 1 : Nat) : Int)) (fun k => ?_) (Ev.bind hf ?_)
  ·simp only [laws_toFeatureS.l0]
   have hlen : (i : Int) < (((l.map convF).take i ++ List.replicate (d + 1) z59).length : Int) := by simp; omega
   rw [if_pos (by omega), if_pos (by omega), rdf_at l i h1, w1 i (by omega), Int.toNat_natCast]
   simp only [if_pos hlen]
  ·have hm : i < (l.map convF).length := by simpa using h1
   have e : ((l.map convF).take i ++ List.replicate (d + 1) z59).set i (⟨l[i].f0, l[i].f1, l[i].f2, l[i].f3, l[i].f4.map convP⟩ : S59) = (l.map convF).take (i + 1) ++ List.replicate d z59 := by
    rw [List.set_append_right _ _ (by simp; omega), List.take_succ_eq_append_getElem hm, List.replicate_succ]
    simp only [List.length_take, List.length_map, Nat.min_eq_left (show i ≤ l.length by omega), Nat.sub_self, List.set_cons_zero, List.append_assoc, List.singleton_append, List.getElem_map, convF]
   simp only [e]
   exact ih (i + 1) (by omega)
theorem toFeatures (l : List S52) (hb : l.length ≤ 1048576) (hp : ∀ x ∈ l, x.f4.length ≤ 1048576) : Ev (fun k => laws_toFeatureS.f k l) (l.map convF) := by
 unfold laws_toFeatureS.f
 simp only [if_pos (show (0 : Int) ≤ (l.length : Int) by omega), Int.toNat_natCast, if_pos (show l.length ≤ 4398046511104 by omega)]
 have := toFeatures_l l (by omega) hp l.length 0 (by omega)
 simpa using this
theorem eqFeatures_l (l : List S59) (hb : l.length < 9223372036854775807) (hp : ∀ x ∈ l, x.f4.length < 9223372036854775807) (d : Nat) : ∀ i : Nat, i + d = l.length → Ev (fun k => laws_eqFeatureS.l0 k l l (i : Int)) true := by
 induction d with
 | zero =>
  intro i hi
  refine Ev.step (f := fun _ => some true) (fun k => ?_) (Ev.now _)
  simp only [laws_eqFeatureS.l0]
  rw [if_neg (by omega)]
 | succ d ih =>
  intro i hi
  have h1 : i < l.length := by omega
  have hf : Ev (fun k => laws_eqFeature.f k l[i].f0 l[i].f1 l[i].f2 l[i].f3 l[i].f4 l[i].f0 l[i].f1 l[i].f2 l[i].f3 l[i].f4) true := by
   unfold laws_eqFeature.f
   simp only [if_true]
   refine Ev.bind (eqPoints l[i].f4 (hp _ (List.getElem_mem h1))) ?_
   simp only [if_true]
   exact Ev.now _
  refine Ev.step (f := fun k => (laws_eqFeature.f k l[i].f0 l[i].f1 l[i].f2 l[i].f3 l[i].f4 l[i].f0 l[i].f1 l[i].f2 l[i].f3 l[i].f4).bind fun t => if t = true then laws_eqFeatureS.l0 k l l ((i + 1 : Nat) : Int) else some false) (fun k => ?_) (Ev.bind hf ?_)
  ·simp only [laws_eqFeatureS.l0]
   rw [if_pos (by omega), if_pos (by omega), if_pos (by omega), rdF_at l i h1, w1 i (by omega)]
  ·simp only [if_true]
   exact ih (i + 1) (by omega)
theorem eqFeatures (l : List S59) (hb : l.length < 9223372036854775807) (hp : ∀ x ∈ l, x.f4.length < 9223372036854775807) : Ev (fun k => laws_eqFeatureS.f k l l) true := by
 unfold laws_eqFeatureS.f
 simp only [if_true]
 exact eqFeatures_l l hb hp l.length 0 (by omega)
theorem szFeatures_l (l : List S52) (hl : ∀ x ∈ l, x.f3.size ≤ 9223372036854775807 ∧ x.f4.length ≤ 9223372036854775807) (hb : l.length < 9223372036854775807) (d : Nat) :
  ∀ (i : Nat) (n : Int), i + d = l.length → 0 ≤ n → n ≤ 1048576 → ∃ r, Ev (fun k => laws_szFeatureS.l0 k l n (i : Int)) r ∧ (¬ r < 0 → ∀ x ∈ l.drop i, x.f3.size ≤ 1048576 ∧ x.f4.length ≤ 1048576) := by
 induction d with
 | zero =>
  intro i n hi h0 h1
  have e : l.drop i = [] := List.drop_of_length_le (by omega)
  rw [e]
  refine ⟨n, Ev.step (f := fun _ => some n) (fun k => ?_) (Ev.now _), fun _ x hx => by simp at hx⟩
  simp only [laws_szFeatureS.l0]
  rw [if_neg (by omega)]
 | succ d ih =>
  intro i n hi h0 h1
  have hl1 : i < l.length := by omega
  obtain ⟨hx1, hx2⟩ := hl _ (List.getElem_mem hl1)
  have e := List.drop_eq_getElem_cons hl1
  rw [e]
  have hw : wrap64 (n - (l[i].f3.size : Int)) = n - (l[i].f3.size : Int) := by unfold wrap64; omega
  by_cases hc : n - (l[i].f3.size : Int) < 0
  ·refine ⟨-1, Ev.step (f := fun _ => some (-1)) (fun k => ?_) (Ev.now _), fun h => by omega⟩
   simp only [laws_szFeatureS.l0, laws_szFeature.f]
   rw [if_pos (by omega), if_pos (by omega), rdf_at l i hl1, hw, if_pos hc]
   rfl
  ·have hw2 : wrap64 (n - (l[i].f3.size : Int) - (l[i].f4.length : Int)) = n - (l[i].f3.size : Int) - (l[i].f4.length : Int) := by unfold wrap64; omega
   by_cases hc2 : n - (l[i].f3.size : Int) - (l[i].f4.length : Int) < 0
   ·refine ⟨-1, Ev.step (f := fun _ => some (-1)) (fun k => ?_) (Ev.now _), fun h => by omega⟩
    simp only [laws_szFeatureS.l0, laws_szFeature.f, laws_szPointS.f]
    rw [if_pos (by omega), if_pos (by omega), rdf_at l i hl1, hw, if_neg hc, hw2, if_pos hc2]
    rfl
   ·obtain ⟨r, hr, hr2⟩ := ih (i + 1) (n - (l[i].f3.size : Int) - (l[i].f4.length : Int)) (by omega) (by omega) (by omega)
    refine ⟨r, Ev.step (fun k => ?_) hr, fun h x hx => ?_⟩
    ·simp only [laws_szFeatureS.l0, laws_szFeature.f, laws_szPointS.f]
     rw [if_pos (by omega), if_pos (by omega), rdf_at l i hl1, hw, if_neg hc, hw2, if_neg hc2]
     simp only [Option.bind_some]
     rw [if_neg hc2]
     simp only [Option.bind_some]
     rw [if_neg hc2, w1 i (by omega)]
    ·rcases List.mem_cons.1 hx with hx | hx
     ·subst hx; omega
     ·exact hr2 h x hx
theorem szFeatures (l : List S52) (hl : ∀ x ∈ l, x.f3.size ≤ 9223372036854775807 ∧ x.f4.length ≤ 9223372036854775807) (hb : l.length ≤ 9223372036854775807) : ∃ r, Ev (fun k => laws_szFeatureS.f k l 1048576) r ∧ (¬ r < 0 → l.length ≤ 1048576 ∧ ∀ x ∈ l, x.f3.size ≤ 1048576 ∧ x.f4.length ≤ 1048576) := by
 unfold laws_szFeatureS.f
 have hw : wrap64 (1048576 - (l.length : Int)) = 1048576 - (l.length : Int) := by unfold wrap64; omega
 rw [hw]
 by_cases hc : 1048576 - (l.length : Int) < 0
 ·exact ⟨-1, by simp only [if_pos hc]; exact Ev.now _, fun h => by omega⟩
 ·simp only [if_neg hc]
  obtain ⟨r, hr, hr2⟩ := szFeatures_l l hl (by omega) l.length 0 (1048576 - (l.length : Int)) (by omega) (by omega) (by omega)
  exact ⟨r, hr, fun h => ⟨by omega, by simpa using hr2 h⟩⟩
theorem rdFg (l : List S59) (i : Nat) : rd_T59 l (i : Int) = l.getD i z59 := by unfold rd_T59; rw [Int.toNat_natCast]
def ftF (x : S59) : Bool := ftB x.f0 x.f1 x.f2 x.f3 x.f4
def chk (l : List S59) (i : Nat) : Bool := ftF (l.getD i z59) && (decide (i = 0) || decide ((l.getD (i - 1) z59).f0 < (l.getD i z59).f0))
def srcR (l : List S59) (i d : Nat) : Bool := (List.range' i d).all (chk l)
/-- That features are a source. -/
def srB (l : List S59) : Bool := srcR l 0 l.length && decide ((l.length : Int) ≤ 16)
section
variable (l : List S59) (hb : l.length < 9223372036854775807) (hx : ∀ x ∈ l, x.f3.size ≤ 9223372036854775807 ∧ x.f4.length < 9223372036854775807)
include hb hx
theorem src_sl (d : Nat) : ∀ i : Nat, i + d = l.length → Ev (fun k => spec_IsSource.l0 k l (i : Int)) (srcR l i d && decide ((l.length : Int) ≤ 16)) := by
 induction d with
 | zero =>
  intro i hi
  refine Ev.step (f := fun _ => some (decide ((l.length : Int) ≤ 16))) (fun k => ?_) (by simp only [srcR, List.range'_zero, List.all_nil, Bool.true_and]; exact Ev.now _)
  simp only [spec_IsSource.l0]
  rw [if_neg (by omega)]
 | succ d ih =>
  intro i hi
  have hlt : i < l.length := by omega
  have hm : l.getD i z59 ∈ l := by rw [List.getD_eq_getElem?_getD, List.getElem?_eq_getElem hlt]; exact List.getElem_mem hlt
  obtain ⟨g1, g2⟩ := hx _ hm
  have e : srcR l i (d + 1) = (chk l i && srcR l (i + 1) d) := by unfold srcR; rw [List.range'_succ, List.all_cons]
  rw [e]
  have hr := ih (i + 1) (by omega)
  have ft := ft_s (l.getD i z59).f0 (l.getD i z59).f1 (l.getD i z59).f2 (l.getD i z59).f3 g1 (l.getD i z59).f4 g2
  refine Ev.step (f := fun k => (spec_IsFeature.f k (l.getD i z59).f0 (l.getD i z59).f1 (l.getD i z59).f2 (l.getD i z59).f3 (l.getD i z59).f4).bind fun t242 => (if t242 = true then (if (i : Int) > 0 then (if 0 ≤ (wrap64 ((i : Int) - 1)) then (if (wrap64 ((i : Int) - 1)) < (l.length : Int) then (if ((rd_T59 l (wrap64 ((i : Int) - 1))).f0) ≥ ((l.getD i z59).f0) then (some false) else (spec_IsSource.l0 k l ((i + 1 : Nat) : Int))) else (none)) else (none)) else (spec_IsSource.l0 k l ((i + 1 : Nat) : Int))) else (some false))) (fun k => ?_) (Ev.bind ft ?_)
  ·simp only [spec_IsSource.l0]
   rw [if_pos (by omega), if_pos (by omega), rdFg, w1' i (by omega)]
  ·unfold chk ftF
   cases hf : ftB (l.getD i z59).f0 (l.getD i z59).f1 (l.getD i z59).f2 (l.getD i z59).f3 (l.getD i z59).f4
   ·simp only [Bool.false_eq_true, if_false, Bool.false_and]; exact Ev.now _
   ·simp only [if_true, Bool.true_and]
    by_cases h0 : i = 0
    ·subst h0
     simp only [if_neg (show ¬ (((0 : Nat) : Int) > 0) by omega), decide_true, Bool.true_or, Bool.true_and]
     exact hr
    ·have hw : wrap64 ((i : Int) - 1) = ((i - 1 : Nat) : Int) := by unfold wrap64; omega
     simp only [if_pos (show (i : Int) > 0 by omega), hw, if_pos (show 0 ≤ ((i - 1 : Nat) : Int) by omega), if_pos (show ((i - 1 : Nat) : Int) < (l.length : Int) by omega), rdFg, decide_eq_false h0, Bool.false_or]
     by_cases hc : (l.getD (i - 1) z59).f0 < (l.getD i z59).f0
     ·simp only [if_neg (show ¬ ((l.getD (i - 1) z59).f0 ≥ (l.getD i z59).f0) by omega), decide_eq_true hc, Bool.true_and]
      exact hr
     ·simp only [if_pos (show (l.getD (i - 1) z59).f0 ≥ (l.getD i z59).f0 by omega), decide_eq_false hc, Bool.false_and]
      exact Ev.now _
theorem src_il (d : Nat) : ∀ i : Nat, i + d = l.length → Ev (fun k => impl_IsSource.l0 k l l (l.length : Int) (i : Int)) (srcR l i d) := by
 induction d with
 | zero =>
  intro i hi
  refine Ev.step (f := fun _ => some true) (fun k => ?_) (Ev.now _)
  simp only [impl_IsSource.l0]
  rw [if_neg (by omega)]
 | succ d ih =>
  intro i hi
  have hlt : i < l.length := by omega
  have hm : l.getD i z59 ∈ l := by rw [List.getD_eq_getElem?_getD, List.getElem?_eq_getElem hlt]; exact List.getElem_mem hlt
  obtain ⟨g1, g2⟩ := hx _ hm
  have e : srcR l i (d + 1) = (chk l i && srcR l (i + 1) d) := by unfold srcR; rw [List.range'_succ, List.all_cons]
  rw [e]
  have hr := ih (i + 1) (by omega)
  have ft := ft_i (l.getD i z59).f0 (l.getD i z59).f1 (l.getD i z59).f2 (l.getD i z59).f3 g1 (l.getD i z59).f4 g2
  refine Ev.step (f := fun k => (impl_IsFeature.f k (l.getD i z59).f0 (l.getD i z59).f1 (l.getD i z59).f2 (l.getD i z59).f3 (l.getD i z59).f4).bind fun t242 => (if t242 = true then (if (i : Int) > 0 then (if 0 ≤ (wrap64 ((i : Int) - 1)) then (if (wrap64 ((i : Int) - 1)) < (l.length : Int) then (if ((l.getD i z59).f0) ≤ ((rd_T59 l (wrap64 ((i : Int) - 1))).f0) then (some false) else (impl_IsSource.l0 k l l (l.length : Int) ((i + 1 : Nat) : Int))) else (none)) else (none)) else (impl_IsSource.l0 k l l (l.length : Int) ((i + 1 : Nat) : Int))) else (some false))) (fun k => ?_) (Ev.bind ft ?_)
  ·simp only [impl_IsSource.l0]
   rw [if_pos (by omega), if_pos (by omega), if_pos (by omega), rdFg, w1' i (by omega)]
  ·unfold chk ftF
   cases hf : ftB (l.getD i z59).f0 (l.getD i z59).f1 (l.getD i z59).f2 (l.getD i z59).f3 (l.getD i z59).f4
   ·simp only [Bool.false_eq_true, if_false, Bool.false_and]; exact Ev.now _
   ·simp only [if_true, Bool.true_and]
    by_cases h0 : i = 0
    ·subst h0
     simp only [if_neg (show ¬ (((0 : Nat) : Int) > 0) by omega), decide_true, Bool.true_or, Bool.true_and]
     exact hr
    ·have hw : wrap64 ((i : Int) - 1) = ((i - 1 : Nat) : Int) := by unfold wrap64; omega
     simp only [if_pos (show (i : Int) > 0 by omega), hw, if_pos (show 0 ≤ ((i - 1 : Nat) : Int) by omega), if_pos (show ((i - 1 : Nat) : Int) < (l.length : Int) by omega), rdFg, decide_eq_false h0, Bool.false_or]
     by_cases hc : (l.getD (i - 1) z59).f0 < (l.getD i z59).f0
     ·simp only [if_neg (show ¬ ((l.getD i z59).f0 ≤ (l.getD (i - 1) z59).f0) by omega), decide_eq_true hc, Bool.true_and]
      exact hr
     ·simp only [if_pos (show (l.getD i z59).f0 ≤ (l.getD (i - 1) z59).f0 by omega), decide_eq_false hc, Bool.false_and]
      exact Ev.now _
theorem src_s : Ev (fun k => spec_IsSource.f k l) (srB l) := src_sl l hb hx l.length 0 (by omega)
theorem src_i : Ev (fun k => impl_IsSource.f k l) (srB l) := by
 unfold impl_IsSource.f srB
 by_cases h : (l.length : Int) > 16
 ·simp only [if_pos h, decide_eq_false (show ¬ ((l.length : Int) ≤ 16) by omega), Bool.and_false]; exact Ev.now _
 ·simp only [if_neg h, decide_eq_true (show (l.length : Int) ≤ 16 by omega), Bool.and_true]
  exact src_il l hb hx l.length 0 (by omega)
end
theorem mfT_bound (l : List S59) (h : ∀ x ∈ l, x.f4.length ≤ 1048576) : mfT l ≤ l.length * 2097156 := by
 induction l with
 | nil => simp [mfT]
 | cons x l ih =>
  have h1 := h x (by simp)
  have h2 := ih (fun y hy => h y (by simp [hy]))
  simp only [mfT, List.length_cons, Nat.add_mul, Nat.one_mul]
  omega
theorem markF (l : List S59) (hb : l.length ≤ 1048576) (h : ∀ x ∈ l, x.f4.length ≤ 1048576) : laws_markFeatureS.f l 1 = some (1 + (mfT l : Int)) := by
 have := mfT_bound l h
 unfold laws_markFeatureS.f
 rw [if_pos ⟨by omega, by omega⟩]
theorem src_next {l : List S59} (hs : srB l = true) (i : Nat) (h0 : 0 < i) (hi : i < l.length) : (l.getD (i - 1) z59).f0 < (l.getD i z59).f0 := by
 unfold srB srcR at hs
 rw [Bool.and_eq_true, List.all_eq_true] at hs
 have := hs.1 i (List.mem_range'_1.2 ⟨Nat.zero_le _, by omega⟩)
 unfold chk at this
 rw [Bool.and_eq_true, Bool.or_eq_true, decide_eq_true_iff, decide_eq_true_iff] at this
 rcases this.2 with h | h
 ·omega
 ·exact h
theorem src_lt {l : List S59} (hs : srB l = true) (i : Nat) : ∀ j : Nat, i < j → j < l.length → (l.getD i z59).f0 < (l.getD j z59).f0 := by
 intro j
 induction j with
 | zero => intro h; omega
 | succ j ih =>
  intro h1 h2
  have hn := src_next hs (j + 1) (by omega) h2
  rw [Nat.add_sub_cancel] at hn
  by_cases e : i = j
  ·subst e; exact hn
  ·have := ih (by omega) (by omega); omega
theorem getFt_at (l : List S59) (i : Nat) (h : i < l.length) : l.getD i z59 = l[i] := by rw [List.getD_eq_getElem?_getD, List.getElem?_eq_getElem h]; rfl
theorem src_ft {l : List S59} (hs : srB l = true) (i : Nat) (hi : i < l.length) : ftF (l.getD i z59) = true := by
 unfold srB srcR at hs
 rw [Bool.and_eq_true, List.all_eq_true] at hs
 have := hs.1 i (by simp [List.mem_range']; omega)
 unfold chk at this
 rw [Bool.and_eq_true] at this
 exact this.1
theorem isPt_bd {x y : Int} (h : isPt x y = true) : 0 ≤ x ∧ x ≤ 200 ∧ 0 ≤ y ∧ y ≤ 200 := by
 simp only [isPt, inR, Bool.and_eq_true, decide_eq_true_eq] at h
 omega
theorem putL_perm (l : List S77) (x : S77) : (putL l x).Perm (x :: l) := by
 unfold putL
 have h := List.take_append_drop (posL l x l.length) l
 have e : (l.take (posL l x l.length) ++ [x] ++ l.drop (posL l x l.length)).Perm ([x] ++ l.take (posL l x l.length) ++ l.drop (posL l x l.length)) := List.Perm.append_right _ List.perm_append_comm
 rw [List.append_assoc [x], h] at e
 exact e
theorem foldL_perm (l : List S77) : ∀ m : List S77, (l.foldl putL m).Perm (l ++ m) := by
 induction l with
 | nil => intro m; exact List.Perm.refl _
 | cons x l ih =>
  intro m
  rw [List.foldl_cons]
  refine (ih (putL m x)).trans ?_
  refine (List.Perm.append_left l (putL_perm m x)).trans ?_
  exact List.perm_middle
theorem sortL_perm (l : List S77) : (sortL l).Perm l := by
 have := foldL_perm l []
 rw [List.append_nil] at this
 exact this
theorem sortL_mem (l : List S77) (x : S77) : x ∈ sortL l ↔ x ∈ l := (sortL_perm l).mem_iff
theorem apart_sort {l : List S77} (h : l.Pairwise (fun a b => a.f0 < b.f0)) : (sortL l).Pairwise (fun a b => a.f0 ≠ b.f0) :=
 ((sortL_perm l).pairwise_iff (fun {x y} h => fun e => h e.symm)).2 (h.imp (fun h => by omega))
theorem eqInts_l (a b : List Int) (hl : a.length = b.length) (hb : a.length < 9223372036854775807) (d : Nat) : ∀ i : Nat, i + d = a.length → Ev (fun k => laws_eqIntS.l0 k a b (i : Int)) (decide (a.drop i = b.drop i)) := by
 induction d with
 | zero =>
  intro i hi
  refine Ev.step (f := fun _ => some (decide (a.drop i = b.drop i))) (fun k => ?_) (Ev.now _)
  simp only [laws_eqIntS.l0]
  rw [if_neg (by omega), List.drop_of_length_le (by omega), List.drop_of_length_le (by omega)]
  simp
 | succ d ih =>
  intro i hi
  have h1 : i < a.length := by omega
  have h2 : i < b.length := by omega
  have ea := List.drop_eq_getElem_cons h1
  have eb := List.drop_eq_getElem_cons h2
  by_cases he : a[i] = b[i]
  ·have := ih (i + 1) (by omega)
   have e : decide (a.drop i = b.drop i) = decide (a.drop (i + 1) = b.drop (i + 1)) := decide_eq_decide.2 (by rw [ea, eb, List.cons.injEq]; exact ⟨fun h => h.2, fun h => ⟨he, h⟩⟩)
   rw [e]
   refine Ev.step (fun k => ?_) this
   simp only [laws_eqIntS.l0]
   rw [if_pos (by omega), if_pos (by omega), if_pos (by omega), rd_at a i h1, rd_at b i h2, if_pos he, w1 i (by omega)]
  ·have e : decide (a.drop i = b.drop i) = false := decide_eq_false (by rw [ea, eb, List.cons.injEq]; exact fun h => he h.1)
   rw [e]
   refine Ev.step (f := fun _ => some false) (fun k => ?_) (Ev.now _)
   simp only [laws_eqIntS.l0]
   rw [if_pos (by omega), if_pos (by omega), if_pos (by omega), rd_at a i h1, rd_at b i h2, if_neg he]
theorem eqInts (a b : List Int) (hb : a.length < 9223372036854775807) : Ev (fun k => laws_eqIntS.f k a b) (decide (a = b)) := by
 unfold laws_eqIntS.f
 by_cases hl : a.length = b.length
 ·simp only [if_pos (show (a.length : Int) = (b.length : Int) by omega)]
  have := eqInts_l a b hl hb a.length 0 (by omega)
  simpa using this
 ·simp only [if_neg (show ¬ (a.length : Int) = (b.length : Int) by omega)]
  have e : decide (a = b) = false := by simp; intro h; exact hl (by rw [h])
  rw [e]
  exact Ev.now _
def marks (v : Int) (n : Nat) : List Int := (List.range n).map fun (j : Nat) => v + (j : Int)
theorem marks_zero (v : Int) : marks v 0 = [] := rfl
theorem marks_succ (v : Int) (n : Nat) : marks v (n + 1) = v :: marks (v + 1) n := by
 unfold marks
 rw [List.range_succ_eq_map]
 simp only [List.map_cons, List.map_map, List.cons.injEq]
 refine ⟨by simp, List.map_congr_left fun j _ => ?_⟩
 simp only [Function.comp]
 omega
theorem wrapv (v : Int) (h0 : 0 ≤ v) (h : v < 9223372036854775807) : wrap64 (v + 1) = v + 1 := by unfold wrap64; omega
theorem markInts_l (suf : List Int) : ∀ (pre : List Int) (v : Int), 0 ≤ v → pre.length + suf.length < 4611686018427387904 → v + (suf.length : Int) < 4611686018427387904 →
  Ev (fun k => laws_markIntS.l0 k (pre ++ suf) v (pre.length : Int)) (v + (suf.length : Int), pre ++ marks v suf.length) := by
 induction suf with
 | nil =>
  intro pre v h0 h1 h2
  refine Ev.step (f := fun _ => some (v + (([] : List Int).length : Int), pre ++ marks v 0)) (fun k => ?_) (Ev.now _)
  simp only [laws_markIntS.l0]
  rw [if_neg (by simp)]
  simp [marks_zero]
 | cons x suf ih =>
  intro pre v h0 h1 h2
  simp only [List.length_cons] at h1 h2
  have := ih (pre ++ [v]) (v + 1) (by omega) (by simp; omega) (by omega)
  have e : (v + 1 + (suf.length : Int), (pre ++ [v]) ++ marks (v + 1) suf.length) = (v + ((x :: suf).length : Int), pre ++ marks v (x :: suf).length) := by
   simp only [List.length_cons, marks_succ, List.append_assoc, List.singleton_append, Prod.mk.injEq, and_true]
   omega
  rw [e] at this
  refine Ev.step (fun k => ?_) this
  simp only [laws_markIntS.l0]
  rw [if_pos (by simp; omega), if_pos (by omega), wrapv v h0 (by omega), w1 pre.length (by omega)]
  congr 1
  ·rw [Int.toNat_natCast, List.set_append_right _ _ (Nat.le_refl _), Nat.sub_self]
   simp
  ·simp
theorem markInts (l : List Int) (h : l.length < 2305843009213693952) : Ev (fun k => laws_markIntS.f k l 1) (1 + (l.length : Int), marks 1 l.length) := by
 have := markInts_l l [] 1 (by omega) (by simp; omega) (by omega)
 simpa [laws_markIntS.f] using this
theorem heldInts_l (n : Nat) : ∀ (pre : List Int) (v : Int), 0 ≤ v → pre.length + n < 4611686018427387904 → v + (n : Int) < 4611686018427387904 →
  Ev (fun k => laws_heldIntS.l0 k (pre ++ marks v n) v (pre.length : Int)) (v + (n : Int)) := by
 induction n with
 | zero =>
  intro pre v h0 h1 h2
  refine Ev.step (f := fun _ => some (v + ((0 : Nat) : Int))) (fun k => ?_) (Ev.now _)
  simp only [laws_heldIntS.l0]
  rw [if_neg (by simp [marks_zero])]
  simp
 | succ n ih =>
  intro pre v h0 h1 h2
  have := ih (pre ++ [v]) (v + 1) (by omega) (by simp; omega) (by omega)
  have e : (pre ++ [v]) ++ marks (v + 1) n = pre ++ marks v (n + 1) := by rw [marks_succ]; simp
  have e2 : v + 1 + (n : Int) = v + ((n + 1 : Nat) : Int) := by omega
  rw [e, e2] at this
  refine Ev.step (fun k => ?_) this
  simp only [laws_heldIntS.l0]
  have hlen : (pre ++ marks v (n + 1)).length = pre.length + (n + 1) := by simp [marks]
  rw [if_pos (by rw [hlen]; omega), if_pos (by omega), rd_at _ pre.length (by rw [hlen]; omega)]
  rw [if_pos (by simp [marks_succ]), wrapv v h0 (by omega), w1 pre.length (by omega)]
  congr 1
  simp
theorem heldInts (n : Nat) (h : n < 2305843009213693952) : Ev (fun k => laws_heldIntS.f k (marks 1 n) 1) (1 + (n : Int)) := by
 have := heldInts_l n [] 1 (by omega) (by simp; omega) (by omega)
 simpa [laws_heldIntS.f] using this
theorem has_l (l : List Int) (hl : l.length ≤ 1000000) (x : Int) (d : Nat) : ∀ i : Nat, i + d = l.length → Ev (fun k => spec_l14Has.l0 k l x (i : Int)) (decide (x ∈ l.drop i)) := by
 induction d with
 | zero =>
  intro i hi
  have e : l.drop i = [] := List.drop_of_length_le (by omega)
  rw [e, decide_eq_false (by simp)]
  refine Ev.step (f := fun _ => some false) (fun k => ?_) (Ev.now _)
  simp only [spec_l14Has.l0]
  rw [if_neg (by omega)]
 | succ d ih =>
  intro i hi
  have h1 : i < l.length := by omega
  rw [List.drop_eq_getElem_cons h1]
  by_cases hx : l[i] = x
  ·rw [decide_eq_true (show x ∈ l[i] :: l.drop (i + 1) by rw [hx]; exact List.mem_cons_self)]
   refine Ev.step (f := fun _ => some true) (fun k => ?_) (Ev.now _)
   simp only [spec_l14Has.l0]
   rw [if_pos (by omega), if_pos (by omega), rd_at l i h1, if_pos hx]
  ·have e : decide (x ∈ l[i] :: l.drop (i + 1)) = decide (x ∈ l.drop (i + 1)) := decide_eq_decide.2 (by rw [List.mem_cons]; exact ⟨fun h => h.resolve_left (fun h => hx h.symm), .inr⟩)
   rw [e]
   refine Ev.step (fun k => ?_) (ih (i + 1) (by omega))
   simp only [spec_l14Has.l0]
   rw [if_pos (by omega), if_pos (by omega), rd_at l i h1, if_neg hx, w1 i (by omega)]
theorem has_f (l : List Int) (hl : l.length ≤ 1000000) (x : Int) : Ev (fun k => spec_l14Has.f k l x) (decide (x ∈ l)) := by
 have := has_l l hl x l.length 0 (by omega)
 rw [List.drop_zero] at this
 exact this
def Asc (l : List Int) : Prop := l.Pairwise (· < ·)
theorem asc_eq : ∀ {a b : List Int}, Asc a → Asc b → (∀ x, x ∈ a ↔ x ∈ b) → a = b
 | [], [], _, _, _ => rfl
 | [], y :: b, _, _, h => absurd ((h y).2 (List.mem_cons_self ..)) (by simp)
 | x :: a, [], _, _, h => absurd ((h x).1 (List.mem_cons_self ..)) (by simp)
 | x :: a, y :: b, ha, hb, h => by
  have ha' := List.pairwise_cons.1 ha
  have hb' := List.pairwise_cons.1 hb
  have e : x = y := by
   rcases List.mem_cons.1 ((h x).1 (List.mem_cons_self ..)) with e | h1
   ·exact e
   ·rcases List.mem_cons.1 ((h y).2 (List.mem_cons_self ..)) with e | h2
    ·exact e.symm
    ·have := ha'.1 y h2
     have := hb'.1 x h1
     omega
  subst e
  rw [asc_eq ha'.2 hb'.2 (fun z => ⟨fun hz => ?_, fun hz => ?_⟩)]
  ·rcases List.mem_cons.1 ((h z).1 (List.mem_cons_of_mem _ hz)) with e | h1
   ·subst e; have := ha'.1 z hz; omega
   ·exact h1
  ·rcases List.mem_cons.1 ((h z).2 (List.mem_cons_of_mem _ hz)) with e | h1
   ·subst e; have := hb'.1 z hz; omega
   ·exact h1
def putL : List Int → Int → List Int
 | [], n => [n]
 | x :: t, n => if x < n then x :: putL t n else if x = n then x :: t else n :: x :: t
theorem putL_mem (l : List Int) (n x : Int) : x ∈ putL l n ↔ x = n ∨ x ∈ l := by
 induction l with
 | nil => simp [putL]
 | cons y t ih =>
  unfold putL
  split
  ·rw [List.mem_cons, ih, List.mem_cons]
   constructor
   ·rintro (h | h | h) <;> simp [h]
   ·rintro (h | h | h) <;> simp [h]
  ·split
   ·rename_i h
    subst h
    simp
   ·simp
theorem putL_asc {l : List Int} (h : Asc l) (n : Int) : Asc (putL l n) := by
 induction l with
 | nil => exact List.pairwise_singleton _ _
 | cons y t ih =>
  have h' := List.pairwise_cons.1 h
  unfold putL
  split
  ·rename_i hy
   refine List.pairwise_cons.2 ⟨fun z hz => ?_, ih h'.2⟩
   rcases (putL_mem t n z).1 hz with e | hz
   ·subst e; exact hy
   ·exact h'.1 z hz
  ·split
   ·exact h
   ·rename_i h1 h2
    refine List.pairwise_cons.2 ⟨fun z hz => ?_, h⟩
    rcases List.mem_cons.1 hz with e | hz
    ·subst e; omega
    ·have := h'.1 z hz; omega
theorem putL_len (l : List Int) (n : Int) : (putL l n).length ≤ l.length + 1 := by
 induction l with
 | nil => simp [putL]
 | cons y t ih =>
  unfold putL
  split
  ·simp; omega
  ·split <;> simp
theorem put_l (l : List Int) (n : Int) (hb : l.length < 1000000000) (d : Nat) : ∀ i : Nat, i + d = l.length → Ev (fun k => spec_l14Put.l0 k l n (i : Int)) (l.take i ++ putL (l.drop i) n) := by
 induction d with
 | zero =>
  intro i hi
  refine Ev.step (f := fun _ => some (l.take i ++ putL (l.drop i) n)) (fun k => ?_) (Ev.now _)
  simp only [spec_l14Put.l0]
  rw [if_neg (by omega)]
  have e1 : l.take i = l := List.take_of_length_le (by omega)
  have e2 : l.drop i = [] := List.drop_of_length_le (by omega)
  simp only [Option.bind_some, Int.toNat_natCast, e1, e2, List.nil_append, List.length_nil, List.length_append, List.length_cons, putL, List.append_nil]
  rw [if_pos (by omega), if_pos (by omega), if_pos (by omega), if_pos (by omega), if_pos (by omega)]
 | succ d ih =>
  intro i hi
  have h1 : i < l.length := by omega
  have e := List.drop_eq_getElem_cons h1
  by_cases hc : l[i] < n
  ·have := ih (i + 1) (by omega)
   have e' : l.take (i + 1) ++ putL (l.drop (i + 1)) n = l.take i ++ putL (l.drop i) n := by
    rw [e, List.take_succ_eq_append_getElem h1, List.append_assoc]
    simp [putL, hc]
   rw [e'] at this
   refine Ev.step (fun k => ?_) this
   simp only [spec_l14Put.l0]
   rw [if_pos (by omega), if_pos (by omega), rd_at l i h1, if_pos hc, w1 i (by omega)]
  ·by_cases hn : l[i] = n
   ·have e' : l.take i ++ putL (l.drop i) n = l := by
     rw [e]
     simp only [putL, if_neg hc, if_pos hn]
     rw [← e, List.take_append_drop]
    rw [e']
    refine Ev.step (f := fun _ => some l) (fun k => ?_) (Ev.now _)
    simp only [spec_l14Put.l0]
    rw [if_pos (by omega), if_pos (by omega), rd_at l i h1, if_neg hc, if_pos hn]
    simp only [Option.bind_some, List.nil_append, List.length_nil]
    rw [if_pos (by omega)]
   ·have e' : putL (l.drop i) n = n :: l.drop i := by
     rw [e]
     simp only [putL, if_neg hc, if_neg hn]
    rw [e']
    refine Ev.step (f := fun _ => some (l.take i ++ n :: l.drop i)) (fun k => ?_) (Ev.now _)
    simp only [spec_l14Put.l0]
    rw [if_pos (by omega), if_pos (by omega), rd_at l i h1, if_neg hc, if_neg hn]
    simp only [Option.bind_some, Int.toNat_natCast, List.nil_append, List.length_nil, List.length_append, List.length_cons, List.length_take, List.length_drop]
    rw [if_pos (by omega), if_pos (by omega), if_pos (by omega), if_pos (by omega)]
    simp
theorem put (l : List Int) (n : Int) (hb : l.length < 1000000000) : Ev (fun k => spec_l14Put.f k l n) (putL l n) := by
 have := put_l l n hb l.length 0 (by omega)
 simpa [spec_l14Put.f] using this
def putAll (s : List Int) (l : List Int) : List Int := l.foldl putL s
theorem putAll_asc (l : List Int) : ∀ s, Asc s → Asc (putAll s l) := by
 induction l with
 | nil => intro s h; exact h
 | cons x t ih => intro s h; exact ih _ (putL_asc h x)
theorem putAll_mem (l : List Int) : ∀ s x, x ∈ putAll s l ↔ x ∈ s ∨ x ∈ l := by
 induction l with
 | nil => intro s x; simp [putAll]
 | cons y t ih =>
  intro s x
  have := ih (putL s y) x
  rw [putL_mem] at this
  show x ∈ putAll (putL s y) t ↔ _
  rw [this, List.mem_cons]
  constructor
  ·rintro ((h | h) | h) <;> simp [h]
  ·rintro (h | h | h) <;> simp [h]
theorem putAll_len (l : List Int) : ∀ s, (putAll s l).length ≤ s.length + l.length := by
 induction l with
 | nil => intro s; simp [putAll]
 | cons y t ih =>
  intro s
  have h1 := ih (putL s y)
  have h2 := putL_len s y
  show (putAll (putL s y) t).length ≤ _
  simp only [List.length_cons]
  omega
/-- What a source is. -/
theorem src_iff {l : List S59} : srB l = true ↔ (∀ i, i < l.length → ftF (l.getD i z59) = true) ∧ l.Pairwise (fun a b => a.f0 < b.f0) ∧ l.length ≤ 16 := by
 constructor
 ·intro hs
  refine ⟨fun i hi => src_ft hs i hi, ?_, ?_⟩
  ·rw [List.pairwise_iff_getElem]
   intro i j hi hj hij
   have := src_lt hs i j hij hj
   rw [getFt_at l i hi, getFt_at l j hj] at this
   exact this
  ·unfold srB at hs
   rw [Bool.and_eq_true, decide_eq_true_eq] at hs
   omega
 ·rintro ⟨h1, h2, h3⟩
  unfold srB srcR
  rw [Bool.and_eq_true, List.all_eq_true, decide_eq_true_eq]
  refine ⟨fun i hi => ?_, by omega⟩
  have hi' : i < l.length := by have := List.mem_range'_1.1 hi; omega
  unfold chk
  rw [Bool.and_eq_true, Bool.or_eq_true, decide_eq_true_eq, decide_eq_true_eq]
  refine ⟨h1 i hi', ?_⟩
  by_cases h0 : i = 0
  ·exact .inl h0
  ·refine .inr ?_
   rw [getFt_at l i hi', getFt_at l (i - 1) (by omega)]
   exact List.pairwise_iff_getElem.1 h2 (i - 1) i (by omega) hi' (by omega)
theorem src_all {l : List S59} (hs : srB l = true) : ∀ x ∈ l, ftF x = true := by
 intro x hx
 obtain ⟨i, hi, rfl⟩ := List.getElem_of_mem hx
 have := (src_iff.1 hs).1 i hi
 rwa [getFt_at l i hi] at this
theorem src_sub {l m : List S59} (hs : srB l = true) (h : m.Sublist l) : srB m = true := by
 have h' := src_iff.1 hs
 refine src_iff.2 ⟨fun i hi => ?_, h'.2.1.sublist h, Nat.le_trans h.length_le h'.2.2⟩
 rw [getFt_at m i hi]
 exact src_all hs _ (h.subset (List.getElem_mem hi))
/-- The features of at least a rank. -/
def rkV (l : List S59) (r : Int) : List S59 := l.filter fun x => decide (r ≤ x.f2)
theorem rk_drop (l : List S59) (r : Int) (i : Nat) (h : i < l.length) : rkV (l.drop i) r = if r ≤ (l.getD i z59).f2 then l.getD i z59 :: rkV (l.drop (i + 1)) r else rkV (l.drop (i + 1)) r := by
 unfold rkV
 rw [List.drop_eq_getElem_cons h, List.filter_cons, getFt_at l i h]
 simp only [decide_eq_true_eq]
theorem rdFt (l : List S59) (i : Nat) : rd_T59 l (i : Int) = l.getD i z59 := by unfold rd_T59; rw [Int.toNat_natCast]
theorem rkS_l (l : List S59) (hb : l.length ≤ 1048576) (hx : ∀ x ∈ l, x.f4.length ≤ 1048576) (r : Int) (d : Nat) : ∀ (i : Nat) (o : List S59), i + d = l.length → o.length ≤ i → Ev (fun k => spec_l23Ranked.l0 k l r o (i : Int)) (o ++ rkV (l.drop i) r) := by
 induction d with
 | zero =>
  intro i o hi ho
  rw [List.drop_of_length_le (by omega), show rkV [] r = [] from rfl, List.append_nil]
  refine Ev.step (f := fun _ => some o) (fun k => ?_) (Ev.now _)
  simp only [spec_l23Ranked.l0]
  rw [if_neg (by omega)]
 | succ d ih =>
  intro i o hi ho
  have hlt : i < l.length := by omega
  have hm : l.getD i z59 ∈ l := by rw [getFt_at l i hlt]; exact List.getElem_mem hlt
  have hl4 := hx _ hm
  rw [rk_drop l r i hlt]
  by_cases hr : r ≤ (l.getD i z59).f2
  ·rw [if_pos hr]
   have e : spec_l9Feature.f (l.getD i z59).f0 (l.getD i z59).f1 (l.getD i z59).f2 (l.getD i z59).f3 (l.getD i z59).f4 = some ((l.getD i z59).f0, (l.getD i z59).f1, (l.getD i z59).f2, (l.getD i z59).f3, (l.getD i z59).f4) := by
    unfold spec_l9Feature.f
    simp only [Option.bind_some, List.length_nil, Nat.zero_add, List.nil_append]
    rw [if_pos (by omega)]
   have := ih (i + 1) (o ++ [l.getD i z59]) (by omega) (by simp; omega)
   rw [List.append_assoc] at this
   refine Ev.step (fun k => ?_) this
   simp only [spec_l23Ranked.l0, rdFt, e, Option.bind_some]
   rw [if_pos (by omega), if_pos (by omega), if_pos hr, if_pos (by omega), w1' i (by omega)]
  ·rw [if_neg hr]
   refine Ev.step (fun k => ?_) (ih (i + 1) o (by omega) (by omega))
   simp only [spec_l23Ranked.l0, rdFt]
   rw [if_pos (by omega), if_pos (by omega), if_neg (by omega), w1' i (by omega)]
theorem rkI_l (l : List S59) (hb : l.length ≤ 1048576) (r : Int) (d : Nat) : ∀ (i : Nat) (o : List S59), i + d = l.length → o.length ≤ i → Ev (fun k => impl_ranked.l0 k r o l (l.length : Int) (i : Int)) (o ++ rkV (l.drop i) r) := by
 induction d with
 | zero =>
  intro i o hi ho
  rw [List.drop_of_length_le (by omega), show rkV [] r = [] from rfl, List.append_nil]
  refine Ev.step (f := fun _ => some o) (fun k => ?_) (Ev.now _)
  simp only [impl_ranked.l0]
  rw [if_neg (by omega)]
 | succ d ih =>
  intro i o hi ho
  have hlt : i < l.length := by omega
  rw [rk_drop l r i hlt]
  by_cases hr : r ≤ (l.getD i z59).f2
  ·rw [if_pos hr]
   have := ih (i + 1) (o ++ [l.getD i z59]) (by omega) (by simp; omega)
   rw [List.append_assoc] at this
   refine Ev.step (fun k => ?_) this
   simp only [impl_ranked.l0, rdFt]
   rw [if_pos (by omega), if_pos (by omega), if_pos (by omega), if_pos hr, if_pos (by omega), w1' i (by omega)]
  ·rw [if_neg hr]
   refine Ev.step (fun k => ?_) (ih (i + 1) o (by omega) (by omega))
   simp only [impl_ranked.l0, rdFt]
   rw [if_pos (by omega), if_pos (by omega), if_pos (by omega), if_neg (by omega), w1' i (by omega)]
/-- The places of point features. -/
def plB (x : S59) : List S77 := if x.f1 = 1 then [⟨x.f0, ⟨(x.f4.getD 0 z75).f0, (x.f4.getD 0 z75).f1⟩, x.f2⟩] else []
def plV (l : List S59) : List S77 := l.flatMap plB
theorem pl_drop (l : List S59) (i : Nat) (h : i < l.length) : plV (l.drop i) = plB (l.getD i z59) ++ plV (l.drop (i + 1)) := by
 unfold plV
 rw [List.drop_eq_getElem_cons h, List.flatMap_cons, getFt_at l i h]
theorem rdPt0 (l : List S75) : rd_T75 l 0 = l.getD 0 z75 := rfl
theorem ft_one {x : S59} (h : ftF x = true) (h1 : x.f1 = 1) : x.f4.length = 1 ∧ isPt (x.f4.getD 0 z75).f0 (x.f4.getD 0 z75).f1 = true := by
 unfold ftF ftB kdB at h
 simp only [Bool.and_eq_true] at h
 have h := h.2.2.2
 rw [if_pos h1, Bool.and_eq_true, decide_eq_true_eq] at h
 exact h
theorem ft_rank {x : S59} (h : ftF x = true) : (1 ≤ x.f0 ∧ x.f0 ≤ 99) ∧ 0 ≤ x.f2 ∧ x.f2 ≤ 9 := by
 unfold ftF ftB at h
 simp only [Bool.and_eq_true, inR, decide_eq_true_eq] at h
 omega
theorem plS_l (l : List S59) (hs : srB l = true) (hx : ∀ x ∈ l, x.f3.size ≤ 9223372036854775807 ∧ x.f4.length < 9223372036854775807) (d : Nat) : ∀ (i : Nat) (o : List S77), i + d = l.length → o.length ≤ i → Ev (fun k => spec_PlacesOf.l0 k l o (i : Int)) (o ++ plV (l.drop i)) := by
 have h16 := (src_iff.1 hs).2.2
 have src := src_s l (by omega) hx
 rw [hs] at src
 induction d with
 | zero =>
  intro i o hi ho
  rw [List.drop_of_length_le (by omega), show plV [] = [] from rfl, List.append_nil]
  refine Ev.step (f := fun k => spec_PlacesOf.j1 k l o (i : Int) false) (fun k => ?_) (Ev.step (f := fun _ => some o) (fun k => by simp [spec_PlacesOf.j1]) (Ev.now _))
  simp only [spec_PlacesOf.l0]
  rw [if_neg (by omega)]
 | succ d ih =>
  intro i o hi ho
  have hlt : i < l.length := by omega
  have hf := (src_iff.1 hs).1 i hlt
  rw [pl_drop l i hlt]
  refine Ev.step (f := fun k => (spec_IsSource.f k l).bind fun t => spec_PlacesOf.j1 k l o (i : Int) t) (fun k => ?_) (Ev.bind src ?_)
  ·simp only [spec_PlacesOf.l0]
   rw [if_pos (by omega)]
  ·by_cases h1 : (l.getD i z59).f1 = 1
   ·have h4 := (ft_one hf h1).1
    have := ih (i + 1) (o ++ plB (l.getD i z59)) (by omega) (by unfold plB; rw [if_pos h1]; simp; omega)
    rw [List.append_assoc] at this
    refine Ev.step (fun k => ?_) this
    simp only [spec_PlacesOf.j1, if_true, rdFt, rdPt0]
    rw [if_pos (by omega), if_pos (by omega), if_pos h1, if_pos (by omega), if_pos (by omega), w1' i (by omega)]
    unfold plB
    rw [if_pos h1]
   ·have e : plB (l.getD i z59) = [] := by unfold plB; rw [if_neg h1]
    rw [e, List.nil_append]
    refine Ev.step (fun k => ?_) (ih (i + 1) o (by omega) (by omega))
    simp only [spec_PlacesOf.j1, if_true, rdFt]
    rw [if_pos (by omega), if_pos (by omega), if_neg h1, w1' i (by omega)]
theorem plI_l (l : List S59) (hs : srB l = true) (d : Nat) : ∀ (i : Nat) (o : List S77), i + d = l.length → o.length ≤ i → Ev (fun k => impl_PlacesOf.l0 k o l (l.length : Int) (i : Int)) (o ++ plV (l.drop i)) := by
 have h16 := (src_iff.1 hs).2.2
 induction d with
 | zero =>
  intro i o hi ho
  rw [List.drop_of_length_le (by omega), show plV [] = [] from rfl, List.append_nil]
  refine Ev.step (f := fun _ => some o) (fun k => ?_) (Ev.now _)
  simp only [impl_PlacesOf.l0]
  rw [if_neg (by omega)]
 | succ d ih =>
  intro i o hi ho
  have hlt : i < l.length := by omega
  have hf := (src_iff.1 hs).1 i hlt
  rw [pl_drop l i hlt]
  by_cases h1 : (l.getD i z59).f1 = 1
  ·have h4 := (ft_one hf h1).1
   have := ih (i + 1) (o ++ plB (l.getD i z59)) (by omega) (by unfold plB; rw [if_pos h1]; simp; omega)
   rw [List.append_assoc] at this
   refine Ev.step (fun k => ?_) this
   simp only [impl_PlacesOf.l0, rdFt, rdPt0]
   rw [if_pos (by omega), if_pos (by omega), if_pos (by omega), if_pos h1, if_pos (by omega), if_pos (by omega), w1' i (by omega)]
   unfold plB
   rw [if_pos h1]
  ·have e : plB (l.getD i z59) = [] := by unfold plB; rw [if_neg h1]
   rw [e, List.nil_append]
   refine Ev.step (fun k => ?_) (ih (i + 1) o (by omega) (by omega))
   simp only [impl_PlacesOf.l0, rdFt]
   rw [if_pos (by omega), if_pos (by omega), if_pos (by omega), if_neg h1, w1' i (by omega)]
theorem plV_mem {l : List S59} {p : S77} : p ∈ plV l ↔ ∃ x ∈ l, x.f1 = 1 ∧ p = ⟨x.f0, ⟨(x.f4.getD 0 z75).f0, (x.f4.getD 0 z75).f1⟩, x.f2⟩ := by
 unfold plV plB
 rw [List.mem_flatMap]
 constructor
 ·rintro ⟨x, hx, hp⟩
  split at hp
  ·rename_i h; rw [List.mem_singleton] at hp; exact ⟨x, hx, h, hp⟩
  ·cases hp
 ·rintro ⟨x, hx, h, rfl⟩
  exact ⟨x, hx, by rw [if_pos h]; exact List.mem_singleton_self _⟩
theorem plV_len : ∀ l : List S59, (plV l).length ≤ l.length
 | [] => by simp [plV]
 | x :: l => by
  have := plV_len l
  unfold plV at this ⊢
  rw [List.flatMap_cons, List.length_append, List.length_cons]
  have : (plB x).length ≤ 1 := by unfold plB; split <;> simp
  omega
theorem plV_asc : ∀ {l : List S59}, l.Pairwise (fun a b => a.f0 < b.f0) → (plV l).Pairwise (fun a b => a.f0 < b.f0)
 | [], _ => List.Pairwise.nil
 | x :: l, h => by
  have h' := List.pairwise_cons.1 h
  show ((x :: l).flatMap plB).Pairwise _
  rw [List.flatMap_cons, List.pairwise_append]
  refine ⟨?_, plV_asc h'.2, ?_⟩
  ·unfold plB
   split
   ·exact List.pairwise_singleton _ _
   ·exact List.Pairwise.nil
  ·intro a ha b hb
   obtain ⟨y, hy, _, rfl⟩ := plV_mem.1 hb
   unfold plB at ha
   split at ha
   ·rw [List.mem_singleton] at ha; subst ha; exact h'.1 y hy
   ·cases ha
/-- Places that a source's points give are places. -/
def okP (l : List S77) : Prop := (∀ p ∈ l, (1 ≤ p.f0 ∧ p.f0 ≤ 99) ∧ isPt p.f1.f0 p.f1.f1 = true ∧ 0 ≤ p.f2 ∧ p.f2 ≤ 9) ∧ l.Pairwise (fun a b => a.f0 < b.f0) ∧ l.length ≤ 16
theorem pl_ok {l : List S59} (hs : srB l = true) : okP (plV l) := by
 refine ⟨fun p hp => ?_, plV_asc (src_iff.1 hs).2.1, Nat.le_trans (plV_len l) (src_iff.1 hs).2.2⟩
 obtain ⟨x, hx, h1, rfl⟩ := plV_mem.1 hp
 have hf := src_all hs x hx
 have hr := ft_rank hf
 exact ⟨hr.1, (ft_one hf h1).2, hr.2⟩
theorem rdPl (l : List S77) (i : Nat) : rd_T77 l (i : Int) = l.getD i z77 := by unfold rd_T77; rw [Int.toNat_natCast]
theorem getPl_at (l : List S77) (i : Nat) (h : i < l.length) : l.getD i z77 = l[i] := by rw [List.getD_eq_getElem?_getD, List.getElem?_eq_getElem h]; rfl
theorem inR_t {a b c : Int} (h : b ≤ a ∧ a ≤ c) : inR a b c = true := by unfold inR; rw [decide_eq_true h.1, decide_eq_true h.2]; rfl
theorem arS_l (l : List S77) (hl : okP l) (d : Nat) : ∀ i : Nat, i + d = l.length → Ev (fun k => spec_ArePlaces.l0 k l (i : Int)) true := by
 have h16 := hl.2.2
 induction d with
 | zero =>
  intro i hi
  refine Ev.step (f := fun _ => some true) (fun k => ?_) (Ev.now _)
  simp only [spec_ArePlaces.l0]
  rw [if_neg (by omega), decide_eq_true (by omega)]
 | succ d ih =>
  intro i hi
  have hlt : i < l.length := by omega
  have hp := hl.1 _ (List.getElem_mem hlt)
  rw [← getPl_at l i hlt] at hp
  refine Ev.step (fun k => ?_) (ih (i + 1) (by omega))
  simp only [spec_ArePlaces.l0, rdPl, spec_l1In.f, spec_IsPoint.f, Option.bind_some, inR_t hp.1, inR_t hp.2.2, hp.2.1, if_true]
  rw [if_pos (by omega), if_pos (by omega)]
  by_cases h0 : i = 0
  ·subst h0
   rw [if_neg (by omega), w1' 0 (by omega)]
  ·have w : wrap64 ((i : Int) - 1) = ((i - 1 : Nat) : Int) := by unfold wrap64; omega
   have hlt2 := List.pairwise_iff_getElem.1 hl.2.1 (i - 1) i (by omega) hlt (by omega)
   rw [← getPl_at l i hlt, ← getPl_at l (i - 1) (by omega)] at hlt2
   rw [if_pos (by omega), w, if_pos (by omega), if_pos (by omega), rdPl, if_neg (by omega), w1' i (by omega)]
theorem arI_l (l : List S77) (hl : okP l) (d : Nat) : ∀ i : Nat, i + d = l.length → Ev (fun k => impl_ArePlaces.l0 k l l (l.length : Int) (i : Int)) true := by
 have h16 := hl.2.2
 induction d with
 | zero =>
  intro i hi
  refine Ev.step (f := fun _ => some true) (fun k => ?_) (Ev.now _)
  simp only [impl_ArePlaces.l0]
  rw [if_neg (by omega)]
 | succ d ih =>
  intro i hi
  have hlt : i < l.length := by omega
  have hp := hl.1 _ (List.getElem_mem hlt)
  rw [← getPl_at l i hlt] at hp
  refine Ev.step (fun k => ?_) (ih (i + 1) (by omega))
  simp only [impl_ArePlaces.l0, rdPl, impl_InRange.f, impl_IsPoint.f, Option.bind_some, inR_t hp.1, inR_t hp.2.2, hp.2.1, if_true]
  rw [if_pos (by omega), if_pos (by omega), if_pos (by omega)]
  by_cases h0 : i = 0
  ·subst h0
   rw [if_neg (by omega), w1' 0 (by omega)]
  ·have w : wrap64 ((i : Int) - 1) = ((i - 1 : Nat) : Int) := by unfold wrap64; omega
   have hlt2 := List.pairwise_iff_getElem.1 hl.2.1 (i - 1) i (by omega) hlt (by omega)
   rw [← getPl_at l i hlt, ← getPl_at l (i - 1) (by omega)] at hlt2
   rw [if_pos (by omega), w, if_pos (by omega), if_pos (by omega), rdPl, if_neg (by omega), w1' i (by omega)]
/-- The square of the distance is the same both ways. -/
theorem far_sym {a b c d : Int} (h1 : isPt a b = true) (h2 : isPt c d = true) : spec_FarSquared.f a b c d = impl_FarSquared.f c d a b := by
 have b1 := isPt_bd h1
 have b2 := isPt_bd h2
 unfold spec_FarSquared.f impl_FarSquared.f spec_IsPoint.f impl_IsPoint.f
 simp only [h1, h2, Option.bind_some, if_true]
 have w1 : wrap64 (a - c) = a - c := by unfold wrap64; omega
 have w2 : wrap64 (b - d) = b - d := by unfold wrap64; omega
 have w3 : wrap64 (c - a) = c - a := by unfold wrap64; omega
 have w4 : wrap64 (d - b) = d - b := by unfold wrap64; omega
 rw [w1, w2, w3, w4, show (a - c) * (a - c) = (c - a) * (c - a) by rw [← Int.neg_mul_neg, Int.neg_sub], show (b - d) * (b - d) = (d - b) * (d - b) by rw [← Int.neg_mul_neg, Int.neg_sub]]
theorem kp_eq (F : Int) (y : S77) (hy : isPt y.f1.f0 y.f1.f1 = true) : ∀ (l : List S77) (b : Bool), (∀ x ∈ l, isPt x.f1.f0 x.f1.f1 = true) → kpS F y l b = kpI F y l b ∧ ∃ c, kpS F y l b = some c
 | [], b, _ => ⟨rfl, b, rfl⟩
 | x :: r, false, h => by
  have := kp_eq F y hy r false (fun z hz => h z (List.mem_cons_of_mem _ hz))
  exact ⟨by rw [kpS, kpI, this.1], by rw [kpS]; exact this.2⟩
 | x :: r, true, h => by
  have hx := h x (List.mem_cons_self ..)
  have e := far_sym hx hy
  have hs : ∃ t, spec_FarSquared.f x.f1.f0 x.f1.f1 y.f1.f0 y.f1.f1 = some t := by
   unfold spec_FarSquared.f spec_IsPoint.f
   simp only [hx, hy, Option.bind_some, if_true]
   exact ⟨_, rfl⟩
  obtain ⟨t, ht⟩ := hs
  have := kp_eq F y hy r (decide (F ≤ t)) (fun z hz => h z (List.mem_cons_of_mem _ hz))
  refine ⟨?_, ?_⟩
  ·rw [kpS, kpI, ← e, ht, Option.bind_some, Option.bind_some, this.1]
  ·rw [kpS, ht, Option.bind_some]; exact this.2
theorem kept_eq (F : Int) : ∀ (l out : List S77), (∀ x ∈ l, isPt x.f1.f0 x.f1.f1 = true) → (∀ x ∈ out, isPt x.f1.f0 x.f1.f1 = true) → ∃ v, keptS F l out = some v ∧ keptI F l out = some v ∧ (∃ m, v = out ++ m ∧ m.Sublist l)
 | [], out, _, _ => ⟨out, rfl, rfl, [], by simp, List.Sublist.refl _⟩
 | y :: r, out, h, ho => by
  have hy := h y (List.mem_cons_self ..)
  obtain ⟨e, c, hc⟩ := kp_eq F y hy out true ho
  have hr : ∀ x ∈ r, isPt x.f1.f0 x.f1.f1 = true := fun x hx => h x (List.mem_cons_of_mem _ hx)
  cases c with
  | false =>
   obtain ⟨v, v1, v2, m, hm, hs⟩ := kept_eq F r out hr ho
   exact ⟨v, by rw [keptS, hc, Option.bind_some, if_neg (by decide), v1], by rw [keptI, ← e, hc, Option.bind_some, if_neg (by decide), v2], m, hm, hs.cons _⟩
  | true =>
   obtain ⟨v, v1, v2, m, hm, hs⟩ := kept_eq F r (out ++ [y]) hr (fun x hx => by
    rcases List.mem_append.1 hx with hx | hx
    ·exact ho x hx
    ·rw [List.mem_singleton] at hx; subst hx; exact hy)
   exact ⟨v, by rw [keptS, hc, Option.bind_some, if_pos rfl, v1], by rw [keptI, ← e, hc, Option.bind_some, if_pos rfl, v2], y :: m, by rw [hm]; simp, hs.cons_cons _⟩
theorem thS_l (K : List S77) (hK : K.length ≤ 100) (d : Nat) : ∀ (i : Nat) (o : List Int), i + d = K.length → o.length ≤ i → Ev (fun k => spec_ThinPlaces.l0 k o K (i : Int)) (putAll o ((K.drop i).map (·.f0))) := by
 induction d with
 | zero =>
  intro i o hi ho
  rw [List.drop_of_length_le (by omega), List.map_nil]
  refine Ev.step (f := fun _ => some o) (fun k => ?_) (Ev.now _)
  simp only [spec_ThinPlaces.l0]
  rw [if_neg (by omega)]
 | succ d ih =>
  intro i o hi ho
  have hlt : i < K.length := by omega
  rw [List.drop_eq_getElem_cons hlt, List.map_cons]
  have hp := put o (K.getD i z77).f0 (by omega)
  have hl := putL_len o (K.getD i z77).f0
  have := ih (i + 1) (putL o (K.getD i z77).f0) (by omega) (by omega)
  rw [← getPl_at K i hlt]
  refine Ev.step (f := fun k => (spec_l14Put.f k o (K.getD i z77).f0).bind fun t => spec_ThinPlaces.l0 k t K ((i + 1 : Nat) : Int)) (fun k => ?_) (Ev.bind hp this)
  simp only [spec_ThinPlaces.l0, rdPl]
  rw [if_pos (by omega), if_pos (by omega), w1' i (by omega)]
theorem thI_l (K : List S77) (hK : K.length ≤ 100) (d : Nat) : ∀ (i : Nat) (o : List Int), i + d = K.length → o.length ≤ i → Ev (fun k => impl_ThinPlaces.l0 k o K (K.length : Int) (i : Int)) ((o ++ (K.drop i).map (·.f0)).mergeSort fun x y => decide (x ≤ y)) := by
 induction d with
 | zero =>
  intro i o hi ho
  rw [List.drop_of_length_le (by omega), List.map_nil, List.append_nil]
  refine Ev.step (f := fun _ => some (o.mergeSort fun x y => decide (x ≤ y))) (fun k => ?_) (Ev.now _)
  simp only [impl_ThinPlaces.l0, slices_Sort_int_int.f]
  rw [if_neg (by omega), if_pos (by omega)]
  rfl
 | succ d ih =>
  intro i o hi ho
  have hlt : i < K.length := by omega
  have := ih (i + 1) (o ++ [(K.getD i z77).f0]) (by omega) (by simp; omega)
  rw [List.append_assoc, List.singleton_append] at this
  rw [List.drop_eq_getElem_cons hlt, List.map_cons, ← getPl_at K i hlt]
  refine Ev.step (fun k => ?_) this
  simp only [impl_ThinPlaces.l0, rdPl]
  rw [if_pos (by omega), if_pos (by omega), if_pos (by omega), if_pos (by omega), w1' i (by omega)]
theorem sort_asc {l : List Int} (hd : l.Pairwise (· ≠ ·)) : Asc (l.mergeSort fun x y => decide (x ≤ y)) := by
 have h := List.pairwise_mergeSort (le := fun x y : Int => decide (x ≤ y)) (fun a b c h1 h2 => by simp at *; omega) (fun a b => by simp; omega) l
 have hp := List.mergeSort_perm l (fun x y : Int => decide (x ≤ y))
 have hd' : (l.mergeSort fun x y => decide (x ≤ y)).Pairwise (· ≠ ·) := (hp.pairwise_iff (fun {x y} h => fun e => h e.symm)).2 hd
 exact (h.and hd').imp (fun h => by have h1 := h.1; have h2 := h.2; simp at h1; omega)
theorem sort_mem (l : List Int) (x : Int) : x ∈ (l.mergeSort fun x y => decide (x ≤ y)) ↔ x ∈ l := (List.mergeSort_perm l _).mem_iff
/-- The ids of the places kept. -/
theorem thin_both (P : List S77) (hP : okP P) (far : Int) (hf : 0 ≤ far ∧ far ≤ 200) : ∃ T : List Int, Asc T ∧ T.length ≤ 16 ∧ (∀ x ∈ T, ∃ p ∈ P, p.f0 = x) ∧ Ev (fun k => spec_ThinPlaces.f k P far) T ∧ Ev (fun k => impl_ThinPlaces.f k P far) T := by
 have h16 := hP.2.2
 have hpt : ∀ x ∈ sortL P, isPt x.f1.f0 x.f1.f1 = true := fun x hx => (hP.1 x ((sortL_mem P x).1 hx)).2.1
 obtain ⟨K, k1, k2, m, hm, hs⟩ := kept_eq (wrap64 (far * far)) (sortL P) [] hpt (fun x hx => by cases hx)
 rw [List.nil_append] at hm
 subst hm
 have hKl : K.length ≤ 16 := by have := hs.length_le; rw [sortL_len] at this; omega
 have hdis : (K.map (·.f0)).Pairwise (· ≠ ·) := List.pairwise_map.2 ((apart_sort hP.2.1).sublist hs)
 have e : putAll [] (K.map (·.f0)) = (K.map (·.f0)).mergeSort fun x y => decide (x ≤ y) := asc_eq (putAll_asc _ _ List.Pairwise.nil) (sort_asc hdis) (fun x => by rw [putAll_mem, sort_mem]; simp)
 have aS := arS_l P hP P.length 0 (by omega)
 have aI := arI_l P hP P.length 0 (by omega)
 have lk : spec_l14Kept.f P far = some K := by unfold spec_l14Kept.f; rw [if_pos (by omega), k1]
 have fa : impl_fromAbove.f P = some (sortL P) := by unfold impl_fromAbove.f; rw [if_pos (by omega)]
 have tS := thS_l K (by omega) K.length 0 [] (by omega) (by simp)
 have tI := thI_l K (by omega) K.length 0 [] (by omega) (by simp)
 rw [List.drop_zero] at tS tI
 rw [List.nil_append, ← e] at tI
 refine ⟨putAll [] (K.map (·.f0)), putAll_asc _ _ List.Pairwise.nil, ?_, ?_, ?_, ?_⟩
 ·have := putAll_len (K.map (·.f0)) []
  simp at this
  omega
 ·intro x hx
  rw [putAll_mem] at hx
  rcases hx with hx | hx
  ·cases hx
  ·obtain ⟨p, hp, rfl⟩ := List.mem_map.1 hx
   exact ⟨p, (sortL_mem P p).1 (hs.subset hp), rfl⟩
 ·unfold spec_ThinPlaces.f
  simp only [Option.bind_some]
  refine Ev.bind (show Ev (fun k => spec_ArePlaces.f k P) true from aS) ?_
  simp only [if_true, spec_l1In.f, Option.bind_some, inR_t hf, Bool.not_true]
  refine Ev.step (f := fun k => (spec_l14Kept.f P far).bind fun t => spec_ThinPlaces.l0 k [] t 0) (fun k => by simp [spec_ThinPlaces.j0]) ?_
  simp only [lk, Option.bind_some]
  exact tS
 ·unfold impl_ThinPlaces.f impl_keptPlaces.f
  have ki : Ev (fun k => (impl_ArePlaces.f k P).bind fun a => if a = true then (impl_InRange.f far 0 200).bind fun b => if b = true then (impl_fromAbove.f P).bind fun s => if s.length < 1000000 then keptI (wrap64 (far * far)) s [] else none else some [] else some []) K := by
   refine Ev.bind (show Ev (fun k => impl_ArePlaces.f k P) true from by unfold impl_ArePlaces.f; simp only [if_neg (show ¬ (P.length : Int) > 16 by omega)]; exact aI) ?_
   simp only [if_true, impl_InRange.f, Option.bind_some, inR_t hf, fa, if_pos (show (sortL P).length < 1000000 by rw [sortL_len]; omega), k2]
   exact Ev.now _
  exact Ev.bind ki tI
/-- Which ids are shown. -/
def shB (T : List Int) (x : S59) : List Int := if x.f1 = 1 then (if x.f0 ∈ T then [x.f0] else []) else [x.f0]
theorem shS_l (T : List Int) (hT : T.length ≤ 1000000) (R : List S59) (hR : R.length ≤ 1000000) (d : Nat) : ∀ (i : Nat) (o : List Int), i + d = R.length → o.length ≤ i → Ev (fun k => spec_ShownIds.l0 k o R T (i : Int)) (o ++ (R.drop i).flatMap (shB T)) := by
 induction d with
 | zero =>
  intro i o hi ho
  rw [List.drop_of_length_le (by omega), List.flatMap_nil, List.append_nil]
  refine Ev.step (f := fun _ => some o) (fun k => ?_) (Ev.now _)
  simp only [spec_ShownIds.l0]
  rw [if_neg (by omega)]
 | succ d ih =>
  intro i o hi ho
  have hlt : i < R.length := by omega
  have hh := has_f T hT (R.getD i z59).f0
  rw [List.drop_eq_getElem_cons hlt, List.flatMap_cons, ← getFt_at R i hlt]
  by_cases h1 : (R.getD i z59).f1 = 1
  ·by_cases hm : (R.getD i z59).f0 ∈ T
   ·rw [decide_eq_true hm] at hh
    have := ih (i + 1) (o ++ [(R.getD i z59).f0]) (by omega) (by simp; omega)
    rw [List.append_assoc] at this
    rw [show shB T (R.getD i z59) = [(R.getD i z59).f0] by unfold shB; rw [if_pos h1, if_pos hm]]
    refine Ev.step (f := fun k => (spec_l14Has.f k T (R.getD i z59).f0).bind fun t => if t = true then (if o.length < 17592186044416 then spec_ShownIds.l0 k (o ++ [(R.getD i z59).f0]) R T ((i + 1 : Nat) : Int) else none) else spec_ShownIds.l0 k o R T ((i + 1 : Nat) : Int)) (fun k => ?_) (Ev.bind hh ?_)
    ·simp only [spec_ShownIds.l0, rdFt]
     rw [if_pos (by omega), if_pos (by omega), if_pos h1, w1' i (by omega)]
    ·simp only [if_true, if_pos (show o.length < 17592186044416 by omega)]
     exact this
   ·rw [decide_eq_false hm] at hh
    rw [show shB T (R.getD i z59) = [] by unfold shB; rw [if_pos h1, if_neg hm], List.nil_append]
    refine Ev.step (f := fun k => (spec_l14Has.f k T (R.getD i z59).f0).bind fun t => if t = true then (if o.length < 17592186044416 then spec_ShownIds.l0 k (o ++ [(R.getD i z59).f0]) R T ((i + 1 : Nat) : Int) else none) else spec_ShownIds.l0 k o R T ((i + 1 : Nat) : Int)) (fun k => ?_) (Ev.bind hh ?_)
    ·simp only [spec_ShownIds.l0, rdFt]
     rw [if_pos (by omega), if_pos (by omega), if_pos h1, w1' i (by omega)]
    ·simp only [Bool.false_eq_true, if_false]
     exact ih (i + 1) o (by omega) (by omega)
  ·have := ih (i + 1) (o ++ [(R.getD i z59).f0]) (by omega) (by simp; omega)
   rw [List.append_assoc] at this
   rw [show shB T (R.getD i z59) = [(R.getD i z59).f0] by unfold shB; rw [if_neg h1]]
   refine Ev.step (fun k => ?_) this
   simp only [spec_ShownIds.l0, rdFt]
   rw [if_pos (by omega), if_pos (by omega), if_neg h1, if_pos (by omega), w1' i (by omega)]
def npB (x : S59) : List Int := if x.f1 = 1 then [] else [x.f0]
theorem shI_l (R : List S59) (hR : R.length ≤ 1000000) (d : Nat) : ∀ (i : Nat) (o : List Int), i + d = R.length → o.length + d ≤ 2000000 → Ev (fun k => impl_ShownIds.l0 k o R (R.length : Int) (i : Int)) ((o ++ (R.drop i).flatMap npB).mergeSort fun x y => decide (x ≤ y)) := by
 induction d with
 | zero =>
  intro i o hi ho
  rw [List.drop_of_length_le (by omega), List.flatMap_nil, List.append_nil]
  refine Ev.step (f := fun _ => some (o.mergeSort fun x y => decide (x ≤ y))) (fun k => ?_) (Ev.now _)
  simp only [impl_ShownIds.l0, slices_Sort_int_int.f]
  rw [if_neg (by omega), if_pos (by omega)]
  rfl
 | succ d ih =>
  intro i o hi ho
  have hlt : i < R.length := by omega
  rw [List.drop_eq_getElem_cons hlt, List.flatMap_cons, ← getFt_at R i hlt]
  by_cases h1 : (R.getD i z59).f1 = 1
  ·rw [show npB (R.getD i z59) = [] by unfold npB; rw [if_pos h1], List.nil_append]
   refine Ev.step (fun k => ?_) (ih (i + 1) o (by omega) (by omega))
   simp only [impl_ShownIds.l0, rdFt]
   rw [if_pos (by omega), if_pos (by omega), if_pos (by omega), if_pos h1, w1' i (by omega)]
  ·have := ih (i + 1) (o ++ [(R.getD i z59).f0]) (by omega) (by simp; omega)
   rw [List.append_assoc] at this
   rw [show npB (R.getD i z59) = [(R.getD i z59).f0] by unfold npB; rw [if_neg h1]]
   refine Ev.step (fun k => ?_) this
   simp only [impl_ShownIds.l0, rdFt]
   rw [if_pos (by omega), if_pos (by omega), if_pos (by omega), if_neg h1, if_pos (by omega), w1' i (by omega)]
theorem sh_mem {T : List Int} {R : List S59} {x : Int} : x ∈ R.flatMap (shB T) ↔ ∃ f ∈ R, f.f0 = x ∧ (f.f1 = 1 → x ∈ T) := by
 rw [List.mem_flatMap]
 constructor
 ·rintro ⟨f, hf, hx⟩
  unfold shB at hx
  split at hx
  ·split at hx
   ·rename_i h; rw [List.mem_singleton] at hx; subst hx; exact ⟨f, hf, rfl, fun _ => h⟩
   ·cases hx
  ·rename_i h; rw [List.mem_singleton] at hx; subst hx; exact ⟨f, hf, rfl, fun h' => absurd h' h⟩
 ·rintro ⟨f, hf, rfl, h⟩
  refine ⟨f, hf, ?_⟩
  unfold shB
  split
  ·rename_i h1; rw [if_pos (h h1)]; exact List.mem_singleton_self _
  ·exact List.mem_singleton_self _
theorem np_mem {R : List S59} {x : Int} : x ∈ R.flatMap npB ↔ ∃ f ∈ R, f.f0 = x ∧ f.f1 ≠ 1 := by
 rw [List.mem_flatMap]
 constructor
 ·rintro ⟨f, hf, hx⟩
  unfold npB at hx
  split at hx
  ·cases hx
  ·rename_i h; rw [List.mem_singleton] at hx; subst hx; exact ⟨f, hf, rfl, h⟩
 ·rintro ⟨f, hf, rfl, h⟩
  exact ⟨f, hf, by unfold npB; rw [if_neg h]; exact List.mem_singleton_self _⟩
theorem sh_asc (T : List Int) : ∀ {R : List S59}, R.Pairwise (fun a b => a.f0 < b.f0) → Asc (R.flatMap (shB T))
 | [], _ => List.Pairwise.nil
 | x :: R, h => by
  have h' := List.pairwise_cons.1 h
  unfold Asc
  rw [List.flatMap_cons, List.pairwise_append]
  refine ⟨?_, sh_asc T h'.2, ?_⟩
  ·unfold shB; split
   ·split
    ·exact List.pairwise_singleton _ _
    ·exact List.Pairwise.nil
   ·exact List.pairwise_singleton _ _
  ·intro a ha b hb
   obtain ⟨f, hf, rfl, _⟩ := sh_mem.1 hb
   have : a = x.f0 := by
    unfold shB at ha
    split at ha
    ·split at ha
     ·exact List.mem_singleton.1 ha
     ·cases ha
    ·exact List.mem_singleton.1 ha
   subst this
   exact h'.1 f hf
theorem np_asc : ∀ {R : List S59}, R.Pairwise (fun a b => a.f0 < b.f0) → Asc (R.flatMap npB)
 | [], _ => List.Pairwise.nil
 | x :: R, h => by
  have h' := List.pairwise_cons.1 h
  unfold Asc
  rw [List.flatMap_cons, List.pairwise_append]
  refine ⟨?_, np_asc h'.2, ?_⟩
  ·unfold npB; split
   ·exact List.Pairwise.nil
   ·exact List.pairwise_singleton _ _
  ·intro a ha b hb
   obtain ⟨f, hf, rfl, _⟩ := np_mem.1 hb
   have : a = x.f0 := by
    unfold npB at ha
    split at ha
    ·cases ha
    ·exact List.mem_singleton.1 ha
   subst this
   exact h'.1 f hf
theorem np_len : ∀ R : List S59, (R.flatMap npB).length ≤ R.length
 | [] => by simp
 | x :: R => by
  have := np_len R
  rw [List.flatMap_cons, List.length_append, List.length_cons]
  have : (npB x).length ≤ 1 := by unfold npB; split <;> simp
  omega
def lvB (a b c : Int) : Bool := inR a 0 9 && (inR b 0 200 && inR c 0 100000)
theorem lv_s (a b c : Int) : spec_IsLevel.f a b c = some (lvB a b c) := by
 unfold spec_IsLevel.f lvB spec_l1In.f
 simp only [Option.bind_some]
 cases inR a 0 9
 ·rfl
 ·cases inR b 0 200 <;> rfl
theorem lv_i (a b c : Int) : impl_IsLevel.f a b c = some (lvB a b c) := by
 unfold impl_IsLevel.f lvB impl_InRange.f
 simp only [Option.bind_some]
 cases inR a 0 9
 ·rfl
 ·cases inR b 0 200 <;> rfl
theorem shown_both (L : List S59) (hL : L.length ≤ 1048576) (hx : ∀ x ∈ L, x.f3.size ≤ 9223372036854775807 ∧ x.f4.length < 9223372036854775807) (hx2 : ∀ x ∈ L, x.f4.length ≤ 1048576) (a b c : Int) : ∃ v : List Int, v.length ≤ 100 ∧ Ev (fun k => spec_ShownIds.f k L a b c) v ∧ Ev (fun k => impl_ShownIds.f k L a b c) v := by
 have s1 := src_s L (by omega) hx
 have s2 := src_i L (by omega) hx
 have dS : Ev (fun k => spec_ShownIds.j0 k L [] true a b c) [] := Ev.step (f := fun _ => some []) (fun k => by simp [spec_ShownIds.j0]) (Ev.now _)
 have dI : Ev (fun k => impl_ShownIds.j0 k L [] true a b c) [] := Ev.step (f := fun _ => some []) (fun k => by simp [impl_ShownIds.j0]) (Ev.now _)
 unfold spec_ShownIds.f impl_ShownIds.f
 simp only [Option.bind_some]
 cases hs : srB L with
 | false =>
  rw [hs] at s1 s2
  refine ⟨[], by simp, Ev.bind s1 ?_, Ev.bind s2 ?_⟩
  ·simp only [Bool.false_eq_true, if_false]; exact dS
  ·simp only [Bool.false_eq_true, if_false]; exact dI
 | true =>
  rw [hs] at s1 s2
  cases hv : lvB a b c with
  | false =>
   refine ⟨[], by simp, Ev.bind s1 ?_, Ev.bind s2 ?_⟩
   ·simp only [if_true, lv_s, hv, Option.bind_some, Bool.not_false]; exact dS
   ·simp only [if_true, lv_i, hv, Option.bind_some, Bool.not_false]; exact dI
  | true =>
   have hsub : (rkV L a).Sublist L := List.filter_sublist
   have hsR := src_sub hs hsub
   have hR := src_iff.1 hsR
   have hxR : ∀ x ∈ rkV L a, x.f3.size ≤ 9223372036854775807 ∧ x.f4.length < 9223372036854775807 := fun x h => hx x (hsub.subset h)
   have r1 := rkS_l L hL hx2 a L.length 0 [] (by omega) (by simp)
   have r2 := rkI_l L hL a L.length 0 [] (by omega) (by simp)
   rw [List.drop_zero, List.nil_append] at r1 r2
   have p1 := plS_l (rkV L a) hsR hxR (rkV L a).length 0 [] (by omega) (by simp)
   have p2 := plI_l (rkV L a) hsR (rkV L a).length 0 [] (by omega) (by simp)
   rw [List.drop_zero, List.nil_append] at p1 p2
   have q1 := src_i (rkV L a) (by omega) hxR
   rw [hsR] at q1
   have hb : 0 ≤ b ∧ b ≤ 200 := by unfold lvB inR at hv; simp only [Bool.and_eq_true, decide_eq_true_eq] at hv; omega
   obtain ⟨T, hT, hTl, hTm, t1, t2⟩ := thin_both (plV (rkV L a)) (pl_ok hsR) b hb
   have e1 := shS_l T (by omega) (rkV L a) (by omega) (rkV L a).length 0 [] (by omega) (by simp)
   have e2 := shI_l (rkV L a) (by omega) (rkV L a).length 0 T (by omega) (by omega)
   rw [List.drop_zero] at e1 e2
   rw [List.nil_append] at e1
   have inj : ∀ f g : S59, f ∈ rkV L a → g ∈ rkV L a → f.f0 = g.f0 → f = g := by
    intro f g hf hg e
    obtain ⟨i, hi, rfl⟩ := List.getElem_of_mem hf
    obtain ⟨j, hj, rfl⟩ := List.getElem_of_mem hg
    rcases Nat.lt_trichotomy i j with h | h | h
    ·have := List.pairwise_iff_getElem.1 hR.2.1 i j hi hj h; omega
    ·subst h; rfl
    ·have := List.pairwise_iff_getElem.1 hR.2.1 j i hj hi h; omega
   have hTp : ∀ x ∈ T, ∃ f ∈ rkV L a, f.f0 = x ∧ f.f1 = 1 := by
    intro x hx
    obtain ⟨p, hp, rfl⟩ := hTm x hx
    obtain ⟨f, hf, h1, rfl⟩ := plV_mem.1 hp
    exact ⟨f, hf, rfl, h1⟩
   have hdis : (T ++ (rkV L a).flatMap npB).Pairwise (· ≠ ·) := by
    rw [List.pairwise_append]
    refine ⟨hT.imp (fun h => by omega), (np_asc hR.2.1).imp (fun h => by omega), ?_⟩
    intro x hx y hy e
    subst e
    obtain ⟨f, hf, h1, h2⟩ := hTp x hx
    obtain ⟨g, hg, h3, h4⟩ := np_mem.1 hy
    have := inj f g hf hg (by rw [h1, h3])
    subst this
    exact h4 h2
   have ev : (rkV L a).flatMap (shB T) = (T ++ (rkV L a).flatMap npB).mergeSort fun x y => decide (x ≤ y) := asc_eq (sh_asc T hR.2.1) (sort_asc hdis) (fun x => by
    rw [sort_mem, List.mem_append, sh_mem, np_mem]
    constructor
    ·rintro ⟨f, hf, rfl, h⟩
     by_cases h1 : f.f1 = 1
     ·exact .inl (h h1)
     ·exact .inr ⟨f, hf, rfl, h1⟩
    ·rintro (hx | ⟨f, hf, rfl, h1⟩)
     ·obtain ⟨f, hf, h1, h2⟩ := hTp x hx
      exact ⟨f, hf, h1, fun _ => hx⟩
     ·exact ⟨f, hf, rfl, fun h => absurd h h1⟩)
   refine ⟨(rkV L a).flatMap (shB T), ?_, Ev.bind s1 ?_, Ev.bind s2 ?_⟩
   ·rw [ev, List.length_mergeSort, List.length_append]
    have := np_len (rkV L a)
    omega
   ·simp only [if_true, lv_s, hv, Option.bind_some, Bool.not_true]
    refine Ev.step (f := fun k => (spec_l23Ranked.f k L a).bind fun t => (spec_PlacesOf.f k t).bind fun u => (spec_ThinPlaces.f k u b).bind fun v => spec_ShownIds.l0 k [] t v 0) (fun k => by simp [spec_ShownIds.j0]) (Ev.bind (show Ev (fun k => spec_l23Ranked.f k L a) (rkV L a) from r1) (Ev.bind (show Ev (fun k => spec_PlacesOf.f k (rkV L a)) _ from p1) (Ev.bind t1 e1)))
   ·simp only [if_true, lv_i, hv, Option.bind_some, Bool.not_true]
    rw [ev]
    refine Ev.step (f := fun k => (impl_ranked.f k L a).bind fun t => (impl_PlacesOf.f k t).bind fun u => (impl_ThinPlaces.f k u b).bind fun v => impl_ShownIds.l0 k v t (t.length : Int) 0) (fun k => by simp [impl_ShownIds.j0]) (Ev.bind (show Ev (fun k => impl_ranked.f k L a) (rkV L a) from r2) (Ev.bind ?_ (Ev.bind t2 e2)))
    unfold impl_PlacesOf.f
    simp only [Option.bind_some]
    refine Ev.bind q1 ?_
    simp only [if_true]
    exact p2
theorem main : ∀ (l0 : List (S52)) (a1_0 : Int) (a1_1 : Int) (a1_2 : Int), (l0.length ≤ 9223372036854775807 ∧ ∀ x ∈ l0, ((Lit.int .i64 x.f0).wf = true ∧ (Lit.int .i64 x.f1).wf = true ∧ (Lit.int .i64 x.f2).wf = true ∧ x.f3.size ≤ 9223372036854775807 ∧ (x.f4.length ≤ 9223372036854775807 ∧ ∀ y ∈ x.f4, ((Lit.int .i64 y.f0).wf = true ∧ (Lit.int .i64 y.f1).wf = true)))) → (Lit.int .i64 a1_0).wf = true → (Lit.int .i64 a1_1).wf = true → (Lit.int .i64 a1_2).wf = true → ∃ k, laws_FnExactShownIds.f k l0 a1_0 a1_1 a1_2 = some true := by
 intro l a b c hl _ _ _
 refine Ev.rounds (r := true) ?_
 unfold laws_FnExactShownIds.f
 obtain ⟨r, hr, hb⟩ := szFeatures l (fun x hx => ⟨(hl.2 x hx).2.2.2.1, (hl.2 x hx).2.2.2.2.1⟩) hl.1
 refine Ev.bind hr ?_
 by_cases hc : r < 0
 ·simp only [if_pos hc]; exact Ev.now _
 ·simp only [if_neg hc]
  obtain ⟨h1, h2⟩ := hb hc
  have t := toFeatures l h1 (fun x hx => (h2 x hx).2)
  have hxL : ∀ x ∈ l.map convF, x.f3.size ≤ 9223372036854775807 ∧ x.f4.length < 9223372036854775807 := by
   intro x hx
   obtain ⟨y, hy, rfl⟩ := List.mem_map.1 hx
   have := h2 y hy
   unfold convF
   simp only [List.length_map]
   omega
  have hxL2 : ∀ x ∈ l.map convF, x.f4.length ≤ 1048576 := by
   intro x hx
   obtain ⟨y, hy, rfl⟩ := List.mem_map.1 hx
   have := h2 y hy
   unfold convF
   simp only [List.length_map]
   omega
  have hL1 : (l.map convF).length ≤ 1048576 := by simpa using h1
  have hL : (l.map convF).length < 9223372036854775807 := by omega
  generalize l.map convF = L at t hxL hxL2 hL1 hL
  obtain ⟨A, hA, s1, s2⟩ := shown_both L hL1 hxL hxL2 a b c
  have ei := eqInts A A (by omega)
  rw [decide_eq_true rfl] at ei
  have ef := eqFeatures L hL (fun x hx => (hxL x hx).2)
  have mf := markF L hL1 hxL2
  have m1 := markInts A (by omega)
  have m2 := heldInts A.length (by omega)
  refine Ev.bind t ?_
  simp only [laws_toLevel.f, Option.bind_some]
  refine (Ev.bind s1 (Ev.bind s2 (Ev.bind ei (Ev.bind ef ?_))))
  simp only [mf, Option.bind_some]
  refine Ev.bind m1 (Ev.bind m2 ?_)
  have c1 : (0 : Int) ≤ 1 + (mfT L : Int) := by omega
  have c2 : (0 : Int) ≤ 1 + (A.length : Int) := by omega
  rw [if_pos ⟨trivial, trivial, c1, c2, rfl⟩]
  exact Ev.now _
end Go.Proofs.YtkomgmgpgnjooaaGreat.Pure.FnExactShownIds
