/- A feature made simpler: the program and the reference answer the same: a corner that may be left out has a size that is not below 0, so that the test which the program leaves out would let it through. No condition. -/
import Derived.Test.YtkebhlkbnnlegaaPFnExactShrinkFeaturex
import Derived.Test.YtkebhlkbnnlegaaArea
namespace Go.Proofs.Ytkebhlkbnnlegaa.Pure.FnExactShrinkFeature
open Go Go.RowKit Go.Proofs.Ytkebhlkbnnlegaa.PFnExactShrinkFeature Go.Proofs.YtkebhlkbnnlegaaW.PrintWords Go.Proofs.YtkebhlkbnnlegaaW.PrintLast Go.Proofs.YtkebhlkbnnlegaaW.PrintMore Go.Proofs.YtkebhlkbnnlegaaGeo
set_option linter.unusedVariables false
set_option linter.unusedSimpArgs false
open Go.Proofs.YtkebhlkbnnlegaaMeet Go.Proofs.YtkebhlkbnnlegaaArea
theorem w1 (i : Nat) (h : i < 9223372036854775807) : wrap64 ((i : Int) + 1) = ((i + 1 : Nat) : Int) := by unfold wrap64; omega
theorem rd_at (l : List Int) (i : Nat) (h : i < l.length) : rd l (i : Int) = l[i] := by
  unfold rd
  rw [Int.toNat_natCast, List.getD_eq_getElem?_getD, List.getElem?_eq_getElem h]
  rfl
theorem how_s (a b c d e f g h : Int) : Ev (fun _ => spec_HowMeet.f a b c d e f g h) (howS a b c d e f g h) := Ev.now _
theorem before_key {x y x' y' : Int} (h : isPt x y = true) (h' : isPt x' y' = true) : beforeI x y x' y' = decide (kyI x y < kyI x' y') := by
  rw [isPt_iff] at h h'
  unfold beforeI kyI
  rw [Bool.eq_iff_iff]; simp; omega
theorem j3_i (a b c d : Int) (h : isPt a b = true) (h' : isPt c d = true) : Ev (fun k => impl_HowMeet.j3 k a b c d) (if kyI c d < kyI a b then 0 else if kyI a b = kyI c d then 1 else 3) := by
  refine Ev.step (f := fun _ => some (if kyI c d < kyI a b then 0 else if kyI a b = kyI c d then 1 else 3)) (fun k => ?_) (Ev.now _)
  simp only [impl_HowMeet.j3, impl_BeforePoint.f, before_key h' h, Option.bind_some, decide_eq_true_eq]
  have e : (a == c && b == d) = decide (kyI a b = kyI c d) := by
    rw [← ky_inj h h']
    rw [Bool.eq_iff_iff]; simp
  rw [e]
  by_cases z : kyI c d < kyI a b
  · rw [if_pos z, if_pos z]
  · rw [if_neg z, if_neg z]
    by_cases z' : kyI a b = kyI c d
    · simp [z']
    · simp [z']
theorem j2_i (e f g h a b c d : Int) (h1 : isPt g h = true) (h2 : isPt a b = true) (h3 : isPt c d = true) : Ev (fun k => impl_HowMeet.j2 k e f g h a b c d) (if mn (kyI c d) (kyI g h) < kyI a b then 0 else if kyI a b = mn (kyI c d) (kyI g h) then 1 else 3) := by
  refine Ev.step (f := fun k => if kyI g h < kyI c d then impl_HowMeet.j3 k a b g h else impl_HowMeet.j3 k a b c d) (fun k => ?_) ?_
  · simp only [impl_HowMeet.j2, impl_BeforePoint.f, before_key h1 h3, Option.bind_some, decide_eq_true_eq]
  · unfold mn
    by_cases z : kyI g h < kyI c d
    · simp only [if_pos z]; exact j3_i a b g h h2 h1
    · simp only [if_neg z]; exact j3_i a b c d h2 h3
theorem fwd_i (a b c d : Int) (h : isPt a b = true) (h' : isPt c d = true) : ∃ x y u v, impl_forward.f a b c d = some (x, y, u, v) ∧ isPt x y = true ∧ isPt u v = true ∧ kyI x y = mn (kyI a b) (kyI c d) ∧ kyI u v = mx (kyI a b) (kyI c d) := by
  unfold impl_forward.f impl_BeforePoint.f impl_TurnSegment.f
  simp only [before_key h' h, Option.bind_some, decide_eq_true_eq]
  by_cases z : kyI c d < kyI a b
  · exact ⟨c, d, a, b, by rw [if_pos z], h', h, by unfold mn; rw [if_pos z], by unfold mx; rw [if_neg (by omega)]⟩
  · exact ⟨a, b, c, d, by rw [if_neg z], h, h', by unfold mn; rw [if_neg z], by unfold mx; split <;> omega⟩
theorem how_i (a b c d e f g h : Int) : Ev (fun k => impl_HowMeet.f k a b c d e f g h) (howS a b c d e f g h) := by
  rw [← how_eq]
  unfold impl_HowMeet.f howP impl_IsSegment.f
  simp only [Option.bind_some]
  have dead : Ev (fun k => impl_HowMeet.j0 k true a b c d e f g h) 0 := Ev.step (f := fun _ => some 0) (fun k => by simp [impl_HowMeet.j0]) (Ev.now _)
  cases h1 : isSeg a b c d
  · simp only [Bool.false_eq_true, if_false, true_or, if_true]; exact dead
  · cases h2 : isSeg e f g h
    · simp only [if_true, Bool.not_false, or_true]; exact dead
    · simp only [if_true, Bool.not_true, Bool.true_eq_false, or_self, if_false]
      obtain ⟨ha, hc, _⟩ := isSeg_iff.mp h1
      obtain ⟨he, hg, _⟩ := isSeg_iff.mp h2
      have j4t : Ev (fun k => impl_HowMeet.j4 k true a b c d e f g h) 2 := Ev.step (f := fun _ => some 2) (fun k => by simp [impl_HowMeet.j4]) (Ev.now _)
      have j4f : Ev (fun k => impl_HowMeet.j4 k false a b c d e f g h) (if isOnI a b c d e f || isOnI a b c d g h || isOnI e f g h a b || isOnI e f g h c d then 1 else 0) := by
        refine Ev.step (f := fun _ => some (if isOnI a b c d e f || isOnI a b c d g h || isOnI e f g h a b || isOnI e f g h c d then 1 else 0)) (fun k => ?_) (Ev.now _)
        simp only [impl_HowMeet.j4, impl_IsOn.f, Option.bind_some, Bool.false_eq_true, if_false]
        cases isOnI a b c d e f <;> cases isOnI a b c d g h <;> cases isOnI e f g h a b <;> cases isOnI e f g h c d <;> rfl
      by_cases hcol : sideI a b c d e f = 0 ∧ sideI a b c d g h = 0
      · rw [if_pos hcol]
        obtain ⟨x, y, u, v, f1, p1, p2, k1, k2⟩ := fwd_i a b c d ha hc
        obtain ⟨x', y', u', v', f2, p1', p2', k1', k2'⟩ := fwd_i e f g h he hg
        refine Ev.step (f := fun k => impl_HowMeet.j1 k (sideI a b c d e f) (sideI a b c d g h) true a b c d e f g h) (fun k => ?_) ?_
        · simp [impl_HowMeet.j0, impl_SideOf.f, hcol.1, hcol.2]
        · refine Ev.step (f := fun k => if kyI x y < kyI x' y' then impl_HowMeet.j2 k x' y' u' v' x' y' u v else impl_HowMeet.j2 k x' y' u' v' x y u v) (fun k => ?_) ?_
          · simp only [impl_HowMeet.j1, f1, f2, impl_BeforePoint.f, Option.bind_some, before_key p1 p1', decide_eq_true_eq, if_true]
          · rw [← k1, ← k2, ← k1', ← k2']
            by_cases z : kyI x y < kyI x' y'
            · simp only [if_pos z]
              have e : mx (kyI x y) (kyI x' y') = kyI x' y' := by unfold mx; rw [if_pos z]
              rw [e]
              exact j2_i x' y' u' v' x' y' u v p2' p1' p2
            · simp only [if_neg z]
              have e : mx (kyI x y) (kyI x' y') = kyI x y := by unfold mx; rw [if_neg z]
              rw [e]
              exact j2_i x' y' u' v' x y u v p2' p1 p2
      · rw [if_neg hcol]
        refine Ev.step (f := fun k => impl_HowMeet.j1 k (sideI a b c d e f) (sideI a b c d g h) false a b c d e f g h) (fun k => ?_) ?_
        · simp only [impl_HowMeet.j0, impl_SideOf.f, Option.bind_some, Bool.false_eq_true, if_false]
          by_cases z : sideI a b c d e f = 0
          · have z' : ¬ sideI a b c d g h = 0 := fun q => hcol ⟨z, q⟩
            have z'' : (sideI a b c d g h == 0) = false := by simp [z']
            rw [if_pos z, z'']
          · rw [if_neg z]
        · have w1 := wrap_sd _ _ (sd_bd a b c d e f) (sd_bd a b c d g h)
          have w2 := wrap_sd _ _ (sd_bd e f g h a b) (sd_bd e f g h c d)
          by_cases zu : sideI a b c d e f * sideI a b c d g h < 0
          · by_cases zv : sideI e f g h a b * sideI e f g h c d < 0
            · rw [if_pos ⟨zu, zv⟩]
              refine Ev.step (fun k => ?_) j4t
              simp [impl_HowMeet.j1, impl_SideOf.f, w1, w2, zu, zv]
            · rw [if_neg (fun q => zv q.2)]
              refine Ev.step (fun k => ?_) j4f
              simp [impl_HowMeet.j1, impl_SideOf.f, w1, w2, zu, zv]
          · rw [if_neg (fun q => zu q.1)]
            refine Ev.step (fun k => ?_) j4f
            simp [impl_HowMeet.j1, impl_SideOf.f, w1, zu]
/-- A line's points, one behind the other: each a point, none like the one ahead of it. -/
def chkL : Option S77 → List S77 → Bool
  | _, [] => true
  | o, p :: r => isPt p.f0 p.f1 && ((match o with | none => true | some q => !eqP q p) && chkL (some p) r)
theorem chkL_cons (o : Option S77) (p : S77) (r : List S77) : chkL o (p :: r) = (isPt p.f0 p.f1 && ((match o with | none => true | some q => !eqP q p) && chkL (some p) r)) := by cases o <;> rfl
def lnB (l : List S77) : Bool := inR (l.length : Int) 2 10 && chkL none l
def prevL (l : List S77) (i : Nat) : Option S77 := if i = 0 then none else some (l.getD (i - 1) z77)
theorem prevL_succ (l : List S77) (i : Nat) (h : i < l.length) : prevL l (i + 1) = some l[i] := by
  unfold prevL
  rw [if_neg (by omega), Nat.add_sub_cancel, List.getD_eq_getElem?_getD, List.getElem?_eq_getElem h]; rfl
theorem w1m (i : Nat) (h : 0 < i) (h' : i < 9223372036854775807) : wrap64 ((i : Int) - 1) = ((i - 1 : Nat) : Int) := by unfold wrap64; omega
theorem isLine_sl (l : List S77) (hl : l.length < 9223372036854775807) (d : Nat) : ∀ i : Nat, i + d = l.length → Ev (fun k => spec_IsLine.l0 k l (i : Int)) (chkL (prevL l i) (l.drop i) && inR (l.length : Int) 2 10) := by
  induction d with
  | zero =>
    intro i hi
    rw [List.drop_of_length_le (by omega)]
    refine Ev.step (f := fun _ => some _) (fun k => ?_) (Ev.now _)
    simp only [spec_IsLine.l0, spec_l1In.f]
    rw [if_neg (by omega)]
    simp [chkL]
  | succ d ih =>
    intro i hi
    have h1 : i < l.length := by omega
    have hd := List.drop_eq_getElem_cons h1
    rw [hd, chkL_cons]
    cases hp : isPt l[i].f0 l[i].f1
    · refine Ev.step (f := fun _ => some false) (fun k => ?_) (Ev.now _)
      simp only [spec_IsLine.l0, spec_IsPoint.f, Option.bind_some]
      rw [if_pos (by omega), if_pos (by omega), rdPt l i h1, hp]
      simp
    · have ih' := ih (i + 1) (by omega)
      rw [prevL_succ l i h1] at ih'
      by_cases h0 : i = 0
      · subst h0
        refine Ev.step (fun k => ?_) ih'
        simp only [spec_IsLine.l0, spec_IsPoint.f, Option.bind_some]
        rw [if_pos (by omega), if_pos (by omega), rdPt l 0 h1, hp, if_pos rfl, if_neg (by omega), w1' 0 (by omega)]
      · have hi1 : i - 1 < l.length := by omega
        have eP : prevL l i = some l[i - 1] := by unfold prevL; rw [if_neg h0, List.getD_eq_getElem?_getD, List.getElem?_eq_getElem hi1]; rfl
        rw [eP]
        dsimp only
        have eq : (((l[i - 1]).f0) == (l[i].f0) && (((l[i - 1]).f1) == (l[i].f1))) = eqP l[i - 1] l[i] := by
          unfold eqP; rw [Bool.eq_iff_iff]; simp
        cases he : eqP l[i - 1] l[i]
        · refine Ev.step (fun k => ?_) ih'
          simp only [spec_IsLine.l0, spec_IsPoint.f, Option.bind_some]
          rw [if_pos (by omega), if_pos (by omega), rdPt l i h1, hp, if_pos rfl, if_pos (by omega), w1m i (by omega) (by omega), if_pos (by omega), if_pos (by omega), rdPt l (i - 1) hi1, eq, he, w1' i (by omega)]
          simp
        · refine Ev.step (f := fun _ => some false) (fun k => ?_) (Ev.now _)
          simp only [spec_IsLine.l0, spec_IsPoint.f, Option.bind_some]
          rw [if_pos (by omega), if_pos (by omega), rdPt l i h1, hp, if_pos rfl, if_pos (by omega), w1m i (by omega) (by omega), if_pos (by omega), if_pos (by omega), rdPt l (i - 1) hi1, eq, he]
          simp
theorem isLine_s (l : List S77) (hl : l.length < 9223372036854775807) : Ev (fun k => spec_IsLine.f k l) (lnB l) := by
  unfold spec_IsLine.f lnB
  rw [Bool.and_comm]
  exact isLine_sl l hl l.length 0 (by omega)
theorem isLine_il (l : List S77) (hl : l.length < 9223372036854775807) (d : Nat) : ∀ i : Nat, i + d = l.length → Ev (fun k => impl_IsLine.l0 k l l (l.length : Int) (i : Int)) (chkL (prevL l i) (l.drop i)) := by
  induction d with
  | zero =>
    intro i hi
    rw [List.drop_of_length_le (by omega)]
    refine Ev.step (f := fun _ => some _) (fun k => ?_) (Ev.now _)
    simp only [impl_IsLine.l0]
    rw [if_neg (by omega)]
    simp [chkL]
  | succ d ih =>
    intro i hi
    have h1 : i < l.length := by omega
    have hd := List.drop_eq_getElem_cons h1
    rw [hd, chkL_cons]
    cases hp : isPt l[i].f0 l[i].f1
    · refine Ev.step (f := fun _ => some false) (fun k => ?_) (Ev.now _)
      simp only [impl_IsLine.l0, impl_IsPoint.f, Option.bind_some]
      rw [if_pos (by omega), if_pos (by omega), if_pos (by omega), rdPt l i h1, hp]
      simp
    · have ih' := ih (i + 1) (by omega)
      rw [prevL_succ l i h1] at ih'
      by_cases h0 : i = 0
      · subst h0
        refine Ev.step (fun k => ?_) ih'
        simp only [impl_IsLine.l0, impl_IsPoint.f, Option.bind_some]
        rw [if_pos (by omega), if_pos (by omega), if_pos (by omega), rdPt l 0 h1, hp, if_pos rfl, if_neg (by omega), w1' 0 (by omega)]
      · have hi1 : i - 1 < l.length := by omega
        have eP : prevL l i = some l[i - 1] := by unfold prevL; rw [if_neg h0, List.getD_eq_getElem?_getD, List.getElem?_eq_getElem hi1]; rfl
        rw [eP]
        dsimp only
        have eq : (((l[i]).f0) == (l[i - 1].f0) && (((l[i]).f1) == (l[i - 1].f1))) = eqP l[i - 1] l[i] := by
          unfold eqP; rw [Bool.eq_iff_iff]; simp; omega
        cases he : eqP l[i - 1] l[i]
        · refine Ev.step (fun k => ?_) ih'
          simp only [impl_IsLine.l0, impl_IsPoint.f, Option.bind_some]
          rw [if_pos (by omega), if_pos (by omega), if_pos (by omega), rdPt l i h1, hp, if_pos rfl, if_pos (by omega), w1m i (by omega) (by omega), if_pos (by omega), if_pos (by omega), rdPt l (i - 1) hi1, eq, he, w1' i (by omega)]
          simp
        · refine Ev.step (f := fun _ => some false) (fun k => ?_) (Ev.now _)
          simp only [impl_IsLine.l0, impl_IsPoint.f, Option.bind_some]
          rw [if_pos (by omega), if_pos (by omega), if_pos (by omega), rdPt l i h1, hp, if_pos rfl, if_pos (by omega), w1m i (by omega) (by omega), if_pos (by omega), if_pos (by omega), rdPt l (i - 1) hi1, eq, he]
          simp
theorem isLine_i (l : List S77) (hl : l.length < 9223372036854775807) : Ev (fun k => impl_IsLine.f k l) (lnB l) := by
  unfold impl_IsLine.f lnB
  have dead : Ev (fun k => impl_IsLine.j0 k l true) false := Ev.step (f := fun _ => some false) (fun k => by simp [impl_IsLine.j0]) (Ev.now _)
  by_cases h2 : (l.length : Int) < 2
  · simp only [if_pos h2]
    have : inR (l.length : Int) 2 10 = false := by unfold inR; simp; omega
    rw [this]; exact dead
  · simp only [if_neg h2]
    by_cases h10 : (l.length : Int) > 10
    · have : inR (l.length : Int) 2 10 = false := by unfold inR; simp; omega
      rw [this, decide_eq_true h10]; exact dead
    · have : inR (l.length : Int) 2 10 = true := by unfold inR; simp; omega
      rw [this, decide_eq_false h10]
      exact Ev.step (fun k => by simp [impl_IsLine.j0]) (isLine_il l hl l.length 0 (by omega))
theorem rdSg (l : List S95) (i : Nat) (h : i < l.length) : rd_T95 l (i : Int) = l.getD i z95 := by
  unfold rd_T95
  rw [Int.toNat_natCast]
def howL (p q : S95) : Int := howS p.f0.f0 p.f0.f1 p.f1.f0 p.f1.f1 q.f0.f0 q.f0.f1 q.f1.f0 q.f1.f1
def segL (p : S95) : Bool := isSeg p.f0.f0 p.f0.f1 p.f1.f0 p.f1.f1
def wantR (n i k : Nat) : Int := if k + 1 = i ∨ (k = 0 ∧ i + 1 = n) then 1 else 0
def inRow (s : List S95) (i : Nat) (k : Nat) : Bool := decide (howL (s.getD i z95) (s.getD k z95) = wantR s.length i k)
def ringS (s : List S95) (i d : Nat) : Bool := (List.range' i d).all fun i => segL (s.getD i z95) && (List.range' 0 i).all (inRow s i)
/-- The segments around. -/
def arR (l : List S77) : List S95 := (List.range l.length).map fun i => (⟨l.getD i z77, l.getD ((i + 1) % l.length) z77⟩ : S95)
def rgB (l : List S77) : Bool := inR (l.length : Int) 3 10 && ringS (arR l) 0 l.length
theorem arR_len (l : List S77) : (arR l).length = l.length := by simp [arR]
theorem arR_take (l : List S77) (i : Nat) (h : i < l.length) : (arR l).take (i + 1) = (arR l).take i ++ [(⟨l.getD i z77, l.getD ((i + 1) % l.length) z77⟩ : S95)] := by
  rw [List.take_succ_eq_append_getElem (by rw [arR_len]; exact h)]
  simp [arR]
theorem tmod_nat (a n : Nat) : Int.tmod (a : Int) (n : Int) = ((a % n : Nat) : Int) := by rw [Int.ofNat_tmod]
theorem rdPd (l : List S77) (i : Nat) : rd_T77 l (i : Int) = l.getD i z77 := by
  unfold rd_T77
  rw [Int.toNat_natCast]
theorem around_sl (l : List S77) (hl : l.length < 1000) (d : Nat) : ∀ i : Nat, i + d = l.length → Ev (fun k => spec_l7Segments.l0 k l ((arR l).take i) (i : Int)) (arR l) := by
  induction d with
  | zero =>
    intro i hi
    rw [List.take_of_length_le (by rw [arR_len]; omega)]
    refine Ev.step (f := fun _ => some _) (fun k => ?_) (Ev.now _)
    simp only [spec_l7Segments.l0]
    rw [if_neg (by omega)]
  | succ d ih =>
    intro i hi
    have h1 : i < l.length := by omega
    have hm : (i + 1) % l.length < l.length := Nat.mod_lt _ (by omega)
    refine Ev.step (fun k => ?_) (ih (i + 1) (by omega))
    have hlen : ((arR l).take i).length < 4398046511104 := by rw [List.length_take, arR_len]; omega
    simp only [spec_l7Segments.l0]
    rw [if_pos (by omega), if_pos (by omega), if_neg (by omega), w1' i (by omega), tmod_nat, if_pos (by omega), if_pos (by omega), if_pos hlen, rdPd, rdPd, arR_take l i h1]
theorem around_s (l : List S77) (hl : l.length < 1000) : Ev (fun k => spec_l7Segments.f k l) (arR l) := by
  unfold spec_l7Segments.f
  exact around_sl l hl l.length 0 (by omega)
theorem around_il (l : List S77) (hl : l.length < 1000) (d : Nat) : ∀ i : Nat, i + d = l.length → Ev (fun k => impl_around.l0 k l ((arR l).take i) l (l.length : Int) (i : Int)) (arR l) := by
  induction d with
  | zero =>
    intro i hi
    rw [List.take_of_length_le (by rw [arR_len]; omega)]
    refine Ev.step (f := fun _ => some _) (fun k => ?_) (Ev.now _)
    simp only [impl_around.l0]
    rw [if_neg (by omega)]
  | succ d ih =>
    intro i hi
    have h1 : i < l.length := by omega
    have hm : (i + 1) % l.length < l.length := Nat.mod_lt _ (by omega)
    refine Ev.step (fun k => ?_) (ih (i + 1) (by omega))
    have hlen : ((arR l).take i).length < 4398046511104 := by rw [List.length_take, arR_len]; omega
    simp only [impl_around.l0]
    rw [if_pos (by omega), if_pos (by omega), if_pos (by omega), if_neg (by omega), w1' i (by omega), tmod_nat, if_pos (by omega), if_pos (by omega), if_pos hlen, rdPd, rdPd, arR_take l i h1]
theorem around_i (l : List S77) (hl : l.length < 1000) : Ev (fun k => impl_around.f k l) (arR l) := by
  unfold impl_around.f
  exact around_il l hl l.length 0 (by omega)
theorem ring_s1 (s : List S95) (hs : s.length < 1000) (i : Nat) (hi : i < s.length) (rest : Bool) (hr : Ev (fun k => spec_IsRing.l0 k s ((i + 1 : Nat) : Int)) rest) (d : Nat) :
    ∀ k : Nat, k + d = i → Ev (fun n => spec_IsRing.l1 n s (i : Int) (k : Int)) ((List.range' k d).all (inRow s i) && rest) := by
  induction d with
  | zero =>
    intro k hk
    refine Ev.step (fun n => ?_) hr
    simp only [spec_IsRing.l1]
    rw [if_neg (by omega), w1' i (by omega)]
  | succ d ih =>
    intro k hk
    have hk1 : k < s.length := by omega
    rw [List.range'_succ, List.all_cons]
    have e2 : Ev (fun n => (spec_HowMeet.f (s.getD i z95).f0.f0 (s.getD i z95).f0.f1 (s.getD i z95).f1.f0 (s.getD i z95).f1.f1 (s.getD k z95).f0.f0 (s.getD k z95).f0.f1 (s.getD k z95).f1.f0 (s.getD k z95).f1.f1).bind fun t => if t = wantR s.length i k then spec_IsRing.l1 n s (i : Int) ((k + 1 : Nat) : Int) else some false) (inRow s i k && (List.range' (k + 1) d).all (inRow s i) && rest) := by
      refine Ev.bind (how_s _ _ _ _ _ _ _ _) ?_
      by_cases hw : howL (s.getD i z95) (s.getD k z95) = wantR s.length i k
      · have e : inRow s i k = true := by unfold inRow; exact decide_eq_true hw
        rw [e, Bool.true_and]
        have : Ev (fun n => spec_IsRing.l1 n s (i : Int) ((k + 1 : Nat) : Int)) ((List.range' (k + 1) d).all (inRow s i) && rest) := ih (k + 1) (by omega)
        refine Ev.congr (fun n => ?_) this
        exact if_pos hw
      · have e : inRow s i k = false := by unfold inRow; exact decide_eq_false hw
        rw [e]
        refine Ev.congr (fun n => ?_) (Ev.now _)
        exact if_neg hw
    have j : ∀ b : Bool, (if b = true then (1 : Int) else 0) = wantR s.length i k → Ev (fun n => spec_IsRing.j2 n s (i : Int) (k : Int) 0 b) (inRow s i k && (List.range' (k + 1) d).all (inRow s i) && rest) := by
      intro b hb
      refine Ev.step (fun n => ?_) e2
      simp only [spec_IsRing.j2]
      rw [← hb]
      cases b
      · rw [if_neg (by simp), if_pos (by omega), if_pos (by omega), if_pos (by omega), if_pos (by omega), rdSg s i hi, rdSg s k hk1, w1' k (by omega)]; rfl
      · rw [if_pos rfl, if_pos (by omega), if_pos (by omega), if_pos (by omega), if_pos (by omega), rdSg s i hi, rdSg s k hk1, w1' k (by omega)]; rfl
    by_cases z : k + 1 = i
    · refine Ev.step (fun n => ?_) (j true (by show (1 : Int) = _; unfold wantR; rw [if_pos (.inl z)]))
      simp only [spec_IsRing.l1]
      rw [if_pos (by omega), w1' k (by omega), if_pos (by omega)]
    · by_cases z0 : k = 0
      · refine Ev.step (fun n => ?_) (j (decide (i + 1 = s.length)) (by unfold wantR; by_cases q : i + 1 = s.length <;> simp [q, z0] <;> omega))
        simp only [spec_IsRing.l1]
        rw [if_pos (by omega), w1' k (by omega), if_neg (by omega), if_pos (by omega), w1' i (by omega)]
        congr 1
        rw [Bool.eq_iff_iff]; simp; omega
      · refine Ev.step (fun n => ?_) (j false (by show (0 : Int) = _; unfold wantR; rw [if_neg (by omega)]))
        simp only [spec_IsRing.l1]
        rw [if_pos (by omega), w1' k (by omega), if_neg (by omega), if_neg (by omega)]
theorem ring_s0 (s : List S95) (hs : s.length < 1000) (d : Nat) : ∀ i : Nat, i + d = s.length → Ev (fun n => spec_IsRing.l0 n s (i : Int)) (ringS s i d) := by
  induction d with
  | zero =>
    intro i hi
    refine Ev.step (f := fun _ => some true) (fun n => ?_) (Ev.now _)
    simp only [spec_IsRing.l0]
    rw [if_neg (by omega)]
  | succ d ih =>
    intro i hi
    have h1 : i < s.length := by omega
    unfold ringS
    rw [List.range'_succ, List.all_cons]
    cases hq : segL (s.getD i z95)
    · refine Ev.step (f := fun _ => some false) (fun n => ?_) (Ev.now _)
      simp only [spec_IsRing.l0, spec_IsSegment.f, Option.bind_some]
      rw [if_pos (by omega), if_pos (by omega), rdSg s i h1]
      unfold segL at hq
      rw [hq]; simp
    · refine Ev.step (fun n => ?_) (ring_s1 s hs i h1 _ (ih (i + 1) (by omega)) i 0 (by omega))
      simp only [spec_IsRing.l0, spec_IsSegment.f, Option.bind_some]
      rw [if_pos (by omega), if_pos (by omega), rdSg s i h1]
      unfold segL at hq
      rw [hq, if_pos rfl]; rfl
theorem isRing_s (l : List S77) (hl : l.length < 9223372036854775807) : Ev (fun k => spec_IsRing.f k l) (rgB l) := by
  unfold spec_IsRing.f rgB spec_l1In.f
  simp only [Option.bind_some]
  cases h : inR (l.length : Int) 3 10
  · simp only [Bool.false_eq_true, if_false, Bool.false_and]; exact Ev.now _
  · have hb : l.length < 1000 := by unfold inR at h; simp at h; omega
    simp only [if_true, Bool.true_and]
    refine Ev.bind (around_s l hb) ?_
    have := ring_s0 (arR l) (by rw [arR_len]; exact hb) l.length 0 (by rw [arR_len]; omega)
    exact this
theorem ring_i1 (s : List S95) (hs : s.length < 1000) (i : Nat) (hi : i < s.length) (rest : Bool) (hr : Ev (fun k => impl_IsRing.l0 k s (s.length : Int) ((i + 1 : Nat) : Int)) rest) (d : Nat) :
    ∀ k : Nat, k + d = i → Ev (fun n => impl_IsRing.l1 n s (i : Int) (s.length : Int) (i : Int) (i : Int) (k : Int)) ((List.range' k d).all (inRow s i) && rest) := by
  induction d with
  | zero =>
    intro k hk
    refine Ev.step (fun n => ?_) hr
    simp only [impl_IsRing.l1]
    rw [if_neg (by omega), w1' i (by omega)]
  | succ d ih =>
    intro k hk
    have hk1 : k < s.length := by omega
    rw [List.range'_succ, List.all_cons]
    have e2 : Ev (fun n => (impl_HowMeet.f n (s.getD i z95).f0.f0 (s.getD i z95).f0.f1 (s.getD i z95).f1.f0 (s.getD i z95).f1.f1 (s.getD k z95).f0.f0 (s.getD k z95).f0.f1 (s.getD k z95).f1.f0 (s.getD k z95).f1.f1).bind fun t => if t = wantR s.length i k then impl_IsRing.l1 n s (i : Int) (s.length : Int) (i : Int) (i : Int) ((k + 1 : Nat) : Int) else some false) (inRow s i k && (List.range' (k + 1) d).all (inRow s i) && rest) := by
      refine Ev.bind (how_i _ _ _ _ _ _ _ _) ?_
      by_cases hw : howL (s.getD i z95) (s.getD k z95) = wantR s.length i k
      · have e : inRow s i k = true := by unfold inRow; exact decide_eq_true hw
        rw [e, Bool.true_and]
        refine Ev.congr (fun n => ?_) (ih (k + 1) (by omega))
        exact if_pos hw
      · have e : inRow s i k = false := by unfold inRow; exact decide_eq_false hw
        rw [e]
        refine Ev.congr (fun n => ?_) (Ev.now _)
        exact if_neg hw
    have j : ∀ b : Bool, (if b = true then (1 : Int) else 0) = wantR s.length i k → Ev (fun n => impl_IsRing.j3 n s (i : Int) (k : Int) 0 (s.length : Int) (i : Int) (i : Int) (k : Int) b) (inRow s i k && (List.range' (k + 1) d).all (inRow s i) && rest) := by
      intro b hb
      refine Ev.step (fun n => ?_) e2
      simp only [impl_IsRing.j3]
      rw [← hb]
      cases b
      · rw [if_neg (by simp), if_pos (by omega), if_pos (by omega), if_pos (by omega), if_pos (by omega), rdSg s i hi, rdSg s k hk1, w1' k (by omega)]; rfl
      · rw [if_pos rfl, if_pos (by omega), if_pos (by omega), if_pos (by omega), if_pos (by omega), rdSg s i hi, rdSg s k hk1, w1' k (by omega)]; rfl
    have wi : wrap64 ((i : Int) - 1) = (i : Int) - 1 := by unfold wrap64; omega
    have wn : wrap64 ((s.length : Int) - 1) = (s.length : Int) - 1 := by unfold wrap64; omega
    by_cases z : k + 1 = i
    · refine Ev.step (fun n => ?_) (j true (by show (1 : Int) = _; unfold wantR; rw [if_pos (.inl z)]))
      simp only [impl_IsRing.l1]
      rw [if_pos (by omega), wi, if_pos (by omega)]
    · by_cases z0 : k = 0
      · refine Ev.step (fun n => ?_) (j (decide (i + 1 = s.length)) (by unfold wantR; by_cases q : i + 1 = s.length <;> simp [q, z0] <;> omega))
        simp only [impl_IsRing.l1]
        rw [if_pos (by omega), wi, if_neg (by omega), if_pos (by omega), wn]
        congr 1
        rw [Bool.eq_iff_iff]; simp; omega
      · refine Ev.step (fun n => ?_) (j false (by show (0 : Int) = _; unfold wantR; rw [if_neg (by omega)]))
        simp only [impl_IsRing.l1]
        rw [if_pos (by omega), wi, if_neg (by omega), if_neg (by omega)]
theorem ring_i0 (s : List S95) (hs : s.length < 1000) (d : Nat) : ∀ i : Nat, i + d = s.length → Ev (fun n => impl_IsRing.l0 n s (s.length : Int) (i : Int)) (ringS s i d) := by
  induction d with
  | zero =>
    intro i hi
    refine Ev.step (f := fun _ => some true) (fun n => ?_) (Ev.now _)
    simp only [impl_IsRing.l0]
    rw [if_neg (by omega)]
  | succ d ih =>
    intro i hi
    have h1 : i < s.length := by omega
    unfold ringS
    rw [List.range'_succ, List.all_cons]
    cases hq : segL (s.getD i z95)
    · refine Ev.step (f := fun _ => some false) (fun n => ?_) (Ev.now _)
      simp only [impl_IsRing.l0, impl_IsSegment.f, Option.bind_some]
      rw [if_pos (by omega), if_pos (by omega), if_pos (by omega), rdSg s i h1]
      unfold segL at hq
      rw [hq]; simp
    · refine Ev.step (fun n => ?_) (ring_i1 s hs i h1 _ (ih (i + 1) (by omega)) i 0 (by omega))
      simp only [impl_IsRing.l0, impl_IsSegment.f, Option.bind_some]
      rw [if_pos (by omega), if_pos (by omega), if_pos (by omega), rdSg s i h1]
      unfold segL at hq
      rw [hq, if_pos rfl]; rfl
theorem isRing_i (l : List S77) (hl : l.length < 9223372036854775807) : Ev (fun k => impl_IsRing.f k l) (rgB l) := by
  unfold impl_IsRing.f rgB
  have dead : Ev (fun k => impl_IsRing.j0 k l true) false := Ev.step (f := fun _ => some false) (fun k => by simp [impl_IsRing.j0]) (Ev.now _)
  by_cases h2 : (l.length : Int) < 3
  · simp only [if_pos h2]
    have : inR (l.length : Int) 3 10 = false := by unfold inR; simp; omega
    rw [this]; exact dead
  · simp only [if_neg h2]
    by_cases h10 : (l.length : Int) > 10
    · have : inR (l.length : Int) 3 10 = false := by unfold inR; simp; omega
      rw [this, decide_eq_true h10]; exact dead
    · have : inR (l.length : Int) 3 10 = true := by unfold inR; simp; omega
      rw [this, decide_eq_false h10]
      have hb : l.length < 1000 := by omega
      refine Ev.step (f := fun k => (impl_around.f k l).bind fun t => impl_IsRing.l0 k t (t.length : Int) 0) (fun k => by simp [impl_IsRing.j0]) (Ev.bind (around_i l hb) ?_)
      exact ring_i0 (arR l) (by rw [arR_len]; exact hb) l.length 0 (by rw [arR_len]; omega)
def nmB (s : ByteArray) : Bool := (List.range' 0 s.size).all (fun (i : Nat) => decide (97 ≤ bt s (i : Int)) && decide (bt s (i : Int) ≤ 122)) && inR (s.size : Int) 1 8
theorem nm_loop_s (s : ByteArray) (hs : s.size ≤ 9223372036854775807) (d : Nat) : ∀ i : Nat, i + d = s.size → Ev (fun k => spec_IsName.l0 k s (i : Int)) ((List.range' i d).all (fun (i : Nat) => decide (97 ≤ bt s (i : Int)) && decide (bt s (i : Int) ≤ 122)) && inR (s.size : Int) 1 8) := by
  induction d with
  | zero =>
    intro i hi
    refine Ev.step (f := fun _ => some (inR (s.size : Int) 1 8)) (fun k => ?_) (Ev.now _)
    simp only [spec_IsName.l0, spec_l1In.f]
    rw [if_neg (by omega)]; rfl
  | succ d ih =>
    intro i hi
    rw [List.range'_succ, List.all_cons]
    by_cases h1 : bt s (i : Int) < 97
    · rw [decide_eq_false (show ¬ 97 ≤ bt s (i : Int) by omega)]
      refine Ev.step (f := fun _ => some false) (fun k => ?_) (Ev.now _)
      simp only [spec_IsName.l0]
      rw [if_pos (by omega), if_pos (by omega), if_pos h1]
    · by_cases h2 : bt s (i : Int) > 122
      · rw [decide_eq_true (show 97 ≤ bt s (i : Int) by omega), decide_eq_false (show ¬ bt s (i : Int) ≤ 122 by omega)]
        refine Ev.step (f := fun _ => some false) (fun k => ?_) (Ev.now _)
        simp only [spec_IsName.l0]
        rw [if_pos (by omega), if_pos (by omega), if_neg h1, if_pos h2]
      · rw [decide_eq_true (show 97 ≤ bt s (i : Int) by omega), decide_eq_true (show bt s (i : Int) ≤ 122 by omega)]
        refine Ev.step (fun k => ?_) (ih (i + 1) (by omega))
        simp only [spec_IsName.l0]
        rw [if_pos (by omega), if_pos (by omega), if_neg h1, if_neg h2, w1' i (by omega)]
theorem nm_s (s : ByteArray) (hs : s.size ≤ 9223372036854775807) : Ev (fun k => spec_IsName.f k s) (nmB s) := nm_loop_s s hs s.size 0 (by omega)
theorem nm_loop_i (s : ByteArray) (hs : s.size ≤ 9223372036854775807) (d : Nat) : ∀ i : Nat, i + d = s.size → Ev (fun k => impl_IsName.l0 k s (s.size : Int) (i : Int)) ((List.range' i d).all (fun (i : Nat) => decide (97 ≤ bt s (i : Int)) && decide (bt s (i : Int) ≤ 122)) && inR (s.size : Int) 1 8) := by
  induction d with
  | zero =>
    intro i hi
    refine Ev.step (f := fun _ => some (inR (s.size : Int) 1 8)) (fun k => ?_) (Ev.now _)
    simp only [impl_IsName.l0, impl_InRange.f]
    rw [if_neg (by omega)]; rfl
  | succ d ih =>
    intro i hi
    rw [List.range'_succ, List.all_cons]
    by_cases h1 : bt s (i : Int) < 97
    · rw [decide_eq_false (show ¬ 97 ≤ bt s (i : Int) by omega)]
      refine Ev.step (f := fun _ => some false) (fun k => ?_) (Ev.now _)
      simp only [impl_IsName.l0]
      rw [if_pos (by omega), if_pos (by omega), if_pos (by omega), if_pos h1]
    · by_cases h2 : bt s (i : Int) > 122
      · rw [decide_eq_true (show 97 ≤ bt s (i : Int) by omega), decide_eq_false (show ¬ bt s (i : Int) ≤ 122 by omega)]
        refine Ev.step (f := fun _ => some false) (fun k => ?_) (Ev.now _)
        simp only [impl_IsName.l0]
        rw [if_pos (by omega), if_pos (by omega), if_pos (by omega), if_neg h1, if_pos h2]
      · rw [decide_eq_true (show 97 ≤ bt s (i : Int) by omega), decide_eq_true (show bt s (i : Int) ≤ 122 by omega)]
        refine Ev.step (fun k => ?_) (ih (i + 1) (by omega))
        simp only [impl_IsName.l0]
        rw [if_pos (by omega), if_pos (by omega), if_pos (by omega), if_neg h1, if_neg h2, w1' i (by omega)]
theorem nm_i (s : ByteArray) (hs : s.size ≤ 9223372036854775807) : Ev (fun k => impl_IsName.f k s) (nmB s) := nm_loop_i s hs s.size 0 (by omega)
theorem lnB_len {l : List S77} (h : lnB l = true) : 2 ≤ l.length ∧ l.length ≤ 10 := by
  unfold lnB inR at h; simp at h; omega
theorem rgB_len {l : List S77} (h : rgB l = true) : 3 ≤ l.length ∧ l.length ≤ 10 := by
  unfold rgB inR at h; simp at h; omega
/-- The segments of a line, one behind the other. -/
def sgR (l : List S77) : List S95 := (List.range (l.length - 1)).map fun i => (⟨l.getD i z77, l.getD (i + 1) z77⟩ : S95)
def sgL (l : List S77) : List S95 := if lnB l then sgR l else []
theorem sgR_len (l : List S77) : (sgR l).length = l.length - 1 := by simp [sgR]
theorem sgR_take (l : List S77) (i : Nat) (h : i + 1 < l.length) : (sgR l).take (i + 1) = (sgR l).take i ++ [(⟨l.getD i z77, l.getD (i + 1) z77⟩ : S95)] := by
  rw [List.take_succ_eq_append_getElem (by rw [sgR_len]; omega)]
  simp [sgR]
theorem seg_sl (l : List S77) (hl : lnB l = true) (d : Nat) : ∀ i : Nat, i + 1 + d = l.length → Ev (fun k => spec_SegmentsOf.l0 k l ((sgR l).take i) ((i + 1 : Nat) : Int)) (sgR l) := by
  have hb := lnB_len hl
  induction d with
  | zero =>
    intro i hi
    rw [List.take_of_length_le (by rw [sgR_len]; omega)]
    refine Ev.step (f := fun _ => some _) (fun k => ?_) (Ev.now _)
    simp only [spec_SegmentsOf.l0]
    rw [if_neg (by omega)]
  | succ d ih =>
    intro i hi
    have hlen : ((sgR l).take i).length < 4398046511104 := by rw [List.length_take, sgR_len]; omega
    have w : wrap64 (((i + 1 : Nat) : Int) - 1) = (i : Int) := by unfold wrap64; omega
    refine Ev.step (f := fun k => (spec_IsLine.f k l).bind fun t => if t = true then spec_SegmentsOf.l0 k l ((sgR l).take (i + 1)) ((i + 1 + 1 : Nat) : Int) else some ((sgR l).take i)) (fun k => ?_) (Ev.bind (isLine_s l (by omega)) ?_)
    · simp only [spec_SegmentsOf.l0]
      rw [if_pos (by omega), w, if_pos (by omega), if_pos (by omega), if_pos (by omega), if_pos hlen, rdPd, rdPd, sgR_take l i (by omega), w1' (i + 1) (by omega)]
    · rw [hl]
      simp only [if_true]
      exact ih (i + 1) (by omega)
theorem seg_s (l : List S77) (hl : l.length < 9223372036854775807) : Ev (fun k => spec_SegmentsOf.f k l) (sgL l) := by
  unfold spec_SegmentsOf.f sgL
  cases h : lnB l
  · by_cases h1 : (1 : Int) < (l.length : Int)
    · refine Ev.step (f := fun k => (spec_IsLine.f k l).bind fun t => if t = true then spec_SegmentsOf.l0 (k + 1) l [] 1 else some []) (fun k => ?_) (Ev.bind (isLine_s l hl) ?_)
      · simp only [spec_SegmentsOf.l0]
        rw [if_pos h1]
        cases hh : spec_IsLine.f k l with
        | none => rfl
        | some b => cases b <;> simp [h1]
      · rw [h]; simp only [Bool.false_eq_true, if_false]; exact Ev.now _
    · refine Ev.step (f := fun _ => some []) (fun k => ?_) (Ev.now _)
      simp only [spec_SegmentsOf.l0]
      rw [if_neg h1]
  · have hb := lnB_len h
    exact seg_sl l h (l.length - 1) 0 (by omega)
theorem seg_il (l : List S77) (hl : lnB l = true) (d : Nat) : ∀ i : Nat, i + 1 + d = l.length → Ev (fun k => impl_SegmentsOf.l0 k l ((sgR l).take i) ((i + 1 : Nat) : Int)) (sgR l) := by
  have hb := lnB_len hl
  induction d with
  | zero =>
    intro i hi
    rw [List.take_of_length_le (by rw [sgR_len]; omega)]
    refine Ev.step (f := fun _ => some _) (fun k => ?_) (Ev.now _)
    simp only [impl_SegmentsOf.l0]
    rw [if_neg (by omega)]
  | succ d ih =>
    intro i hi
    have hlen : ((sgR l).take i).length < 4398046511104 := by rw [List.length_take, sgR_len]; omega
    have w : wrap64 (((i + 1 : Nat) : Int) - 1) = (i : Int) := by unfold wrap64; omega
    refine Ev.step (fun k => ?_) (ih (i + 1) (by omega))
    simp only [impl_SegmentsOf.l0]
    rw [if_pos (by omega), w, if_pos (by omega), if_pos (by omega), if_pos (by omega), if_pos hlen, rdPd, rdPd, sgR_take l i (by omega), w1' (i + 1) (by omega)]
theorem seg_i (l : List S77) (hl : l.length < 9223372036854775807) : Ev (fun k => impl_SegmentsOf.f k l) (sgL l) := by
  unfold impl_SegmentsOf.f sgL
  simp only [Option.bind_some]
  refine Ev.bind (isLine_i l hl) ?_
  cases h : lnB l
  · simp only [Bool.false_eq_true, if_false]; exact Ev.now _
  · have hb := lnB_len h
    simp only [if_true]
    exact seg_il l h (l.length - 1) 0 (by omega)
def wantS (i k : Nat) : Int := if k + 1 = i then 1 else 0
def inRow2 (s : List S95) (i : Nat) (k : Nat) : Bool := decide (howL (s.getD i z95) (s.getD k z95) = wantS i k)
def simS (s : List S95) (i d : Nat) : Bool := (List.range' i d).all fun i => (List.range' 0 i).all (inRow2 s i)
def smB (l : List S77) : Bool := lnB l && simS (sgL l) 0 (sgL l).length
theorem sim_s1 (l : List S77) (s : List S95) (hs : s.length < 1000) (i : Nat) (hi : i < s.length) (rest : Bool) (hr : Ev (fun k => spec_IsSimple.l0 k l s ((i + 1 : Nat) : Int)) rest) (d : Nat) :
    ∀ k : Nat, k + d = i → Ev (fun n => spec_IsSimple.l1 n l s (i : Int) (k : Int)) ((List.range' k d).all (inRow2 s i) && rest) := by
  induction d with
  | zero =>
    intro k hk
    refine Ev.step (fun n => ?_) hr
    simp only [spec_IsSimple.l1]
    rw [if_neg (by omega), w1' i (by omega)]
  | succ d ih =>
    intro k hk
    have hk1 : k < s.length := by omega
    rw [List.range'_succ, List.all_cons]
    have e2 : Ev (fun n => (spec_HowMeet.f (s.getD i z95).f0.f0 (s.getD i z95).f0.f1 (s.getD i z95).f1.f0 (s.getD i z95).f1.f1 (s.getD k z95).f0.f0 (s.getD k z95).f0.f1 (s.getD k z95).f1.f0 (s.getD k z95).f1.f1).bind fun t => if t = wantS i k then spec_IsSimple.l1 n l s (i : Int) ((k + 1 : Nat) : Int) else some false) (inRow2 s i k && (List.range' (k + 1) d).all (inRow2 s i) && rest) := by
      refine Ev.bind (how_s _ _ _ _ _ _ _ _) ?_
      by_cases hw : howL (s.getD i z95) (s.getD k z95) = wantS i k
      · have e : inRow2 s i k = true := by unfold inRow2; exact decide_eq_true hw
        rw [e, Bool.true_and]
        refine Ev.congr (fun n => ?_) (ih (k + 1) (by omega))
        exact if_pos hw
      · have e : inRow2 s i k = false := by unfold inRow2; exact decide_eq_false hw
        rw [e]
        refine Ev.congr (fun n => ?_) (Ev.now _)
        exact if_neg hw
    refine Ev.step (fun n => ?_) e2
    simp only [spec_IsSimple.l1]
    by_cases z : k + 1 = i
    · have hw : wantS i k = 1 := by unfold wantS; rw [if_pos z]
      rw [hw, if_pos (by omega), w1' k (by omega), if_pos (by omega), if_pos (by omega), if_pos (by omega), if_pos (by omega), if_pos (by omega), rdSg s i hi, rdSg s k hk1]
    · have hw : wantS i k = 0 := by unfold wantS; rw [if_neg z]
      rw [hw, if_pos (by omega), w1' k (by omega), if_neg (by omega), if_pos (by omega), if_pos (by omega), if_pos (by omega), if_pos (by omega), rdSg s i hi, rdSg s k hk1]
theorem sim_s0 (l : List S77) (hl : l.length < 9223372036854775807) (s : List S95) (hs : s.length < 1000) (d : Nat) : ∀ i : Nat, i + d = s.length → Ev (fun n => spec_IsSimple.l0 n l s (i : Int)) (simS s i d && lnB l) := by
  induction d with
  | zero =>
    intro i hi
    refine Ev.step (f := fun k => (spec_IsLine.f k l).bind fun t => some t) (fun n => ?_) (Ev.bind (isLine_s l hl) (Ev.now _))
    simp only [spec_IsSimple.l0]
    rw [if_neg (by omega)]
  | succ d ih =>
    intro i hi
    have h1 : i < s.length := by omega
    unfold simS
    rw [List.range'_succ, List.all_cons, Bool.and_assoc]
    refine Ev.step (fun n => ?_) (sim_s1 l s hs i h1 _ (ih (i + 1) (by omega)) i 0 (by omega))
    simp only [spec_IsSimple.l0]
    rw [if_pos (by omega)]; rfl
theorem sgL_len (l : List S77) : (sgL l).length < 1000 := by
  unfold sgL
  cases h : lnB l
  · simp
  · have := lnB_len h; simp [sgR_len]; omega
theorem isSimple_s (l : List S77) (hl : l.length < 9223372036854775807) : Ev (fun k => spec_IsSimple.f k l) (smB l) := by
  unfold spec_IsSimple.f smB
  refine Ev.bind (seg_s l hl) ?_
  rw [Bool.and_comm]
  exact sim_s0 l hl (sgL l) (sgL_len l) (sgL l).length 0 (by omega)
theorem sim_i1 (s : List S95) (hs : s.length < 1000) (i : Nat) (hi : i < s.length) (rest : Bool) (hr : Ev (fun k => impl_IsSimple.l0 k s (s.length : Int) ((i + 1 : Nat) : Int)) rest) (d : Nat) :
    ∀ k : Nat, k + d = i → Ev (fun n => impl_IsSimple.l1 n s (i : Int) (s.length : Int) (i : Int) (i : Int) (k : Int)) ((List.range' k d).all (inRow2 s i) && rest) := by
  induction d with
  | zero =>
    intro k hk
    refine Ev.step (fun n => ?_) hr
    simp only [impl_IsSimple.l1]
    rw [if_neg (by omega), w1' i (by omega)]
  | succ d ih =>
    intro k hk
    have hk1 : k < s.length := by omega
    rw [List.range'_succ, List.all_cons]
    have e2 : Ev (fun n => (impl_HowMeet.f n (s.getD i z95).f0.f0 (s.getD i z95).f0.f1 (s.getD i z95).f1.f0 (s.getD i z95).f1.f1 (s.getD k z95).f0.f0 (s.getD k z95).f0.f1 (s.getD k z95).f1.f0 (s.getD k z95).f1.f1).bind fun t => if t = wantS i k then impl_IsSimple.l1 n s (i : Int) (s.length : Int) (i : Int) (i : Int) ((k + 1 : Nat) : Int) else some false) (inRow2 s i k && (List.range' (k + 1) d).all (inRow2 s i) && rest) := by
      refine Ev.bind (how_i _ _ _ _ _ _ _ _) ?_
      by_cases hw : howL (s.getD i z95) (s.getD k z95) = wantS i k
      · have e : inRow2 s i k = true := by unfold inRow2; exact decide_eq_true hw
        rw [e, Bool.true_and]
        refine Ev.congr (fun n => ?_) (ih (k + 1) (by omega))
        exact if_pos hw
      · have e : inRow2 s i k = false := by unfold inRow2; exact decide_eq_false hw
        rw [e]
        refine Ev.congr (fun n => ?_) (Ev.now _)
        exact if_neg hw
    have wi : wrap64 ((i : Int) - 1) = (i : Int) - 1 := by unfold wrap64; omega
    refine Ev.step (fun n => ?_) e2
    simp only [impl_IsSimple.l1]
    by_cases z : k + 1 = i
    · have hw : wantS i k = 1 := by unfold wantS; rw [if_pos z]
      rw [hw, if_pos (by omega), wi, if_pos (by omega), if_pos (by omega), if_pos (by omega), if_pos (by omega), if_pos (by omega), rdSg s i hi, rdSg s k hk1, w1' k (by omega)]
    · have hw : wantS i k = 0 := by unfold wantS; rw [if_neg z]
      rw [hw, if_pos (by omega), wi, if_neg (by omega), if_pos (by omega), if_pos (by omega), if_pos (by omega), if_pos (by omega), rdSg s i hi, rdSg s k hk1, w1' k (by omega)]
theorem sim_i0 (s : List S95) (hs : s.length < 1000) (d : Nat) : ∀ i : Nat, i + d = s.length → Ev (fun n => impl_IsSimple.l0 n s (s.length : Int) (i : Int)) (simS s i d) := by
  induction d with
  | zero =>
    intro i hi
    refine Ev.step (f := fun _ => some true) (fun n => ?_) (Ev.now _)
    simp only [impl_IsSimple.l0]
    rw [if_neg (by omega)]
  | succ d ih =>
    intro i hi
    have h1 : i < s.length := by omega
    unfold simS
    rw [List.range'_succ, List.all_cons]
    refine Ev.step (fun n => ?_) (sim_i1 s hs i h1 _ (ih (i + 1) (by omega)) i 0 (by omega))
    simp only [impl_IsSimple.l0]
    rw [if_pos (by omega)]; rfl
theorem isSimple_i (l : List S77) (hl : l.length < 9223372036854775807) : Ev (fun k => impl_IsSimple.f k l) (smB l) := by
  unfold impl_IsSimple.f smB
  refine Ev.bind (isLine_i l hl) ?_
  cases h : lnB l
  · simp only [Bool.false_eq_true, if_false, Bool.false_and]; exact Ev.now _
  · simp only [if_true, Bool.true_and]
    refine Ev.bind (seg_i l hl) ?_
    exact sim_i0 (sgL l) (sgL_len l) (sgL l).length 0 (by omega)
def kdB (kd : Int) (l : List S77) : Bool := if kd = 1 then decide (l.length = 1) && isPt (l.getD 0 z77).f0 (l.getD 0 z77).f1 else if kd = 2 then smB l else if kd = 3 then rgB l else false
def ftB (a b c : Int) (s : ByteArray) (l : List S77) : Bool := inR a 1 99 && (inR c 0 9 && ((decide (s.toList = ([] : List UInt8)) || nmB s) && kdB b l))
theorem rdP0 (l : List S77) : rd_T77 l 0 = l.getD 0 z77 := rfl
theorem ft_js (a b c : Int) (s : ByteArray) (l : List S77) (hl : l.length < 9223372036854775807) (q : Bool) : Ev (fun k => spec_IsFeature.j0 k q a b c s l) (!q && kdB b l) := by
  cases q
  · unfold kdB
    by_cases h1 : b = 1
    · refine Ev.step (f := fun _ => some (decide (l.length = 1) && isPt (l.getD 0 z77).f0 (l.getD 0 z77).f1)) (fun k => ?_) (by simp only [if_pos h1]; exact Ev.now _)
      simp only [spec_IsFeature.j0, Bool.false_eq_true, if_false, if_pos h1, spec_IsPoint.f, Option.bind_some, rdP0]
      by_cases h : (l.length : Int) = 1
      · rw [if_pos h, if_pos (by omega), decide_eq_true (show l.length = 1 by omega)]; rfl
      · rw [if_neg h, decide_eq_false (show ¬ l.length = 1 by omega)]; rfl
    · by_cases h2 : b = 2
      · simp only [if_neg h1, if_pos h2]
        refine Ev.step (f := fun k => (spec_IsSimple.f k l).bind fun t => some t) (fun k => ?_) (Ev.bind (isSimple_s l hl) (Ev.now _))
        simp only [spec_IsFeature.j0, Bool.false_eq_true, if_false, if_neg h1, if_pos h2]
      · by_cases h3 : b = 3
        · simp only [if_neg h1, if_neg h2, if_pos h3]
          refine Ev.step (f := fun k => (spec_IsRing.f k l).bind fun t => some t) (fun k => ?_) (Ev.bind (isRing_s l hl) (Ev.now _))
          simp only [spec_IsFeature.j0, Bool.false_eq_true, if_false, if_neg h1, if_neg h2, if_pos h3]
        · simp only [if_neg h1, if_neg h2, if_neg h3]
          refine Ev.step (f := fun _ => some false) (fun k => ?_) (Ev.now _)
          simp only [spec_IsFeature.j0, Bool.false_eq_true, if_false, if_neg h1, if_neg h2, if_neg h3]
  · refine Ev.step (f := fun _ => some false) (fun k => ?_) (Ev.now _)
    simp [spec_IsFeature.j0]
theorem ft_s (a b c : Int) (s : ByteArray) (hs : s.size ≤ 9223372036854775807) (l : List S77) (hl : l.length < 9223372036854775807) : Ev (fun k => spec_IsFeature.f k a b c s l) (ftB a b c s l) := by
  unfold spec_IsFeature.f ftB spec_l1In.f
  simp only [Option.bind_some]
  cases inR a 1 99
  · simp only [Bool.false_eq_true, if_false]; exact ft_js a b c s l hl true
  · cases inR c 0 9
    · simp only [if_true, Bool.false_eq_true, if_false]; exact ft_js a b c s l hl true
    · simp only [if_true, Bool.true_and]
      by_cases he : s.toList = ([] : List UInt8)
      · simp only [if_pos he, decide_eq_true he, Bool.true_or]; exact ft_js a b c s l hl false
      · simp only [if_neg he, decide_eq_false he, Bool.false_or]
        refine Ev.bind (nm_s s hs) ?_
        have := ft_js a b c s l hl (!nmB s)
        rw [Bool.not_not] at this
        exact this
theorem ft_ji (a b c : Int) (s : ByteArray) (l : List S77) (hl : l.length < 9223372036854775807) (q : Bool) : Ev (fun k => impl_IsFeature.j0 k q a b c s l) (!q && kdB b l) := by
  cases q
  · unfold kdB
    by_cases h1 : b = 1
    · refine Ev.step (f := fun _ => some (decide (l.length = 1) && isPt (l.getD 0 z77).f0 (l.getD 0 z77).f1)) (fun k => ?_) (by simp only [if_pos h1]; exact Ev.now _)
      simp only [impl_IsFeature.j0, Bool.false_eq_true, if_false, if_pos h1, impl_IsPoint.f, Option.bind_some, rdP0]
      by_cases h : (l.length : Int) = 1
      · rw [if_pos h, if_pos (by omega), decide_eq_true (show l.length = 1 by omega)]; rfl
      · rw [if_neg h, decide_eq_false (show ¬ l.length = 1 by omega)]; rfl
    · by_cases h2 : b = 2
      · simp only [if_neg h1, if_pos h2]
        refine Ev.step (f := fun k => (impl_IsSimple.f k l).bind fun t => some t) (fun k => ?_) (Ev.bind (isSimple_i l hl) (Ev.now _))
        simp only [impl_IsFeature.j0, Bool.false_eq_true, if_false, if_neg h1, if_pos h2]
      · by_cases h3 : b = 3
        · simp only [if_neg h1, if_neg h2, if_pos h3]
          refine Ev.step (f := fun k => (impl_IsRing.f k l).bind fun t => some t) (fun k => ?_) (Ev.bind (isRing_i l hl) (Ev.now _))
          simp only [impl_IsFeature.j0, Bool.false_eq_true, if_false, if_neg h1, if_neg h2, if_pos h3]
        · simp only [if_neg h1, if_neg h2, if_neg h3]
          refine Ev.step (f := fun _ => some false) (fun k => ?_) (Ev.now _)
          simp only [impl_IsFeature.j0, Bool.false_eq_true, if_false, if_neg h1, if_neg h2, if_neg h3]
  · refine Ev.step (f := fun _ => some false) (fun k => ?_) (Ev.now _)
    simp [impl_IsFeature.j0]
theorem ft_i (a b c : Int) (s : ByteArray) (hs : s.size ≤ 9223372036854775807) (l : List S77) (hl : l.length < 9223372036854775807) : Ev (fun k => impl_IsFeature.f k a b c s l) (ftB a b c s l) := by
  unfold impl_IsFeature.f ftB impl_InRange.f
  simp only [Option.bind_some]
  cases inR a 1 99
  · simp only [Bool.false_eq_true, if_false]; exact ft_ji a b c s l hl true
  · cases inR c 0 9
    · simp only [if_true, Bool.false_eq_true, if_false]; exact ft_ji a b c s l hl true
    · simp only [if_true, Bool.true_and]
      by_cases he : s.toList = ([] : List UInt8)
      · simp only [if_pos he, decide_eq_true he, Bool.true_or]; exact ft_ji a b c s l hl false
      · simp only [if_neg he, decide_eq_false he, Bool.false_or]
        refine Ev.bind (nm_i s hs) ?_
        have := ft_ji a b c s l hl (!nmB s)
        rw [Bool.not_not] at this
        exact this
def prB (a b c : Int) (s : ByteArray) (l : List S77) : List S95 := if ftB a b c s l then (if b = 2 then sgL l else if b = 3 then (if rgB l then arR l else []) else []) else []
theorem pr_s (a b c : Int) (s : ByteArray) (hs : s.size ≤ 9223372036854775807) (l : List S77) (hl : l.length < 9223372036854775807) : Ev (fun k => spec_PartsOf.f k a b c s l) (prB a b c s l) := by
  unfold spec_PartsOf.f prB
  refine Ev.bind (ft_s a b c s hs l hl) ?_
  cases ftB a b c s l
  · simp only [Bool.false_eq_true, if_false]; exact Ev.now _
  · simp only [if_true]
    by_cases h2 : b = 2
    · simp only [if_pos h2]; exact Ev.bind (seg_s l hl) (Ev.now _)
    · by_cases h3 : b = 3
      · simp only [if_neg h2, if_pos h3]
        refine Ev.bind (a := if rgB l then arR l else []) ?_ (Ev.now _)
        unfold spec_RingSegments.f
        refine Ev.bind (isRing_s l hl) ?_
        cases h : rgB l
        · simp only [Bool.false_eq_true, if_false]; exact Ev.now _
        · simp only [if_true]
          have := rgB_len h
          exact Ev.bind (around_s l (by omega)) (Ev.now _)
      · simp only [if_neg h2, if_neg h3]; exact Ev.now _
theorem pr_i (a b c : Int) (s : ByteArray) (hs : s.size ≤ 9223372036854775807) (l : List S77) (hl : l.length < 9223372036854775807) : Ev (fun k => impl_PartsOf.f k a b c s l) (prB a b c s l) := by
  unfold impl_PartsOf.f prB
  refine Ev.bind (ft_i a b c s hs l hl) ?_
  cases ftB a b c s l
  · simp only [Bool.false_eq_true, if_false]; exact Ev.now _
  · simp only [if_true]
    by_cases h2 : b = 2
    · simp only [if_pos h2]; exact Ev.bind (seg_i l hl) (Ev.now _)
    · by_cases h3 : b = 3
      · simp only [if_neg h2, if_pos h3]
        refine Ev.bind (a := if rgB l then arR l else []) ?_ (Ev.now _)
        unfold impl_RingSegments.f
        refine Ev.bind (isRing_i l hl) ?_
        cases h : rgB l
        · simp only [Bool.false_eq_true, if_false]; exact Ev.now _
        · simp only [if_true]
          have := rgB_len h
          exact Ev.bind (around_i l (by omega)) (Ev.now _)
      · simp only [if_neg h2, if_neg h3]; exact Ev.now _
theorem prB_len (a b c : Int) (s : ByteArray) (l : List S77) : (prB a b c s l).length < 1000 := by
  unfold prB
  split
  · split
    · exact sgL_len l
    · split
      · cases h : rgB l
        · simp
        · have := rgB_len h; simp [arR_len]; omega
      · simp
  · simp
theorem cr_bd (a b c d e f : Int) (h : isPt a b = true) (h' : isPt c d = true) (h'' : isPt e f = true) : -80000 ≤ crossI a b c d e f ∧ crossI a b c d e f ≤ 80000 := by
  have := cross_eq h h' h''
  omega
/-- Twice a triangle's area, or what the machine makes of it. -/
def twI (p q r : S77) : Int := mx (crossI p.f0 p.f1 q.f0 q.f1 r.f0 r.f1) (wrap64 (-(crossI p.f0 p.f1 q.f0 q.f1 r.f0 r.f1)))
def caB (l : List S77) (i : Int) : Int := if lnB l = true ∧ 1 ≤ i ∧ i ≤ (l.length : Int) - 2 then twI (l.getD (i - 1).toNat z77) (l.getD i.toNat z77) (l.getD (i + 1).toNat z77) else -1
def csB (l : List S77) (i : Int) : Int := if rgB l = true ∧ 0 ≤ i ∧ i ≤ (l.length : Int) - 1 then twI (l.getD ((i.toNat + l.length - 1) % l.length) z77) (l.getD i.toNat z77) (l.getD ((i.toNat + 1) % l.length) z77) else -1
theorem rdPi (l : List S77) (i : Int) : rd_T77 l i = l.getD i.toNat z77 := rfl
theorem ca_s (l : List S77) (hl : l.length < 9223372036854775807) (i : Int) : Ev (fun k => spec_CornerArea.f k l i) (caB l i) := by
  unfold spec_CornerArea.f
  refine Ev.bind (isLine_s l hl) ?_
  have dead : Ev (fun k => spec_CornerArea.j0 k l i true) (-1) := Ev.step (f := fun _ => some (-1)) (fun k => by simp [spec_CornerArea.j0]) (Ev.now _)
  unfold caB
  cases h : lnB l
  · simp only [Bool.false_eq_true, if_false, false_and]; exact dead
  · obtain ⟨h2, h10⟩ := lnB_len h
    have w : wrap64 ((l.length : Int) - 2) = (l.length : Int) - 2 := by unfold wrap64; omega
    simp only [if_true, spec_l1In.f, Option.bind_some, w, true_and]
    by_cases hi : 1 ≤ i ∧ i ≤ (l.length : Int) - 2
    · have e : inR i 1 ((l.length : Int) - 2) = true := by unfold inR; simp; omega
      rw [e, if_pos hi]
      refine Ev.step (f := fun _ => some _) (fun k => ?_) (Ev.now _)
      have w1 : wrap64 (i - 1) = i - 1 := by unfold wrap64; omega
      have w2 : wrap64 (i + 1) = i + 1 := by unfold wrap64; omega
      simp only [spec_CornerArea.j0, Bool.not_true, Bool.false_eq_true, if_false, w1, w2, spec_l4Cross.f, spec_Max.f, Option.bind_some, rdPi]
      rw [if_pos (by omega), if_pos (by omega), if_pos (by omega), if_pos (by omega), if_pos (by omega), if_pos (by omega)]
      rfl
    · have e : inR i 1 ((l.length : Int) - 2) = false := by unfold inR; simp; omega
      rw [e, if_neg hi]; exact dead
theorem ca_i (l : List S77) (hl : l.length < 9223372036854775807) (i : Int) : Ev (fun k => impl_CornerArea.f k l i) (caB l i) := by
  unfold impl_CornerArea.f
  refine Ev.bind (isLine_i l hl) ?_
  unfold caB
  cases h : lnB l
  · simp only [Bool.false_eq_true, if_false, false_and]; exact Ev.now _
  · obtain ⟨h2, h10⟩ := lnB_len h
    have w : wrap64 ((l.length : Int) - 2) = (l.length : Int) - 2 := by unfold wrap64; omega
    simp only [if_true, impl_InRange.f, Option.bind_some, w, true_and]
    by_cases hi : 1 ≤ i ∧ i ≤ (l.length : Int) - 2
    · have e : inR i 1 ((l.length : Int) - 2) = true := by unfold inR; simp; omega
      have w1 : wrap64 (i - 1) = i - 1 := by unfold wrap64; omega
      have w2 : wrap64 (i + 1) = i + 1 := by unfold wrap64; omega
      rw [e, if_pos hi, if_pos rfl, w1, w2]
      simp only [impl_twice.f, impl_cross.f, Option.bind_some, rdPi]
      rw [if_pos (by omega), if_pos (by omega), if_pos (by omega), if_pos (by omega), if_pos (by omega), if_pos (by omega)]
      exact Ev.now _
    · have e : inR i 1 ((l.length : Int) - 2) = false := by unfold inR; simp; omega
      rw [e, if_neg hi]; simp only [Bool.false_eq_true, if_false]; exact Ev.now _
theorem cs_idx (n : Nat) (i : Int) (h0 : 0 ≤ i) (h1 : i ≤ (n : Int) - 1) (h3 : 3 ≤ n) (h10 : n ≤ 10) : Int.tmod (wrap64 (wrap64 (i + (n : Int)) - 1)) (n : Int) = (((i.toNat + n - 1) % n : Nat) : Int) ∧ Int.tmod (wrap64 (i + 1)) (n : Int) = (((i.toNat + 1) % n : Nat) : Int) := by
  obtain ⟨m, rfl⟩ : ∃ m : Nat, i = (m : Int) := ⟨i.toNat, by omega⟩
  have w1 : wrap64 (wrap64 ((m : Int) + (n : Int)) - 1) = ((m + n - 1 : Nat) : Int) := by unfold wrap64; omega
  have w2 : wrap64 ((m : Int) + 1) = ((m + 1 : Nat) : Int) := by unfold wrap64; omega
  rw [w1, w2, tmod_nat, tmod_nat, Int.toNat_natCast]
  exact ⟨rfl, rfl⟩
theorem cs_s (l : List S77) (hl : l.length < 9223372036854775807) (i : Int) : Ev (fun k => spec_CornerSize.f k l i) (csB l i) := by
  unfold spec_CornerSize.f
  refine Ev.bind (isRing_s l hl) ?_
  have dead : Ev (fun k => spec_CornerSize.j0 k l i true) (-1) := Ev.step (f := fun _ => some (-1)) (fun k => by simp [spec_CornerSize.j0]) (Ev.now _)
  unfold csB
  cases h : rgB l
  · simp only [Bool.false_eq_true, if_false, false_and]; exact dead
  · obtain ⟨h2, h10⟩ := rgB_len h
    have w : wrap64 ((l.length : Int) - 1) = (l.length : Int) - 1 := by unfold wrap64; omega
    simp only [if_true, spec_l1In.f, Option.bind_some, w, true_and]
    by_cases hi : 0 ≤ i ∧ i ≤ (l.length : Int) - 1
    · have e : inR i 0 ((l.length : Int) - 1) = true := by unfold inR; simp; omega
      rw [e, if_pos hi]
      refine Ev.step (f := fun _ => some _) (fun k => ?_) (Ev.now _)
      obtain ⟨i1, i2⟩ := cs_idx l.length i hi.1 hi.2 h2 h10
      have m1 : (i.toNat + l.length - 1) % l.length < l.length := Nat.mod_lt _ (by omega)
      have m2 : (i.toNat + 1) % l.length < l.length := Nat.mod_lt _ (by omega)
      simp only [spec_CornerSize.j0, Bool.not_true, Bool.false_eq_true, if_false, i1, i2, spec_l4Cross.f, spec_Max.f, Option.bind_some, rdPi]
      rw [if_neg (by omega), if_pos (by omega), if_pos (by omega), if_pos (by omega), if_pos (by omega), if_pos (by omega), if_pos (by omega)]
      rfl
    · have e : inR i 0 ((l.length : Int) - 1) = false := by unfold inR; simp; omega
      rw [e, if_neg hi]; exact dead
theorem cs_i (l : List S77) (hl : l.length < 9223372036854775807) (i : Int) : Ev (fun k => impl_CornerSize.f k l i) (csB l i) := by
  unfold impl_CornerSize.f
  refine Ev.bind (isRing_i l hl) ?_
  unfold csB
  cases h : rgB l
  · simp only [Bool.false_eq_true, if_false, false_and]; exact Ev.now _
  · obtain ⟨h2, h10⟩ := rgB_len h
    have w : wrap64 ((l.length : Int) - 1) = (l.length : Int) - 1 := by unfold wrap64; omega
    simp only [if_true, impl_InRange.f, Option.bind_some, w, true_and]
    by_cases hi : 0 ≤ i ∧ i ≤ (l.length : Int) - 1
    · have e : inR i 0 ((l.length : Int) - 1) = true := by unfold inR; simp; omega
      obtain ⟨i1, i2⟩ := cs_idx l.length i hi.1 hi.2 h2 h10
      have m1 : (i.toNat + l.length - 1) % l.length < l.length := Nat.mod_lt _ (by omega)
      have m2 : (i.toNat + 1) % l.length < l.length := Nat.mod_lt _ (by omega)
      rw [e, if_pos hi, if_pos rfl, i1, i2]
      simp only [impl_twice.f, impl_cross.f, Option.bind_some, rdPi]
      rw [if_neg (by omega), if_pos (by omega), if_pos (by omega), if_pos (by omega), if_pos (by omega), if_pos (by omega), if_pos (by omega)]
      exact Ev.now _
    · have e : inR i 0 ((l.length : Int) - 1) = false := by unfold inR; simp; omega
      rw [e, if_neg hi]; simp only [Bool.false_eq_true, if_false]; exact Ev.now _
def szB (kd : Int) (l : List S77) (i : Int) : Int := if kd = 2 then caB l i else if kd = 3 then csB l i else -1
theorem sz_s (a b c : Int) (s : ByteArray) (l : List S77) (hl : l.length < 9223372036854775807) (i : Int) : Ev (fun k => spec_SizeAt.f k a b c s l i) (szB b l i) := by
  unfold spec_SizeAt.f szB
  by_cases h : b = 2
  · simp only [if_pos h]; exact Ev.bind (ca_s l hl i) (Ev.now _)
  · simp only [if_neg h]
    by_cases h' : b = 3
    · simp only [if_pos h']; exact Ev.bind (cs_s l hl i) (Ev.now _)
    · simp only [if_neg h']; exact Ev.now _
theorem sz_i (a b c : Int) (s : ByteArray) (l : List S77) (hl : l.length < 9223372036854775807) (i : Int) : Ev (fun k => impl_SizeAt.f k a b c s l i) (szB b l i) := by
  unfold impl_SizeAt.f szB
  by_cases h : b = 2
  · simp only [if_pos h]; exact Ev.bind (ca_i l hl i) (Ev.now _)
  · simp only [if_neg h]
    by_cases h' : b = 3
    · simp only [if_pos h']; exact Ev.bind (cs_i l hl i) (Ev.now _)
    · simp only [if_neg h']; exact Ev.now _
theorem arR_at (l : List S77) (i : Nat) (h : i < l.length) : (arR l).getD i z95 = (⟨l.getD i z77, l.getD ((i + 1) % l.length) z77⟩ : S95) := by
  have h2 : i < (arR l).length := by rw [arR_len]; exact h
  rw [List.getD_eq_getElem?_getD, List.getElem?_eq_getElem h2]
  simp [arR]
theorem nx_mod {n e : Nat} (h : e < n) : (e + 1) % n = nx n e := by
  unfold nx
  split
  · rename_i h2; rw [h2, Nat.mod_self]
  · exact Nat.mod_eq_of_lt (by omega)
def trm (l : List S77) (e : Nat) : Int := (l.getD e z77).f0 * (l.getD (nx l.length e) z77).f1 - (l.getD e z77).f1 * (l.getD (nx l.length e) z77).f0
/-- Twice the area. -/
def areaL (l : List S77) : Int := sm (trm l) l.length
theorem rg_key {l : List S77} (h : rgB l = true) : ∀ i, i < l.length → segL ((arR l).getD i z95) = true ∧ ∀ k, k < i → inRow (arR l) i k = true := by
  intro i hi
  unfold rgB ringS at h
  rw [Bool.and_eq_true] at h
  have := List.all_eq_true.1 h.2 i (List.mem_range'_1.2 ⟨by omega, by omega⟩)
  rw [Bool.and_eq_true] at this
  exact ⟨this.1, fun k hk => List.all_eq_true.1 this.2 k (List.mem_range'_1.2 ⟨by omega, by omega⟩)⟩
theorem area_ne {l : List S77} (h : rgB l = true) : areaL l ≠ 0 := by
  have hn := rgB_len h
  refine valid_area (fun i => (l.getD i z77).f0) (fun i => (l.getD i z77).f1) hn.1 (fun e he => ?_) (fun i k hk hi => ?_)
  · have := (rg_key h e he).1
    rw [arR_at l e he, nx_mod he] at this
    exact this
  · have := (rg_key h i hi).2 k hk
    unfold inRow howL wantR at this
    rw [arR_len, arR_at l i hi, arR_at l k (by omega), nx_mod hi, nx_mod (by omega)] at this
    exact of_decide_eq_true this
theorem trm_bd {l : List S77} (h : rgB l = true) {e : Nat} (he : e < l.length) :
    (-40000 ≤ (l.getD e z77).f0 * (l.getD (nx l.length e) z77).f1 ∧ (l.getD e z77).f0 * (l.getD (nx l.length e) z77).f1 ≤ 40000) ∧ -40000 ≤ (l.getD e z77).f1 * (l.getD (nx l.length e) z77).f0 ∧ (l.getD e z77).f1 * (l.getD (nx l.length e) z77).f0 ≤ 40000 := by
  have h1 := (rg_key h e he).1
  rw [arR_at l e he, nx_mod he] at h1
  obtain ⟨p, q, _⟩ := isSeg_iff.1 (show isSeg (l.getD e z77).f0 (l.getD e z77).f1 (l.getD (nx l.length e) z77).f0 (l.getD (nx l.length e) z77).f1 = true from h1)
  rw [isPt_iff] at p q
  exact ⟨mul_bd (by omega) (by omega) (by omega) (by omega), mul_bd (by omega) (by omega) (by omega) (by omega)⟩
theorem sum_bd {l : List S77} (h : rgB l = true) : ∀ i, i ≤ l.length → -80000 * (i : Int) ≤ sm (trm l) i ∧ sm (trm l) i ≤ 80000 * (i : Int)
  | 0, _ => by simp [sm]
  | i + 1, hi => by
    have h1 := sum_bd h i (by omega)
    obtain ⟨h2, h3⟩ := trm_bd h (e := i) (by omega)
    simp only [sm]
    unfold trm at h1 ⊢
    constructor <;> omega
theorem w_sum1 {a p q : Int} (h1 : -10000000 ≤ a) (h2 : a ≤ 10000000) (h3 : -40000 ≤ p) (h4 : p ≤ 40000) (h5 : -40000 ≤ q) (h6 : q ≤ 40000) : wrap64 (wrap64 (a + wrap64 p) - wrap64 q) = a + p - q := by unfold wrap64; omega
theorem w_sum2 {a p q : Int} (h1 : -10000000 ≤ a) (h2 : a ≤ 10000000) (h3 : -40000 ≤ p) (h4 : p ≤ 40000) (h5 : -40000 ≤ q) (h6 : q ≤ 40000) : wrap64 (a + wrap64 (wrap64 p - wrap64 q)) = a + (p - q) := by unfold wrap64; omega
theorem area_sl {l : List S77} (h : rgB l = true) (d : Nat) : ∀ i : Nat, i + d = l.length → Ev (fun k => spec_TwiceArea.l0 k l (sm (trm l) i) (arR l) (i : Int)) (areaL l) := by
  have hn := rgB_len h
  induction d with
  | zero =>
    intro i hi
    have : i = l.length := by omega
    subst this
    refine Ev.step (f := fun _ => some (areaL l)) (fun k => ?_) (Ev.now _)
    simp only [spec_TwiceArea.l0]
    rw [if_neg (by rw [arR_len]; omega)]
    rfl
  | succ d ih =>
    intro i hi
    have h1 : i < l.length := by omega
    refine Ev.step (f := fun k => (spec_IsRing.f k l).bind fun t => if t = true then spec_TwiceArea.l0 k l (sm (trm l) (i + 1)) (arR l) ((i + 1 : Nat) : Int) else some (sm (trm l) i)) (fun k => ?_) (Ev.bind (isRing_s l (by omega)) (by simp only [h, if_true]; exact ih (i + 1) (by omega)))
    obtain ⟨⟨b1, b2⟩, b3, b4⟩ := trm_bd h h1
    obtain ⟨s1, s2⟩ := sum_bd h i (by omega)
    have e1 : wrap64 (wrap64 (sm (trm l) i + wrap64 ((l.getD i z77).f0 * (l.getD (nx l.length i) z77).f1)) - wrap64 ((l.getD i z77).f1 * (l.getD (nx l.length i) z77).f0)) = sm (trm l) (i + 1) := by
      rw [w_sum1 (by omega) (by omega) b1 b2 b3 b4]
      show _ = sm (trm l) i + trm l i
      unfold trm
      omega
    simp only [spec_TwiceArea.l0]
    rw [if_pos (by rw [arR_len]; omega), rdSg (arR l) i (by rw [arR_len]; exact h1), arR_at l i h1, nx_mod h1]
    simp only [e1, w1' i (by omega), if_pos (show (0 : Int) ≤ (i : Int) by omega)]
theorem area_s {l : List S77} (h : rgB l = true) : Ev (fun k => spec_TwiceArea.f k l) (areaL l) := by
  have hn := rgB_len h
  unfold spec_TwiceArea.f
  exact Ev.bind (around_s l (by omega)) (area_sl h l.length 0 (by omega))
theorem area_il {l : List S77} (h : rgB l = true) (d : Nat) : ∀ i : Nat, i + d = l.length → Ev (fun k => impl_TwiceArea.l0 k (sm (trm l) i) (arR l) ((arR l).length : Int) (i : Int)) (areaL l) := by
  have hn := rgB_len h
  induction d with
  | zero =>
    intro i hi
    have : i = l.length := by omega
    subst this
    refine Ev.step (f := fun _ => some (areaL l)) (fun k => ?_) (Ev.now _)
    simp only [impl_TwiceArea.l0]
    rw [if_neg (by rw [arR_len]; omega)]
    rfl
  | succ d ih =>
    intro i hi
    have h1 : i < l.length := by omega
    refine Ev.step (fun k => ?_) (ih (i + 1) (by omega))
    obtain ⟨⟨b1, b2⟩, b3, b4⟩ := trm_bd h h1
    obtain ⟨s1, s2⟩ := sum_bd h i (by omega)
    have e1 : wrap64 (sm (trm l) i + wrap64 (wrap64 ((l.getD i z77).f0 * (l.getD (nx l.length i) z77).f1) - wrap64 ((l.getD i z77).f1 * (l.getD (nx l.length i) z77).f0))) = sm (trm l) (i + 1) := by
      rw [w_sum2 (by omega) (by omega) b1 b2 b3 b4]
      show _ = sm (trm l) i + trm l i
      unfold trm
      rfl
    simp only [impl_TwiceArea.l0]
    rw [if_pos (by rw [arR_len]; omega), rdSg (arR l) i (by rw [arR_len]; exact h1), arR_at l i h1, nx_mod h1]
    simp only [e1, w1' i (by omega), if_pos (show (0 : Int) ≤ (i : Int) by omega)]
    rw [if_pos (by rw [arR_len]; omega)]
theorem area_i {l : List S77} (h : rgB l = true) : Ev (fun k => impl_TwiceArea.f k l) (areaL l) := by
  have hn := rgB_len h
  have hs : Ev (fun k => impl_RingSegments.f k l) (arR l) := by
    unfold impl_RingSegments.f
    refine Ev.bind (isRing_i l (by omega)) ?_
    simp only [h, if_true]
    exact Ev.bind (around_i l (by omega)) (Ev.now _)
  unfold impl_TwiceArea.f
  exact Ev.bind hs (area_il h l.length 0 (by omega))
def turnB (a b : List S77) : Bool := decide (areaL a > 0 ∧ areaL b > 0 ∨ areaL a < 0 ∧ areaL b < 0)
theorem turn_s {a b : List S77} (ha : rgB a = true) (hb : rgB b = true) : Ev (fun k => spec_SameTurn.f k a b) (turnB a b) := by
  unfold spec_SameTurn.f turnB
  refine Ev.bind (area_s ha) (Ev.bind (area_s hb) ?_)
  by_cases h1 : areaL a > 0
  · simp only [if_pos h1]
    by_cases h2 : areaL b > 0
    · simp only [if_pos h2, decide_eq_true (show (areaL a > 0 ∧ areaL b > 0 ∨ areaL a < 0 ∧ areaL b < 0) from .inl ⟨h1, h2⟩)]; exact Ev.now _
    · simp only [if_neg h2, if_neg (show ¬ areaL a < 0 by omega), decide_eq_false (show ¬ (areaL a > 0 ∧ areaL b > 0 ∨ areaL a < 0 ∧ areaL b < 0) by omega)]; exact Ev.now _
  · simp only [if_neg h1]
    by_cases h2 : areaL a < 0
    · simp only [if_pos h2]
      rw [decide_eq_decide.2 (show (areaL a > 0 ∧ areaL b > 0 ∨ areaL a < 0 ∧ areaL b < 0) ↔ areaL b < 0 by omega)]
      exact Ev.now _
    · simp only [if_neg h2, decide_eq_false (show ¬ (areaL a > 0 ∧ areaL b > 0 ∨ areaL a < 0 ∧ areaL b < 0) by omega)]; exact Ev.now _
theorem turn_i {a b : List S77} (ha : rgB a = true) (hb : rgB b = true) : (cmpI (areaL b) 0 = cmpI (areaL a) 0) ↔ turnB a b = true := by
  have h1 := area_ne ha
  have h2 := area_ne hb
  unfold turnB cmpI
  rw [decide_eq_true_iff]
  split <;> split <;> (repeat' split) <;> omega
/-- The list without one point. -/
def woL (l : List S77) (i : Int) : List S77 := l.take i.toNat ++ l.drop (i.toNat + 1)
def dpF (l : List S77) (i : Int) : List S77 × Bool := if (lnB l && (inR i 1 ((l.length : Int) - 2) && lnB (woL l i))) = true then (woL l i, true) else (l, false)
def dcF (l : List S77) (i : Int) : List S77 × Bool := if (rgB l && (inR i 0 ((l.length : Int) - 1) && (rgB (woL l i) && turnB l (woL l i)))) = true then (woL l i, true) else (l, false)
theorem inR_iff {a b c : Int} : inR a b c = true ↔ b ≤ a ∧ a ≤ c := by unfold inR; simp
theorem woL_len (l : List S77) (i : Int) : (woL l i).length ≤ l.length := by unfold woL; simp; omega
theorem dp_js (l : List S77) (i : Int) (hl : l.length < 1048577) (q : Bool) (hq : q = false → 0 ≤ i ∧ i < l.length) : Ev (fun k => spec_DropPoint.j0 k l i q) (if (!q && lnB (woL l i)) = true then (woL l i, true) else (l, false)) := by
  cases q
  · obtain ⟨h0, h1⟩ := hq rfl
    have w : wrap64 (i + 1) = i + 1 := by unfold wrap64; omega
    have e : (i + 1).toNat = i.toNat + 1 := by omega
    refine Ev.step (f := fun k => (spec_IsLine.f k (woL l i)).bind fun t => if t = true then some (woL l i, true) else some (l, false)) (fun k => ?_) (Ev.bind (isLine_s (woL l i) (by have := woL_len l i; omega)) ?_)
    · simp only [spec_DropPoint.j0, Bool.false_eq_true, if_false, Option.bind_some, w, e]
      rw [if_pos h0, if_pos (by omega), if_pos (by simp; omega), if_pos (by omega), if_pos (by omega), if_pos (by simp; omega), if_pos (by simp; omega)]
      rfl
    · cases lnB (woL l i) <;> simp <;> exact Ev.now _
  · refine Ev.step (f := fun _ => some (l, false)) (fun k => ?_) (by simp; exact Ev.now _)
    simp only [spec_DropPoint.j0, if_true, Option.bind_some, List.nil_append]
    rw [if_pos (by simp; omega)]
theorem dp_s (l : List S77) (i : Int) (hl : l.length < 1048577) : Ev (fun k => spec_DropPoint.f k l i) (dpF l i) := by
  unfold spec_DropPoint.f dpF spec_l1In.f
  refine Ev.bind (isLine_s l (by omega)) ?_
  cases h : lnB l
  · simp only [Bool.false_eq_true, if_false, Bool.false_and]
    have := dp_js l i hl true (fun h => by cases h)
    simpa using this
  · have hb := lnB_len h
    have w : wrap64 ((l.length : Int) - 2) = (l.length : Int) - 2 := by unfold wrap64; omega
    simp only [if_true, Option.bind_some, w, Bool.true_and]
    have := dp_js l i hl (!inR i 1 ((l.length : Int) - 2)) (fun h2 => by have h3 := inR_iff.1 (show inR i 1 ((l.length : Int) - 2) = true by simpa using h2); omega)
    rw [Bool.not_not] at this
    exact this
theorem dp_ji (l : List S77) (i : Int) (hl : l.length < 1048577) (q : Bool) (hq : q = false → 0 ≤ i ∧ i < l.length) : Ev (fun k => impl_DropPoint.j0 k l i q) (if (!q && lnB (woL l i)) = true then (woL l i, true) else (l, false)) := by
  cases q
  · obtain ⟨h0, h1⟩ := hq rfl
    refine Ev.step (f := fun k => (impl_IsLine.f k (woL l i)).bind fun t => if t = true then some (woL l i, true) else some (l, false)) (fun k => ?_) (Ev.bind (isLine_i (woL l i) (by have := woL_len l i; omega)) ?_)
    · simp only [impl_DropPoint.j0, Bool.false_eq_true, if_false, impl_without.f, impl_Point.f]
      rw [if_pos h0, if_pos h1, if_pos (by omega), if_pos (by omega)]
      rfl
    · cases lnB (woL l i) <;> simp <;> exact Ev.now _
  · refine Ev.step (f := fun _ => some (l, false)) (fun k => ?_) (by simp; exact Ev.now _)
    simp only [impl_DropPoint.j0, if_true, impl_Point.f]
    rw [if_pos (by omega)]
    rfl
theorem dp_i (l : List S77) (i : Int) (hl : l.length < 1048577) : Ev (fun k => impl_DropPoint.f k l i) (dpF l i) := by
  unfold impl_DropPoint.f dpF impl_InRange.f
  refine Ev.bind (isLine_i l (by omega)) ?_
  cases h : lnB l
  · simp only [Bool.false_eq_true, if_false, Bool.false_and]
    have := dp_ji l i hl true (fun h => by cases h)
    simpa using this
  · have hb := lnB_len h
    have w : wrap64 ((l.length : Int) - 2) = (l.length : Int) - 2 := by unfold wrap64; omega
    simp only [if_true, Option.bind_some, w, Bool.true_and]
    have := dp_ji l i hl (!inR i 1 ((l.length : Int) - 2)) (fun h2 => by have h3 := inR_iff.1 (show inR i 1 ((l.length : Int) - 2) = true by simpa using h2); omega)
    rw [Bool.not_not] at this
    exact this
theorem dc_js (l : List S77) (i : Int) (hl : l.length < 1048577) (q : Bool) (hq : q = false → rgB l = true ∧ 0 ≤ i ∧ i < l.length) : Ev (fun k => spec_DropCorner.j0 k l i q) (if (!q && (rgB (woL l i) && turnB l (woL l i))) = true then (woL l i, true) else (l, false)) := by
  cases q
  · obtain ⟨hr, h0, h1⟩ := hq rfl
    have w : wrap64 (i + 1) = i + 1 := by unfold wrap64; omega
    have e : (i + 1).toNat = i.toNat + 1 := by omega
    refine Ev.step (f := fun k => (spec_IsRing.f k (woL l i)).bind fun t => if t = true then ((spec_SameTurn.f k l (woL l i)).bind fun t => if t = true then some (woL l i, true) else some (l, false)) else some (l, false)) (fun k => ?_) (Ev.bind (isRing_s (woL l i) (by have := woL_len l i; omega)) ?_)
    · simp only [spec_DropCorner.j0, Bool.false_eq_true, if_false, Option.bind_some, w, e]
      rw [if_pos h0, if_pos (by omega), if_pos (by simp; omega), if_pos (by omega), if_pos (by omega), if_pos (by simp; omega), if_pos (by simp; omega)]
      rfl
    · cases h2 : rgB (woL l i)
      · simp; exact Ev.now _
      · simp only [if_true, Bool.not_false, Bool.true_and]
        refine Ev.bind (turn_s hr h2) ?_
        cases turnB l (woL l i) <;> simp <;> exact Ev.now _
  · refine Ev.step (f := fun _ => some (l, false)) (fun k => ?_) (by simp; exact Ev.now _)
    simp only [spec_DropCorner.j0, if_true, Option.bind_some, List.nil_append]
    rw [if_pos (by simp; omega)]
theorem dc_s (l : List S77) (i : Int) (hl : l.length < 1048577) : Ev (fun k => spec_DropCorner.f k l i) (dcF l i) := by
  unfold spec_DropCorner.f dcF spec_l1In.f
  refine Ev.bind (isRing_s l (by omega)) ?_
  cases h : rgB l
  · simp only [Bool.false_eq_true, if_false, Bool.false_and]
    have := dc_js l i hl true (fun h => by cases h)
    simpa using this
  · have hb := rgB_len h
    have w : wrap64 ((l.length : Int) - 1) = (l.length : Int) - 1 := by unfold wrap64; omega
    simp only [if_true, Option.bind_some, w, Bool.true_and]
    have := dc_js l i hl (!inR i 0 ((l.length : Int) - 1)) (fun h2 => by have h3 := inR_iff.1 (show inR i 0 ((l.length : Int) - 1) = true by simpa using h2); exact ⟨h, by omega, by omega⟩)
    rw [Bool.not_not] at this
    exact this
theorem dc_ji (l : List S77) (i : Int) (hl : l.length < 1048577) (q : Bool) (hq : q = false → rgB l = true ∧ 0 ≤ i ∧ i < l.length) : Ev (fun k => impl_DropCorner.j0 k l i q) (if (!q && (rgB (woL l i) && turnB l (woL l i))) = true then (woL l i, true) else (l, false)) := by
  cases q
  · obtain ⟨hr, h0, h1⟩ := hq rfl
    refine Ev.step (f := fun k => (impl_IsRing.f k (woL l i)).bind fun t => if t = true then ((impl_TwiceArea.f k (woL l i)).bind fun t1 => ((impl_TwiceArea.f k l).bind fun t2 => if cmpI t1 0 = cmpI t2 0 then some (woL l i, true) else some (l, false))) else some (l, false)) (fun k => ?_) (Ev.bind (isRing_i (woL l i) (by have := woL_len l i; omega)) ?_)
    · simp only [impl_DropCorner.j0, Bool.false_eq_true, if_false, impl_without.f, impl_Point.f, cmp_Compare_int.f, Option.bind_some]
      rw [if_pos h0, if_pos h1, if_pos (by omega), if_pos (by omega)]
      rfl
    · cases h2 : rgB (woL l i)
      · simp; exact Ev.now _
      · simp only [if_true, Bool.not_false, Bool.true_and]
        refine Ev.bind (area_i h2) (Ev.bind (area_i hr) ?_)
        by_cases h3 : cmpI (areaL (woL l i)) 0 = cmpI (areaL l) 0
        · simp only [if_pos h3, (turn_i hr h2).1 h3, if_true]; exact Ev.now _
        · have h4 : turnB l (woL l i) = false := by
            rw [← Bool.not_eq_true]
            exact fun h => h3 ((turn_i hr h2).2 h)
          simp only [if_neg h3, h4, Bool.false_eq_true, if_false]; exact Ev.now _
  · refine Ev.step (f := fun _ => some (l, false)) (fun k => ?_) (by simp; exact Ev.now _)
    simp only [impl_DropCorner.j0, if_true, impl_Point.f]
    rw [if_pos (by omega)]
    rfl
theorem dc_i (l : List S77) (i : Int) (hl : l.length < 1048577) : Ev (fun k => impl_DropCorner.f k l i) (dcF l i) := by
  unfold impl_DropCorner.f dcF impl_InRange.f
  refine Ev.bind (isRing_i l (by omega)) ?_
  cases h : rgB l
  · simp only [Bool.false_eq_true, if_false, Bool.false_and]
    have := dc_ji l i hl true (fun h => by cases h)
    simpa using this
  · have hb := rgB_len h
    have w : wrap64 ((l.length : Int) - 1) = (l.length : Int) - 1 := by unfold wrap64; omega
    simp only [if_true, Option.bind_some, w, Bool.true_and]
    have := dc_ji l i hl (!inR i 0 ((l.length : Int) - 1)) (fun h2 => by have h3 := inR_iff.1 (show inR i 0 ((l.length : Int) - 1) = true by simpa using h2); exact ⟨h, by omega, by omega⟩)
    rw [Bool.not_not] at this
    exact this
/-- What DropFrom hands back: the points, and whether one was left out. -/
def dfP (b : Int) (l : List S77) (i : Int) : List S77 × Bool := if b = 2 then dpF l i else if b = 3 then dcF l i else (l, false)
def dfF (a b c : Int) (s : ByteArray) (l : List S77) (i : Int) : List S77 × Bool := if ((dfP b l i).2 && ftB a b c s (dfP b l i).1) = true then ((dfP b l i).1, true) else (l, false)
theorem dpF_len (l : List S77) (i : Int) : (dpF l i).1.length ≤ l.length := by unfold dpF; split <;> first | exact woL_len l i | exact Nat.le_refl _
theorem dcF_len (l : List S77) (i : Int) : (dcF l i).1.length ≤ l.length := by unfold dcF; split <;> first | exact woL_len l i | exact Nat.le_refl _
theorem dfP_len (b : Int) (l : List S77) (i : Int) : (dfP b l i).1.length ≤ l.length := by
  unfold dfP
  split
  · exact dpF_len l i
  · split
    · exact dcF_len l i
    · exact Nat.le_refl _
theorem dfF_len (a b c : Int) (s : ByteArray) (l : List S77) (i : Int) : (dfF a b c s l i).1.length ≤ l.length := by
  unfold dfF
  split
  · exact dfP_len b l i
  · exact Nat.le_refl _
theorem df_js (a b c : Int) (s : ByteArray) (hs : s.size ≤ 9223372036854775807) (l m : List S77) (hl : l.length < 1048577) (hm : m.length ≤ l.length) (q : Bool) : Ev (fun k => spec_DropFrom.j0 k q a b c s l a b c s m) (a, b, c, s, if (q && ftB a b c s m) = true then (m, true) else (l, false)) := by
  have e : ∀ k : Nat, spec_l9Feature.f a b c s l = some (a, b, c, s, l) := fun _ => by
    unfold spec_l9Feature.f
    simp only [Option.bind_some, List.nil_append]
    rw [if_pos (by simp; omega)]
  cases q
  · refine Ev.step (f := fun _ => some (a, b, c, s, l, false)) (fun k => ?_) (by simp; exact Ev.now _)
    simp only [spec_DropFrom.j0, Bool.false_eq_true, if_false, e k, Option.bind_some]
  · refine Ev.step (f := fun k => (spec_IsFeature.f k a b c s m).bind fun t => if t = true then some (a, b, c, s, m, true) else some (a, b, c, s, l, false)) (fun k => ?_) (Ev.bind (ft_s a b c s hs m (by omega)) ?_)
    · simp only [spec_DropFrom.j0, if_true, e k, Option.bind_some]
    · cases ftB a b c s m <;> simp <;> exact Ev.now _
theorem df_s (a b c : Int) (s : ByteArray) (hs : s.size ≤ 9223372036854775807) (l : List S77) (hl : l.length < 1048577) (i : Int) : Ev (fun k => spec_DropFrom.f k a b c s l i) (a, b, c, s, dfF a b c s l i) := by
  have e : spec_l9Feature.f a b c s l = some (a, b, c, s, l) := by
    unfold spec_l9Feature.f
    simp only [Option.bind_some, List.nil_append]
    rw [if_pos (by simp; omega)]
  unfold spec_DropFrom.f dfF dfP
  simp only [e, Option.bind_some]
  by_cases h2 : b = 2
  · simp only [if_pos h2]
    exact Ev.bind (dp_s l i hl) (df_js a b c s hs l _ hl (dpF_len l i) _)
  · simp only [if_neg h2]
    by_cases h3 : b = 3
    · simp only [if_pos h3]
      exact Ev.bind (dc_s l i hl) (df_js a b c s hs l _ hl (dcF_len l i) _)
    · simp only [if_neg h3]
      exact df_js a b c s hs l l hl (Nat.le_refl _) false
theorem df_ji (a b c : Int) (s : ByteArray) (hs : s.size ≤ 9223372036854775807) (l m : List S77) (hl : l.length < 1048577) (hm : m.length ≤ l.length) (q : Bool) : Ev (fun k => impl_DropFrom.j0 k q a b c s l a b c s m) (a, b, c, s, if (q && ftB a b c s m) = true then (m, true) else (l, false)) := by
  have e : ∀ k : Nat, impl_cloneFeature.f a b c s l = some (a, b, c, s, l) := fun _ => by
    unfold impl_cloneFeature.f impl_Point.f
    rw [if_pos (by omega)]
    rfl
  cases q
  · refine Ev.step (f := fun _ => some (a, b, c, s, l, false)) (fun k => ?_) (by simp; exact Ev.now _)
    simp only [impl_DropFrom.j0, Bool.false_eq_true, if_false, e k, Option.bind_some]
  · refine Ev.step (f := fun k => (impl_IsFeature.f k a b c s m).bind fun t => if t = true then some (a, b, c, s, m, true) else some (a, b, c, s, l, false)) (fun k => ?_) (Ev.bind (ft_i a b c s hs m (by omega)) ?_)
    · simp only [impl_DropFrom.j0, if_true, e k, Option.bind_some]
    · cases ftB a b c s m <;> simp <;> exact Ev.now _
theorem df_i (a b c : Int) (s : ByteArray) (hs : s.size ≤ 9223372036854775807) (l : List S77) (hl : l.length < 1048577) (i : Int) : Ev (fun k => impl_DropFrom.f k a b c s l i) (a, b, c, s, dfF a b c s l i) := by
  have e : impl_cloneFeature.f a b c s l = some (a, b, c, s, l) := by
    unfold impl_cloneFeature.f impl_Point.f
    rw [if_pos (by omega)]
    rfl
  unfold impl_DropFrom.f dfF dfP
  simp only [e, Option.bind_some]
  by_cases h2 : b = 2
  · simp only [if_pos h2]
    exact Ev.bind (dp_i l i hl) (df_ji a b c s hs l _ hl (dpF_len l i) _)
  · simp only [if_neg h2]
    by_cases h3 : b = 3
    · simp only [if_pos h3]
      exact Ev.bind (dc_i l i hl) (df_ji a b c s hs l _ hl (dcF_len l i) _)
    · simp only [if_neg h3]
      exact df_ji a b c s hs l l hl (Nat.le_refl _) false
theorem drop_at (t : List S95) (j : Nat) (h : j < t.length) : t.drop j = t.getD j z95 :: t.drop (j + 1) := by
  rw [List.drop_eq_getElem_cons h, List.getD_eq_getElem?_getD, List.getElem?_eq_getElem h]; rfl
def rowG (p : S95) (t : List S95) (x : Int) : Int := t.foldl (fun x q => mx x (howL p q)) x
def grG (s t : List S95) (x : Int) : Int := s.foldl (fun x p => rowG p t x) x
theorem fm_sl1 (s t : List S95) (hs : s.length < 1000) (ht : t.length < 1000) (i : Nat) (hi : i < s.length) (R : Int) (d : Nat) :
    ∀ (j : Nat) (x : Int), j + d = t.length → Ev (fun k => spec_FeaturesMeet.l0 k (rowG (s.getD i z95) (t.drop j) x) s t ((i + 1 : Nat) : Int)) R → Ev (fun k => spec_FeaturesMeet.l1 k x s t (i : Int) (j : Int)) R := by
  induction d with
  | zero =>
    intro j x hj hr
    rw [List.drop_of_length_le (by omega)] at hr
    refine Ev.step (fun k => ?_) hr
    simp only [spec_FeaturesMeet.l1]
    rw [if_neg (by omega), w1' i (by omega)]; rfl
  | succ d ih =>
    intro j x hj hr
    have h1 : j < t.length := by omega
    rw [drop_at t j h1] at hr
    refine Ev.step (f := fun k => (spec_HowMeet.f (s.getD i z95).f0.f0 (s.getD i z95).f0.f1 (s.getD i z95).f1.f0 (s.getD i z95).f1.f1 (t.getD j z95).f0.f0 (t.getD j z95).f0.f1 (t.getD j z95).f1.f0 (t.getD j z95).f1.f1).bind fun v => spec_FeaturesMeet.l1 k (mx x v) s t (i : Int) ((j + 1 : Nat) : Int)) (fun k => ?_) (Ev.bind (how_s _ _ _ _ _ _ _ _) (ih (j + 1) _ (by omega) hr))
    simp only [spec_FeaturesMeet.l1, spec_Max.f, Option.bind_some]
    rw [if_pos (by omega), if_pos (by omega), if_pos (by omega), if_pos (by omega), rdSg s i hi, rdSg t j h1, w1' j (by omega)]
theorem fm_sl0 (s t : List S95) (hs : s.length < 1000) (ht : t.length < 1000) (d : Nat) : ∀ (i : Nat) (x : Int), i + d = s.length → Ev (fun k => spec_FeaturesMeet.l0 k x s t (i : Int)) (grG (s.drop i) t x) := by
  induction d with
  | zero =>
    intro i x hi
    rw [List.drop_of_length_le (by omega)]
    refine Ev.step (f := fun _ => some x) (fun k => ?_) (Ev.now _)
    simp only [spec_FeaturesMeet.l0]
    rw [if_neg (by omega)]
  | succ d ih =>
    intro i x hi
    have h1 : i < s.length := by omega
    rw [drop_at s i h1]
    refine Ev.step (fun k => ?_) (fm_sl1 s t hs ht i h1 _ t.length 0 x (by omega) (ih (i + 1) _ (by omega)))
    simp only [spec_FeaturesMeet.l0]
    rw [if_pos (by omega)]; rfl
theorem fm_il1 (s t : List S95) (hs : s.length < 1000) (ht : t.length < 1000) (i : Nat) (hi : i < s.length) (R : Int) (d : Nat) :
    ∀ (j : Nat) (x : Int), j + d = t.length → Ev (fun k => impl_greatest.l0 k t (rowG (s.getD i z95) (t.drop j) x) s (s.length : Int) ((i + 1 : Nat) : Int)) R → Ev (fun k => impl_greatest.l1 k t x s (s.length : Int) (i : Int) t (t.length : Int) (j : Int) (s.getD i z95).f0.f0 (s.getD i z95).f0.f1 (s.getD i z95).f1.f0 (s.getD i z95).f1.f1) R := by
  induction d with
  | zero =>
    intro j x hj hr
    rw [List.drop_of_length_le (by omega)] at hr
    refine Ev.step (fun k => ?_) hr
    simp only [impl_greatest.l1]
    rw [if_neg (by omega), w1' i (by omega)]; rfl
  | succ d ih =>
    intro j x hj hr
    have h1 : j < t.length := by omega
    rw [drop_at t j h1] at hr
    refine Ev.step (f := fun k => (impl_HowMeet.f k (s.getD i z95).f0.f0 (s.getD i z95).f0.f1 (s.getD i z95).f1.f0 (s.getD i z95).f1.f1 (t.getD j z95).f0.f0 (t.getD j z95).f0.f1 (t.getD j z95).f1.f0 (t.getD j z95).f1.f1).bind fun v => impl_greatest.l1 k t (mx x v) s (s.length : Int) (i : Int) t (t.length : Int) ((j + 1 : Nat) : Int) (s.getD i z95).f0.f0 (s.getD i z95).f0.f1 (s.getD i z95).f1.f0 (s.getD i z95).f1.f1) (fun k => ?_) (Ev.bind (how_i _ _ _ _ _ _ _ _) (ih (j + 1) _ (by omega) hr))
    simp only [impl_greatest.l1]
    rw [if_pos (by omega), if_pos (by omega), if_pos (by omega), rdSg t j h1, w1' j (by omega)]
theorem fm_il0 (s t : List S95) (hs : s.length < 1000) (ht : t.length < 1000) (d : Nat) : ∀ (i : Nat) (x : Int), i + d = s.length → Ev (fun k => impl_greatest.l0 k t x s (s.length : Int) (i : Int)) (grG (s.drop i) t x) := by
  induction d with
  | zero =>
    intro i x hi
    rw [List.drop_of_length_le (by omega)]
    refine Ev.step (f := fun _ => some x) (fun k => ?_) (Ev.now _)
    simp only [impl_greatest.l0]
    rw [if_neg (by omega)]
  | succ d ih =>
    intro i x hi
    have h1 : i < s.length := by omega
    rw [drop_at s i h1]
    refine Ev.step (fun k => ?_) (fm_il1 s t hs ht i h1 _ t.length 0 x (by omega) (ih (i + 1) _ (by omega)))
    simp only [impl_greatest.l0]
    rw [if_pos (by omega), if_pos (by omega), if_pos (by omega), rdSg s i h1]; rfl
def fmF (a b c : Int) (s : ByteArray) (l : List S77) (o : S28) : Int := grG (prB a b c s l) (prB o.f0 o.f1 o.f2 o.f3 o.f4) 0
theorem fm_s (a b c : Int) (s : ByteArray) (hs : s.size ≤ 9223372036854775807) (l : List S77) (hl : l.length < 9223372036854775807) (o : S28) (h1 : o.f3.size ≤ 9223372036854775807) (h2 : o.f4.length < 9223372036854775807) : Ev (fun k => spec_FeaturesMeet.f k a b c s l o.f0 o.f1 o.f2 o.f3 o.f4) (fmF a b c s l o) := by
  unfold spec_FeaturesMeet.f fmF
  exact Ev.bind (pr_s a b c s hs l hl) (Ev.bind (pr_s _ _ _ _ h1 _ h2) (fm_sl0 _ _ (prB_len _ _ _ _ _) (prB_len _ _ _ _ _) _ 0 0 (Nat.zero_add _)))
theorem fm_i (a b c : Int) (s : ByteArray) (hs : s.size ≤ 9223372036854775807) (l : List S77) (hl : l.length < 9223372036854775807) (o : S28) (h1 : o.f3.size ≤ 9223372036854775807) (h2 : o.f4.length < 9223372036854775807) : Ev (fun k => impl_FeaturesMeet.f k a b c s l o.f0 o.f1 o.f2 o.f3 o.f4) (fmF a b c s l o) := by
  unfold impl_FeaturesMeet.f fmF impl_greatest.f
  exact Ev.bind (pr_i a b c s hs l hl) (Ev.bind (pr_i _ _ _ _ h1 _ h2) (Ev.bind (fm_il0 _ _ (prB_len _ _ _ _ _) (prB_len _ _ _ _ _) _ 0 0 (Nat.zero_add _)) (Ev.now _)))
def cnB (a b c : Int) (s : ByteArray) (l D : List S77) (o : S28) : Bool := decide (fmF a b c s D o ≤ fmF a b c s l o)
def csF (a b c : Int) (s : ByteArray) (l : List S77) (i : Int) (O : List S28) : Bool := (dfF a b c s l i).2 && O.all (cnB a b c s l (dfF a b c s l i).1)
theorem dropF_at (t : List S28) (j : Nat) (h : j < t.length) : t.drop j = t[j] :: t.drop (j + 1) := List.drop_eq_getElem_cons h
theorem rdF_at' (l : List S28) (i : Nat) (h : i < l.length) : rd_T28 l (i : Int) = l[i] := by
  unfold rd_T28
  rw [Int.toNat_natCast, List.getD_eq_getElem?_getD, List.getElem?_eq_getElem h]
  rfl
def OkF (O : List S28) : Prop := ∀ x ∈ O, x.f3.size ≤ 9223372036854775807 ∧ x.f4.length < 9223372036854775807
theorem cn_sl (a b c : Int) (s : ByteArray) (hs : s.size ≤ 9223372036854775807) (l D : List S77) (hl : l.length < 9223372036854775807) (hD : D.length < 9223372036854775807) (O : List S28) (hO : O.length < 9223372036854775807) (ok : OkF O) (d : Nat) :
    ∀ (i : Nat) (q : Bool), i + d = O.length → Ev (fun k => spec_CanShrink.l0 k O q (i : Int) a b c s l a b c s D) (q && (O.drop i).all (cnB a b c s l D)) := by
  induction d with
  | zero =>
    intro i q hi
    rw [List.drop_of_length_le (by omega)]
    refine Ev.step (f := fun k => spec_CanShrink.j1 k O q (i : Int) false a b c s l a b c s D) (fun k => ?_) (Ev.step (f := fun _ => some q) (fun k => ?_) (by simp; exact Ev.now _))
    · simp only [spec_CanShrink.l0]
      rw [if_neg (by omega)]
    · simp only [spec_CanShrink.j1, Bool.false_eq_true, if_false]
  | succ d ih =>
    intro i q hi
    have h1 : i < O.length := by omega
    obtain ⟨o1, o2⟩ := ok _ (List.getElem_mem h1)
    refine Ev.step (f := fun k => spec_CanShrink.j1 k O q (i : Int) q a b c s l a b c s D) (fun k => ?_) ?_
    · simp only [spec_CanShrink.l0]
      rw [if_pos (by omega)]
    · cases q
      · refine Ev.step (f := fun _ => some false) (fun k => ?_) (by simp; exact Ev.now _)
        simp only [spec_CanShrink.j1, Bool.false_eq_true, if_false]
      · refine Ev.step (f := fun k => (spec_FeaturesMeet.f k a b c s D O[i].f0 O[i].f1 O[i].f2 O[i].f3 O[i].f4).bind fun t => (spec_FeaturesMeet.f k a b c s l O[i].f0 O[i].f1 O[i].f2 O[i].f3 O[i].f4).bind fun u => spec_CanShrink.l0 k O (decide (t ≤ u)) ((i + 1 : Nat) : Int) a b c s l a b c s D) (fun k => ?_) (Ev.bind (fm_s a b c s hs D hD _ o1 o2) (Ev.bind (fm_s a b c s hs l hl _ o1 o2) ?_))
        · simp only [spec_CanShrink.j1, if_true]
          rw [if_pos (by omega), if_pos (by omega), rdF_at' O i h1, w1' i (by omega)]
        · rw [dropF_at O i h1, List.all_cons, Bool.true_and]
          exact ih (i + 1) _ (by omega)
theorem cn_s (a b c : Int) (s : ByteArray) (hs : s.size ≤ 9223372036854775807) (l : List S77) (hl : l.length < 1048577) (i : Int) (O : List S28) (hO : O.length < 9223372036854775807) (ok : OkF O) : Ev (fun k => spec_CanShrink.f k a b c s l i O) (csF a b c s l i O) := by
  unfold spec_CanShrink.f csF
  exact Ev.bind (df_s a b c s hs l hl i) (cn_sl a b c s hs l (dfF a b c s l i).1 (by omega) (by have := dfF_len a b c s l i; omega) O hO ok O.length 0 _ (by omega))
theorem cn_il (a b c : Int) (s : ByteArray) (hs : s.size ≤ 9223372036854775807) (l D : List S77) (hl : l.length < 9223372036854775807) (hD : D.length < 9223372036854775807) (O : List S28) (hO : O.length < 9223372036854775807) (ok : OkF O) (d : Nat) :
    ∀ (i : Nat), i + d = O.length → Ev (fun k => impl_CanShrink.l0 k O (O.length : Int) (i : Int) a b c s l a b c s D) ((O.drop i).all (cnB a b c s l D)) := by
  induction d with
  | zero =>
    intro i hi
    rw [List.drop_of_length_le (by omega)]
    refine Ev.step (f := fun _ => some true) (fun k => ?_) (by simp; exact Ev.now _)
    simp only [impl_CanShrink.l0]
    rw [if_neg (by omega)]
  | succ d ih =>
    intro i hi
    have h1 : i < O.length := by omega
    obtain ⟨o1, o2⟩ := ok _ (List.getElem_mem h1)
    rw [dropF_at O i h1, List.all_cons]
    refine Ev.step (f := fun k => (impl_FeaturesMeet.f k a b c s D O[i].f0 O[i].f1 O[i].f2 O[i].f3 O[i].f4).bind fun t => (impl_FeaturesMeet.f k a b c s l O[i].f0 O[i].f1 O[i].f2 O[i].f3 O[i].f4).bind fun u => if t > u then some false else impl_CanShrink.l0 k O (O.length : Int) ((i + 1 : Nat) : Int) a b c s l a b c s D) (fun k => ?_) (Ev.bind (fm_i a b c s hs D hD _ o1 o2) (Ev.bind (fm_i a b c s hs l hl _ o1 o2) ?_))
    · simp only [impl_CanShrink.l0]
      rw [if_pos (by omega), if_pos (by omega), if_pos (by omega), rdF_at' O i h1, w1' i (by omega)]
    · have e : cnB a b c s l D O[i] = decide (fmF a b c s D O[i] ≤ fmF a b c s l O[i]) := rfl
      by_cases hc : fmF a b c s D O[i] > fmF a b c s l O[i]
      · rw [e, decide_eq_false (by omega), Bool.false_and]
        simp only [if_pos hc]
        exact Ev.now _
      · rw [e, decide_eq_true (by omega), Bool.true_and]
        simp only [if_neg hc]
        exact ih (i + 1) (by omega)
theorem cn_i (a b c : Int) (s : ByteArray) (hs : s.size ≤ 9223372036854775807) (l : List S77) (hl : l.length < 1048577) (i : Int) (O : List S28) (hO : O.length < 9223372036854775807) (ok : OkF O) : Ev (fun k => impl_CanShrink.f k a b c s l i O) (csF a b c s l i O) := by
  unfold impl_CanShrink.f csF
  refine Ev.bind (df_i a b c s hs l hl i) ?_
  have hn := dfF_len a b c s l i
  cases (dfF a b c s l i).2
  · simp only [Bool.false_eq_true, if_false, Bool.false_and]; exact Ev.now _
  · simp only [if_true, Bool.true_and]
    exact cn_il a b c s hs l _ (by omega) (by omega) O hO ok O.length 0 (by omega)
theorem chk_pt : ∀ (l : List S77) (o : Option S77), chkL o l = true → ∀ p ∈ l, isPt p.f0 p.f1 = true
  | [], _, _, _, h => by cases h
  | q :: r, o, h, p, hp => by
    rw [chkL_cons, Bool.and_eq_true, Bool.and_eq_true] at h
    rcases List.mem_cons.1 hp with rfl | h1
    · exact h.1
    · exact chk_pt r (some q) h.2.2 p h1
theorem ln_pt {l : List S77} (h : lnB l = true) {i : Nat} (hi : i < l.length) : isPt (l.getD i z77).f0 (l.getD i z77).f1 = true := by
  unfold lnB at h
  rw [Bool.and_eq_true] at h
  rw [List.getD_eq_getElem?_getD, List.getElem?_eq_getElem hi]
  exact chk_pt l none h.2 l[i] (List.getElem_mem hi)
theorem rg_pt {l : List S77} (h : rgB l = true) {i : Nat} (hi : i < l.length) : isPt (l.getD i z77).f0 (l.getD i z77).f1 = true := by
  have h1 := (rg_key h i hi).1
  rw [arR_at l i hi] at h1
  exact (isSeg_iff.1 h1).1
theorem tw_ge {p q r : S77} (hp : isPt p.f0 p.f1 = true) (hq : isPt q.f0 q.f1 = true) (hr : isPt r.f0 r.f1 = true) : 0 ≤ twI p q r := by
  have h := cr_bd _ _ _ _ _ _ hp hq hr
  unfold twI mx
  generalize crossI p.f0 p.f1 q.f0 q.f1 r.f0 r.f1 = x at h
  unfold wrap64
  split <;> omega
theorem dpF_ok {l : List S77} {i : Int} (h : (dpF l i).2 = true) : lnB l = true ∧ 1 ≤ i ∧ i ≤ (l.length : Int) - 2 ∧ (dpF l i).1 = woL l i := by
  unfold dpF at h ⊢
  split at h
  · rename_i h1
    rw [Bool.and_eq_true, Bool.and_eq_true, inR_iff] at h1
    rw [if_pos (by rw [Bool.and_eq_true, Bool.and_eq_true, inR_iff]; exact h1)]
    exact ⟨h1.1, h1.2.1.1, h1.2.1.2, rfl⟩
  · cases h
theorem dcF_ok {l : List S77} {i : Int} (h : (dcF l i).2 = true) : rgB l = true ∧ 0 ≤ i ∧ i ≤ (l.length : Int) - 1 ∧ (dcF l i).1 = woL l i := by
  unfold dcF at h ⊢
  split at h
  · rename_i h1
    rw [Bool.and_eq_true, Bool.and_eq_true, inR_iff] at h1
    rw [if_pos (by rw [Bool.and_eq_true, Bool.and_eq_true, inR_iff]; exact h1)]
    exact ⟨h1.1, h1.2.1.1, h1.2.1.2, rfl⟩
  · cases h
/-- What leaves a point out: a line or a ring, the point one of its own, a size that is told, and one point less. -/
theorem dfF_ok {a b c : Int} {s : ByteArray} {l : List S77} {i : Int} (h : (dfF a b c s l i).2 = true) : 0 ≤ i ∧ i < l.length ∧ 0 ≤ szB b l i ∧ (dfF a b c s l i).1.length + 1 = l.length := by
  have h0 : ((dfP b l i).2 && ftB a b c s (dfP b l i).1) = true := by
    unfold dfF at h
    split at h
    · assumption
    · cases h
  have e : (dfF a b c s l i).1 = (dfP b l i).1 := by unfold dfF; rw [if_pos h0]
  rw [e]
  rw [Bool.and_eq_true] at h0
  have h1 := h0.1
  clear h0 h e
  have wl : 0 ≤ i → i < l.length → (woL l i).length + 1 = l.length := fun _ _ => by unfold woL; simp; omega
  unfold dfP at h1 ⊢
  unfold szB
  by_cases h2 : b = 2
  · simp only [if_pos h2] at h1 ⊢
    obtain ⟨p, q, r, t⟩ := dpF_ok h1
    have hn := lnB_len p
    unfold caB
    rw [if_pos ⟨p, q, r⟩, t]
    exact ⟨by omega, by omega, tw_ge (ln_pt p (by omega)) (ln_pt p (by omega)) (ln_pt p (by omega)), wl (by omega) (by omega)⟩
  · simp only [if_neg h2] at h1 ⊢
    by_cases h3 : b = 3
    · simp only [if_pos h3] at h1 ⊢
      obtain ⟨p, q, r, t⟩ := dcF_ok h1
      have hn := rgB_len p
      unfold csB
      rw [if_pos ⟨p, q, r⟩, t]
      exact ⟨by omega, by omega, tw_ge (rg_pt p (Nat.mod_lt _ (by omega))) (rg_pt p (by omega)) (rg_pt p (Nat.mod_lt _ (by omega))), wl (by omega) (by omega)⟩
    · simp only [if_neg h3] at h1
      cases h1
theorem csF_ok {a b c : Int} {s : ByteArray} {l : List S77} {i : Int} {O : List S28} (h : csF a b c s l i O = true) : (dfF a b c s l i).2 = true := by
  unfold csF at h
  rw [Bool.and_eq_true] at h
  exact h.1
/-- The corner to leave out, of the best so far and one more. -/
def pkF (a b c : Int) (s : ByteArray) (l : List S77) (O : List S28) (m best i : Int) : Int := if szB b l i < m ∧ (best < 0 ∨ szB b l i < szB b l best) ∧ csF a b c s l i O = true then i else best
def bsF (a b c : Int) (s : ByteArray) (l : List S77) (O : List S28) (m : Int) : Nat → Nat → Int → Int
  | 0, _, best => best
  | d + 1, i, best => bsF a b c s l O m d (i + 1) (pkF a b c s l O m best (i : Int))
theorem bsF_ok (a b c : Int) (s : ByteArray) (l : List S77) (O : List S28) (m : Int) : ∀ (d i : Nat) (best : Int), (best < 0 ∨ csF a b c s l best O = true) → (bsF a b c s l O m d i best < 0 ∨ csF a b c s l (bsF a b c s l O m d i best) O = true)
  | 0, _, _, h => h
  | d + 1, i, best, h => bsF_ok a b c s l O m d (i + 1) _ (by
    unfold pkF
    split
    · rename_i h1; exact .inr h1.2.2
    · exact h)
/-- The points that are left: of a feature that has n points at most. -/
def shF (a b c : Int) (s : ByteArray) (O : List S28) (m : Int) : Nat → List S77 → List S77
  | 0, l => l
  | n + 1, l => if bsF a b c s l O m l.length 0 (-1) < 0 then l else shF a b c s O m n (dfF a b c s l (bsF a b c s l O m l.length 0 (-1))).1
theorem shF_len (a b c : Int) (s : ByteArray) (O : List S28) (m : Int) : ∀ (n : Nat) (l : List S77), (shF a b c s O m n l).length ≤ l.length
  | 0, _ => Nat.le_refl _
  | n + 1, l => by
    unfold shF
    split
    · exact Nat.le_refl _
    · exact Nat.le_trans (shF_len a b c s O m n _) (dfF_len a b c s l _)
def skF (a b c : Int) (s : ByteArray) (l : List S77) (O : List S28) (m : Int) : List S77 := if ftB a b c s l = true then shF a b c s O m l.length l else l
theorem skF_len (a b c : Int) (s : ByteArray) (l : List S77) (O : List S28) (m : Int) : (skF a b c s l O m).length ≤ l.length := by
  unfold skF
  split
  · exact shF_len a b c s O m _ l
  · exact Nat.le_refl _
theorem pkF_y {a b c : Int} {s : ByteArray} {l : List S77} {O : List S28} {m best i : Int} (h1 : szB b l i < m) (h2 : best < 0 ∨ szB b l i < szB b l best) (h3 : csF a b c s l i O = true) : pkF a b c s l O m best i = i := if_pos ⟨h1, h2, h3⟩
theorem pkF_n {a b c : Int} {s : ByteArray} {l : List S77} {O : List S28} {m best i : Int} (h : ¬ (szB b l i < m ∧ (best < 0 ∨ szB b l i < szB b l best) ∧ csF a b c s l i O = true)) : pkF a b c s l O m best i = best := if_neg h
theorem sf_sl (a b c : Int) (s : ByteArray) (hs : s.size ≤ 9223372036854775807) (O : List S28) (hO : O.length < 9223372036854775807) (ok : OkF O) (m : Int) (L0 : List S77) (n : Nat) (l : List S77) (hl : l.length < 1048577) (hn : l.length ≤ n + 1)
    (ih : ∀ l' : List S77, l'.length ≤ n → l'.length < 1048577 → Ev (fun k => spec_ShrinkFeature.l0 k O m a b c s L0 a b c s l') (a, b, c, s, shF a b c s O m n l')) (d : Nat) :
    ∀ (i : Nat) (best : Int), i + d = l.length → (best < 0 ∨ csF a b c s l best O = true) → Ev (fun k => spec_ShrinkFeature.l1 k O m best (i : Int) a b c s L0 a b c s l) (a, b, c, s, if bsF a b c s l O m d i best < 0 then l else shF a b c s O m n (dfF a b c s l (bsF a b c s l O m d i best)).1) := by
  induction d with
  | zero =>
    intro i best hi hb
    show Ev _ (a, b, c, s, if best < 0 then l else shF a b c s O m n (dfF a b c s l best).1)
    by_cases h : best < 0
    · simp only [if_pos h]
      refine Ev.step (f := fun _ => some (a, b, c, s, l)) (fun k => ?_) (Ev.now _)
      simp only [spec_ShrinkFeature.l1]
      rw [if_neg (by omega), if_pos h]
    · simp only [if_neg h]
      have hc := dfF_ok (csF_ok (hb.resolve_left h))
      refine Ev.step (f := fun k => (spec_DropFrom.f k a b c s l best).bind fun bt => spec_ShrinkFeature.l0 k O m a b c s L0 bt.1 bt.2.1 bt.2.2.1 bt.2.2.2.1 bt.2.2.2.2.1) (fun k => ?_) (Ev.bind (df_s a b c s hs l hl best) (ih (dfF a b c s l best).1 (by omega) (by omega)))
      simp only [spec_ShrinkFeature.l1]
      rw [if_neg (by omega), if_neg h]
  | succ d ih2 =>
    intro i best hi hb
    have nxt : ∀ b' : Int, pkF a b c s l O m best (i : Int) = b' → Ev (fun k => spec_ShrinkFeature.l1 k O m b' ((i + 1 : Nat) : Int) a b c s L0 a b c s l) (a, b, c, s, if bsF a b c s l O m (d + 1) i best < 0 then l else shF a b c s O m n (dfF a b c s l (bsF a b c s l O m (d + 1) i best)).1) := by
      intro b' e
      have h1 : b' < 0 ∨ csF a b c s l b' O = true := by
        rw [← e]; unfold pkF
        split
        · rename_i h1; exact .inr h1.2.2
        · exact hb
      have h2 := ih2 (i + 1) b' (by omega) h1
      have e2 : bsF a b c s l O m (d + 1) i best = bsF a b c s l O m d (i + 1) b' := by rw [← e]; rfl
      rw [e2]
      exact h2
    have cs := cn_s a b c s hs l hl (i : Int) O hO ok
    refine Ev.step (f := fun k => (spec_SizeAt.f k a b c s l (i : Int)).bind fun t => (if t ≥ 0 then (if t < m then (if best < 0 then ((spec_CanShrink.f k a b c s l (i : Int) O).bind fun u => if u = true then spec_ShrinkFeature.l1 k O m (i : Int) ((i + 1 : Nat) : Int) a b c s L0 a b c s l else spec_ShrinkFeature.l1 k O m best ((i + 1 : Nat) : Int) a b c s L0 a b c s l) else ((spec_SizeAt.f k a b c s l best).bind fun v => (if t < v then ((spec_CanShrink.f k a b c s l (i : Int) O).bind fun u => if u = true then spec_ShrinkFeature.l1 k O m (i : Int) ((i + 1 : Nat) : Int) a b c s L0 a b c s l else spec_ShrinkFeature.l1 k O m best ((i + 1 : Nat) : Int) a b c s L0 a b c s l) else spec_ShrinkFeature.l1 k O m best ((i + 1 : Nat) : Int) a b c s L0 a b c s l))) else spec_ShrinkFeature.l1 k O m best ((i + 1 : Nat) : Int) a b c s L0 a b c s l) else spec_ShrinkFeature.l1 k O m best ((i + 1 : Nat) : Int) a b c s L0 a b c s l)) (fun k => ?_) (Ev.bind (sz_s a b c s l (by omega) (i : Int)) ?_)
    · simp only [spec_ShrinkFeature.l1]
      rw [if_pos (by omega), w1' i (by omega)]
    by_cases hA : szB b l (i : Int) ≥ 0
    · simp only [if_pos hA]
      by_cases hB : szB b l (i : Int) < m
      · simp only [if_pos hB]
        by_cases hC : best < 0
        · simp only [if_pos hC]
          refine Ev.bind cs ?_
          cases hD : csF a b c s l (i : Int) O
          · simp only [Bool.false_eq_true, if_false]
            exact nxt best (pkF_n (fun h => by rw [hD] at h; exact Bool.noConfusion h.2.2))
          · simp only [if_true]
            exact nxt (i : Int) (pkF_y hB (.inl hC) hD)
        · simp only [if_neg hC]
          refine Ev.bind (sz_s a b c s l (by omega) best) ?_
          by_cases hE : szB b l (i : Int) < szB b l best
          · simp only [if_pos hE]
            refine Ev.bind cs ?_
            cases hD : csF a b c s l (i : Int) O
            · simp only [Bool.false_eq_true, if_false]
              exact nxt best (pkF_n (fun h => by rw [hD] at h; exact Bool.noConfusion h.2.2))
            · simp only [if_true]
              exact nxt (i : Int) (pkF_y hB (.inr hE) hD)
          · simp only [if_neg hE]
            exact nxt best (pkF_n (fun h => h.2.1.elim hC hE))
      · simp only [if_neg hB]
        exact nxt best (pkF_n (fun h => hB h.1))
    · simp only [if_neg hA]
      exact nxt best (pkF_n (fun h => hA (dfF_ok (csF_ok h.2.2)).2.2.1))
theorem sf_s0 (a b c : Int) (s : ByteArray) (hs : s.size ≤ 9223372036854775807) (O : List S28) (hO : O.length < 9223372036854775807) (ok : OkF O) (m : Int) (L0 : List S77) (hL0 : L0.length < 9223372036854775807) (hft : ftB a b c s L0 = true) : ∀ (n : Nat) (l : List S77), l.length ≤ n → l.length < 1048577 → Ev (fun k => spec_ShrinkFeature.l0 k O m a b c s L0 a b c s l) (a, b, c, s, shF a b c s O m n l)
  | 0, l, hn, hl => by
    refine Ev.step (f := fun k => (spec_IsFeature.f k a b c s L0).bind fun t => if t = true then spec_ShrinkFeature.l1 k O m (-1) ((0 : Nat) : Int) a b c s L0 a b c s l else some (a, b, c, s, l)) (fun k => by simp only [spec_ShrinkFeature.l0]; rfl) (Ev.bind (ft_s a b c s hs L0 hL0) ?_)
    simp only [hft, if_true]
    refine Ev.step (f := fun _ => some (a, b, c, s, l)) (fun k => ?_) (Ev.now _)
    simp only [spec_ShrinkFeature.l1]
    rw [if_neg (by omega), if_pos (by omega)]
  | n + 1, l, hn, hl => by
    refine Ev.step (f := fun k => (spec_IsFeature.f k a b c s L0).bind fun t => if t = true then spec_ShrinkFeature.l1 k O m (-1) ((0 : Nat) : Int) a b c s L0 a b c s l else some (a, b, c, s, l)) (fun k => by simp only [spec_ShrinkFeature.l0]; rfl) (Ev.bind (ft_s a b c s hs L0 hL0) ?_)
    simp only [hft, if_true]
    exact sf_sl a b c s hs O hO ok m L0 n l hl hn (sf_s0 a b c s hs O hO ok m L0 hL0 hft n) l.length 0 (-1) (by omega) (.inl (by omega))
theorem sf_s (a b c : Int) (s : ByteArray) (hs : s.size ≤ 9223372036854775807) (O : List S28) (hO : O.length < 9223372036854775807) (ok : OkF O) (m : Int) (l : List S77) (hl : l.length < 1048577) : Ev (fun k => spec_ShrinkFeature.f k a b c s l O m) (a, b, c, s, skF a b c s l O m) := by
  have e : ∀ _k : Nat, spec_l9Feature.f a b c s l = some (a, b, c, s, l) := fun _ => by
    unfold spec_l9Feature.f
    simp only [Option.bind_some, List.nil_append]
    rw [if_pos (by simp; omega)]
  unfold spec_ShrinkFeature.f skF
  simp only [e 0, Option.bind_some]
  cases hf : ftB a b c s l
  · simp only [Bool.false_eq_true, if_false]
    refine Ev.step (f := fun k => (spec_IsFeature.f k a b c s l).bind fun t => if t = true then spec_ShrinkFeature.l1 k O m (-1) 0 a b c s l a b c s l else some (a, b, c, s, l)) (fun k => by simp only [spec_ShrinkFeature.l0]) (Ev.bind (ft_s a b c s hs l (by omega)) ?_)
    simp only [hf, Bool.false_eq_true, if_false]
    exact Ev.now _
  · simp only [if_true]
    exact sf_s0 a b c s hs O hO ok m l (by omega) hf l.length l (Nat.le_refl _) hl
theorem sf_il (a b c : Int) (s : ByteArray) (hs : s.size ≤ 9223372036854775807) (O : List S28) (hO : O.length < 9223372036854775807) (ok : OkF O) (m : Int) (n : Nat) (l : List S77) (hl : l.length < 1048577) (hn : l.length ≤ n + 1)
    (ih : ∀ l' : List S77, l'.length ≤ n → l'.length < 1048577 → Ev (fun k => impl_ShrinkFeature.l0 k O m a b c s l') (a, b, c, s, shF a b c s O m n l')) (d : Nat) :
    ∀ (i : Nat) (best : Int), i + d = l.length → (best < 0 ∨ csF a b c s l best O = true) → Ev (fun k => impl_ShrinkFeature.l1 k O m best (l.length : Int) (i : Int) a b c s l) (a, b, c, s, if bsF a b c s l O m d i best < 0 then l else shF a b c s O m n (dfF a b c s l (bsF a b c s l O m d i best)).1) := by
  induction d with
  | zero =>
    intro i best hi hb
    show Ev _ (a, b, c, s, if best < 0 then l else shF a b c s O m n (dfF a b c s l best).1)
    by_cases h : best < 0
    · simp only [if_pos h]
      refine Ev.step (f := fun _ => some (a, b, c, s, l)) (fun k => ?_) (Ev.now _)
      simp only [impl_ShrinkFeature.l1]
      rw [if_neg (by omega), if_pos h]
    · simp only [if_neg h]
      have hc := dfF_ok (csF_ok (hb.resolve_left h))
      refine Ev.step (f := fun k => (impl_DropFrom.f k a b c s l best).bind fun bt => impl_ShrinkFeature.l0 k O m bt.1 bt.2.1 bt.2.2.1 bt.2.2.2.1 bt.2.2.2.2.1) (fun k => ?_) (Ev.bind (df_i a b c s hs l hl best) (ih (dfF a b c s l best).1 (by omega) (by omega)))
      simp only [impl_ShrinkFeature.l1]
      rw [if_neg (by omega), if_neg h]
  | succ d ih2 =>
    intro i best hi hb
    have nxt : ∀ b' : Int, pkF a b c s l O m best (i : Int) = b' → Ev (fun k => impl_ShrinkFeature.l1 k O m b' (l.length : Int) ((i + 1 : Nat) : Int) a b c s l) (a, b, c, s, if bsF a b c s l O m (d + 1) i best < 0 then l else shF a b c s O m n (dfF a b c s l (bsF a b c s l O m (d + 1) i best)).1) := by
      intro b' e
      have h1 : b' < 0 ∨ csF a b c s l b' O = true := by
        rw [← e]; unfold pkF
        split
        · rename_i h1; exact .inr h1.2.2
        · exact hb
      have h2 := ih2 (i + 1) b' (by omega) h1
      have e2 : bsF a b c s l O m (d + 1) i best = bsF a b c s l O m d (i + 1) b' := by rw [← e]; rfl
      rw [e2]
      exact h2
    have cs := cn_i a b c s hs l hl (i : Int) O hO ok
    refine Ev.step (f := fun k => (impl_SizeAt.f k a b c s l (i : Int)).bind fun t => (if t < m then (if best < 0 then ((impl_CanShrink.f k a b c s l (i : Int) O).bind fun u => if u = true then impl_ShrinkFeature.l1 k O m (i : Int) (l.length : Int) ((i + 1 : Nat) : Int) a b c s l else impl_ShrinkFeature.l1 k O m best (l.length : Int) ((i + 1 : Nat) : Int) a b c s l) else ((impl_SizeAt.f k a b c s l best).bind fun v => (if t < v then ((impl_CanShrink.f k a b c s l (i : Int) O).bind fun u => if u = true then impl_ShrinkFeature.l1 k O m (i : Int) (l.length : Int) ((i + 1 : Nat) : Int) a b c s l else impl_ShrinkFeature.l1 k O m best (l.length : Int) ((i + 1 : Nat) : Int) a b c s l) else impl_ShrinkFeature.l1 k O m best (l.length : Int) ((i + 1 : Nat) : Int) a b c s l))) else impl_ShrinkFeature.l1 k O m best (l.length : Int) ((i + 1 : Nat) : Int) a b c s l)) (fun k => ?_) (Ev.bind (sz_i a b c s l (by omega) (i : Int)) ?_)
    · simp only [impl_ShrinkFeature.l1]
      rw [if_pos (by omega), w1' i (by omega)]
    by_cases hB : szB b l (i : Int) < m
    · simp only [if_pos hB]
      by_cases hC : best < 0
      · simp only [if_pos hC]
        refine Ev.bind cs ?_
        cases hD : csF a b c s l (i : Int) O
        · simp only [Bool.false_eq_true, if_false]
          exact nxt best (pkF_n (fun h => by rw [hD] at h; exact Bool.noConfusion h.2.2))
        · simp only [if_true]
          exact nxt (i : Int) (pkF_y hB (.inl hC) hD)
      · simp only [if_neg hC]
        refine Ev.bind (sz_i a b c s l (by omega) best) ?_
        by_cases hE : szB b l (i : Int) < szB b l best
        · simp only [if_pos hE]
          refine Ev.bind cs ?_
          cases hD : csF a b c s l (i : Int) O
          · simp only [Bool.false_eq_true, if_false]
            exact nxt best (pkF_n (fun h => by rw [hD] at h; exact Bool.noConfusion h.2.2))
          · simp only [if_true]
            exact nxt (i : Int) (pkF_y hB (.inr hE) hD)
        · simp only [if_neg hE]
          exact nxt best (pkF_n (fun h => h.2.1.elim hC hE))
    · simp only [if_neg hB]
      exact nxt best (pkF_n (fun h => hB h.1))
theorem sf_i0 (a b c : Int) (s : ByteArray) (hs : s.size ≤ 9223372036854775807) (O : List S28) (hO : O.length < 9223372036854775807) (ok : OkF O) (m : Int) : ∀ (n : Nat) (l : List S77), l.length ≤ n → l.length < 1048577 → Ev (fun k => impl_ShrinkFeature.l0 k O m a b c s l) (a, b, c, s, shF a b c s O m n l)
  | 0, l, hn, hl => by
    refine Ev.step (f := fun k => impl_ShrinkFeature.l1 k O m (-1) (l.length : Int) ((0 : Nat) : Int) a b c s l) (fun k => by simp only [impl_ShrinkFeature.l0]; rfl) ?_
    refine Ev.step (f := fun _ => some (a, b, c, s, l)) (fun k => ?_) (Ev.now _)
    simp only [impl_ShrinkFeature.l1]
    rw [if_neg (by omega), if_pos (by omega)]
  | n + 1, l, hn, hl => by
    refine Ev.step (f := fun k => impl_ShrinkFeature.l1 k O m (-1) (l.length : Int) ((0 : Nat) : Int) a b c s l) (fun k => by simp only [impl_ShrinkFeature.l0]; rfl) ?_
    exact sf_il a b c s hs O hO ok m n l hl hn (sf_i0 a b c s hs O hO ok m n) l.length 0 (-1) (by omega) (.inl (by omega))
theorem sf_i (a b c : Int) (s : ByteArray) (hs : s.size ≤ 9223372036854775807) (O : List S28) (hO : O.length < 9223372036854775807) (ok : OkF O) (m : Int) (l : List S77) (hl : l.length < 1048577) : Ev (fun k => impl_ShrinkFeature.f k a b c s l O m) (a, b, c, s, skF a b c s l O m) := by
  have e : ∀ _k : Nat, impl_cloneFeature.f a b c s l = some (a, b, c, s, l) := fun _ => by
    unfold impl_cloneFeature.f impl_Point.f
    rw [if_pos (by omega)]
    rfl
  unfold impl_ShrinkFeature.f skF
  simp only [e 0, Option.bind_some]
  refine Ev.bind (ft_i a b c s hs l (by omega)) ?_
  cases ftB a b c s l
  · simp only [Bool.false_eq_true, if_false]
    exact Ev.now _
  · simp only [if_true]
    exact sf_i0 a b c s hs O hO ok m l.length l (Nat.le_refl _) hl
theorem rdp_at (l : List S85) (i : Nat) (h : i < l.length) : rd_T85 l (i : Int) = l[i] := by
  unfold rd_T85
  rw [Int.toNat_natCast, List.getD_eq_getElem?_getD, List.getElem?_eq_getElem h]
  rfl
theorem rdP_at (l : List S77) (i : Nat) (h : i < l.length) : rd_T77 l (i : Int) = l[i] := by
  unfold rd_T77
  rw [Int.toNat_natCast, List.getD_eq_getElem?_getD, List.getElem?_eq_getElem h]
  rfl
def convP (x : S85) : S77 := ⟨x.f0, x.f1⟩
theorem toPoints_l (l : List S85) (hb : l.length < 9223372036854775807) (d : Nat) : ∀ i : Nat, i + d = l.length → Ev (fun k => laws_toPointS.l0 k l ((l.map convP).take i ++ List.replicate d z77) (i : Int)) (l.map convP) := by
  induction d with
  | zero =>
    intro i hi
    refine Ev.step (f := fun _ => some (l.map convP)) (fun k => ?_) (Ev.now _)
    simp only [laws_toPointS.l0]
    rw [if_neg (by omega), List.take_of_length_le (by simp; omega)]
    simp
  | succ d ih =>
    intro i hi
    have h1 : i < l.length := by omega
    refine Ev.step (fun k => ?_) (ih (i + 1) (by omega))
    simp only [laws_toPointS.l0, laws_toPoint.f, Option.bind_some]
    rw [if_pos (by omega), if_pos (by omega), if_pos (by simp; omega), rdp_at l i h1, w1 i (by omega)]
    congr 1
    have hm : i < (l.map convP).length := by simpa using h1
    rw [Int.toNat_natCast, List.set_append_right _ _ (by simp; omega), List.take_succ_eq_append_getElem hm, List.replicate_succ]
    simp only [List.length_take, List.length_map, Nat.min_eq_left (show i ≤ l.length by omega), Nat.sub_self, List.set_cons_zero, List.append_assoc, List.singleton_append, List.getElem_map, convP]
theorem toPoints (l : List S85) (hb : l.length ≤ 1048576) : Ev (fun k => laws_toPointS.f k l) (l.map convP) := by
  unfold laws_toPointS.f
  simp only [if_pos (show (0 : Int) ≤ (l.length : Int) by omega), Int.toNat_natCast, if_pos (show l.length ≤ 17592186044416 by omega)]
  have := toPoints_l l (by omega) l.length 0 (by omega)
  simpa using this
theorem eqPoints_l (l : List S77) (hb : l.length < 9223372036854775807) (d : Nat) : ∀ i : Nat, i + d = l.length → Ev (fun k => laws_eqPointS.l0 k l l (i : Int)) true := by
  induction d with
  | zero =>
    intro i hi
    refine Ev.step (f := fun _ => some true) (fun k => ?_) (Ev.now _)
    simp only [laws_eqPointS.l0]
    rw [if_neg (by omega)]
  | succ d ih =>
    intro i hi
    have h1 : i < l.length := by omega
    refine Ev.step (fun k => ?_) (ih (i + 1) (by omega))
    simp only [laws_eqPointS.l0, laws_eqPoint.f]
    rw [if_pos (by omega), if_pos (by omega), if_pos (by omega), w1 i (by omega)]
    simp
theorem eqPoints (l : List S77) (hb : l.length < 9223372036854775807) : Ev (fun k => laws_eqPointS.f k l l) true := by
  unfold laws_eqPointS.f
  simp only [if_true]
  exact eqPoints_l l hb l.length 0 (by omega)
theorem toFeature1 (a b c : Int) (s : ByteArray) (l : List S85) (hl : l.length ≤ 1048576) : Ev (fun k => laws_toFeature.f k a b c s l) (a, b, c, s, l.map convP) := by
  unfold laws_toFeature.f
  exact Ev.bind (toPoints l hl) (Ev.now _)
theorem eqFeature1 (a b c : Int) (s : ByteArray) (l : List S77) (hl : l.length < 9223372036854775807) : Ev (fun k => laws_eqFeature.f k a b c s l a b c s l) true := by
  unfold laws_eqFeature.f
  simp only [if_true]
  refine Ev.bind (eqPoints l hl) ?_
  simp only [if_true]
  exact Ev.now _
theorem szFeature1 (a b c : Int) (s : ByteArray) (hs : s.size ≤ 9223372036854775807) (l : List S85) (hl : l.length ≤ 9223372036854775807) (n : Int) (h0 : 0 ≤ n) (h1 : n ≤ 1048576) : ∃ r, laws_szFeature.f a b c s l n = some r ∧ (¬ r < 0 → l.length ≤ 1048576 ∧ s.size ≤ 1048576 ∧ 0 ≤ r ∧ r ≤ 1048576) := by
  unfold laws_szFeature.f laws_szPointS.f
  have w : wrap64 (n - (s.size : Int)) = n - (s.size : Int) := by unfold wrap64; omega
  rw [w]
  by_cases hc : n - (s.size : Int) < 0
  · rw [if_pos hc]; exact ⟨_, rfl, fun h => by omega⟩
  · have w2 : wrap64 (n - (s.size : Int) - (l.length : Int)) = n - (s.size : Int) - (l.length : Int) := by unfold wrap64; omega
    rw [if_neg hc, w2]
    by_cases hc2 : n - (s.size : Int) - (l.length : Int) < 0
    · rw [if_pos hc2]; exact ⟨-1, rfl, fun h => by omega⟩
    · rw [if_neg hc2]; exact ⟨n - (s.size : Int) - (l.length : Int), by simp only [Option.bind_some]; rw [if_neg hc2], fun h => by omega⟩
theorem rdf_at (l : List S24) (i : Nat) (h : i < l.length) : rd_T24 l (i : Int) = l[i] := by
  unfold rd_T24
  rw [Int.toNat_natCast, List.getD_eq_getElem?_getD, List.getElem?_eq_getElem h]
  rfl
theorem rdF_at (l : List S28) (i : Nat) (h : i < l.length) : rd_T28 l (i : Int) = l[i] := by
  unfold rd_T28
  rw [Int.toNat_natCast, List.getD_eq_getElem?_getD, List.getElem?_eq_getElem h]
  rfl
def convF (x : S24) : S28 := ⟨x.f0, x.f1, x.f2, x.f3, x.f4.map convP⟩
theorem toFeatures_l (l : List S24) (hb : l.length < 9223372036854775807) (hp : ∀ x ∈ l, x.f4.length ≤ 1048576) (d : Nat) : ∀ i : Nat, i + d = l.length → Ev (fun k => laws_toFeatureS.l0 k l ((l.map convF).take i ++ List.replicate d z28) (i : Int)) (l.map convF) := by
  induction d with
  | zero =>
    intro i hi
    refine Ev.step (f := fun _ => some (l.map convF)) (fun k => ?_) (Ev.now _)
    simp only [laws_toFeatureS.l0]
    rw [if_neg (by omega), List.take_of_length_le (by simp; omega)]
    simp
  | succ d ih =>
    intro i hi
    have h1 : i < l.length := by omega
    have ht := toPoints l[i].f4 (hp _ (List.getElem_mem h1))
    have hf : Ev (fun k => laws_toFeature.f k l[i].f0 l[i].f1 l[i].f2 l[i].f3 l[i].f4) (l[i].f0, l[i].f1, l[i].f2, l[i].f3, l[i].f4.map convP) := by
      unfold laws_toFeature.f
      exact Ev.bind ht (Ev.now _)
    refine Ev.step (f := fun k => (laws_toFeature.f k l[i].f0 l[i].f1 l[i].f2 l[i].f3 l[i].f4).bind fun b => laws_toFeatureS.l0 k l (((l.map convF).take i ++ List.replicate (d + 1) z28).set i (⟨b.1, b.2.1, b.2.2.1, b.2.2.2.1, b.2.2.2.2⟩ : S28)) ((i + 1 : Nat) : Int)) (fun k => ?_) (Ev.bind hf ?_)
    · simp only [laws_toFeatureS.l0]
      have hlen : (i : Int) < (((l.map convF).take i ++ List.replicate (d + 1) z28).length : Int) := by simp; omega
      rw [if_pos (by omega), if_pos (by omega), rdf_at l i h1, w1 i (by omega), Int.toNat_natCast]
      simp only [if_pos hlen]
    · have hm : i < (l.map convF).length := by simpa using h1
      have e : ((l.map convF).take i ++ List.replicate (d + 1) z28).set i (⟨l[i].f0, l[i].f1, l[i].f2, l[i].f3, l[i].f4.map convP⟩ : S28) = (l.map convF).take (i + 1) ++ List.replicate d z28 := by
        rw [List.set_append_right _ _ (by simp; omega), List.take_succ_eq_append_getElem hm, List.replicate_succ]
        simp only [List.length_take, List.length_map, Nat.min_eq_left (show i ≤ l.length by omega), Nat.sub_self, List.set_cons_zero, List.append_assoc, List.singleton_append, List.getElem_map, convF]
      simp only [e]
      exact ih (i + 1) (by omega)
theorem toFeatures (l : List S24) (hb : l.length ≤ 1048576) (hp : ∀ x ∈ l, x.f4.length ≤ 1048576) : Ev (fun k => laws_toFeatureS.f k l) (l.map convF) := by
  unfold laws_toFeatureS.f
  simp only [if_pos (show (0 : Int) ≤ (l.length : Int) by omega), Int.toNat_natCast, if_pos (show l.length ≤ 4398046511104 by omega)]
  have := toFeatures_l l (by omega) hp l.length 0 (by omega)
  simpa using this
theorem eqFeatures_l (l : List S28) (hb : l.length < 9223372036854775807) (hp : ∀ x ∈ l, x.f4.length < 9223372036854775807) (d : Nat) : ∀ i : Nat, i + d = l.length → Ev (fun k => laws_eqFeatureS.l0 k l l (i : Int)) true := by
  induction d with
  | zero =>
    intro i hi
    refine Ev.step (f := fun _ => some true) (fun k => ?_) (Ev.now _)
    simp only [laws_eqFeatureS.l0]
    rw [if_neg (by omega)]
  | succ d ih =>
    intro i hi
    have h1 : i < l.length := by omega
    have hf : Ev (fun k => laws_eqFeature.f k l[i].f0 l[i].f1 l[i].f2 l[i].f3 l[i].f4 l[i].f0 l[i].f1 l[i].f2 l[i].f3 l[i].f4) true := by
      unfold laws_eqFeature.f
      simp only [if_true]
      refine Ev.bind (eqPoints l[i].f4 (hp _ (List.getElem_mem h1))) ?_
      simp only [if_true]
      exact Ev.now _
    refine Ev.step (f := fun k => (laws_eqFeature.f k l[i].f0 l[i].f1 l[i].f2 l[i].f3 l[i].f4 l[i].f0 l[i].f1 l[i].f2 l[i].f3 l[i].f4).bind fun t => if t = true then laws_eqFeatureS.l0 k l l ((i + 1 : Nat) : Int) else some false) (fun k => ?_) (Ev.bind hf ?_)
    · simp only [laws_eqFeatureS.l0]
      rw [if_pos (by omega), if_pos (by omega), if_pos (by omega), rdF_at l i h1, w1 i (by omega)]
    · simp only [if_true]
      exact ih (i + 1) (by omega)
theorem eqFeatures (l : List S28) (hb : l.length < 9223372036854775807) (hp : ∀ x ∈ l, x.f4.length < 9223372036854775807) : Ev (fun k => laws_eqFeatureS.f k l l) true := by
  unfold laws_eqFeatureS.f
  simp only [if_true]
  exact eqFeatures_l l hb hp l.length 0 (by omega)
theorem szFeatures_l (l : List S24) (hl : ∀ x ∈ l, x.f3.size ≤ 9223372036854775807 ∧ x.f4.length ≤ 9223372036854775807) (hb : l.length < 9223372036854775807) (d : Nat) :
    ∀ (i : Nat) (n : Int), i + d = l.length → 0 ≤ n → n ≤ 1048576 → ∃ r, Ev (fun k => laws_szFeatureS.l0 k l n (i : Int)) r ∧ (¬ r < 0 → ∀ x ∈ l.drop i, x.f3.size ≤ 1048576 ∧ x.f4.length ≤ 1048576) := by
  induction d with
  | zero =>
    intro i n hi h0 h1
    have e : l.drop i = [] := List.drop_of_length_le (by omega)
    rw [e]
    refine ⟨n, Ev.step (f := fun _ => some n) (fun k => ?_) (Ev.now _), fun _ x hx => by simp at hx⟩
    simp only [laws_szFeatureS.l0]
    rw [if_neg (by omega)]
  | succ d ih =>
    intro i n hi h0 h1
    have hl1 : i < l.length := by omega
    obtain ⟨hx1, hx2⟩ := hl _ (List.getElem_mem hl1)
    have e := List.drop_eq_getElem_cons hl1
    rw [e]
    have hw : wrap64 (n - (l[i].f3.size : Int)) = n - (l[i].f3.size : Int) := by unfold wrap64; omega
    by_cases hc : n - (l[i].f3.size : Int) < 0
    · refine ⟨-1, Ev.step (f := fun _ => some (-1)) (fun k => ?_) (Ev.now _), fun h => by omega⟩
      simp only [laws_szFeatureS.l0, laws_szFeature.f]
      rw [if_pos (by omega), if_pos (by omega), rdf_at l i hl1, hw, if_pos hc]
      rfl
    · have hw2 : wrap64 (n - (l[i].f3.size : Int) - (l[i].f4.length : Int)) = n - (l[i].f3.size : Int) - (l[i].f4.length : Int) := by unfold wrap64; omega
      by_cases hc2 : n - (l[i].f3.size : Int) - (l[i].f4.length : Int) < 0
      · refine ⟨-1, Ev.step (f := fun _ => some (-1)) (fun k => ?_) (Ev.now _), fun h => by omega⟩
        simp only [laws_szFeatureS.l0, laws_szFeature.f, laws_szPointS.f]
        rw [if_pos (by omega), if_pos (by omega), rdf_at l i hl1, hw, if_neg hc, hw2, if_pos hc2]
        rfl
      · obtain ⟨r, hr, hr2⟩ := ih (i + 1) (n - (l[i].f3.size : Int) - (l[i].f4.length : Int)) (by omega) (by omega) (by omega)
        refine ⟨r, Ev.step (fun k => ?_) hr, fun h x hx => ?_⟩
        · simp only [laws_szFeatureS.l0, laws_szFeature.f, laws_szPointS.f]
          rw [if_pos (by omega), if_pos (by omega), rdf_at l i hl1, hw, if_neg hc, hw2, if_neg hc2]
          simp only [Option.bind_some]
          rw [if_neg hc2]
          simp only [Option.bind_some]
          rw [if_neg hc2, w1 i (by omega)]
        · rcases List.mem_cons.1 hx with hx | hx
          · subst hx; omega
          · exact hr2 h x hx
theorem szFeatures (l : List S24) (hl : ∀ x ∈ l, x.f3.size ≤ 9223372036854775807 ∧ x.f4.length ≤ 9223372036854775807) (hb : l.length ≤ 9223372036854775807) : ∃ r, Ev (fun k => laws_szFeatureS.f k l 1048576) r ∧ (¬ r < 0 → l.length ≤ 1048576 ∧ ∀ x ∈ l, x.f3.size ≤ 1048576 ∧ x.f4.length ≤ 1048576) := by
  unfold laws_szFeatureS.f
  have hw : wrap64 (1048576 - (l.length : Int)) = 1048576 - (l.length : Int) := by unfold wrap64; omega
  rw [hw]
  by_cases hc : 1048576 - (l.length : Int) < 0
  · exact ⟨-1, by simp only [if_pos hc]; exact Ev.now _, fun h => by omega⟩
  · simp only [if_neg hc]
    obtain ⟨r, hr, hr2⟩ := szFeatures_l l hl (by omega) l.length 0 (1048576 - (l.length : Int)) (by omega) (by omega) (by omega)
    exact ⟨r, hr, fun h => ⟨by omega, by simpa using hr2 h⟩⟩
theorem szFeaturesB_l (l : List S24) (hl : ∀ x ∈ l, x.f3.size ≤ 9223372036854775807 ∧ x.f4.length ≤ 9223372036854775807) (hb : l.length < 9223372036854775807) (d : Nat) :
    ∀ (i : Nat) (n : Int), i + d = l.length → 0 ≤ n → n ≤ 1048576 → ∃ r, r ≤ 1048576 ∧ Ev (fun k => laws_szFeatureS.l0 k l n (i : Int)) r ∧ (¬ r < 0 → ∀ x ∈ l.drop i, x.f3.size ≤ 1048576 ∧ x.f4.length ≤ 1048576) := by
  induction d with
  | zero =>
    intro i n hi h0 h1
    have e : l.drop i = [] := List.drop_of_length_le (by omega)
    rw [e]
    refine ⟨n, h1, Ev.step (f := fun _ => some n) (fun k => ?_) (Ev.now _), fun _ x hx => by simp at hx⟩
    simp only [laws_szFeatureS.l0]
    rw [if_neg (by omega)]
  | succ d ih =>
    intro i n hi h0 h1
    have hl1 : i < l.length := by omega
    obtain ⟨hx1, hx2⟩ := hl _ (List.getElem_mem hl1)
    have e := List.drop_eq_getElem_cons hl1
    rw [e]
    have hw : wrap64 (n - (l[i].f3.size : Int)) = n - (l[i].f3.size : Int) := by unfold wrap64; omega
    by_cases hc : n - (l[i].f3.size : Int) < 0
    · refine ⟨-1, by omega, Ev.step (f := fun _ => some (-1)) (fun k => ?_) (Ev.now _), fun h => by omega⟩
      simp only [laws_szFeatureS.l0, laws_szFeature.f]
      rw [if_pos (by omega), if_pos (by omega), rdf_at l i hl1, hw, if_pos hc]
      rfl
    · have hw2 : wrap64 (n - (l[i].f3.size : Int) - (l[i].f4.length : Int)) = n - (l[i].f3.size : Int) - (l[i].f4.length : Int) := by unfold wrap64; omega
      by_cases hc2 : n - (l[i].f3.size : Int) - (l[i].f4.length : Int) < 0
      · refine ⟨-1, by omega, Ev.step (f := fun _ => some (-1)) (fun k => ?_) (Ev.now _), fun h => by omega⟩
        simp only [laws_szFeatureS.l0, laws_szFeature.f, laws_szPointS.f]
        rw [if_pos (by omega), if_pos (by omega), rdf_at l i hl1, hw, if_neg hc, hw2, if_pos hc2]
        rfl
      · obtain ⟨r, hr0, hr, hr2⟩ := ih (i + 1) (n - (l[i].f3.size : Int) - (l[i].f4.length : Int)) (by omega) (by omega) (by omega)
        refine ⟨r, hr0, Ev.step (fun k => ?_) hr, fun h x hx => ?_⟩
        · simp only [laws_szFeatureS.l0, laws_szFeature.f, laws_szPointS.f]
          rw [if_pos (by omega), if_pos (by omega), rdf_at l i hl1, hw, if_neg hc, hw2, if_neg hc2]
          simp only [Option.bind_some]
          rw [if_neg hc2]
          simp only [Option.bind_some]
          rw [if_neg hc2, w1 i (by omega)]
        · rcases List.mem_cons.1 hx with hx | hx
          · subst hx; omega
          · exact hr2 h x hx
theorem mfT_bound (l : List S28) (h : ∀ x ∈ l, x.f4.length ≤ 1048576) : mfT l ≤ l.length * 2097156 := by
  induction l with
  | nil => simp [mfT]
  | cons x l ih =>
    have h1 := h x (by simp)
    have h2 := ih (fun y hy => h y (by simp [hy]))
    simp only [mfT, List.length_cons, Nat.add_mul, Nat.one_mul]
    omega
theorem markF (l : List S28) (hb : l.length ≤ 1048576) (h : ∀ x ∈ l, x.f4.length ≤ 1048576) : laws_markFeatureS.f l 1 = some (1 + (mfT l : Int)) := by
  have := mfT_bound l h
  unfold laws_markFeatureS.f
  rw [if_pos ⟨by omega, by omega⟩]
theorem szFeaturesN (n : Int) (hn : 0 ≤ n) (hn1 : n ≤ 1048576) (l : List S24) (hl : ∀ x ∈ l, x.f3.size ≤ 9223372036854775807 ∧ x.f4.length ≤ 9223372036854775807) (hb : l.length ≤ 9223372036854775807) : ∃ r, r ≤ 1048576 ∧ Ev (fun k => laws_szFeatureS.f k l n) r ∧ (¬ r < 0 → l.length ≤ 1048576 ∧ ∀ x ∈ l, x.f3.size ≤ 1048576 ∧ x.f4.length ≤ 1048576) := by
  unfold laws_szFeatureS.f
  have hw : wrap64 (n - (l.length : Int)) = n - (l.length : Int) := by unfold wrap64; omega
  rw [hw]
  by_cases hc : n - (l.length : Int) < 0
  · exact ⟨-1, by omega, by simp only [if_pos hc]; exact Ev.now _, fun h => by omega⟩
  · simp only [if_neg hc]
    obtain ⟨r, hr0, hr, hr2⟩ := szFeaturesB_l l hl (by omega) l.length 0 (n - (l.length : Int)) (by omega) (by omega) (by omega)
    exact ⟨r, hr0, hr, fun h => ⟨by omega, by simpa using hr2 h⟩⟩
theorem convF_all {l : List S24} (h2 : ∀ x ∈ l, x.f3.size ≤ 1048576 ∧ x.f4.length ≤ 1048576) : ∀ x ∈ l.map convF, (x.f3.size ≤ 9223372036854775807 ∧ x.f4.length < 9223372036854775807) ∧ x.f4.length ≤ 1048576 ∧ x.f3.size ≤ 1048576 := by
  intro x hx
  obtain ⟨y, hy, rfl⟩ := List.mem_map.1 hx
  have := h2 y hy
  unfold convF
  simp only [List.length_map]
  omega
theorem markFN (l : List S28) (v : Int) (h0 : 0 ≤ v) (h1 : v ≤ 3000000000000) (hb : l.length ≤ 1048576) (h : ∀ x ∈ l, x.f4.length ≤ 1048576) : laws_markFeatureS.f l v = some (v + (mfT l : Int)) ∧ (mfT l : Int) ≤ 2300000000000 := by
  have hm := mfT_bound l h
  have : l.length * 2097156 ≤ 1048576 * 2097156 := Nat.mul_le_mul_right _ hb
  have h2 : (mfT l : Int) ≤ 2300000000000 := by omega
  refine ⟨?_, h2⟩
  unfold laws_markFeatureS.f
  rw [if_pos (by omega)]
theorem markFX (l : List S28) (v : Int) (h0 : 0 ≤ v) (h1 : v ≤ 1000000) (hb : l.length ≤ 1048576) (h : ∀ x ∈ l, x.f4.length ≤ 1048576) : ∃ v1 : Int, laws_markFeatureS.f l v = some v1 ∧ 0 ≤ v1 ∧ v1 ≤ 3000000000000 := by
  obtain ⟨k1, k2⟩ := markFN l v h0 (by omega) hb h
  exact ⟨_, k1, by omega, by omega⟩
theorem markFY (l : List S28) (v : Int) (h0 : 0 ≤ v) (h1 : v ≤ 3000000000000) (hb : l.length ≤ 1048576) (h : ∀ x ∈ l, x.f4.length ≤ 1048576) : ∃ v1 : Int, laws_markFeatureS.f l v = some v1 ∧ 0 ≤ v1 := by
  obtain ⟨k1, k2⟩ := markFN l v h0 h1 hb h
  exact ⟨_, k1, by omega⟩
def MkQ (M : List S77) (n : Nat) : Prop := ∀ j : Nat, j < n → M.getD j z77 = ⟨1 + 2 * (j : Int), 2 + 2 * (j : Int)⟩
theorem markPq_l (n : Nat) (hn : n ≤ 2000000) (d : Nat) : ∀ (i : Nat) (M : List S77), i + d = n → M.length = n → MkQ M i → ∃ M' : List S77, Ev (fun k => laws_markPointS.l0 k M (1 + 2 * (i : Int)) (i : Int)) (1 + 2 * (n : Int), M') ∧ M'.length = n ∧ MkQ M' n := by
  induction d with
  | zero =>
    intro i M hi hl hM
    have hin : i = n := by omega
    subst hin
    refine ⟨M, Ev.step (f := fun _ => some (1 + 2 * (i : Int), M)) (fun k => ?_) (Ev.now _), hl, hM⟩
    simp only [laws_markPointS.l0]
    rw [if_neg (by omega)]
  | succ d ih =>
    intro i M hi hl hM
    have w0 : wrap64 (1 + 2 * (i : Int) + 1) = 2 + 2 * (i : Int) := by unfold wrap64; omega
    have w2 : wrap64 (2 + 2 * (i : Int) + 1) = 1 + 2 * ((i + 1 : Nat) : Int) := by unfold wrap64; omega
    have hL : ((M.set i (⟨1 + 2 * (i : Int), (rd_T77 M (i : Int)).f1⟩ : S77)).set i (⟨(rd_T77 (M.set i (⟨1 + 2 * (i : Int), (rd_T77 M (i : Int)).f1⟩ : S77)) (i : Int)).f0, 2 + 2 * (i : Int)⟩ : S77)) = M.set i ⟨1 + 2 * (i : Int), 2 + 2 * (i : Int)⟩ := by
      rw [List.set_set, rdPd (M.set i _), List.getD_eq_getElem?_getD, List.getElem?_set, if_pos rfl, if_pos (by omega)]; rfl
    obtain ⟨M', e, h1, h2⟩ := ih (i + 1) (M.set i ⟨1 + 2 * (i : Int), 2 + 2 * (i : Int)⟩) (by omega) (by rw [List.length_set]; exact hl) (by
      intro j hj
      by_cases hji : j = i
      · subst hji
        rw [List.getD_eq_getElem?_getD, List.getElem?_set, if_pos rfl, if_pos (by omega)]; rfl
      · rw [List.getD_eq_getElem?_getD, List.getElem?_set, if_neg (fun h => hji h.symm), ← List.getD_eq_getElem?_getD]
        exact hM j (by omega))
    refine ⟨M', Ev.step (fun k => ?_) e, h1, h2⟩
    simp only [laws_markPointS.l0, Option.bind_some]
    rw [if_pos (by omega), if_pos (by omega), Int.toNat_natCast, w0, w2, w1' i (by omega), hL]
theorem heldPq_l (n : Nat) (hn : n ≤ 2000000) (M : List S77) (hl : M.length = n) (hM : MkQ M n) (d : Nat) : ∀ i : Nat, i + d = n → Ev (fun k => laws_heldPointS.l0 k M (1 + 2 * (i : Int)) (i : Int)) (1 + 2 * (n : Int)) := by
  induction d with
  | zero =>
    intro i hi
    have hin : i = n := by omega
    subst hin
    refine Ev.step (f := fun _ => some (1 + 2 * (i : Int))) (fun k => ?_) (Ev.now _)
    simp only [laws_heldPointS.l0]
    rw [if_neg (by omega)]
  | succ d ih =>
    intro i hi
    have w0 : wrap64 (1 + 2 * (i : Int) + 1) = 2 + 2 * (i : Int) := by unfold wrap64; omega
    have w2 : wrap64 (2 + 2 * (i : Int) + 1) = 1 + 2 * ((i + 1 : Nat) : Int) := by unfold wrap64; omega
    refine Ev.step (fun k => ?_) (ih (i + 1) (by omega))
    simp only [laws_heldPointS.l0, rdPd, hM i (by omega), w0, w2, if_true]
    rw [if_pos (by omega), if_pos (by omega), w1' i (by omega)]
theorem markPq (l : List S77) (hn : l.length ≤ 2000000) : ∃ M : List S77, Ev (fun k => laws_markPointS.f k l 1) (1 + 2 * (l.length : Int), M) ∧ Ev (fun k => laws_heldPointS.f k M 1) (1 + 2 * (l.length : Int)) := by
  obtain ⟨M, e, h1, h2⟩ := markPq_l l.length hn l.length 0 l (by omega) rfl (fun j hj => by omega)
  exact ⟨M, e, heldPq_l l.length hn M h1 h2 l.length 0 (by omega)⟩
theorem main : ∀ (a0_0 : Int) (a0_1 : Int) (a0_2 : Int) (a0_3 : ByteArray) (l0_4 : List (S85)) (l1 : List (S24)) (a2 : Int), (Lit.int .i64 a0_0).wf = true → (Lit.int .i64 a0_1).wf = true → (Lit.int .i64 a0_2).wf = true → a0_3.size ≤ 9223372036854775807 → (l0_4.length ≤ 9223372036854775807 ∧ ∀ x ∈ l0_4, ((Lit.int .i64 x.f0).wf = true ∧ (Lit.int .i64 x.f1).wf = true)) → (l1.length ≤ 9223372036854775807 ∧ ∀ x ∈ l1, ((Lit.int .i64 x.f0).wf = true ∧ (Lit.int .i64 x.f1).wf = true ∧ (Lit.int .i64 x.f2).wf = true ∧ x.f3.size ≤ 9223372036854775807 ∧ (x.f4.length ≤ 9223372036854775807 ∧ ∀ y ∈ x.f4, ((Lit.int .i64 y.f0).wf = true ∧ (Lit.int .i64 y.f1).wf = true)))) → (Lit.int .i64 a2).wf = true → ∃ k, laws_FnExactShrinkFeature.f k a0_0 a0_1 a0_2 a0_3 l0_4 l1 a2 = some true := by
  intro a b c s l O m _ _ _ hs hl hO _
  refine Ev.rounds (r := true) ?_
  unfold laws_FnExactShrinkFeature.f
  obtain ⟨r, hr, hb⟩ := szFeature1 a b c s hs l hl.1 1048576 (by omega) (by omega)
  rw [hr]
  simp only [Option.bind_some]
  by_cases hc : r < 0
  · simp only [if_pos hc]; exact Ev.now _
  · simp only [if_neg hc]
    obtain ⟨h1, h2, h3, h4⟩ := hb hc
    obtain ⟨r', hr0, hr', hb'⟩ := szFeaturesN r h3 h4 O (fun x hx => ⟨(hO.2 x hx).2.2.2.1, (hO.2 x hx).2.2.2.2.1⟩) hO.1
    refine Ev.bind hr' ?_
    by_cases hc' : r' < 0
    · simp only [if_pos hc']; exact Ev.now _
    simp only [if_neg hc']
    obtain ⟨o1, o2⟩ := hb' hc'
    have hm : (l.map convP).length < 1048577 := by simp; omega
    have tf := toFeature1 a b c s l h1
    have tO := toFeatures O o1 (fun x hx => (o2 x hx).2)
    have hxO : ∀ x ∈ O.map convF, (x.f3.size ≤ 9223372036854775807 ∧ x.f4.length < 9223372036854775807) ∧ x.f4.length ≤ 1048576 := by
      intro x hx
      obtain ⟨y, hy, rfl⟩ := List.mem_map.1 hx
      have := o2 y hy
      unfold convF
      simp only [List.length_map]
      omega
    have hnO : (O.map convF).length ≤ 1048576 := by simp; omega
    generalize l.map convP = L at hm tf
    generalize O.map convF = P at tO hxO hnO
    have s1 := sf_s a b c s (by omega) P (by omega) (fun x hx => (hxO x hx).1) m L hm
    have s2 := sf_i a b c s (by omega) P (by omega) (fun x hx => (hxO x hx).1) m L hm
    have hD := skF_len a b c s L P m
    generalize skF a b c s L P m = D at s1 s2 hD
    have eD := eqFeature1 a b c s D (by omega)
    have eL := eqFeature1 a b c s L (by omega)
    have eP := eqFeatures P (by omega) (fun x hx => (hxO x hx).1.2)
    obtain ⟨ML, m1, m2⟩ := markPq L (by omega)
    obtain ⟨MD, m3, m4⟩ := markPq D (by omega)
    have mL : Ev (fun k => laws_markFeature.f k a b c s L 1) (1 + 2 * (L.length : Int), ML) := Ev.bind m1 (Ev.now _)
    have mD : Ev (fun k => laws_markFeature.f k a b c s D 1) (1 + 2 * (D.length : Int), MD) := Ev.bind m3 (Ev.now _)
    have hd : Ev (fun k => laws_heldFeature.f k a b c s MD 1) (1 + 2 * (D.length : Int)) := Ev.bind m4 (by simp only [if_neg (show ¬ (1 + 2 * (D.length : Int) < 0) by omega)]; exact Ev.now _)
    obtain ⟨bm, _⟩ := markFN P (1 + 2 * (L.length : Int)) (by omega) (by omega) hnO (fun x hx => (hxO x hx).2)
    have bM : (mfT P : Int) ≤ 2300000000000 := (markFN P (1 + 2 * (L.length : Int)) (by omega) (by omega) hnO (fun x hx => (hxO x hx).2)).2
    refine Ev.bind tf (Ev.bind tO (Ev.bind s1 (Ev.bind s2 (Ev.bind eD (Ev.bind eL (Ev.bind eP (Ev.bind mL (Ev.bind mD (Ev.bind hd ?_)))))))))
    rw [if_pos ⟨rfl, rfl, rfl, by omega, by omega, by omega, rfl⟩]
    exact Ev.now _
end Go.Proofs.Ytkebhlkbnnlegaa.Pure.FnExactShrinkFeature
