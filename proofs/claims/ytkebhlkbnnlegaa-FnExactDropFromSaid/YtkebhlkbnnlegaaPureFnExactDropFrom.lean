/- A feature with a point less: the program and the reference answer the same: a valid ring's area is not 0, so that asking for the same sign and for the same turn is one. No condition. -/
import Derived.Test.YtkebhlkbnnlegaaPFnExactDropFromx
import Derived.Test.YtkebhlkbnnlegaaArea
namespace Go.Proofs.Ytkebhlkbnnlegaa.Pure.FnExactDropFrom
open Go Go.RowKit Go.Proofs.Ytkebhlkbnnlegaa.PFnExactDropFrom Go.Proofs.YtkebhlkbnnlegaaW.PrintWords Go.Proofs.YtkebhlkbnnlegaaW.PrintLast Go.Proofs.YtkebhlkbnnlegaaW.PrintMore Go.Proofs.YtkebhlkbnnlegaaGeo
set_option linter.unusedVariables false
set_option linter.unusedSimpArgs false
open Go.Proofs.YtkebhlkbnnlegaaMeet Go.Proofs.YtkebhlkbnnlegaaArea
theorem w1 (i : Nat) (h : i < 9223372036854775807) : wrap64 ((i : Int) + 1) = ((i + 1 : Nat) : Int) := by unfold wrap64; omega
theorem rd_at (l : List Int) (i : Nat) (h : i < l.length) : rd l (i : Int) = l[i] := by
  unfold rd
  rw [Int.toNat_natCast, List.getD_eq_getElem?_getD, List.getElem?_eq_getElem h]
  rfl
theorem how_s (a b c d e f g h : Int) : Ev (fun _ => spec_HowMeet.f a b c d e f g h) (howS a b c d e f g h) := Ev.now _
theorem before_key {x y x' y' : Int} (h : isPt x y = true) (h' : isPt x' y' = true) : beforeI x y x' y' = decide (kyI x y < kyI x' y') := by
  rw [isPt_iff] at h h'
  unfold beforeI kyI
  rw [Bool.eq_iff_iff]; simp; omega
theorem j3_i (a b c d : Int) (h : isPt a b = true) (h' : isPt c d = true) : Ev (fun k => impl_HowMeet.j3 k a b c d) (if kyI c d < kyI a b then 0 else if kyI a b = kyI c d then 1 else 3) := by
  refine Ev.step (f := fun _ => some (if kyI c d < kyI a b then 0 else if kyI a b = kyI c d then 1 else 3)) (fun k => ?_) (Ev.now _)
  simp only [impl_HowMeet.j3, impl_BeforePoint.f, before_key h' h, Option.bind_some, decide_eq_true_eq]
  have e : (a == c && b == d) = decide (kyI a b = kyI c d) := by
    rw [← ky_inj h h']
    rw [Bool.eq_iff_iff]; simp
  rw [e]
  by_cases z : kyI c d < kyI a b
  · rw [if_pos z, if_pos z]
  · rw [if_neg z, if_neg z]
    by_cases z' : kyI a b = kyI c d
    · simp [z']
    · simp [z']
theorem j2_i (e f g h a b c d : Int) (h1 : isPt g h = true) (h2 : isPt a b = true) (h3 : isPt c d = true) : Ev (fun k => impl_HowMeet.j2 k e f g h a b c d) (if mn (kyI c d) (kyI g h) < kyI a b then 0 else if kyI a b = mn (kyI c d) (kyI g h) then 1 else 3) := by
  refine Ev.step (f := fun k => if kyI g h < kyI c d then impl_HowMeet.j3 k a b g h else impl_HowMeet.j3 k a b c d) (fun k => ?_) ?_
  · simp only [impl_HowMeet.j2, impl_BeforePoint.f, before_key h1 h3, Option.bind_some, decide_eq_true_eq]
  · unfold mn
    by_cases z : kyI g h < kyI c d
    · simp only [if_pos z]; exact j3_i a b g h h2 h1
    · simp only [if_neg z]; exact j3_i a b c d h2 h3
theorem fwd_i (a b c d : Int) (h : isPt a b = true) (h' : isPt c d = true) : ∃ x y u v, impl_forward.f a b c d = some (x, y, u, v) ∧ isPt x y = true ∧ isPt u v = true ∧ kyI x y = mn (kyI a b) (kyI c d) ∧ kyI u v = mx (kyI a b) (kyI c d) := by
  unfold impl_forward.f impl_BeforePoint.f impl_TurnSegment.f
  simp only [before_key h' h, Option.bind_some, decide_eq_true_eq]
  by_cases z : kyI c d < kyI a b
  · exact ⟨c, d, a, b, by rw [if_pos z], h', h, by unfold mn; rw [if_pos z], by unfold mx; rw [if_neg (by omega)]⟩
  · exact ⟨a, b, c, d, by rw [if_neg z], h, h', by unfold mn; rw [if_neg z], by unfold mx; split <;> omega⟩
theorem how_i (a b c d e f g h : Int) : Ev (fun k => impl_HowMeet.f k a b c d e f g h) (howS a b c d e f g h) := by
  rw [← how_eq]
  unfold impl_HowMeet.f howP impl_IsSegment.f
  simp only [Option.bind_some]
  have dead : Ev (fun k => impl_HowMeet.j0 k true a b c d e f g h) 0 := Ev.step (f := fun _ => some 0) (fun k => by simp [impl_HowMeet.j0]) (Ev.now _)
  cases h1 : isSeg a b c d
  · simp only [Bool.false_eq_true, if_false, true_or, if_true]; exact dead
  · cases h2 : isSeg e f g h
    · simp only [if_true, Bool.not_false, or_true]; exact dead
    · simp only [if_true, Bool.not_true, Bool.true_eq_false, or_self, if_false]
      obtain ⟨ha, hc, _⟩ := isSeg_iff.mp h1
      obtain ⟨he, hg, _⟩ := isSeg_iff.mp h2
      have j4t : Ev (fun k => impl_HowMeet.j4 k true a b c d e f g h) 2 := Ev.step (f := fun _ => some 2) (fun k => by simp [impl_HowMeet.j4]) (Ev.now _)
      have j4f : Ev (fun k => impl_HowMeet.j4 k false a b c d e f g h) (if isOnI a b c d e f || isOnI a b c d g h || isOnI e f g h a b || isOnI e f g h c d then 1 else 0) := by
        refine Ev.step (f := fun _ => some (if isOnI a b c d e f || isOnI a b c d g h || isOnI e f g h a b || isOnI e f g h c d then 1 else 0)) (fun k => ?_) (Ev.now _)
        simp only [impl_HowMeet.j4, impl_IsOn.f, Option.bind_some, Bool.false_eq_true, if_false]
        cases isOnI a b c d e f <;> cases isOnI a b c d g h <;> cases isOnI e f g h a b <;> cases isOnI e f g h c d <;> rfl
      by_cases hcol : sideI a b c d e f = 0 ∧ sideI a b c d g h = 0
      · rw [if_pos hcol]
        obtain ⟨x, y, u, v, f1, p1, p2, k1, k2⟩ := fwd_i a b c d ha hc
        obtain ⟨x', y', u', v', f2, p1', p2', k1', k2'⟩ := fwd_i e f g h he hg
        refine Ev.step (f := fun k => impl_HowMeet.j1 k (sideI a b c d e f) (sideI a b c d g h) true a b c d e f g h) (fun k => ?_) ?_
        · simp [impl_HowMeet.j0, impl_SideOf.f, hcol.1, hcol.2]
        · refine Ev.step (f := fun k => if kyI x y < kyI x' y' then impl_HowMeet.j2 k x' y' u' v' x' y' u v else impl_HowMeet.j2 k x' y' u' v' x y u v) (fun k => ?_) ?_
          · simp only [impl_HowMeet.j1, f1, f2, impl_BeforePoint.f, Option.bind_some, before_key p1 p1', decide_eq_true_eq, if_true]
          · rw [← k1, ← k2, ← k1', ← k2']
            by_cases z : kyI x y < kyI x' y'
            · simp only [if_pos z]
              have e : mx (kyI x y) (kyI x' y') = kyI x' y' := by unfold mx; rw [if_pos z]
              rw [e]
              exact j2_i x' y' u' v' x' y' u v p2' p1' p2
            · simp only [if_neg z]
              have e : mx (kyI x y) (kyI x' y') = kyI x y := by unfold mx; rw [if_neg z]
              rw [e]
              exact j2_i x' y' u' v' x y u v p2' p1 p2
      · rw [if_neg hcol]
        refine Ev.step (f := fun k => impl_HowMeet.j1 k (sideI a b c d e f) (sideI a b c d g h) false a b c d e f g h) (fun k => ?_) ?_
        · simp only [impl_HowMeet.j0, impl_SideOf.f, Option.bind_some, Bool.false_eq_true, if_false]
          by_cases z : sideI a b c d e f = 0
          · have z' : ¬ sideI a b c d g h = 0 := fun q => hcol ⟨z, q⟩
            have z'' : (sideI a b c d g h == 0) = false := by simp [z']
            rw [if_pos z, z'']
          · rw [if_neg z]
        · have w1 := wrap_sd _ _ (sd_bd a b c d e f) (sd_bd a b c d g h)
          have w2 := wrap_sd _ _ (sd_bd e f g h a b) (sd_bd e f g h c d)
          by_cases zu : sideI a b c d e f * sideI a b c d g h < 0
          · by_cases zv : sideI e f g h a b * sideI e f g h c d < 0
            · rw [if_pos ⟨zu, zv⟩]
              refine Ev.step (fun k => ?_) j4t
              simp [impl_HowMeet.j1, impl_SideOf.f, w1, w2, zu, zv]
            · rw [if_neg (fun q => zv q.2)]
              refine Ev.step (fun k => ?_) j4f
              simp [impl_HowMeet.j1, impl_SideOf.f, w1, w2, zu, zv]
          · rw [if_neg (fun q => zu q.1)]
            refine Ev.step (fun k => ?_) j4f
            simp [impl_HowMeet.j1, impl_SideOf.f, w1, zu]
/-- A line's points, one behind the other: each a point, none like the one ahead of it. -/
def chkL : Option S77 → List S77 → Bool
  | _, [] => true
  | o, p :: r => isPt p.f0 p.f1 && ((match o with | none => true | some q => !eqP q p) && chkL (some p) r)
theorem chkL_cons (o : Option S77) (p : S77) (r : List S77) : chkL o (p :: r) = (isPt p.f0 p.f1 && ((match o with | none => true | some q => !eqP q p) && chkL (some p) r)) := by cases o <;> rfl
def lnB (l : List S77) : Bool := inR (l.length : Int) 2 10 && chkL none l
def prevL (l : List S77) (i : Nat) : Option S77 := if i = 0 then none else some (l.getD (i - 1) z77)
theorem prevL_succ (l : List S77) (i : Nat) (h : i < l.length) : prevL l (i + 1) = some l[i] := by
  unfold prevL
  rw [if_neg (by omega), Nat.add_sub_cancel, List.getD_eq_getElem?_getD, List.getElem?_eq_getElem h]; rfl
theorem w1m (i : Nat) (h : 0 < i) (h' : i < 9223372036854775807) : wrap64 ((i : Int) - 1) = ((i - 1 : Nat) : Int) := by unfold wrap64; omega
theorem isLine_sl (l : List S77) (hl : l.length < 9223372036854775807) (d : Nat) : ∀ i : Nat, i + d = l.length → Ev (fun k => spec_IsLine.l0 k l (i : Int)) (chkL (prevL l i) (l.drop i) && inR (l.length : Int) 2 10) := by
  induction d with
  | zero =>
    intro i hi
    rw [List.drop_of_length_le (by omega)]
    refine Ev.step (f := fun _ => some _) (fun k => ?_) (Ev.now _)
    simp only [spec_IsLine.l0, spec_l1In.f]
    rw [if_neg (by omega)]
    simp [chkL]
  | succ d ih =>
    intro i hi
    have h1 : i < l.length := by omega
    have hd := List.drop_eq_getElem_cons h1
    rw [hd, chkL_cons]
    cases hp : isPt l[i].f0 l[i].f1
    · refine Ev.step (f := fun _ => some false) (fun k => ?_) (Ev.now _)
      simp only [spec_IsLine.l0, spec_IsPoint.f, Option.bind_some]
      rw [if_pos (by omega), if_pos (by omega), rdPt l i h1, hp]
      simp
    · have ih' := ih (i + 1) (by omega)
      rw [prevL_succ l i h1] at ih'
      by_cases h0 : i = 0
      · subst h0
        refine Ev.step (fun k => ?_) ih'
        simp only [spec_IsLine.l0, spec_IsPoint.f, Option.bind_some]
        rw [if_pos (by omega), if_pos (by omega), rdPt l 0 h1, hp, if_pos rfl, if_neg (by omega), w1' 0 (by omega)]
      · have hi1 : i - 1 < l.length := by omega
        have eP : prevL l i = some l[i - 1] := by unfold prevL; rw [if_neg h0, List.getD_eq_getElem?_getD, List.getElem?_eq_getElem hi1]; rfl
        rw [eP]
        dsimp only
        have eq : (((l[i - 1]).f0) == (l[i].f0) && (((l[i - 1]).f1) == (l[i].f1))) = eqP l[i - 1] l[i] := by
          unfold eqP; rw [Bool.eq_iff_iff]; simp
        cases he : eqP l[i - 1] l[i]
        · refine Ev.step (fun k => ?_) ih'
          simp only [spec_IsLine.l0, spec_IsPoint.f, Option.bind_some]
          rw [if_pos (by omega), if_pos (by omega), rdPt l i h1, hp, if_pos rfl, if_pos (by omega), w1m i (by omega) (by omega), if_pos (by omega), if_pos (by omega), rdPt l (i - 1) hi1, eq, he, w1' i (by omega)]
          simp
        · refine Ev.step (f := fun _ => some false) (fun k => ?_) (Ev.now _)
          simp only [spec_IsLine.l0, spec_IsPoint.f, Option.bind_some]
          rw [if_pos (by omega), if_pos (by omega), rdPt l i h1, hp, if_pos rfl, if_pos (by omega), w1m i (by omega) (by omega), if_pos (by omega), if_pos (by omega), rdPt l (i - 1) hi1, eq, he]
          simp
theorem isLine_s (l : List S77) (hl : l.length < 9223372036854775807) : Ev (fun k => spec_IsLine.f k l) (lnB l) := by
  unfold spec_IsLine.f lnB
  rw [Bool.and_comm]
  exact isLine_sl l hl l.length 0 (by omega)
theorem isLine_il (l : List S77) (hl : l.length < 9223372036854775807) (d : Nat) : ∀ i : Nat, i + d = l.length → Ev (fun k => impl_IsLine.l0 k l l (l.length : Int) (i : Int)) (chkL (prevL l i) (l.drop i)) := by
  induction d with
  | zero =>
    intro i hi
    rw [List.drop_of_length_le (by omega)]
    refine Ev.step (f := fun _ => some _) (fun k => ?_) (Ev.now _)
    simp only [impl_IsLine.l0]
    rw [if_neg (by omega)]
    simp [chkL]
  | succ d ih =>
    intro i hi
    have h1 : i < l.length := by omega
    have hd := List.drop_eq_getElem_cons h1
    rw [hd, chkL_cons]
    cases hp : isPt l[i].f0 l[i].f1
    · refine Ev.step (f := fun _ => some false) (fun k => ?_) (Ev.now _)
      simp only [impl_IsLine.l0, impl_IsPoint.f, Option.bind_some]
      rw [if_pos (by omega), if_pos (by omega), if_pos (by omega), rdPt l i h1, hp]
      simp
    · have ih' := ih (i + 1) (by omega)
      rw [prevL_succ l i h1] at ih'
      by_cases h0 : i = 0
      · subst h0
        refine Ev.step (fun k => ?_) ih'
        simp only [impl_IsLine.l0, impl_IsPoint.f, Option.bind_some]
        rw [if_pos (by omega), if_pos (by omega), if_pos (by omega), rdPt l 0 h1, hp, if_pos rfl, if_neg (by omega), w1' 0 (by omega)]
      · have hi1 : i - 1 < l.length := by omega
        have eP : prevL l i = some l[i - 1] := by unfold prevL; rw [if_neg h0, List.getD_eq_getElem?_getD, List.getElem?_eq_getElem hi1]; rfl
        rw [eP]
        dsimp only
        have eq : (((l[i]).f0) == (l[i - 1].f0) && (((l[i]).f1) == (l[i - 1].f1))) = eqP l[i - 1] l[i] := by
          unfold eqP; rw [Bool.eq_iff_iff]; simp; omega
        cases he : eqP l[i - 1] l[i]
        · refine Ev.step (fun k => ?_) ih'
          simp only [impl_IsLine.l0, impl_IsPoint.f, Option.bind_some]
          rw [if_pos (by omega), if_pos (by omega), if_pos (by omega), rdPt l i h1, hp, if_pos rfl, if_pos (by omega), w1m i (by omega) (by omega), if_pos (by omega), if_pos (by omega), rdPt l (i - 1) hi1, eq, he, w1' i (by omega)]
          simp
        · refine Ev.step (f := fun _ => some false) (fun k => ?_) (Ev.now _)
          simp only [impl_IsLine.l0, impl_IsPoint.f, Option.bind_some]
          rw [if_pos (by omega), if_pos (by omega), if_pos (by omega), rdPt l i h1, hp, if_pos rfl, if_pos (by omega), w1m i (by omega) (by omega), if_pos (by omega), if_pos (by omega), rdPt l (i - 1) hi1, eq, he]
          simp
theorem isLine_i (l : List S77) (hl : l.length < 9223372036854775807) : Ev (fun k => impl_IsLine.f k l) (lnB l) := by
  unfold impl_IsLine.f lnB
  have dead : Ev (fun k => impl_IsLine.j0 k l true) false := Ev.step (f := fun _ => some false) (fun k => by simp [impl_IsLine.j0]) (Ev.now _)
  by_cases h2 : (l.length : Int) < 2
  · simp only [if_pos h2]
    have : inR (l.length : Int) 2 10 = false := by unfold inR; simp; omega
    rw [this]; exact dead
  · simp only [if_neg h2]
    by_cases h10 : (l.length : Int) > 10
    · have : inR (l.length : Int) 2 10 = false := by unfold inR; simp; omega
      rw [this, decide_eq_true h10]; exact dead
    · have : inR (l.length : Int) 2 10 = true := by unfold inR; simp; omega
      rw [this, decide_eq_false h10]
      exact Ev.step (fun k => by simp [impl_IsLine.j0]) (isLine_il l hl l.length 0 (by omega))
theorem rdSg (l : List S95) (i : Nat) (h : i < l.length) : rd_T95 l (i : Int) = l.getD i z95 := by
  unfold rd_T95
  rw [Int.toNat_natCast]
def howL (p q : S95) : Int := howS p.f0.f0 p.f0.f1 p.f1.f0 p.f1.f1 q.f0.f0 q.f0.f1 q.f1.f0 q.f1.f1
def segL (p : S95) : Bool := isSeg p.f0.f0 p.f0.f1 p.f1.f0 p.f1.f1
def wantR (n i k : Nat) : Int := if k + 1 = i ∨ (k = 0 ∧ i + 1 = n) then 1 else 0
def inRow (s : List S95) (i : Nat) (k : Nat) : Bool := decide (howL (s.getD i z95) (s.getD k z95) = wantR s.length i k)
def ringS (s : List S95) (i d : Nat) : Bool := (List.range' i d).all fun i => segL (s.getD i z95) && (List.range' 0 i).all (inRow s i)
/-- The segments around. -/
def arR (l : List S77) : List S95 := (List.range l.length).map fun i => (⟨l.getD i z77, l.getD ((i + 1) % l.length) z77⟩ : S95)
def rgB (l : List S77) : Bool := inR (l.length : Int) 3 10 && ringS (arR l) 0 l.length
theorem arR_len (l : List S77) : (arR l).length = l.length := by simp [arR]
theorem arR_take (l : List S77) (i : Nat) (h : i < l.length) : (arR l).take (i + 1) = (arR l).take i ++ [(⟨l.getD i z77, l.getD ((i + 1) % l.length) z77⟩ : S95)] := by
  rw [List.take_succ_eq_append_getElem (by rw [arR_len]; exact h)]
  simp [arR]
theorem tmod_nat (a n : Nat) : Int.tmod (a : Int) (n : Int) = ((a % n : Nat) : Int) := by rw [Int.ofNat_tmod]
theorem rdPd (l : List S77) (i : Nat) : rd_T77 l (i : Int) = l.getD i z77 := by
  unfold rd_T77
  rw [Int.toNat_natCast]
theorem around_sl (l : List S77) (hl : l.length < 1000) (d : Nat) : ∀ i : Nat, i + d = l.length → Ev (fun k => spec_l7Segments.l0 k l ((arR l).take i) (i : Int)) (arR l) := by
  induction d with
  | zero =>
    intro i hi
    rw [List.take_of_length_le (by rw [arR_len]; omega)]
    refine Ev.step (f := fun _ => some _) (fun k => ?_) (Ev.now _)
    simp only [spec_l7Segments.l0]
    rw [if_neg (by omega)]
  | succ d ih =>
    intro i hi
    have h1 : i < l.length := by omega
    have hm : (i + 1) % l.length < l.length := Nat.mod_lt _ (by omega)
    refine Ev.step (fun k => ?_) (ih (i + 1) (by omega))
    have hlen : ((arR l).take i).length < 4398046511104 := by rw [List.length_take, arR_len]; omega
    simp only [spec_l7Segments.l0]
    rw [if_pos (by omega), if_pos (by omega), if_neg (by omega), w1' i (by omega), tmod_nat, if_pos (by omega), if_pos (by omega), if_pos hlen, rdPd, rdPd, arR_take l i h1]
theorem around_s (l : List S77) (hl : l.length < 1000) : Ev (fun k => spec_l7Segments.f k l) (arR l) := by
  unfold spec_l7Segments.f
  exact around_sl l hl l.length 0 (by omega)
theorem around_il (l : List S77) (hl : l.length < 1000) (d : Nat) : ∀ i : Nat, i + d = l.length → Ev (fun k => impl_around.l0 k l ((arR l).take i) l (l.length : Int) (i : Int)) (arR l) := by
  induction d with
  | zero =>
    intro i hi
    rw [List.take_of_length_le (by rw [arR_len]; omega)]
    refine Ev.step (f := fun _ => some _) (fun k => ?_) (Ev.now _)
    simp only [impl_around.l0]
    rw [if_neg (by omega)]
  | succ d ih =>
    intro i hi
    have h1 : i < l.length := by omega
    have hm : (i + 1) % l.length < l.length := Nat.mod_lt _ (by omega)
    refine Ev.step (fun k => ?_) (ih (i + 1) (by omega))
    have hlen : ((arR l).take i).length < 4398046511104 := by rw [List.length_take, arR_len]; omega
    simp only [impl_around.l0]
    rw [if_pos (by omega), if_pos (by omega), if_pos (by omega), if_neg (by omega), w1' i (by omega), tmod_nat, if_pos (by omega), if_pos (by omega), if_pos hlen, rdPd, rdPd, arR_take l i h1]
theorem around_i (l : List S77) (hl : l.length < 1000) : Ev (fun k => impl_around.f k l) (arR l) := by
  unfold impl_around.f
  exact around_il l hl l.length 0 (by omega)
theorem ring_s1 (s : List S95) (hs : s.length < 1000) (i : Nat) (hi : i < s.length) (rest : Bool) (hr : Ev (fun k => spec_IsRing.l0 k s ((i + 1 : Nat) : Int)) rest) (d : Nat) :
    ∀ k : Nat, k + d = i → Ev (fun n => spec_IsRing.l1 n s (i : Int) (k : Int)) ((List.range' k d).all (inRow s i) && rest) := by
  induction d with
  | zero =>
    intro k hk
    refine Ev.step (fun n => ?_) hr
    simp only [spec_IsRing.l1]
    rw [if_neg (by omega), w1' i (by omega)]
  | succ d ih =>
    intro k hk
    have hk1 : k < s.length := by omega
    rw [List.range'_succ, List.all_cons]
    have e2 : Ev (fun n => (spec_HowMeet.f (s.getD i z95).f0.f0 (s.getD i z95).f0.f1 (s.getD i z95).f1.f0 (s.getD i z95).f1.f1 (s.getD k z95).f0.f0 (s.getD k z95).f0.f1 (s.getD k z95).f1.f0 (s.getD k z95).f1.f1).bind fun t => if t = wantR s.length i k then spec_IsRing.l1 n s (i : Int) ((k + 1 : Nat) : Int) else some false) (inRow s i k && (List.range' (k + 1) d).all (inRow s i) && rest) := by
      refine Ev.bind (how_s _ _ _ _ _ _ _ _) ?_
      by_cases hw : howL (s.getD i z95) (s.getD k z95) = wantR s.length i k
      · have e : inRow s i k = true := by unfold inRow; exact decide_eq_true hw
        rw [e, Bool.true_and]
        have : Ev (fun n => spec_IsRing.l1 n s (i : Int) ((k + 1 : Nat) : Int)) ((List.range' (k + 1) d).all (inRow s i) && rest) := ih (k + 1) (by omega)
        refine Ev.congr (fun n => ?_) this
        exact if_pos hw
      · have e : inRow s i k = false := by unfold inRow; exact decide_eq_false hw
        rw [e]
        refine Ev.congr (fun n => ?_) (Ev.now _)
        exact if_neg hw
    have j : ∀ b : Bool, (if b = true then (1 : Int) else 0) = wantR s.length i k → Ev (fun n => spec_IsRing.j2 n s (i : Int) (k : Int) 0 b) (inRow s i k && (List.range' (k + 1) d).all (inRow s i) && rest) := by
      intro b hb
      refine Ev.step (fun n => ?_) e2
      simp only [spec_IsRing.j2]
      rw [← hb]
      cases b
      · rw [if_neg (by simp), if_pos (by omega), if_pos (by omega), if_pos (by omega), if_pos (by omega), rdSg s i hi, rdSg s k hk1, w1' k (by omega)]; rfl
      · rw [if_pos rfl, if_pos (by omega), if_pos (by omega), if_pos (by omega), if_pos (by omega), rdSg s i hi, rdSg s k hk1, w1' k (by omega)]; rfl
    by_cases z : k + 1 = i
    · refine Ev.step (fun n => ?_) (j true (by show (1 : Int) = _; unfold wantR; rw [if_pos (.inl z)]))
      simp only [spec_IsRing.l1]
      rw [if_pos (by omega), w1' k (by omega), if_pos (by omega)]
    · by_cases z0 : k = 0
      · refine Ev.step (fun n => ?_) (j (decide (i + 1 = s.length)) (by unfold wantR; by_cases q : i + 1 = s.length <;> simp [q, z0] <;> omega))
        simp only [spec_IsRing.l1]
        rw [if_pos (by omega), w1' k (by omega), if_neg (by omega), if_pos (by omega), w1' i (by omega)]
        congr 1
        rw [Bool.eq_iff_iff]; simp; omega
      · refine Ev.step (fun n => ?_) (j false (by show (0 : Int) = _; unfold wantR; rw [if_neg (by omega)]))
        simp only [spec_IsRing.l1]
        rw [if_pos (by omega), w1' k (by omega), if_neg (by omega), if_neg (by omega)]
theorem ring_s0 (s : List S95) (hs : s.length < 1000) (d : Nat) : ∀ i : Nat, i + d = s.length → Ev (fun n => spec_IsRing.l0 n s (i : Int)) (ringS s i d) := by
  induction d with
  | zero =>
    intro i hi
    refine Ev.step (f := fun _ => some true) (fun n => ?_) (Ev.now _)
    simp only [spec_IsRing.l0]
    rw [if_neg (by omega)]
  | succ d ih =>
    intro i hi
    have h1 : i < s.length := by omega
    unfold ringS
    rw [List.range'_succ, List.all_cons]
    cases hq : segL (s.getD i z95)
    · refine Ev.step (f := fun _ => some false) (fun n => ?_) (Ev.now _)
      simp only [spec_IsRing.l0, spec_IsSegment.f, Option.bind_some]
      rw [if_pos (by omega), if_pos (by omega), rdSg s i h1]
      unfold segL at hq
      rw [hq]; simp
    · refine Ev.step (fun n => ?_) (ring_s1 s hs i h1 _ (ih (i + 1) (by omega)) i 0 (by omega))
      simp only [spec_IsRing.l0, spec_IsSegment.f, Option.bind_some]
      rw [if_pos (by omega), if_pos (by omega), rdSg s i h1]
      unfold segL at hq
      rw [hq, if_pos rfl]; rfl
theorem isRing_s (l : List S77) (hl : l.length < 9223372036854775807) : Ev (fun k => spec_IsRing.f k l) (rgB l) := by
  unfold spec_IsRing.f rgB spec_l1In.f
  simp only [Option.bind_some]
  cases h : inR (l.length : Int) 3 10
  · simp only [Bool.false_eq_true, if_false, Bool.false_and]; exact Ev.now _
  · have hb : l.length < 1000 := by unfold inR at h; simp at h; omega
    simp only [if_true, Bool.true_and]
    refine Ev.bind (around_s l hb) ?_
    have := ring_s0 (arR l) (by rw [arR_len]; exact hb) l.length 0 (by rw [arR_len]; omega)
    exact this
theorem ring_i1 (s : List S95) (hs : s.length < 1000) (i : Nat) (hi : i < s.length) (rest : Bool) (hr : Ev (fun k => impl_IsRing.l0 k s (s.length : Int) ((i + 1 : Nat) : Int)) rest) (d : Nat) :
    ∀ k : Nat, k + d = i → Ev (fun n => impl_IsRing.l1 n s (i : Int) (s.length : Int) (i : Int) (i : Int) (k : Int)) ((List.range' k d).all (inRow s i) && rest) := by
  induction d with
  | zero =>
    intro k hk
    refine Ev.step (fun n => ?_) hr
    simp only [impl_IsRing.l1]
    rw [if_neg (by omega), w1' i (by omega)]
  | succ d ih =>
    intro k hk
    have hk1 : k < s.length := by omega
    rw [List.range'_succ, List.all_cons]
    have e2 : Ev (fun n => (impl_HowMeet.f n (s.getD i z95).f0.f0 (s.getD i z95).f0.f1 (s.getD i z95).f1.f0 (s.getD i z95).f1.f1 (s.getD k z95).f0.f0 (s.getD k z95).f0.f1 (s.getD k z95).f1.f0 (s.getD k z95).f1.f1).bind fun t => if t = wantR s.length i k then impl_IsRing.l1 n s (i : Int) (s.length : Int) (i : Int) (i : Int) ((k + 1 : Nat) : Int) else some false) (inRow s i k && (List.range' (k + 1) d).all (inRow s i) && rest) := by
      refine Ev.bind (how_i _ _ _ _ _ _ _ _) ?_
      by_cases hw : howL (s.getD i z95) (s.getD k z95) = wantR s.length i k
      · have e : inRow s i k = true := by unfold inRow; exact decide_eq_true hw
        rw [e, Bool.true_and]
        refine Ev.congr (fun n => ?_) (ih (k + 1) (by omega))
        exact if_pos hw
      · have e : inRow s i k = false := by unfold inRow; exact decide_eq_false hw
        rw [e]
        refine Ev.congr (fun n => ?_) (Ev.now _)
        exact if_neg hw
    have j : ∀ b : Bool, (if b = true then (1 : Int) else 0) = wantR s.length i k → Ev (fun n => impl_IsRing.j3 n s (i : Int) (k : Int) 0 (s.length : Int) (i : Int) (i : Int) (k : Int) b) (inRow s i k && (List.range' (k + 1) d).all (inRow s i) && rest) := by
      intro b hb
      refine Ev.step (fun n => ?_) e2
      simp only [impl_IsRing.j3]
      rw [← hb]
      cases b
      · rw [if_neg (by simp), if_pos (by omega), if_pos (by omega), if_pos (by omega), if_pos (by omega), rdSg s i hi, rdSg s k hk1, w1' k (by omega)]; rfl
      · rw [if_pos rfl, if_pos (by omega), if_pos (by omega), if_pos (by omega), if_pos (by omega), rdSg s i hi, rdSg s k hk1, w1' k (by omega)]; rfl
    have wi : wrap64 ((i : Int) - 1) = (i : Int) - 1 := by unfold wrap64; omega
    have wn : wrap64 ((s.length : Int) - 1) = (s.length : Int) - 1 := by unfold wrap64; omega
    by_cases z : k + 1 = i
    · refine Ev.step (fun n => ?_) (j true (by show (1 : Int) = _; unfold wantR; rw [if_pos (.inl z)]))
      simp only [impl_IsRing.l1]
      rw [if_pos (by omega), wi, if_pos (by omega)]
    · by_cases z0 : k = 0
      · refine Ev.step (fun n => ?_) (j (decide (i + 1 = s.length)) (by unfold wantR; by_cases q : i + 1 = s.length <;> simp [q, z0] <;> omega))
        simp only [impl_IsRing.l1]
        rw [if_pos (by omega), wi, if_neg (by omega), if_pos (by omega), wn]
        congr 1
        rw [Bool.eq_iff_iff]; simp; omega
      · refine Ev.step (fun n => ?_) (j false (by show (0 : Int) = _; unfold wantR; rw [if_neg (by omega)]))
        simp only [impl_IsRing.l1]
        rw [if_pos (by omega), wi, if_neg (by omega), if_neg (by omega)]
theorem ring_i0 (s : List S95) (hs : s.length < 1000) (d : Nat) : ∀ i : Nat, i + d = s.length → Ev (fun n => impl_IsRing.l0 n s (s.length : Int) (i : Int)) (ringS s i d) := by
  induction d with
  | zero =>
    intro i hi
    refine Ev.step (f := fun _ => some true) (fun n => ?_) (Ev.now _)
    simp only [impl_IsRing.l0]
    rw [if_neg (by omega)]
  | succ d ih =>
    intro i hi
    have h1 : i < s.length := by omega
    unfold ringS
    rw [List.range'_succ, List.all_cons]
    cases hq : segL (s.getD i z95)
    · refine Ev.step (f := fun _ => some false) (fun n => ?_) (Ev.now _)
      simp only [impl_IsRing.l0, impl_IsSegment.f, Option.bind_some]
      rw [if_pos (by omega), if_pos (by omega), if_pos (by omega), rdSg s i h1]
      unfold segL at hq
      rw [hq]; simp
    · refine Ev.step (fun n => ?_) (ring_i1 s hs i h1 _ (ih (i + 1) (by omega)) i 0 (by omega))
      simp only [impl_IsRing.l0, impl_IsSegment.f, Option.bind_some]
      rw [if_pos (by omega), if_pos (by omega), if_pos (by omega), rdSg s i h1]
      unfold segL at hq
      rw [hq, if_pos rfl]; rfl
theorem isRing_i (l : List S77) (hl : l.length < 9223372036854775807) : Ev (fun k => impl_IsRing.f k l) (rgB l) := by
  unfold impl_IsRing.f rgB
  have dead : Ev (fun k => impl_IsRing.j0 k l true) false := Ev.step (f := fun _ => some false) (fun k => by simp [impl_IsRing.j0]) (Ev.now _)
  by_cases h2 : (l.length : Int) < 3
  · simp only [if_pos h2]
    have : inR (l.length : Int) 3 10 = false := by unfold inR; simp; omega
    rw [this]; exact dead
  · simp only [if_neg h2]
    by_cases h10 : (l.length : Int) > 10
    · have : inR (l.length : Int) 3 10 = false := by unfold inR; simp; omega
      rw [this, decide_eq_true h10]; exact dead
    · have : inR (l.length : Int) 3 10 = true := by unfold inR; simp; omega
      rw [this, decide_eq_false h10]
      have hb : l.length < 1000 := by omega
      refine Ev.step (f := fun k => (impl_around.f k l).bind fun t => impl_IsRing.l0 k t (t.length : Int) 0) (fun k => by simp [impl_IsRing.j0]) (Ev.bind (around_i l hb) ?_)
      exact ring_i0 (arR l) (by rw [arR_len]; exact hb) l.length 0 (by rw [arR_len]; omega)
def nmB (s : ByteArray) : Bool := (List.range' 0 s.size).all (fun (i : Nat) => decide (97 ≤ bt s (i : Int)) && decide (bt s (i : Int) ≤ 122)) && inR (s.size : Int) 1 8
theorem nm_loop_s (s : ByteArray) (hs : s.size ≤ 9223372036854775807) (d : Nat) : ∀ i : Nat, i + d = s.size → Ev (fun k => spec_IsName.l0 k s (i : Int)) ((List.range' i d).all (fun (i : Nat) => decide (97 ≤ bt s (i : Int)) && decide (bt s (i : Int) ≤ 122)) && inR (s.size : Int) 1 8) := by
  induction d with
  | zero =>
    intro i hi
    refine Ev.step (f := fun _ => some (inR (s.size : Int) 1 8)) (fun k => ?_) (Ev.now _)
    simp only [spec_IsName.l0, spec_l1In.f]
    rw [if_neg (by omega)]; rfl
  | succ d ih =>
    intro i hi
    rw [List.range'_succ, List.all_cons]
    by_cases h1 : bt s (i : Int) < 97
    · rw [decide_eq_false (show ¬ 97 ≤ bt s (i : Int) by omega)]
      refine Ev.step (f := fun _ => some false) (fun k => ?_) (Ev.now _)
      simp only [spec_IsName.l0]
      rw [if_pos (by omega), if_pos (by omega), if_pos h1]
    · by_cases h2 : bt s (i : Int) > 122
      · rw [decide_eq_true (show 97 ≤ bt s (i : Int) by omega), decide_eq_false (show ¬ bt s (i : Int) ≤ 122 by omega)]
        refine Ev.step (f := fun _ => some false) (fun k => ?_) (Ev.now _)
        simp only [spec_IsName.l0]
        rw [if_pos (by omega), if_pos (by omega), if_neg h1, if_pos h2]
      · rw [decide_eq_true (show 97 ≤ bt s (i : Int) by omega), decide_eq_true (show bt s (i : Int) ≤ 122 by omega)]
        refine Ev.step (fun k => ?_) (ih (i + 1) (by omega))
        simp only [spec_IsName.l0]
        rw [if_pos (by omega), if_pos (by omega), if_neg h1, if_neg h2, w1' i (by omega)]
theorem nm_s (s : ByteArray) (hs : s.size ≤ 9223372036854775807) : Ev (fun k => spec_IsName.f k s) (nmB s) := nm_loop_s s hs s.size 0 (by omega)
theorem nm_loop_i (s : ByteArray) (hs : s.size ≤ 9223372036854775807) (d : Nat) : ∀ i : Nat, i + d = s.size → Ev (fun k => impl_IsName.l0 k s (s.size : Int) (i : Int)) ((List.range' i d).all (fun (i : Nat) => decide (97 ≤ bt s (i : Int)) && decide (bt s (i : Int) ≤ 122)) && inR (s.size : Int) 1 8) := by
  induction d with
  | zero =>
    intro i hi
    refine Ev.step (f := fun _ => some (inR (s.size : Int) 1 8)) (fun k => ?_) (Ev.now _)
    simp only [impl_IsName.l0, impl_InRange.f]
    rw [if_neg (by omega)]; rfl
  | succ d ih =>
    intro i hi
    rw [List.range'_succ, List.all_cons]
    by_cases h1 : bt s (i : Int) < 97
    · rw [decide_eq_false (show ¬ 97 ≤ bt s (i : Int) by omega)]
      refine Ev.step (f := fun _ => some false) (fun k => ?_) (Ev.now _)
      simp only [impl_IsName.l0]
      rw [if_pos (by omega), if_pos (by omega), if_pos (by omega), if_pos h1]
    · by_cases h2 : bt s (i : Int) > 122
      · rw [decide_eq_true (show 97 ≤ bt s (i : Int) by omega), decide_eq_false (show ¬ bt s (i : Int) ≤ 122 by omega)]
        refine Ev.step (f := fun _ => some false) (fun k => ?_) (Ev.now _)
        simp only [impl_IsName.l0]
        rw [if_pos (by omega), if_pos (by omega), if_pos (by omega), if_neg h1, if_pos h2]
      · rw [decide_eq_true (show 97 ≤ bt s (i : Int) by omega), decide_eq_true (show bt s (i : Int) ≤ 122 by omega)]
        refine Ev.step (fun k => ?_) (ih (i + 1) (by omega))
        simp only [impl_IsName.l0]
        rw [if_pos (by omega), if_pos (by omega), if_pos (by omega), if_neg h1, if_neg h2, w1' i (by omega)]
theorem nm_i (s : ByteArray) (hs : s.size ≤ 9223372036854775807) : Ev (fun k => impl_IsName.f k s) (nmB s) := nm_loop_i s hs s.size 0 (by omega)
theorem lnB_len {l : List S77} (h : lnB l = true) : 2 ≤ l.length ∧ l.length ≤ 10 := by
  unfold lnB inR at h; simp at h; omega
theorem rgB_len {l : List S77} (h : rgB l = true) : 3 ≤ l.length ∧ l.length ≤ 10 := by
  unfold rgB inR at h; simp at h; omega
/-- The segments of a line, one behind the other. -/
def sgR (l : List S77) : List S95 := (List.range (l.length - 1)).map fun i => (⟨l.getD i z77, l.getD (i + 1) z77⟩ : S95)
def sgL (l : List S77) : List S95 := if lnB l then sgR l else []
theorem sgR_len (l : List S77) : (sgR l).length = l.length - 1 := by simp [sgR]
theorem sgR_take (l : List S77) (i : Nat) (h : i + 1 < l.length) : (sgR l).take (i + 1) = (sgR l).take i ++ [(⟨l.getD i z77, l.getD (i + 1) z77⟩ : S95)] := by
  rw [List.take_succ_eq_append_getElem (by rw [sgR_len]; omega)]
  simp [sgR]
theorem seg_sl (l : List S77) (hl : lnB l = true) (d : Nat) : ∀ i : Nat, i + 1 + d = l.length → Ev (fun k => spec_SegmentsOf.l0 k l ((sgR l).take i) ((i + 1 : Nat) : Int)) (sgR l) := by
  have hb := lnB_len hl
  induction d with
  | zero =>
    intro i hi
    rw [List.take_of_length_le (by rw [sgR_len]; omega)]
    refine Ev.step (f := fun _ => some _) (fun k => ?_) (Ev.now _)
    simp only [spec_SegmentsOf.l0]
    rw [if_neg (by omega)]
  | succ d ih =>
    intro i hi
    have hlen : ((sgR l).take i).length < 4398046511104 := by rw [List.length_take, sgR_len]; omega
    have w : wrap64 (((i + 1 : Nat) : Int) - 1) = (i : Int) := by unfold wrap64; omega
    refine Ev.step (f := fun k => (spec_IsLine.f k l).bind fun t => if t = true then spec_SegmentsOf.l0 k l ((sgR l).take (i + 1)) ((i + 1 + 1 : Nat) : Int) else some ((sgR l).take i)) (fun k => ?_) (Ev.bind (isLine_s l (by omega)) ?_)
    · simp only [spec_SegmentsOf.l0]
      rw [if_pos (by omega), w, if_pos (by omega), if_pos (by omega), if_pos (by omega), if_pos hlen, rdPd, rdPd, sgR_take l i (by omega), w1' (i + 1) (by omega)]
    · rw [hl]
      simp only [if_true]
      exact ih (i + 1) (by omega)
theorem seg_s (l : List S77) (hl : l.length < 9223372036854775807) : Ev (fun k => spec_SegmentsOf.f k l) (sgL l) := by
  unfold spec_SegmentsOf.f sgL
  cases h : lnB l
  · by_cases h1 : (1 : Int) < (l.length : Int)
    · refine Ev.step (f := fun k => (spec_IsLine.f k l).bind fun t => if t = true then spec_SegmentsOf.l0 (k + 1) l [] 1 else some []) (fun k => ?_) (Ev.bind (isLine_s l hl) ?_)
      · simp only [spec_SegmentsOf.l0]
        rw [if_pos h1]
        cases hh : spec_IsLine.f k l with
        | none => rfl
        | some b => cases b <;> simp [h1]
      · rw [h]; simp only [Bool.false_eq_true, if_false]; exact Ev.now _
    · refine Ev.step (f := fun _ => some []) (fun k => ?_) (Ev.now _)
      simp only [spec_SegmentsOf.l0]
      rw [if_neg h1]
  · have hb := lnB_len h
    exact seg_sl l h (l.length - 1) 0 (by omega)
theorem seg_il (l : List S77) (hl : lnB l = true) (d : Nat) : ∀ i : Nat, i + 1 + d = l.length → Ev (fun k => impl_SegmentsOf.l0 k l ((sgR l).take i) ((i + 1 : Nat) : Int)) (sgR l) := by
  have hb := lnB_len hl
  induction d with
  | zero =>
    intro i hi
    rw [List.take_of_length_le (by rw [sgR_len]; omega)]
    refine Ev.step (f := fun _ => some _) (fun k => ?_) (Ev.now _)
    simp only [impl_SegmentsOf.l0]
    rw [if_neg (by omega)]
  | succ d ih =>
    intro i hi
    have hlen : ((sgR l).take i).length < 4398046511104 := by rw [List.length_take, sgR_len]; omega
    have w : wrap64 (((i + 1 : Nat) : Int) - 1) = (i : Int) := by unfold wrap64; omega
    refine Ev.step (fun k => ?_) (ih (i + 1) (by omega))
    simp only [impl_SegmentsOf.l0]
    rw [if_pos (by omega), w, if_pos (by omega), if_pos (by omega), if_pos (by omega), if_pos hlen, rdPd, rdPd, sgR_take l i (by omega), w1' (i + 1) (by omega)]
theorem seg_i (l : List S77) (hl : l.length < 9223372036854775807) : Ev (fun k => impl_SegmentsOf.f k l) (sgL l) := by
  unfold impl_SegmentsOf.f sgL
  simp only [Option.bind_some]
  refine Ev.bind (isLine_i l hl) ?_
  cases h : lnB l
  · simp only [Bool.false_eq_true, if_false]; exact Ev.now _
  · have hb := lnB_len h
    simp only [if_true]
    exact seg_il l h (l.length - 1) 0 (by omega)
def wantS (i k : Nat) : Int := if k + 1 = i then 1 else 0
def inRow2 (s : List S95) (i : Nat) (k : Nat) : Bool := decide (howL (s.getD i z95) (s.getD k z95) = wantS i k)
def simS (s : List S95) (i d : Nat) : Bool := (List.range' i d).all fun i => (List.range' 0 i).all (inRow2 s i)
def smB (l : List S77) : Bool := lnB l && simS (sgL l) 0 (sgL l).length
theorem sim_s1 (l : List S77) (s : List S95) (hs : s.length < 1000) (i : Nat) (hi : i < s.length) (rest : Bool) (hr : Ev (fun k => spec_IsSimple.l0 k l s ((i + 1 : Nat) : Int)) rest) (d : Nat) :
    ∀ k : Nat, k + d = i → Ev (fun n => spec_IsSimple.l1 n l s (i : Int) (k : Int)) ((List.range' k d).all (inRow2 s i) && rest) := by
  induction d with
  | zero =>
    intro k hk
    refine Ev.step (fun n => ?_) hr
    simp only [spec_IsSimple.l1]
    rw [if_neg (by omega), w1' i (by omega)]
  | succ d ih =>
    intro k hk
    have hk1 : k < s.length := by omega
    rw [List.range'_succ, List.all_cons]
    have e2 : Ev (fun n => (spec_HowMeet.f (s.getD i z95).f0.f0 (s.getD i z95).f0.f1 (s.getD i z95).f1.f0 (s.getD i z95).f1.f1 (s.getD k z95).f0.f0 (s.getD k z95).f0.f1 (s.getD k z95).f1.f0 (s.getD k z95).f1.f1).bind fun t => if t = wantS i k then spec_IsSimple.l1 n l s (i : Int) ((k + 1 : Nat) : Int) else some false) (inRow2 s i k && (List.range' (k + 1) d).all (inRow2 s i) && rest) := by
      refine Ev.bind (how_s _ _ _ _ _ _ _ _) ?_
      by_cases hw : howL (s.getD i z95) (s.getD k z95) = wantS i k
      · have e : inRow2 s i k = true := by unfold inRow2; exact decide_eq_true hw
        rw [e, Bool.true_and]
        refine Ev.congr (fun n => ?_) (ih (k + 1) (by omega))
        exact if_pos hw
      · have e : inRow2 s i k = false := by unfold inRow2; exact decide_eq_false hw
        rw [e]
        refine Ev.congr (fun n => ?_) (Ev.now _)
        exact if_neg hw
    refine Ev.step (fun n => ?_) e2
    simp only [spec_IsSimple.l1]
    by_cases z : k + 1 = i
    · have hw : wantS i k = 1 := by unfold wantS; rw [if_pos z]
      rw [hw, if_pos (by omega), w1' k (by omega), if_pos (by omega), if_pos (by omega), if_pos (by omega), if_pos (by omega), if_pos (by omega), rdSg s i hi, rdSg s k hk1]
    · have hw : wantS i k = 0 := by unfold wantS; rw [if_neg z]
      rw [hw, if_pos (by omega), w1' k (by omega), if_neg (by omega), if_pos (by omega), if_pos (by omega), if_pos (by omega), if_pos (by omega), rdSg s i hi, rdSg s k hk1]
theorem sim_s0 (l : List S77) (hl : l.length < 9223372036854775807) (s : List S95) (hs : s.length < 1000) (d : Nat) : ∀ i : Nat, i + d = s.length → Ev (fun n => spec_IsSimple.l0 n l s (i : Int)) (simS s i d && lnB l) := by
  induction d with
  | zero =>
    intro i hi
    refine Ev.step (f := fun k => (spec_IsLine.f k l).bind fun t => some t) (fun n => ?_) (Ev.bind (isLine_s l hl) (Ev.now _))
    simp only [spec_IsSimple.l0]
    rw [if_neg (by omega)]
  | succ d ih =>
    intro i hi
    have h1 : i < s.length := by omega
    unfold simS
    rw [List.range'_succ, List.all_cons, Bool.and_assoc]
    refine Ev.step (fun n => ?_) (sim_s1 l s hs i h1 _ (ih (i + 1) (by omega)) i 0 (by omega))
    simp only [spec_IsSimple.l0]
    rw [if_pos (by omega)]; rfl
theorem sgL_len (l : List S77) : (sgL l).length < 1000 := by
  unfold sgL
  cases h : lnB l
  · simp
  · have := lnB_len h; simp [sgR_len]; omega
theorem isSimple_s (l : List S77) (hl : l.length < 9223372036854775807) : Ev (fun k => spec_IsSimple.f k l) (smB l) := by
  unfold spec_IsSimple.f smB
  refine Ev.bind (seg_s l hl) ?_
  rw [Bool.and_comm]
  exact sim_s0 l hl (sgL l) (sgL_len l) (sgL l).length 0 (by omega)
theorem sim_i1 (s : List S95) (hs : s.length < 1000) (i : Nat) (hi : i < s.length) (rest : Bool) (hr : Ev (fun k => impl_IsSimple.l0 k s (s.length : Int) ((i + 1 : Nat) : Int)) rest) (d : Nat) :
    ∀ k : Nat, k + d = i → Ev (fun n => impl_IsSimple.l1 n s (i : Int) (s.length : Int) (i : Int) (i : Int) (k : Int)) ((List.range' k d).all (inRow2 s i) && rest) := by
  induction d with
  | zero =>
    intro k hk
    refine Ev.step (fun n => ?_) hr
    simp only [impl_IsSimple.l1]
    rw [if_neg (by omega), w1' i (by omega)]
  | succ d ih =>
    intro k hk
    have hk1 : k < s.length := by omega
    rw [List.range'_succ, List.all_cons]
    have e2 : Ev (fun n => (impl_HowMeet.f n (s.getD i z95).f0.f0 (s.getD i z95).f0.f1 (s.getD i z95).f1.f0 (s.getD i z95).f1.f1 (s.getD k z95).f0.f0 (s.getD k z95).f0.f1 (s.getD k z95).f1.f0 (s.getD k z95).f1.f1).bind fun t => if t = wantS i k then impl_IsSimple.l1 n s (i : Int) (s.length : Int) (i : Int) (i : Int) ((k + 1 : Nat) : Int) else some false) (inRow2 s i k && (List.range' (k + 1) d).all (inRow2 s i) && rest) := by
      refine Ev.bind (how_i _ _ _ _ _ _ _ _) ?_
      by_cases hw : howL (s.getD i z95) (s.getD k z95) = wantS i k
      · have e : inRow2 s i k = true := by unfold inRow2; exact decide_eq_true hw
        rw [e, Bool.true_and]
        refine Ev.congr (fun n => ?_) (ih (k + 1) (by omega))
        exact if_pos hw
      · have e : inRow2 s i k = false := by unfold inRow2; exact decide_eq_false hw
        rw [e]
        refine Ev.congr (fun n => ?_) (Ev.now _)
        exact if_neg hw
    have wi : wrap64 ((i : Int) - 1) = (i : Int) - 1 := by unfold wrap64; omega
    refine Ev.step (fun n => ?_) e2
    simp only [impl_IsSimple.l1]
    by_cases z : k + 1 = i
    · have hw : wantS i k = 1 := by unfold wantS; rw [if_pos z]
      rw [hw, if_pos (by omega), wi, if_pos (by omega), if_pos (by omega), if_pos (by omega), if_pos (by omega), if_pos (by omega), rdSg s i hi, rdSg s k hk1, w1' k (by omega)]
    · have hw : wantS i k = 0 := by unfold wantS; rw [if_neg z]
      rw [hw, if_pos (by omega), wi, if_neg (by omega), if_pos (by omega), if_pos (by omega), if_pos (by omega), if_pos (by omega), rdSg s i hi, rdSg s k hk1, w1' k (by omega)]
theorem sim_i0 (s : List S95) (hs : s.length < 1000) (d : Nat) : ∀ i : Nat, i + d = s.length → Ev (fun n => impl_IsSimple.l0 n s (s.length : Int) (i : Int)) (simS s i d) := by
  induction d with
  | zero =>
    intro i hi
    refine Ev.step (f := fun _ => some true) (fun n => ?_) (Ev.now _)
    simp only [impl_IsSimple.l0]
    rw [if_neg (by omega)]
  | succ d ih =>
    intro i hi
    have h1 : i < s.length := by omega
    unfold simS
    rw [List.range'_succ, List.all_cons]
    refine Ev.step (fun n => ?_) (sim_i1 s hs i h1 _ (ih (i + 1) (by omega)) i 0 (by omega))
    simp only [impl_IsSimple.l0]
    rw [if_pos (by omega)]; rfl
theorem isSimple_i (l : List S77) (hl : l.length < 9223372036854775807) : Ev (fun k => impl_IsSimple.f k l) (smB l) := by
  unfold impl_IsSimple.f smB
  refine Ev.bind (isLine_i l hl) ?_
  cases h : lnB l
  · simp only [Bool.false_eq_true, if_false, Bool.false_and]; exact Ev.now _
  · simp only [if_true, Bool.true_and]
    refine Ev.bind (seg_i l hl) ?_
    exact sim_i0 (sgL l) (sgL_len l) (sgL l).length 0 (by omega)
def kdB (kd : Int) (l : List S77) : Bool := if kd = 1 then decide (l.length = 1) && isPt (l.getD 0 z77).f0 (l.getD 0 z77).f1 else if kd = 2 then smB l else if kd = 3 then rgB l else false
def ftB (a b c : Int) (s : ByteArray) (l : List S77) : Bool := inR a 1 99 && (inR c 0 9 && ((decide (s.toList = ([] : List UInt8)) || nmB s) && kdB b l))
theorem rdP0 (l : List S77) : rd_T77 l 0 = l.getD 0 z77 := rfl
theorem ft_js (a b c : Int) (s : ByteArray) (l : List S77) (hl : l.length < 9223372036854775807) (q : Bool) : Ev (fun k => spec_IsFeature.j0 k q a b c s l) (!q && kdB b l) := by
  cases q
  · unfold kdB
    by_cases h1 : b = 1
    · refine Ev.step (f := fun _ => some (decide (l.length = 1) && isPt (l.getD 0 z77).f0 (l.getD 0 z77).f1)) (fun k => ?_) (by simp only [if_pos h1]; exact Ev.now _)
      simp only [spec_IsFeature.j0, Bool.false_eq_true, if_false, if_pos h1, spec_IsPoint.f, Option.bind_some, rdP0]
      by_cases h : (l.length : Int) = 1
      · rw [if_pos h, if_pos (by omega), decide_eq_true (show l.length = 1 by omega)]; rfl
      · rw [if_neg h, decide_eq_false (show ¬ l.length = 1 by omega)]; rfl
    · by_cases h2 : b = 2
      · simp only [if_neg h1, if_pos h2]
        refine Ev.step (f := fun k => (spec_IsSimple.f k l).bind fun t => some t) (fun k => ?_) (Ev.bind (isSimple_s l hl) (Ev.now _))
        simp only [spec_IsFeature.j0, Bool.false_eq_true, if_false, if_neg h1, if_pos h2]
      · by_cases h3 : b = 3
        · simp only [if_neg h1, if_neg h2, if_pos h3]
          refine Ev.step (f := fun k => (spec_IsRing.f k l).bind fun t => some t) (fun k => ?_) (Ev.bind (isRing_s l hl) (Ev.now _))
          simp only [spec_IsFeature.j0, Bool.false_eq_true, if_false, if_neg h1, if_neg h2, if_pos h3]
        · simp only [if_neg h1, if_neg h2, if_neg h3]
          refine Ev.step (f := fun _ => some false) (fun k => ?_) (Ev.now _)
          simp only [spec_IsFeature.j0, Bool.false_eq_true, if_false, if_neg h1, if_neg h2, if_neg h3]
  · refine Ev.step (f := fun _ => some false) (fun k => ?_) (Ev.now _)
    simp [spec_IsFeature.j0]
theorem ft_s (a b c : Int) (s : ByteArray) (hs : s.size ≤ 9223372036854775807) (l : List S77) (hl : l.length < 9223372036854775807) : Ev (fun k => spec_IsFeature.f k a b c s l) (ftB a b c s l) := by
  unfold spec_IsFeature.f ftB spec_l1In.f
  simp only [Option.bind_some]
  cases inR a 1 99
  · simp only [Bool.false_eq_true, if_false]; exact ft_js a b c s l hl true
  · cases inR c 0 9
    · simp only [if_true, Bool.false_eq_true, if_false]; exact ft_js a b c s l hl true
    · simp only [if_true, Bool.true_and]
      by_cases he : s.toList = ([] : List UInt8)
      · simp only [if_pos he, decide_eq_true he, Bool.true_or]; exact ft_js a b c s l hl false
      · simp only [if_neg he, decide_eq_false he, Bool.false_or]
        refine Ev.bind (nm_s s hs) ?_
        have := ft_js a b c s l hl (!nmB s)
        rw [Bool.not_not] at this
        exact this
theorem ft_ji (a b c : Int) (s : ByteArray) (l : List S77) (hl : l.length < 9223372036854775807) (q : Bool) : Ev (fun k => impl_IsFeature.j0 k q a b c s l) (!q && kdB b l) := by
  cases q
  · unfold kdB
    by_cases h1 : b = 1
    · refine Ev.step (f := fun _ => some (decide (l.length = 1) && isPt (l.getD 0 z77).f0 (l.getD 0 z77).f1)) (fun k => ?_) (by simp only [if_pos h1]; exact Ev.now _)
      simp only [impl_IsFeature.j0, Bool.false_eq_true, if_false, if_pos h1, impl_IsPoint.f, Option.bind_some, rdP0]
      by_cases h : (l.length : Int) = 1
      · rw [if_pos h, if_pos (by omega), decide_eq_true (show l.length = 1 by omega)]; rfl
      · rw [if_neg h, decide_eq_false (show ¬ l.length = 1 by omega)]; rfl
    · by_cases h2 : b = 2
      · simp only [if_neg h1, if_pos h2]
        refine Ev.step (f := fun k => (impl_IsSimple.f k l).bind fun t => some t) (fun k => ?_) (Ev.bind (isSimple_i l hl) (Ev.now _))
        simp only [impl_IsFeature.j0, Bool.false_eq_true, if_false, if_neg h1, if_pos h2]
      · by_cases h3 : b = 3
        · simp only [if_neg h1, if_neg h2, if_pos h3]
          refine Ev.step (f := fun k => (impl_IsRing.f k l).bind fun t => some t) (fun k => ?_) (Ev.bind (isRing_i l hl) (Ev.now _))
          simp only [impl_IsFeature.j0, Bool.false_eq_true, if_false, if_neg h1, if_neg h2, if_pos h3]
        · simp only [if_neg h1, if_neg h2, if_neg h3]
          refine Ev.step (f := fun _ => some false) (fun k => ?_) (Ev.now _)
          simp only [impl_IsFeature.j0, Bool.false_eq_true, if_false, if_neg h1, if_neg h2, if_neg h3]
  · refine Ev.step (f := fun _ => some false) (fun k => ?_) (Ev.now _)
    simp [impl_IsFeature.j0]
theorem ft_i (a b c : Int) (s : ByteArray) (hs : s.size ≤ 9223372036854775807) (l : List S77) (hl : l.length < 9223372036854775807) : Ev (fun k => impl_IsFeature.f k a b c s l) (ftB a b c s l) := by
  unfold impl_IsFeature.f ftB impl_InRange.f
  simp only [Option.bind_some]
  cases inR a 1 99
  · simp only [Bool.false_eq_true, if_false]; exact ft_ji a b c s l hl true
  · cases inR c 0 9
    · simp only [if_true, Bool.false_eq_true, if_false]; exact ft_ji a b c s l hl true
    · simp only [if_true, Bool.true_and]
      by_cases he : s.toList = ([] : List UInt8)
      · simp only [if_pos he, decide_eq_true he, Bool.true_or]; exact ft_ji a b c s l hl false
      · simp only [if_neg he, decide_eq_false he, Bool.false_or]
        refine Ev.bind (nm_i s hs) ?_
        have := ft_ji a b c s l hl (!nmB s)
        rw [Bool.not_not] at this
        exact this
theorem arR_at (l : List S77) (i : Nat) (h : i < l.length) : (arR l).getD i z95 = (⟨l.getD i z77, l.getD ((i + 1) % l.length) z77⟩ : S95) := by
  have h2 : i < (arR l).length := by rw [arR_len]; exact h
  rw [List.getD_eq_getElem?_getD, List.getElem?_eq_getElem h2]
  simp [arR]
theorem nx_mod {n e : Nat} (h : e < n) : (e + 1) % n = nx n e := by
  unfold nx
  split
  · rename_i h2; rw [h2, Nat.mod_self]
  · exact Nat.mod_eq_of_lt (by omega)
def trm (l : List S77) (e : Nat) : Int := (l.getD e z77).f0 * (l.getD (nx l.length e) z77).f1 - (l.getD e z77).f1 * (l.getD (nx l.length e) z77).f0
/-- Twice the area. -/
def areaL (l : List S77) : Int := sm (trm l) l.length
theorem rg_key {l : List S77} (h : rgB l = true) : ∀ i, i < l.length → segL ((arR l).getD i z95) = true ∧ ∀ k, k < i → inRow (arR l) i k = true := by
  intro i hi
  unfold rgB ringS at h
  rw [Bool.and_eq_true] at h
  have := List.all_eq_true.1 h.2 i (List.mem_range'_1.2 ⟨by omega, by omega⟩)
  rw [Bool.and_eq_true] at this
  exact ⟨this.1, fun k hk => List.all_eq_true.1 this.2 k (List.mem_range'_1.2 ⟨by omega, by omega⟩)⟩
theorem area_ne {l : List S77} (h : rgB l = true) : areaL l ≠ 0 := by
  have hn := rgB_len h
  refine valid_area (fun i => (l.getD i z77).f0) (fun i => (l.getD i z77).f1) hn.1 (fun e he => ?_) (fun i k hk hi => ?_)
  · have := (rg_key h e he).1
    rw [arR_at l e he, nx_mod he] at this
    exact this
  · have := (rg_key h i hi).2 k hk
    unfold inRow howL wantR at this
    rw [arR_len, arR_at l i hi, arR_at l k (by omega), nx_mod hi, nx_mod (by omega)] at this
    exact of_decide_eq_true this
theorem trm_bd {l : List S77} (h : rgB l = true) {e : Nat} (he : e < l.length) :
    (-40000 ≤ (l.getD e z77).f0 * (l.getD (nx l.length e) z77).f1 ∧ (l.getD e z77).f0 * (l.getD (nx l.length e) z77).f1 ≤ 40000) ∧ -40000 ≤ (l.getD e z77).f1 * (l.getD (nx l.length e) z77).f0 ∧ (l.getD e z77).f1 * (l.getD (nx l.length e) z77).f0 ≤ 40000 := by
  have h1 := (rg_key h e he).1
  rw [arR_at l e he, nx_mod he] at h1
  obtain ⟨p, q, _⟩ := isSeg_iff.1 (show isSeg (l.getD e z77).f0 (l.getD e z77).f1 (l.getD (nx l.length e) z77).f0 (l.getD (nx l.length e) z77).f1 = true from h1)
  rw [isPt_iff] at p q
  exact ⟨mul_bd (by omega) (by omega) (by omega) (by omega), mul_bd (by omega) (by omega) (by omega) (by omega)⟩
theorem sum_bd {l : List S77} (h : rgB l = true) : ∀ i, i ≤ l.length → -80000 * (i : Int) ≤ sm (trm l) i ∧ sm (trm l) i ≤ 80000 * (i : Int)
  | 0, _ => by simp [sm]
  | i + 1, hi => by
    have h1 := sum_bd h i (by omega)
    obtain ⟨h2, h3⟩ := trm_bd h (e := i) (by omega)
    simp only [sm]
    unfold trm at h1 ⊢
    constructor <;> omega
theorem w_sum1 {a p q : Int} (h1 : -10000000 ≤ a) (h2 : a ≤ 10000000) (h3 : -40000 ≤ p) (h4 : p ≤ 40000) (h5 : -40000 ≤ q) (h6 : q ≤ 40000) : wrap64 (wrap64 (a + wrap64 p) - wrap64 q) = a + p - q := by unfold wrap64; omega
theorem w_sum2 {a p q : Int} (h1 : -10000000 ≤ a) (h2 : a ≤ 10000000) (h3 : -40000 ≤ p) (h4 : p ≤ 40000) (h5 : -40000 ≤ q) (h6 : q ≤ 40000) : wrap64 (a + wrap64 (wrap64 p - wrap64 q)) = a + (p - q) := by unfold wrap64; omega
theorem area_sl {l : List S77} (h : rgB l = true) (d : Nat) : ∀ i : Nat, i + d = l.length → Ev (fun k => spec_TwiceArea.l0 k l (sm (trm l) i) (arR l) (i : Int)) (areaL l) := by
  have hn := rgB_len h
  induction d with
  | zero =>
    intro i hi
    have : i = l.length := by omega
    subst this
    refine Ev.step (f := fun _ => some (areaL l)) (fun k => ?_) (Ev.now _)
    simp only [spec_TwiceArea.l0]
    rw [if_neg (by rw [arR_len]; omega)]
    rfl
  | succ d ih =>
    intro i hi
    have h1 : i < l.length := by omega
    refine Ev.step (f := fun k => (spec_IsRing.f k l).bind fun t => if t = true then spec_TwiceArea.l0 k l (sm (trm l) (i + 1)) (arR l) ((i + 1 : Nat) : Int) else some (sm (trm l) i)) (fun k => ?_) (Ev.bind (isRing_s l (by omega)) (by simp only [h, if_true]; exact ih (i + 1) (by omega)))
    obtain ⟨⟨b1, b2⟩, b3, b4⟩ := trm_bd h h1
    obtain ⟨s1, s2⟩ := sum_bd h i (by omega)
    have e1 : wrap64 (wrap64 (sm (trm l) i + wrap64 ((l.getD i z77).f0 * (l.getD (nx l.length i) z77).f1)) - wrap64 ((l.getD i z77).f1 * (l.getD (nx l.length i) z77).f0)) = sm (trm l) (i + 1) := by
      rw [w_sum1 (by omega) (by omega) b1 b2 b3 b4]
      show _ = sm (trm l) i + trm l i
      unfold trm
      omega
    simp only [spec_TwiceArea.l0]
    rw [if_pos (by rw [arR_len]; omega), rdSg (arR l) i (by rw [arR_len]; exact h1), arR_at l i h1, nx_mod h1]
    simp only [e1, w1' i (by omega), if_pos (show (0 : Int) ≤ (i : Int) by omega)]
theorem area_s {l : List S77} (h : rgB l = true) : Ev (fun k => spec_TwiceArea.f k l) (areaL l) := by
  have hn := rgB_len h
  unfold spec_TwiceArea.f
  exact Ev.bind (around_s l (by omega)) (area_sl h l.length 0 (by omega))
theorem area_il {l : List S77} (h : rgB l = true) (d : Nat) : ∀ i : Nat, i + d = l.length → Ev (fun k => impl_TwiceArea.l0 k (sm (trm l) i) (arR l) ((arR l).length : Int) (i : Int)) (areaL l) := by
  have hn := rgB_len h
  induction d with
  | zero =>
    intro i hi
    have : i = l.length := by omega
    subst this
    refine Ev.step (f := fun _ => some (areaL l)) (fun k => ?_) (Ev.now _)
    simp only [impl_TwiceArea.l0]
    rw [if_neg (by rw [arR_len]; omega)]
    rfl
  | succ d ih =>
    intro i hi
    have h1 : i < l.length := by omega
    refine Ev.step (fun k => ?_) (ih (i + 1) (by omega))
    obtain ⟨⟨b1, b2⟩, b3, b4⟩ := trm_bd h h1
    obtain ⟨s1, s2⟩ := sum_bd h i (by omega)
    have e1 : wrap64 (sm (trm l) i + wrap64 (wrap64 ((l.getD i z77).f0 * (l.getD (nx l.length i) z77).f1) - wrap64 ((l.getD i z77).f1 * (l.getD (nx l.length i) z77).f0))) = sm (trm l) (i + 1) := by
      rw [w_sum2 (by omega) (by omega) b1 b2 b3 b4]
      show _ = sm (trm l) i + trm l i
      unfold trm
      rfl
    simp only [impl_TwiceArea.l0]
    rw [if_pos (by rw [arR_len]; omega), rdSg (arR l) i (by rw [arR_len]; exact h1), arR_at l i h1, nx_mod h1]
    simp only [e1, w1' i (by omega), if_pos (show (0 : Int) ≤ (i : Int) by omega)]
    rw [if_pos (by rw [arR_len]; omega)]
theorem area_i {l : List S77} (h : rgB l = true) : Ev (fun k => impl_TwiceArea.f k l) (areaL l) := by
  have hn := rgB_len h
  have hs : Ev (fun k => impl_RingSegments.f k l) (arR l) := by
    unfold impl_RingSegments.f
    refine Ev.bind (isRing_i l (by omega)) ?_
    simp only [h, if_true]
    exact Ev.bind (around_i l (by omega)) (Ev.now _)
  unfold impl_TwiceArea.f
  exact Ev.bind hs (area_il h l.length 0 (by omega))
def turnB (a b : List S77) : Bool := decide (areaL a > 0 ∧ areaL b > 0 ∨ areaL a < 0 ∧ areaL b < 0)
theorem turn_s {a b : List S77} (ha : rgB a = true) (hb : rgB b = true) : Ev (fun k => spec_SameTurn.f k a b) (turnB a b) := by
  unfold spec_SameTurn.f turnB
  refine Ev.bind (area_s ha) (Ev.bind (area_s hb) ?_)
  by_cases h1 : areaL a > 0
  · simp only [if_pos h1]
    by_cases h2 : areaL b > 0
    · simp only [if_pos h2, decide_eq_true (show (areaL a > 0 ∧ areaL b > 0 ∨ areaL a < 0 ∧ areaL b < 0) from .inl ⟨h1, h2⟩)]; exact Ev.now _
    · simp only [if_neg h2, if_neg (show ¬ areaL a < 0 by omega), decide_eq_false (show ¬ (areaL a > 0 ∧ areaL b > 0 ∨ areaL a < 0 ∧ areaL b < 0) by omega)]; exact Ev.now _
  · simp only [if_neg h1]
    by_cases h2 : areaL a < 0
    · simp only [if_pos h2]
      rw [decide_eq_decide.2 (show (areaL a > 0 ∧ areaL b > 0 ∨ areaL a < 0 ∧ areaL b < 0) ↔ areaL b < 0 by omega)]
      exact Ev.now _
    · simp only [if_neg h2, decide_eq_false (show ¬ (areaL a > 0 ∧ areaL b > 0 ∨ areaL a < 0 ∧ areaL b < 0) by omega)]; exact Ev.now _
theorem turn_i {a b : List S77} (ha : rgB a = true) (hb : rgB b = true) : (cmpI (areaL b) 0 = cmpI (areaL a) 0) ↔ turnB a b = true := by
  have h1 := area_ne ha
  have h2 := area_ne hb
  unfold turnB cmpI
  rw [decide_eq_true_iff]
  split <;> split <;> (repeat' split) <;> omega
/-- The list without one point. -/
def woL (l : List S77) (i : Int) : List S77 := l.take i.toNat ++ l.drop (i.toNat + 1)
def dpF (l : List S77) (i : Int) : List S77 × Bool := if (lnB l && (inR i 1 ((l.length : Int) - 2) && lnB (woL l i))) = true then (woL l i, true) else (l, false)
def dcF (l : List S77) (i : Int) : List S77 × Bool := if (rgB l && (inR i 0 ((l.length : Int) - 1) && (rgB (woL l i) && turnB l (woL l i)))) = true then (woL l i, true) else (l, false)
theorem inR_iff {a b c : Int} : inR a b c = true ↔ b ≤ a ∧ a ≤ c := by unfold inR; simp
theorem woL_len (l : List S77) (i : Int) : (woL l i).length ≤ l.length := by unfold woL; simp; omega
theorem dp_js (l : List S77) (i : Int) (hl : l.length < 1048577) (q : Bool) (hq : q = false → 0 ≤ i ∧ i < l.length) : Ev (fun k => spec_DropPoint.j0 k l i q) (if (!q && lnB (woL l i)) = true then (woL l i, true) else (l, false)) := by
  cases q
  · obtain ⟨h0, h1⟩ := hq rfl
    have w : wrap64 (i + 1) = i + 1 := by unfold wrap64; omega
    have e : (i + 1).toNat = i.toNat + 1 := by omega
    refine Ev.step (f := fun k => (spec_IsLine.f k (woL l i)).bind fun t => if t = true then some (woL l i, true) else some (l, false)) (fun k => ?_) (Ev.bind (isLine_s (woL l i) (by have := woL_len l i; omega)) ?_)
    · simp only [spec_DropPoint.j0, Bool.false_eq_true, if_false, Option.bind_some, w, e]
      rw [if_pos h0, if_pos (by omega), if_pos (by simp; omega), if_pos (by omega), if_pos (by omega), if_pos (by simp; omega), if_pos (by simp; omega)]
      rfl
    · cases lnB (woL l i) <;> simp <;> exact Ev.now _
  · refine Ev.step (f := fun _ => some (l, false)) (fun k => ?_) (by simp; exact Ev.now _)
    simp only [spec_DropPoint.j0, if_true, Option.bind_some, List.nil_append]
    rw [if_pos (by simp; omega)]
theorem dp_s (l : List S77) (i : Int) (hl : l.length < 1048577) : Ev (fun k => spec_DropPoint.f k l i) (dpF l i) := by
  unfold spec_DropPoint.f dpF spec_l1In.f
  refine Ev.bind (isLine_s l (by omega)) ?_
  cases h : lnB l
  · simp only [Bool.false_eq_true, if_false, Bool.false_and]
    have := dp_js l i hl true (fun h => by cases h)
    simpa using this
  · have hb := lnB_len h
    have w : wrap64 ((l.length : Int) - 2) = (l.length : Int) - 2 := by unfold wrap64; omega
    simp only [if_true, Option.bind_some, w, Bool.true_and]
    have := dp_js l i hl (!inR i 1 ((l.length : Int) - 2)) (fun h2 => by have h3 := inR_iff.1 (show inR i 1 ((l.length : Int) - 2) = true by simpa using h2); omega)
    rw [Bool.not_not] at this
    exact this
theorem dp_ji (l : List S77) (i : Int) (hl : l.length < 1048577) (q : Bool) (hq : q = false → 0 ≤ i ∧ i < l.length) : Ev (fun k => impl_DropPoint.j0 k l i q) (if (!q && lnB (woL l i)) = true then (woL l i, true) else (l, false)) := by
  cases q
  · obtain ⟨h0, h1⟩ := hq rfl
    refine Ev.step (f := fun k => (impl_IsLine.f k (woL l i)).bind fun t => if t = true then some (woL l i, true) else some (l, false)) (fun k => ?_) (Ev.bind (isLine_i (woL l i) (by have := woL_len l i; omega)) ?_)
    · simp only [impl_DropPoint.j0, Bool.false_eq_true, if_false, impl_without.f, impl_Point.f]
      rw [if_pos h0, if_pos h1, if_pos (by omega), if_pos (by omega)]
      rfl
    · cases lnB (woL l i) <;> simp <;> exact Ev.now _
  · refine Ev.step (f := fun _ => some (l, false)) (fun k => ?_) (by simp; exact Ev.now _)
    simp only [impl_DropPoint.j0, if_true, impl_Point.f]
    rw [if_pos (by omega)]
    rfl
theorem dp_i (l : List S77) (i : Int) (hl : l.length < 1048577) : Ev (fun k => impl_DropPoint.f k l i) (dpF l i) := by
  unfold impl_DropPoint.f dpF impl_InRange.f
  refine Ev.bind (isLine_i l (by omega)) ?_
  cases h : lnB l
  · simp only [Bool.false_eq_true, if_false, Bool.false_and]
    have := dp_ji l i hl true (fun h => by cases h)
    simpa using this
  · have hb := lnB_len h
    have w : wrap64 ((l.length : Int) - 2) = (l.length : Int) - 2 := by unfold wrap64; omega
    simp only [if_true, Option.bind_some, w, Bool.true_and]
    have := dp_ji l i hl (!inR i 1 ((l.length : Int) - 2)) (fun h2 => by have h3 := inR_iff.1 (show inR i 1 ((l.length : Int) - 2) = true by simpa using h2); omega)
    rw [Bool.not_not] at this
    exact this
theorem dc_js (l : List S77) (i : Int) (hl : l.length < 1048577) (q : Bool) (hq : q = false → rgB l = true ∧ 0 ≤ i ∧ i < l.length) : Ev (fun k => spec_DropCorner.j0 k l i q) (if (!q && (rgB (woL l i) && turnB l (woL l i))) = true then (woL l i, true) else (l, false)) := by
  cases q
  · obtain ⟨hr, h0, h1⟩ := hq rfl
    have w : wrap64 (i + 1) = i + 1 := by unfold wrap64; omega
    have e : (i + 1).toNat = i.toNat + 1 := by omega
    refine Ev.step (f := fun k => (spec_IsRing.f k (woL l i)).bind fun t => if t = true then ((spec_SameTurn.f k l (woL l i)).bind fun t => if t = true then some (woL l i, true) else some (l, false)) else some (l, false)) (fun k => ?_) (Ev.bind (isRing_s (woL l i) (by have := woL_len l i; omega)) ?_)
    · simp only [spec_DropCorner.j0, Bool.false_eq_true, if_false, Option.bind_some, w, e]
      rw [if_pos h0, if_pos (by omega), if_pos (by simp; omega), if_pos (by omega), if_pos (by omega), if_pos (by simp; omega), if_pos (by simp; omega)]
      rfl
    · cases h2 : rgB (woL l i)
      · simp; exact Ev.now _
      · simp only [if_true, Bool.not_false, Bool.true_and]
        refine Ev.bind (turn_s hr h2) ?_
        cases turnB l (woL l i) <;> simp <;> exact Ev.now _
  · refine Ev.step (f := fun _ => some (l, false)) (fun k => ?_) (by simp; exact Ev.now _)
    simp only [spec_DropCorner.j0, if_true, Option.bind_some, List.nil_append]
    rw [if_pos (by simp; omega)]
theorem dc_s (l : List S77) (i : Int) (hl : l.length < 1048577) : Ev (fun k => spec_DropCorner.f k l i) (dcF l i) := by
  unfold spec_DropCorner.f dcF spec_l1In.f
  refine Ev.bind (isRing_s l (by omega)) ?_
  cases h : rgB l
  · simp only [Bool.false_eq_true, if_false, Bool.false_and]
    have := dc_js l i hl true (fun h => by cases h)
    simpa using this
  · have hb := rgB_len h
    have w : wrap64 ((l.length : Int) - 1) = (l.length : Int) - 1 := by unfold wrap64; omega
    simp only [if_true, Option.bind_some, w, Bool.true_and]
    have := dc_js l i hl (!inR i 0 ((l.length : Int) - 1)) (fun h2 => by have h3 := inR_iff.1 (show inR i 0 ((l.length : Int) - 1) = true by simpa using h2); exact ⟨h, by omega, by omega⟩)
    rw [Bool.not_not] at this
    exact this
theorem dc_ji (l : List S77) (i : Int) (hl : l.length < 1048577) (q : Bool) (hq : q = false → rgB l = true ∧ 0 ≤ i ∧ i < l.length) : Ev (fun k => impl_DropCorner.j0 k l i q) (if (!q && (rgB (woL l i) && turnB l (woL l i))) = true then (woL l i, true) else (l, false)) := by
  cases q
  · obtain ⟨hr, h0, h1⟩ := hq rfl
    refine Ev.step (f := fun k => (impl_IsRing.f k (woL l i)).bind fun t => if t = true then ((impl_TwiceArea.f k (woL l i)).bind fun t1 => ((impl_TwiceArea.f k l).bind fun t2 => if cmpI t1 0 = cmpI t2 0 then some (woL l i, true) else some (l, false))) else some (l, false)) (fun k => ?_) (Ev.bind (isRing_i (woL l i) (by have := woL_len l i; omega)) ?_)
    · simp only [impl_DropCorner.j0, Bool.false_eq_true, if_false, impl_without.f, impl_Point.f, cmp_Compare_int.f, Option.bind_some]
      rw [if_pos h0, if_pos h1, if_pos (by omega), if_pos (by omega)]
      rfl
    · cases h2 : rgB (woL l i)
      · simp; exact Ev.now _
      · simp only [if_true, Bool.not_false, Bool.true_and]
        refine Ev.bind (area_i h2) (Ev.bind (area_i hr) ?_)
        by_cases h3 : cmpI (areaL (woL l i)) 0 = cmpI (areaL l) 0
        · simp only [if_pos h3, (turn_i hr h2).1 h3, if_true]; exact Ev.now _
        · have h4 : turnB l (woL l i) = false := by
            rw [← Bool.not_eq_true]
            exact fun h => h3 ((turn_i hr h2).2 h)
          simp only [if_neg h3, h4, Bool.false_eq_true, if_false]; exact Ev.now _
  · refine Ev.step (f := fun _ => some (l, false)) (fun k => ?_) (by simp; exact Ev.now _)
    simp only [impl_DropCorner.j0, if_true, impl_Point.f]
    rw [if_pos (by omega)]
    rfl
theorem dc_i (l : List S77) (i : Int) (hl : l.length < 1048577) : Ev (fun k => impl_DropCorner.f k l i) (dcF l i) := by
  unfold impl_DropCorner.f dcF impl_InRange.f
  refine Ev.bind (isRing_i l (by omega)) ?_
  cases h : rgB l
  · simp only [Bool.false_eq_true, if_false, Bool.false_and]
    have := dc_ji l i hl true (fun h => by cases h)
    simpa using this
  · have hb := rgB_len h
    have w : wrap64 ((l.length : Int) - 1) = (l.length : Int) - 1 := by unfold wrap64; omega
    simp only [if_true, Option.bind_some, w, Bool.true_and]
    have := dc_ji l i hl (!inR i 0 ((l.length : Int) - 1)) (fun h2 => by have h3 := inR_iff.1 (show inR i 0 ((l.length : Int) - 1) = true by simpa using h2); exact ⟨h, by omega, by omega⟩)
    rw [Bool.not_not] at this
    exact this
/-- What DropFrom hands back: the points, and whether one was left out. -/
def dfP (b : Int) (l : List S77) (i : Int) : List S77 × Bool := if b = 2 then dpF l i else if b = 3 then dcF l i else (l, false)
def dfF (a b c : Int) (s : ByteArray) (l : List S77) (i : Int) : List S77 × Bool := if ((dfP b l i).2 && ftB a b c s (dfP b l i).1) = true then ((dfP b l i).1, true) else (l, false)
theorem dpF_len (l : List S77) (i : Int) : (dpF l i).1.length ≤ l.length := by unfold dpF; split <;> first | exact woL_len l i | exact Nat.le_refl _
theorem dcF_len (l : List S77) (i : Int) : (dcF l i).1.length ≤ l.length := by unfold dcF; split <;> first | exact woL_len l i | exact Nat.le_refl _
theorem dfP_len (b : Int) (l : List S77) (i : Int) : (dfP b l i).1.length ≤ l.length := by
  unfold dfP
  split
  · exact dpF_len l i
  · split
    · exact dcF_len l i
    · exact Nat.le_refl _
theorem dfF_len (a b c : Int) (s : ByteArray) (l : List S77) (i : Int) : (dfF a b c s l i).1.length ≤ l.length := by
  unfold dfF
  split
  · exact dfP_len b l i
  · exact Nat.le_refl _
theorem df_js (a b c : Int) (s : ByteArray) (hs : s.size ≤ 9223372036854775807) (l m : List S77) (hl : l.length < 1048577) (hm : m.length ≤ l.length) (q : Bool) : Ev (fun k => spec_DropFrom.j0 k q a b c s l a b c s m) (a, b, c, s, if (q && ftB a b c s m) = true then (m, true) else (l, false)) := by
  have e : ∀ k : Nat, spec_l9Feature.f a b c s l = some (a, b, c, s, l) := fun _ => by
    unfold spec_l9Feature.f
    simp only [Option.bind_some, List.nil_append]
    rw [if_pos (by simp; omega)]
  cases q
  · refine Ev.step (f := fun _ => some (a, b, c, s, l, false)) (fun k => ?_) (by simp; exact Ev.now _)
    simp only [spec_DropFrom.j0, Bool.false_eq_true, if_false, e k, Option.bind_some]
  · refine Ev.step (f := fun k => (spec_IsFeature.f k a b c s m).bind fun t => if t = true then some (a, b, c, s, m, true) else some (a, b, c, s, l, false)) (fun k => ?_) (Ev.bind (ft_s a b c s hs m (by omega)) ?_)
    · simp only [spec_DropFrom.j0, if_true, e k, Option.bind_some]
    · cases ftB a b c s m <;> simp <;> exact Ev.now _
theorem df_s (a b c : Int) (s : ByteArray) (hs : s.size ≤ 9223372036854775807) (l : List S77) (hl : l.length < 1048577) (i : Int) : Ev (fun k => spec_DropFrom.f k a b c s l i) (a, b, c, s, dfF a b c s l i) := by
  have e : spec_l9Feature.f a b c s l = some (a, b, c, s, l) := by
    unfold spec_l9Feature.f
    simp only [Option.bind_some, List.nil_append]
    rw [if_pos (by simp; omega)]
  unfold spec_DropFrom.f dfF dfP
  simp only [e, Option.bind_some]
  by_cases h2 : b = 2
  · simp only [if_pos h2]
    exact Ev.bind (dp_s l i hl) (df_js a b c s hs l _ hl (dpF_len l i) _)
  · simp only [if_neg h2]
    by_cases h3 : b = 3
    · simp only [if_pos h3]
      exact Ev.bind (dc_s l i hl) (df_js a b c s hs l _ hl (dcF_len l i) _)
    · simp only [if_neg h3]
      exact df_js a b c s hs l l hl (Nat.le_refl _) false
theorem df_ji (a b c : Int) (s : ByteArray) (hs : s.size ≤ 9223372036854775807) (l m : List S77) (hl : l.length < 1048577) (hm : m.length ≤ l.length) (q : Bool) : Ev (fun k => impl_DropFrom.j0 k q a b c s l a b c s m) (a, b, c, s, if (q && ftB a b c s m) = true then (m, true) else (l, false)) := by
  have e : ∀ k : Nat, impl_cloneFeature.f a b c s l = some (a, b, c, s, l) := fun _ => by
    unfold impl_cloneFeature.f impl_Point.f
    rw [if_pos (by omega)]
    rfl
  cases q
  · refine Ev.step (f := fun _ => some (a, b, c, s, l, false)) (fun k => ?_) (by simp; exact Ev.now _)
    simp only [impl_DropFrom.j0, Bool.false_eq_true, if_false, e k, Option.bind_some]
  · refine Ev.step (f := fun k => (impl_IsFeature.f k a b c s m).bind fun t => if t = true then some (a, b, c, s, m, true) else some (a, b, c, s, l, false)) (fun k => ?_) (Ev.bind (ft_i a b c s hs m (by omega)) ?_)
    · simp only [impl_DropFrom.j0, if_true, e k, Option.bind_some]
    · cases ftB a b c s m <;> simp <;> exact Ev.now _
theorem df_i (a b c : Int) (s : ByteArray) (hs : s.size ≤ 9223372036854775807) (l : List S77) (hl : l.length < 1048577) (i : Int) : Ev (fun k => impl_DropFrom.f k a b c s l i) (a, b, c, s, dfF a b c s l i) := by
  have e : impl_cloneFeature.f a b c s l = some (a, b, c, s, l) := by
    unfold impl_cloneFeature.f impl_Point.f
    rw [if_pos (by omega)]
    rfl
  unfold impl_DropFrom.f dfF dfP
  simp only [e, Option.bind_some]
  by_cases h2 : b = 2
  · simp only [if_pos h2]
    exact Ev.bind (dp_i l i hl) (df_ji a b c s hs l _ hl (dpF_len l i) _)
  · simp only [if_neg h2]
    by_cases h3 : b = 3
    · simp only [if_pos h3]
      exact Ev.bind (dc_i l i hl) (df_ji a b c s hs l _ hl (dcF_len l i) _)
    · simp only [if_neg h3]
      exact df_ji a b c s hs l l hl (Nat.le_refl _) false
theorem rdp_at (l : List S85) (i : Nat) (h : i < l.length) : rd_T85 l (i : Int) = l[i] := by
  unfold rd_T85
  rw [Int.toNat_natCast, List.getD_eq_getElem?_getD, List.getElem?_eq_getElem h]
  rfl
theorem rdP_at (l : List S77) (i : Nat) (h : i < l.length) : rd_T77 l (i : Int) = l[i] := by
  unfold rd_T77
  rw [Int.toNat_natCast, List.getD_eq_getElem?_getD, List.getElem?_eq_getElem h]
  rfl
def convP (x : S85) : S77 := ⟨x.f0, x.f1⟩
theorem toPoints_l (l : List S85) (hb : l.length < 9223372036854775807) (d : Nat) : ∀ i : Nat, i + d = l.length → Ev (fun k => laws_toPointS.l0 k l ((l.map convP).take i ++ List.replicate d z77) (i : Int)) (l.map convP) := by
  induction d with
  | zero =>
    intro i hi
    refine Ev.step (f := fun _ => some (l.map convP)) (fun k => ?_) (Ev.now _)
    simp only [laws_toPointS.l0]
    rw [if_neg (by omega), List.take_of_length_le (by simp; omega)]
    simp
  | succ d ih =>
    intro i hi
    have h1 : i < l.length := by omega
    refine Ev.step (fun k => ?_) (ih (i + 1) (by omega))
    simp only [laws_toPointS.l0, laws_toPoint.f, Option.bind_some]
    rw [if_pos (by omega), if_pos (by omega), if_pos (by simp; omega), rdp_at l i h1, w1 i (by omega)]
    congr 1
    have hm : i < (l.map convP).length := by simpa using h1
    rw [Int.toNat_natCast, List.set_append_right _ _ (by simp; omega), List.take_succ_eq_append_getElem hm, List.replicate_succ]
    simp only [List.length_take, List.length_map, Nat.min_eq_left (show i ≤ l.length by omega), Nat.sub_self, List.set_cons_zero, List.append_assoc, List.singleton_append, List.getElem_map, convP]
theorem toPoints (l : List S85) (hb : l.length ≤ 1048576) : Ev (fun k => laws_toPointS.f k l) (l.map convP) := by
  unfold laws_toPointS.f
  simp only [if_pos (show (0 : Int) ≤ (l.length : Int) by omega), Int.toNat_natCast, if_pos (show l.length ≤ 17592186044416 by omega)]
  have := toPoints_l l (by omega) l.length 0 (by omega)
  simpa using this
theorem eqPoints_l (l : List S77) (hb : l.length < 9223372036854775807) (d : Nat) : ∀ i : Nat, i + d = l.length → Ev (fun k => laws_eqPointS.l0 k l l (i : Int)) true := by
  induction d with
  | zero =>
    intro i hi
    refine Ev.step (f := fun _ => some true) (fun k => ?_) (Ev.now _)
    simp only [laws_eqPointS.l0]
    rw [if_neg (by omega)]
  | succ d ih =>
    intro i hi
    have h1 : i < l.length := by omega
    refine Ev.step (fun k => ?_) (ih (i + 1) (by omega))
    simp only [laws_eqPointS.l0, laws_eqPoint.f]
    rw [if_pos (by omega), if_pos (by omega), if_pos (by omega), w1 i (by omega)]
    simp
theorem eqPoints (l : List S77) (hb : l.length < 9223372036854775807) : Ev (fun k => laws_eqPointS.f k l l) true := by
  unfold laws_eqPointS.f
  simp only [if_true]
  exact eqPoints_l l hb l.length 0 (by omega)
theorem toFeature1 (a b c : Int) (s : ByteArray) (l : List S85) (hl : l.length ≤ 1048576) : Ev (fun k => laws_toFeature.f k a b c s l) (a, b, c, s, l.map convP) := by
  unfold laws_toFeature.f
  exact Ev.bind (toPoints l hl) (Ev.now _)
theorem eqFeature1 (a b c : Int) (s : ByteArray) (l : List S77) (hl : l.length < 9223372036854775807) : Ev (fun k => laws_eqFeature.f k a b c s l a b c s l) true := by
  unfold laws_eqFeature.f
  simp only [if_true]
  refine Ev.bind (eqPoints l hl) ?_
  simp only [if_true]
  exact Ev.now _
theorem szFeature1 (a b c : Int) (s : ByteArray) (hs : s.size ≤ 9223372036854775807) (l : List S85) (hl : l.length ≤ 9223372036854775807) (n : Int) (h0 : 0 ≤ n) (h1 : n ≤ 1048576) : ∃ r, laws_szFeature.f a b c s l n = some r ∧ (¬ r < 0 → l.length ≤ 1048576 ∧ s.size ≤ 1048576 ∧ 0 ≤ r ∧ r ≤ 1048576) := by
  unfold laws_szFeature.f laws_szPointS.f
  have w : wrap64 (n - (s.size : Int)) = n - (s.size : Int) := by unfold wrap64; omega
  rw [w]
  by_cases hc : n - (s.size : Int) < 0
  · rw [if_pos hc]; exact ⟨_, rfl, fun h => by omega⟩
  · have w2 : wrap64 (n - (s.size : Int) - (l.length : Int)) = n - (s.size : Int) - (l.length : Int) := by unfold wrap64; omega
    rw [if_neg hc, w2]
    by_cases hc2 : n - (s.size : Int) - (l.length : Int) < 0
    · rw [if_pos hc2]; exact ⟨-1, rfl, fun h => by omega⟩
    · rw [if_neg hc2]; exact ⟨n - (s.size : Int) - (l.length : Int), by simp only [Option.bind_some]; rw [if_neg hc2], fun h => by omega⟩
def MkQ (M : List S77) (n : Nat) : Prop := ∀ j : Nat, j < n → M.getD j z77 = ⟨1 + 2 * (j : Int), 2 + 2 * (j : Int)⟩
theorem markPq_l (n : Nat) (hn : n ≤ 2000000) (d : Nat) : ∀ (i : Nat) (M : List S77), i + d = n → M.length = n → MkQ M i → ∃ M' : List S77, Ev (fun k => laws_markPointS.l0 k M (1 + 2 * (i : Int)) (i : Int)) (1 + 2 * (n : Int), M') ∧ M'.length = n ∧ MkQ M' n := by
  induction d with
  | zero =>
    intro i M hi hl hM
    have hin : i = n := by omega
    subst hin
    refine ⟨M, Ev.step (f := fun _ => some (1 + 2 * (i : Int), M)) (fun k => ?_) (Ev.now _), hl, hM⟩
    simp only [laws_markPointS.l0]
    rw [if_neg (by omega)]
  | succ d ih =>
    intro i M hi hl hM
    have w0 : wrap64 (1 + 2 * (i : Int) + 1) = 2 + 2 * (i : Int) := by unfold wrap64; omega
    have w2 : wrap64 (2 + 2 * (i : Int) + 1) = 1 + 2 * ((i + 1 : Nat) : Int) := by unfold wrap64; omega
    have hL : ((M.set i (⟨1 + 2 * (i : Int), (rd_T77 M (i : Int)).f1⟩ : S77)).set i (⟨(rd_T77 (M.set i (⟨1 + 2 * (i : Int), (rd_T77 M (i : Int)).f1⟩ : S77)) (i : Int)).f0, 2 + 2 * (i : Int)⟩ : S77)) = M.set i ⟨1 + 2 * (i : Int), 2 + 2 * (i : Int)⟩ := by
      rw [List.set_set, rdPd (M.set i _), List.getD_eq_getElem?_getD, List.getElem?_set, if_pos rfl, if_pos (by omega)]; rfl
    obtain ⟨M', e, h1, h2⟩ := ih (i + 1) (M.set i ⟨1 + 2 * (i : Int), 2 + 2 * (i : Int)⟩) (by omega) (by rw [List.length_set]; exact hl) (by
      intro j hj
      by_cases hji : j = i
      · subst hji
        rw [List.getD_eq_getElem?_getD, List.getElem?_set, if_pos rfl, if_pos (by omega)]; rfl
      · rw [List.getD_eq_getElem?_getD, List.getElem?_set, if_neg (fun h => hji h.symm), ← List.getD_eq_getElem?_getD]
        exact hM j (by omega))
    refine ⟨M', Ev.step (fun k => ?_) e, h1, h2⟩
    simp only [laws_markPointS.l0, Option.bind_some]
    rw [if_pos (by omega), if_pos (by omega), Int.toNat_natCast, w0, w2, w1' i (by omega), hL]
theorem heldPq_l (n : Nat) (hn : n ≤ 2000000) (M : List S77) (hl : M.length = n) (hM : MkQ M n) (d : Nat) : ∀ i : Nat, i + d = n → Ev (fun k => laws_heldPointS.l0 k M (1 + 2 * (i : Int)) (i : Int)) (1 + 2 * (n : Int)) := by
  induction d with
  | zero =>
    intro i hi
    have hin : i = n := by omega
    subst hin
    refine Ev.step (f := fun _ => some (1 + 2 * (i : Int))) (fun k => ?_) (Ev.now _)
    simp only [laws_heldPointS.l0]
    rw [if_neg (by omega)]
  | succ d ih =>
    intro i hi
    have w0 : wrap64 (1 + 2 * (i : Int) + 1) = 2 + 2 * (i : Int) := by unfold wrap64; omega
    have w2 : wrap64 (2 + 2 * (i : Int) + 1) = 1 + 2 * ((i + 1 : Nat) : Int) := by unfold wrap64; omega
    refine Ev.step (fun k => ?_) (ih (i + 1) (by omega))
    simp only [laws_heldPointS.l0, rdPd, hM i (by omega), w0, w2, if_true]
    rw [if_pos (by omega), if_pos (by omega), w1' i (by omega)]
theorem markPq (l : List S77) (hn : l.length ≤ 2000000) : ∃ M : List S77, Ev (fun k => laws_markPointS.f k l 1) (1 + 2 * (l.length : Int), M) ∧ Ev (fun k => laws_heldPointS.f k M 1) (1 + 2 * (l.length : Int)) := by
  obtain ⟨M, e, h1, h2⟩ := markPq_l l.length hn l.length 0 l (by omega) rfl (fun j hj => by omega)
  exact ⟨M, e, heldPq_l l.length hn M h1 h2 l.length 0 (by omega)⟩
theorem main : ∀ (a0_0 : Int) (a0_1 : Int) (a0_2 : Int) (a0_3 : ByteArray) (l0_4 : List (S85)) (a1 : Int), (Lit.int .i64 a0_0).wf = true → (Lit.int .i64 a0_1).wf = true → (Lit.int .i64 a0_2).wf = true → a0_3.size ≤ 9223372036854775807 → (l0_4.length ≤ 9223372036854775807 ∧ ∀ x ∈ l0_4, ((Lit.int .i64 x.f0).wf = true ∧ (Lit.int .i64 x.f1).wf = true)) → (Lit.int .i64 a1).wf = true → ∃ k, laws_FnExactDropFrom.f k a0_0 a0_1 a0_2 a0_3 l0_4 a1 = some true := by
  intro a b c s l i _ _ _ hs hl _
  refine Ev.rounds (r := true) ?_
  unfold laws_FnExactDropFrom.f
  obtain ⟨r, hr, hb⟩ := szFeature1 a b c s hs l hl.1 1048576 (by omega) (by omega)
  rw [hr]
  simp only [Option.bind_some]
  by_cases hc : r < 0
  · simp only [if_pos hc]; exact Ev.now _
  · simp only [if_neg hc]
    obtain ⟨h1, h2, _⟩ := hb hc
    have hm : (l.map convP).length < 1048577 := by simp; omega
    have tf := toFeature1 a b c s l h1
    generalize l.map convP = L at hm tf
    have s1 := df_s a b c s (by omega) L hm i
    have s2 := df_i a b c s (by omega) L hm i
    have hD := dfF_len a b c s L i
    generalize dfF a b c s L i = D at s1 s2 hD
    obtain ⟨D, ok⟩ := D
    have hD' : D.length ≤ L.length := hD
    have eD := eqFeature1 a b c s D (by omega)
    have eL := eqFeature1 a b c s L (by omega)
    obtain ⟨ML, m1, m2⟩ := markPq L (by omega)
    obtain ⟨MD, m3, m4⟩ := markPq D (by omega)
    have mL : Ev (fun k => laws_markFeature.f k a b c s L 1) (1 + 2 * (L.length : Int), ML) := Ev.bind m1 (Ev.now _)
    have mD : Ev (fun k => laws_markFeature.f k a b c s D 1) (1 + 2 * (D.length : Int), MD) := Ev.bind m3 (Ev.now _)
    have hd : Ev (fun k => laws_heldFeature.f k a b c s MD 1) (1 + 2 * (D.length : Int)) := Ev.bind m4 (by simp only [if_neg (show ¬ (1 + 2 * (D.length : Int) < 0) by omega)]; exact Ev.now _)
    refine Ev.bind tf (Ev.bind s1 (Ev.bind tf (Ev.bind s2 (Ev.bind eD ?_))))
    simp only [if_true, bne_self_eq_false]
    have j2 : Ev (fun k => laws_FnExactDropFrom.j2 k (1 + 2 * (D.length : Int)) false a b c s MD) true := by
      refine Ev.step (f := fun k => (laws_heldFeature.f k a b c s MD 1).bind fun t565 => (if t565 < 0 then (some false) else (if t565 = 1 + 2 * (D.length : Int) then (some true) else (some false)))) (fun k => by simp only [laws_FnExactDropFrom.j2, Bool.false_eq_true, if_false]) (Ev.bind hd ?_)
      simp only [if_neg (show ¬ (1 + 2 * (D.length : Int) < 0) by omega), if_true]
      exact Ev.now _
    have j1 : Ev (fun k => laws_FnExactDropFrom.j1 k i ok false a b c s l a b c s D a b c s D) true := by
      refine Ev.step (f := fun k => (laws_markFeature.f k a b c s D 1).bind fun bt545 => ((laws_heldFeature.f k a b c s bt545.2 1).bind fun t547 => (if t547 < 0 then (some false) else (if t547 = bt545.1 then ((laws_toFeature.f k a b c s l).bind fun bt548 => ((impl_DropFrom.f k bt548.1 bt548.2.1 bt548.2.2.1 bt548.2.2.2.1 bt548.2.2.2.2 i).bind fun bt555 => ((laws_eqFeature.f k bt555.1 bt555.2.1 bt555.2.2.1 bt555.2.2.2.1 bt555.2.2.2.2.1 a b c s D).bind fun t564 => (if t564 = true then (laws_FnExactDropFrom.j2 k bt545.1 (bt555.2.2.2.2.2 != ok) a b c s bt545.2) else (laws_FnExactDropFrom.j2 k bt545.1 true a b c s bt545.2))))) else (some false))))) (fun k => by simp only [laws_FnExactDropFrom.j1, Bool.false_eq_true, if_false]) (Ev.bind mD (Ev.bind hd ?_))
      simp only [if_neg (show ¬ (1 + 2 * (D.length : Int) < 0) by omega), if_true]
      refine Ev.bind tf (Ev.bind s2 (Ev.bind eD ?_))
      simp only [if_true, bne_self_eq_false]
      exact j2
    refine Ev.step (f := fun k => (laws_toFeature.f k a b c s l).bind fun bt534 => ((laws_eqFeature.f k a b c s L bt534.1 bt534.2.1 bt534.2.2.1 bt534.2.2.2.1 bt534.2.2.2.2).bind fun t541 => (if t541 = true then ((laws_markFeature.f k a b c s L 1).bind fun bt542 => (if bt542.1 < 0 then (laws_FnExactDropFrom.j1 k i ok true a b c s l a b c s D a b c s D) else ((laws_eqFeature.f k a b c s D a b c s D).bind fun t544 => (if t544 = true then (laws_FnExactDropFrom.j1 k i ok (ok != ok) a b c s l a b c s D a b c s D) else (laws_FnExactDropFrom.j1 k i ok true a b c s l a b c s D a b c s D))))) else (some false)))) (fun k => by simp only [laws_FnExactDropFrom.j0, Bool.false_eq_true, if_false, bne_self_eq_false]) ?_
    refine Ev.bind tf (Ev.bind eL ?_)
    simp only [if_true]
    refine Ev.bind mL ?_
    simp only [if_neg (show ¬ (1 + 2 * (L.length : Int) < 0) by omega), bne_self_eq_false]
    refine Ev.bind eD ?_
    simp only [if_true]
    exact j1
end Go.Proofs.Ytkebhlkbnnlegaa.Pure.FnExactDropFrom
