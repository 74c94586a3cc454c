/- Tiles joined: the program sorts the pieces of all tiles and leaves out repeats, the reference puts each piece into its place: the same list. No condition. -/
import Derived.Test.YtkomgmgpgnjooaaGreatPFnExactJoinTilesx
import Derived.Test.YtkomgmgpgnjooaaGreatMeet
namespace Go.Proofs.YtkomgmgpgnjooaaGreat.Pure.FnExactJoinTiles
open Go Go.RowKit Go.Proofs.YtkomgmgpgnjooaaGreat.PFnExactJoinTiles Go.Proofs.YtkomgmgpgnjooaaGreatW.PrintWords Go.Proofs.YtkomgmgpgnjooaaGreatW.PrintLast Go.Proofs.YtkomgmgpgnjooaaGreatW.PrintMore Go.Proofs.YtkomgmgpgnjooaaGreatGeo
set_option linter.unusedVariables false
set_option linter.unusedSimpArgs false
open Go.Proofs.YtkomgmgpgnjooaaGreatMeet
theorem w1 (i : Nat) (h : i < 9223372036854775807) : wrap64 ((i : Int) + 1) = ((i + 1 : Nat) : Int) := by unfold wrap64; omega
theorem rd_at (l : List Int) (i : Nat) (h : i < l.length) : rd l (i : Int) = l[i] := by
  unfold rd
  rw [Int.toNat_natCast, List.getD_eq_getElem?_getD, List.getElem?_eq_getElem h]
  rfl
theorem how_s (a b c d e f g h : Int) : Ev (fun _ => spec_HowMeet.f a b c d e f g h) (howS a b c d e f g h) := Ev.now _
theorem before_key {x y x' y' : Int} (h : isPt x y = true) (h' : isPt x' y' = true) : beforeI x y x' y' = decide (kyI x y < kyI x' y') := by
  rw [isPt_iff] at h h'
  unfold beforeI kyI
  rw [Bool.eq_iff_iff]; simp; omega
theorem j3_i (a b c d : Int) (h : isPt a b = true) (h' : isPt c d = true) : Ev (fun k => impl_HowMeet.j3 k a b c d) (if kyI c d < kyI a b then 0 else if kyI a b = kyI c d then 1 else 3) := by
  refine Ev.step (f := fun _ => some (if kyI c d < kyI a b then 0 else if kyI a b = kyI c d then 1 else 3)) (fun k => ?_) (Ev.now _)
  simp only [impl_HowMeet.j3, impl_BeforePoint.f, before_key h' h, Option.bind_some, decide_eq_true_eq]
  have e : (a == c && b == d) = decide (kyI a b = kyI c d) := by
    rw [← ky_inj h h']
    rw [Bool.eq_iff_iff]; simp
  rw [e]
  by_cases z : kyI c d < kyI a b
  · rw [if_pos z, if_pos z]
  · rw [if_neg z, if_neg z]
    by_cases z' : kyI a b = kyI c d
    · simp [z']
    · simp [z']
theorem j2_i (e f g h a b c d : Int) (h1 : isPt g h = true) (h2 : isPt a b = true) (h3 : isPt c d = true) : Ev (fun k => impl_HowMeet.j2 k e f g h a b c d) (if mn (kyI c d) (kyI g h) < kyI a b then 0 else if kyI a b = mn (kyI c d) (kyI g h) then 1 else 3) := by
  refine Ev.step (f := fun k => if kyI g h < kyI c d then impl_HowMeet.j3 k a b g h else impl_HowMeet.j3 k a b c d) (fun k => ?_) ?_
  · simp only [impl_HowMeet.j2, impl_BeforePoint.f, before_key h1 h3, Option.bind_some, decide_eq_true_eq]
  · unfold mn
    by_cases z : kyI g h < kyI c d
    · simp only [if_pos z]; exact j3_i a b g h h2 h1
    · simp only [if_neg z]; exact j3_i a b c d h2 h3
theorem fwd_i (a b c d : Int) (h : isPt a b = true) (h' : isPt c d = true) : ∃ x y u v, impl_forward.f a b c d = some (x, y, u, v) ∧ isPt x y = true ∧ isPt u v = true ∧ kyI x y = mn (kyI a b) (kyI c d) ∧ kyI u v = mx (kyI a b) (kyI c d) := by
  unfold impl_forward.f impl_BeforePoint.f impl_TurnSegment.f
  simp only [before_key h' h, Option.bind_some, decide_eq_true_eq]
  by_cases z : kyI c d < kyI a b
  · exact ⟨c, d, a, b, by rw [if_pos z], h', h, by unfold mn; rw [if_pos z], by unfold mx; rw [if_neg (by omega)]⟩
  · exact ⟨a, b, c, d, by rw [if_neg z], h, h', by unfold mn; rw [if_neg z], by unfold mx; split <;> omega⟩
theorem how_i (a b c d e f g h : Int) : Ev (fun k => impl_HowMeet.f k a b c d e f g h) (howS a b c d e f g h) := by
  rw [← how_eq]
  unfold impl_HowMeet.f howP impl_IsSegment.f
  simp only [Option.bind_some]
  have dead : Ev (fun k => impl_HowMeet.j0 k true a b c d e f g h) 0 := Ev.step (f := fun _ => some 0) (fun k => by simp [impl_HowMeet.j0]) (Ev.now _)
  cases h1 : isSeg a b c d
  · simp only [Bool.false_eq_true, if_false, true_or, if_true]; exact dead
  · cases h2 : isSeg e f g h
    · simp only [if_true, Bool.not_false, or_true]; exact dead
    · simp only [if_true, Bool.not_true, Bool.true_eq_false, or_self, if_false]
      obtain ⟨ha, hc, _⟩ := isSeg_iff.mp h1
      obtain ⟨he, hg, _⟩ := isSeg_iff.mp h2
      have j4t : Ev (fun k => impl_HowMeet.j4 k true a b c d e f g h) 2 := Ev.step (f := fun _ => some 2) (fun k => by simp [impl_HowMeet.j4]) (Ev.now _)
      have j4f : Ev (fun k => impl_HowMeet.j4 k false a b c d e f g h) (if isOnI a b c d e f || isOnI a b c d g h || isOnI e f g h a b || isOnI e f g h c d then 1 else 0) := by
        refine Ev.step (f := fun _ => some (if isOnI a b c d e f || isOnI a b c d g h || isOnI e f g h a b || isOnI e f g h c d then 1 else 0)) (fun k => ?_) (Ev.now _)
        simp only [impl_HowMeet.j4, impl_IsOn.f, Option.bind_some, Bool.false_eq_true, if_false]
        cases isOnI a b c d e f <;> cases isOnI a b c d g h <;> cases isOnI e f g h a b <;> cases isOnI e f g h c d <;> rfl
      by_cases hcol : sideI a b c d e f = 0 ∧ sideI a b c d g h = 0
      · rw [if_pos hcol]
        obtain ⟨x, y, u, v, f1, p1, p2, k1, k2⟩ := fwd_i a b c d ha hc
        obtain ⟨x', y', u', v', f2, p1', p2', k1', k2'⟩ := fwd_i e f g h he hg
        refine Ev.step (f := fun k => impl_HowMeet.j1 k (sideI a b c d e f) (sideI a b c d g h) true a b c d e f g h) (fun k => ?_) ?_
        · simp [impl_HowMeet.j0, impl_SideOf.f, hcol.1, hcol.2]
        · refine Ev.step (f := fun k => if kyI x y < kyI x' y' then impl_HowMeet.j2 k x' y' u' v' x' y' u v else impl_HowMeet.j2 k x' y' u' v' x y u v) (fun k => ?_) ?_
          · simp only [impl_HowMeet.j1, f1, f2, impl_BeforePoint.f, Option.bind_some, before_key p1 p1', decide_eq_true_eq, if_true]
          · rw [← k1, ← k2, ← k1', ← k2']
            by_cases z : kyI x y < kyI x' y'
            · simp only [if_pos z]
              have e : mx (kyI x y) (kyI x' y') = kyI x' y' := by unfold mx; rw [if_pos z]
              rw [e]
              exact j2_i x' y' u' v' x' y' u v p2' p1' p2
            · simp only [if_neg z]
              have e : mx (kyI x y) (kyI x' y') = kyI x y := by unfold mx; rw [if_neg z]
              rw [e]
              exact j2_i x' y' u' v' x y u v p2' p1 p2
      · rw [if_neg hcol]
        refine Ev.step (f := fun k => impl_HowMeet.j1 k (sideI a b c d e f) (sideI a b c d g h) false a b c d e f g h) (fun k => ?_) ?_
        · simp only [impl_HowMeet.j0, impl_SideOf.f, Option.bind_some, Bool.false_eq_true, if_false]
          by_cases z : sideI a b c d e f = 0
          · have z' : ¬ sideI a b c d g h = 0 := fun q => hcol ⟨z, q⟩
            have z'' : (sideI a b c d g h == 0) = false := by simp [z']
            rw [if_pos z, z'']
          · rw [if_neg z]
        · have w1 := wrap_sd _ _ (sd_bd a b c d e f) (sd_bd a b c d g h)
          have w2 := wrap_sd _ _ (sd_bd e f g h a b) (sd_bd e f g h c d)
          by_cases zu : sideI a b c d e f * sideI a b c d g h < 0
          · by_cases zv : sideI e f g h a b * sideI e f g h c d < 0
            · rw [if_pos ⟨zu, zv⟩]
              refine Ev.step (fun k => ?_) j4t
              simp [impl_HowMeet.j1, impl_SideOf.f, w1, w2, zu, zv]
            · rw [if_neg (fun q => zv q.2)]
              refine Ev.step (fun k => ?_) j4f
              simp [impl_HowMeet.j1, impl_SideOf.f, w1, w2, zu, zv]
          · rw [if_neg (fun q => zu q.1)]
            refine Ev.step (fun k => ?_) j4f
            simp [impl_HowMeet.j1, impl_SideOf.f, w1, zu]
/-- A line's points, one behind the other: each a point, none like the one ahead of it. -/
def chkL : Option S75 → List S75 → Bool
  | _, [] => true
  | o, p :: r => isPt p.f0 p.f1 && ((match o with | none => true | some q => !eqP q p) && chkL (some p) r)
theorem chkL_cons (o : Option S75) (p : S75) (r : List S75) : chkL o (p :: r) = (isPt p.f0 p.f1 && ((match o with | none => true | some q => !eqP q p) && chkL (some p) r)) := by cases o <;> rfl
def lnB (l : List S75) : Bool := inR (l.length : Int) 2 10 && chkL none l
def prevL (l : List S75) (i : Nat) : Option S75 := if i = 0 then none else some (l.getD (i - 1) z75)
theorem prevL_succ (l : List S75) (i : Nat) (h : i < l.length) : prevL l (i + 1) = some l[i] := by
  unfold prevL
  rw [if_neg (by omega), Nat.add_sub_cancel, List.getD_eq_getElem?_getD, List.getElem?_eq_getElem h]; rfl
theorem w1m (i : Nat) (h : 0 < i) (h' : i < 9223372036854775807) : wrap64 ((i : Int) - 1) = ((i - 1 : Nat) : Int) := by unfold wrap64; omega
theorem isLine_sl (l : List S75) (hl : l.length < 9223372036854775807) (d : Nat) : ∀ i : Nat, i + d = l.length → Ev (fun k => spec_IsLine.l0 k l (i : Int)) (chkL (prevL l i) (l.drop i) && inR (l.length : Int) 2 10) := by
  induction d with
  | zero =>
    intro i hi
    rw [List.drop_of_length_le (by omega)]
    refine Ev.step (f := fun _ => some _) (fun k => ?_) (Ev.now _)
    simp only [spec_IsLine.l0, spec_l1In.f]
    rw [if_neg (by omega)]
    simp [chkL]
  | succ d ih =>
    intro i hi
    have h1 : i < l.length := by omega
    have hd := List.drop_eq_getElem_cons h1
    rw [hd, chkL_cons]
    cases hp : isPt l[i].f0 l[i].f1
    · refine Ev.step (f := fun _ => some false) (fun k => ?_) (Ev.now _)
      simp only [spec_IsLine.l0, spec_IsPoint.f, Option.bind_some]
      rw [if_pos (by omega), if_pos (by omega), rdPt l i h1, hp]
      simp
    · have ih' := ih (i + 1) (by omega)
      rw [prevL_succ l i h1] at ih'
      by_cases h0 : i = 0
      · subst h0
        refine Ev.step (fun k => ?_) ih'
        simp only [spec_IsLine.l0, spec_IsPoint.f, Option.bind_some]
        rw [if_pos (by omega), if_pos (by omega), rdPt l 0 h1, hp, if_pos rfl, if_neg (by omega), w1' 0 (by omega)]
      · have hi1 : i - 1 < l.length := by omega
        have eP : prevL l i = some l[i - 1] := by unfold prevL; rw [if_neg h0, List.getD_eq_getElem?_getD, List.getElem?_eq_getElem hi1]; rfl
        rw [eP]
        dsimp only
        have eq : (((l[i - 1]).f0) == (l[i].f0) && (((l[i - 1]).f1) == (l[i].f1))) = eqP l[i - 1] l[i] := by
          unfold eqP; rw [Bool.eq_iff_iff]; simp
        cases he : eqP l[i - 1] l[i]
        · refine Ev.step (fun k => ?_) ih'
          simp only [spec_IsLine.l0, spec_IsPoint.f, Option.bind_some]
          rw [if_pos (by omega), if_pos (by omega), rdPt l i h1, hp, if_pos rfl, if_pos (by omega), w1m i (by omega) (by omega), if_pos (by omega), if_pos (by omega), rdPt l (i - 1) hi1, eq, he, w1' i (by omega)]
          simp
        · refine Ev.step (f := fun _ => some false) (fun k => ?_) (Ev.now _)
          simp only [spec_IsLine.l0, spec_IsPoint.f, Option.bind_some]
          rw [if_pos (by omega), if_pos (by omega), rdPt l i h1, hp, if_pos rfl, if_pos (by omega), w1m i (by omega) (by omega), if_pos (by omega), if_pos (by omega), rdPt l (i - 1) hi1, eq, he]
          simp
theorem isLine_s (l : List S75) (hl : l.length < 9223372036854775807) : Ev (fun k => spec_IsLine.f k l) (lnB l) := by
  unfold spec_IsLine.f lnB
  rw [Bool.and_comm]
  exact isLine_sl l hl l.length 0 (by omega)
theorem isLine_il (l : List S75) (hl : l.length < 9223372036854775807) (d : Nat) : ∀ i : Nat, i + d = l.length → Ev (fun k => impl_IsLine.l0 k l l (l.length : Int) (i : Int)) (chkL (prevL l i) (l.drop i)) := by
  induction d with
  | zero =>
    intro i hi
    rw [List.drop_of_length_le (by omega)]
    refine Ev.step (f := fun _ => some _) (fun k => ?_) (Ev.now _)
    simp only [impl_IsLine.l0]
    rw [if_neg (by omega)]
    simp [chkL]
  | succ d ih =>
    intro i hi
    have h1 : i < l.length := by omega
    have hd := List.drop_eq_getElem_cons h1
    rw [hd, chkL_cons]
    cases hp : isPt l[i].f0 l[i].f1
    · refine Ev.step (f := fun _ => some false) (fun k => ?_) (Ev.now _)
      simp only [impl_IsLine.l0, impl_IsPoint.f, Option.bind_some]
      rw [if_pos (by omega), if_pos (by omega), if_pos (by omega), rdPt l i h1, hp]
      simp
    · have ih' := ih (i + 1) (by omega)
      rw [prevL_succ l i h1] at ih'
      by_cases h0 : i = 0
      · subst h0
        refine Ev.step (fun k => ?_) ih'
        simp only [impl_IsLine.l0, impl_IsPoint.f, Option.bind_some]
        rw [if_pos (by omega), if_pos (by omega), if_pos (by omega), rdPt l 0 h1, hp, if_pos rfl, if_neg (by omega), w1' 0 (by omega)]
      · have hi1 : i - 1 < l.length := by omega
        have eP : prevL l i = some l[i - 1] := by unfold prevL; rw [if_neg h0, List.getD_eq_getElem?_getD, List.getElem?_eq_getElem hi1]; rfl
        rw [eP]
        dsimp only
        have eq : (((l[i]).f0) == (l[i - 1].f0) && (((l[i]).f1) == (l[i - 1].f1))) = eqP l[i - 1] l[i] := by
          unfold eqP; rw [Bool.eq_iff_iff]; simp; omega
        cases he : eqP l[i - 1] l[i]
        · refine Ev.step (fun k => ?_) ih'
          simp only [impl_IsLine.l0, impl_IsPoint.f, Option.bind_some]
          rw [if_pos (by omega), if_pos (by omega), if_pos (by omega), rdPt l i h1, hp, if_pos rfl, if_pos (by omega), w1m i (by omega) (by omega), if_pos (by omega), if_pos (by omega), rdPt l (i - 1) hi1, eq, he, w1' i (by omega)]
          simp
        · refine Ev.step (f := fun _ => some false) (fun k => ?_) (Ev.now _)
          simp only [impl_IsLine.l0, impl_IsPoint.f, Option.bind_some]
          rw [if_pos (by omega), if_pos (by omega), if_pos (by omega), rdPt l i h1, hp, if_pos rfl, if_pos (by omega), w1m i (by omega) (by omega), if_pos (by omega), if_pos (by omega), rdPt l (i - 1) hi1, eq, he]
          simp
theorem isLine_i (l : List S75) (hl : l.length < 9223372036854775807) : Ev (fun k => impl_IsLine.f k l) (lnB l) := by
  unfold impl_IsLine.f lnB
  have dead : Ev (fun k => impl_IsLine.j0 k l true) false := Ev.step (f := fun _ => some false) (fun k => by simp [impl_IsLine.j0]) (Ev.now _)
  by_cases h2 : (l.length : Int) < 2
  · simp only [if_pos h2]
    have : inR (l.length : Int) 2 10 = false := by unfold inR; simp; omega
    rw [this]; exact dead
  · simp only [if_neg h2]
    by_cases h10 : (l.length : Int) > 10
    · have : inR (l.length : Int) 2 10 = false := by unfold inR; simp; omega
      rw [this, decide_eq_true h10]; exact dead
    · have : inR (l.length : Int) 2 10 = true := by unfold inR; simp; omega
      rw [this, decide_eq_false h10]
      exact Ev.step (fun k => by simp [impl_IsLine.j0]) (isLine_il l hl l.length 0 (by omega))
theorem rdSg (l : List S133) (i : Nat) (h : i < l.length) : rd_T133 l (i : Int) = l.getD i z133 := by
  unfold rd_T133
  rw [Int.toNat_natCast]
def howL (p q : S133) : Int := howS p.f0.f0 p.f0.f1 p.f1.f0 p.f1.f1 q.f0.f0 q.f0.f1 q.f1.f0 q.f1.f1
def segL (p : S133) : Bool := isSeg p.f0.f0 p.f0.f1 p.f1.f0 p.f1.f1
def wantR (n i k : Nat) : Int := if k + 1 = i ∨ (k = 0 ∧ i + 1 = n) then 1 else 0
def inRow (s : List S133) (i : Nat) (k : Nat) : Bool := decide (howL (s.getD i z133) (s.getD k z133) = wantR s.length i k)
def ringS (s : List S133) (i d : Nat) : Bool := (List.range' i d).all fun i => segL (s.getD i z133) && (List.range' 0 i).all (inRow s i)
/-- The segments around. -/
def arR (l : List S75) : List S133 := (List.range l.length).map fun i => (⟨l.getD i z75, l.getD ((i + 1) % l.length) z75⟩ : S133)
def rgB (l : List S75) : Bool := inR (l.length : Int) 3 10 && ringS (arR l) 0 l.length
theorem arR_len (l : List S75) : (arR l).length = l.length := by simp [arR]
theorem arR_take (l : List S75) (i : Nat) (h : i < l.length) : (arR l).take (i + 1) = (arR l).take i ++ [(⟨l.getD i z75, l.getD ((i + 1) % l.length) z75⟩ : S133)] := by
  rw [List.take_succ_eq_append_getElem (by rw [arR_len]; exact h)]
  simp [arR]
theorem tmod_nat (a n : Nat) : Int.tmod (a : Int) (n : Int) = ((a % n : Nat) : Int) := by rw [Int.ofNat_tmod]
theorem rdPd (l : List S75) (i : Nat) : rd_T75 l (i : Int) = l.getD i z75 := by
  unfold rd_T75
  rw [Int.toNat_natCast]
theorem around_sl (l : List S75) (hl : l.length < 1000) (d : Nat) : ∀ i : Nat, i + d = l.length → Ev (fun k => spec_l7Segments.l0 k l ((arR l).take i) (i : Int)) (arR l) := by
  induction d with
  | zero =>
    intro i hi
    rw [List.take_of_length_le (by rw [arR_len]; omega)]
    refine Ev.step (f := fun _ => some _) (fun k => ?_) (Ev.now _)
    simp only [spec_l7Segments.l0]
    rw [if_neg (by omega)]
  | succ d ih =>
    intro i hi
    have h1 : i < l.length := by omega
    have hm : (i + 1) % l.length < l.length := Nat.mod_lt _ (by omega)
    refine Ev.step (fun k => ?_) (ih (i + 1) (by omega))
    have hlen : ((arR l).take i).length < 4398046511104 := by rw [List.length_take, arR_len]; omega
    simp only [spec_l7Segments.l0]
    rw [if_pos (by omega), if_pos (by omega), if_neg (by omega), w1' i (by omega), tmod_nat, if_pos (by omega), if_pos (by omega), if_pos hlen, rdPd, rdPd, arR_take l i h1]
theorem around_s (l : List S75) (hl : l.length < 1000) : Ev (fun k => spec_l7Segments.f k l) (arR l) := by
  unfold spec_l7Segments.f
  exact around_sl l hl l.length 0 (by omega)
theorem around_il (l : List S75) (hl : l.length < 1000) (d : Nat) : ∀ i : Nat, i + d = l.length → Ev (fun k => impl_around.l0 k l ((arR l).take i) l (l.length : Int) (i : Int)) (arR l) := by
  induction d with
  | zero =>
    intro i hi
    rw [List.take_of_length_le (by rw [arR_len]; omega)]
    refine Ev.step (f := fun _ => some _) (fun k => ?_) (Ev.now _)
    simp only [impl_around.l0]
    rw [if_neg (by omega)]
  | succ d ih =>
    intro i hi
    have h1 : i < l.length := by omega
    have hm : (i + 1) % l.length < l.length := Nat.mod_lt _ (by omega)
    refine Ev.step (fun k => ?_) (ih (i + 1) (by omega))
    have hlen : ((arR l).take i).length < 4398046511104 := by rw [List.length_take, arR_len]; omega
    simp only [impl_around.l0]
    rw [if_pos (by omega), if_pos (by omega), if_pos (by omega), if_neg (by omega), w1' i (by omega), tmod_nat, if_pos (by omega), if_pos (by omega), if_pos hlen, rdPd, rdPd, arR_take l i h1]
theorem around_i (l : List S75) (hl : l.length < 1000) : Ev (fun k => impl_around.f k l) (arR l) := by
  unfold impl_around.f
  exact around_il l hl l.length 0 (by omega)
theorem ring_s1 (s : List S133) (hs : s.length < 1000) (i : Nat) (hi : i < s.length) (rest : Bool) (hr : Ev (fun k => spec_IsRing.l0 k s ((i + 1 : Nat) : Int)) rest) (d : Nat) :
    ∀ k : Nat, k + d = i → Ev (fun n => spec_IsRing.l1 n s (i : Int) (k : Int)) ((List.range' k d).all (inRow s i) && rest) := by
  induction d with
  | zero =>
    intro k hk
    refine Ev.step (fun n => ?_) hr
    simp only [spec_IsRing.l1]
    rw [if_neg (by omega), w1' i (by omega)]
  | succ d ih =>
    intro k hk
    have hk1 : k < s.length := by omega
    rw [List.range'_succ, List.all_cons]
    have e2 : Ev (fun n => (spec_HowMeet.f (s.getD i z133).f0.f0 (s.getD i z133).f0.f1 (s.getD i z133).f1.f0 (s.getD i z133).f1.f1 (s.getD k z133).f0.f0 (s.getD k z133).f0.f1 (s.getD k z133).f1.f0 (s.getD k z133).f1.f1).bind fun t => if t = wantR s.length i k then spec_IsRing.l1 n s (i : Int) ((k + 1 : Nat) : Int) else some false) (inRow s i k && (List.range' (k + 1) d).all (inRow s i) && rest) := by
      refine Ev.bind (how_s _ _ _ _ _ _ _ _) ?_
      by_cases hw : howL (s.getD i z133) (s.getD k z133) = wantR s.length i k
      · have e : inRow s i k = true := by unfold inRow; exact decide_eq_true hw
        rw [e, Bool.true_and]
        have : Ev (fun n => spec_IsRing.l1 n s (i : Int) ((k + 1 : Nat) : Int)) ((List.range' (k + 1) d).all (inRow s i) && rest) := ih (k + 1) (by omega)
        refine Ev.congr (fun n => ?_) this
        exact if_pos hw
      · have e : inRow s i k = false := by unfold inRow; exact decide_eq_false hw
        rw [e]
        refine Ev.congr (fun n => ?_) (Ev.now _)
        exact if_neg hw
    have j : ∀ b : Bool, (if b = true then (1 : Int) else 0) = wantR s.length i k → Ev (fun n => spec_IsRing.j2 n s (i : Int) (k : Int) 0 b) (inRow s i k && (List.range' (k + 1) d).all (inRow s i) && rest) := by
      intro b hb
      refine Ev.step (fun n => ?_) e2
      simp only [spec_IsRing.j2]
      rw [← hb]
      cases b
      · rw [if_neg (by simp), if_pos (by omega), if_pos (by omega), if_pos (by omega), if_pos (by omega), rdSg s i hi, rdSg s k hk1, w1' k (by omega)]; rfl
      · rw [if_pos rfl, if_pos (by omega), if_pos (by omega), if_pos (by omega), if_pos (by omega), rdSg s i hi, rdSg s k hk1, w1' k (by omega)]; rfl
    by_cases z : k + 1 = i
    · refine Ev.step (fun n => ?_) (j true (by show (1 : Int) = _; unfold wantR; rw [if_pos (.inl z)]))
      simp only [spec_IsRing.l1]
      rw [if_pos (by omega), w1' k (by omega), if_pos (by omega)]
    · by_cases z0 : k = 0
      · refine Ev.step (fun n => ?_) (j (decide (i + 1 = s.length)) (by unfold wantR; by_cases q : i + 1 = s.length <;> simp [q, z0] <;> omega))
        simp only [spec_IsRing.l1]
        rw [if_pos (by omega), w1' k (by omega), if_neg (by omega), if_pos (by omega), w1' i (by omega)]
        congr 1
        rw [Bool.eq_iff_iff]; simp; omega
      · refine Ev.step (fun n => ?_) (j false (by show (0 : Int) = _; unfold wantR; rw [if_neg (by omega)]))
        simp only [spec_IsRing.l1]
        rw [if_pos (by omega), w1' k (by omega), if_neg (by omega), if_neg (by omega)]
theorem ring_s0 (s : List S133) (hs : s.length < 1000) (d : Nat) : ∀ i : Nat, i + d = s.length → Ev (fun n => spec_IsRing.l0 n s (i : Int)) (ringS s i d) := by
  induction d with
  | zero =>
    intro i hi
    refine Ev.step (f := fun _ => some true) (fun n => ?_) (Ev.now _)
    simp only [spec_IsRing.l0]
    rw [if_neg (by omega)]
  | succ d ih =>
    intro i hi
    have h1 : i < s.length := by omega
    unfold ringS
    rw [List.range'_succ, List.all_cons]
    cases hq : segL (s.getD i z133)
    · refine Ev.step (f := fun _ => some false) (fun n => ?_) (Ev.now _)
      simp only [spec_IsRing.l0, spec_IsSegment.f, Option.bind_some]
      rw [if_pos (by omega), if_pos (by omega), rdSg s i h1]
      unfold segL at hq
      rw [hq]; simp
    · refine Ev.step (fun n => ?_) (ring_s1 s hs i h1 _ (ih (i + 1) (by omega)) i 0 (by omega))
      simp only [spec_IsRing.l0, spec_IsSegment.f, Option.bind_some]
      rw [if_pos (by omega), if_pos (by omega), rdSg s i h1]
      unfold segL at hq
      rw [hq, if_pos rfl]; rfl
theorem isRing_s (l : List S75) (hl : l.length < 9223372036854775807) : Ev (fun k => spec_IsRing.f k l) (rgB l) := by
  unfold spec_IsRing.f rgB spec_l1In.f
  simp only [Option.bind_some]
  cases h : inR (l.length : Int) 3 10
  · simp only [Bool.false_eq_true, if_false, Bool.false_and]; exact Ev.now _
  · have hb : l.length < 1000 := by unfold inR at h; simp at h; omega
    simp only [if_true, Bool.true_and]
    refine Ev.bind (around_s l hb) ?_
    have := ring_s0 (arR l) (by rw [arR_len]; exact hb) l.length 0 (by rw [arR_len]; omega)
    exact this
theorem ring_i1 (s : List S133) (hs : s.length < 1000) (i : Nat) (hi : i < s.length) (rest : Bool) (hr : Ev (fun k => impl_IsRing.l0 k s (s.length : Int) ((i + 1 : Nat) : Int)) rest) (d : Nat) :
    ∀ k : Nat, k + d = i → Ev (fun n => impl_IsRing.l1 n s (i : Int) (s.length : Int) (i : Int) (i : Int) (k : Int)) ((List.range' k d).all (inRow s i) && rest) := by
  induction d with
  | zero =>
    intro k hk
    refine Ev.step (fun n => ?_) hr
    simp only [impl_IsRing.l1]
    rw [if_neg (by omega), w1' i (by omega)]
  | succ d ih =>
    intro k hk
    have hk1 : k < s.length := by omega
    rw [List.range'_succ, List.all_cons]
    have e2 : Ev (fun n => (impl_HowMeet.f n (s.getD i z133).f0.f0 (s.getD i z133).f0.f1 (s.getD i z133).f1.f0 (s.getD i z133).f1.f1 (s.getD k z133).f0.f0 (s.getD k z133).f0.f1 (s.getD k z133).f1.f0 (s.getD k z133).f1.f1).bind fun t => if t = wantR s.length i k then impl_IsRing.l1 n s (i : Int) (s.length : Int) (i : Int) (i : Int) ((k + 1 : Nat) : Int) else some false) (inRow s i k && (List.range' (k + 1) d).all (inRow s i) && rest) := by
      refine Ev.bind (how_i _ _ _ _ _ _ _ _) ?_
      by_cases hw : howL (s.getD i z133) (s.getD k z133) = wantR s.length i k
      · have e : inRow s i k = true := by unfold inRow; exact decide_eq_true hw
        rw [e, Bool.true_and]
        refine Ev.congr (fun n => ?_) (ih (k + 1) (by omega))
        exact if_pos hw
      · have e : inRow s i k = false := by unfold inRow; exact decide_eq_false hw
        rw [e]
        refine Ev.congr (fun n => ?_) (Ev.now _)
        exact if_neg hw
    have j : ∀ b : Bool, (if b = true then (1 : Int) else 0) = wantR s.length i k → Ev (fun n => impl_IsRing.j3 n s (i : Int) (k : Int) 0 (s.length : Int) (i : Int) (i : Int) (k : Int) b) (inRow s i k && (List.range' (k + 1) d).all (inRow s i) && rest) := by
      intro b hb
      refine Ev.step (fun n => ?_) e2
      simp only [impl_IsRing.j3]
      rw [← hb]
      cases b
      · rw [if_neg (by simp), if_pos (by omega), if_pos (by omega), if_pos (by omega), if_pos (by omega), rdSg s i hi, rdSg s k hk1, w1' k (by omega)]; rfl
      · rw [if_pos rfl, if_pos (by omega), if_pos (by omega), if_pos (by omega), if_pos (by omega), rdSg s i hi, rdSg s k hk1, w1' k (by omega)]; rfl
    have wi : wrap64 ((i : Int) - 1) = (i : Int) - 1 := by unfold wrap64; omega
    have wn : wrap64 ((s.length : Int) - 1) = (s.length : Int) - 1 := by unfold wrap64; omega
    by_cases z : k + 1 = i
    · refine Ev.step (fun n => ?_) (j true (by show (1 : Int) = _; unfold wantR; rw [if_pos (.inl z)]))
      simp only [impl_IsRing.l1]
      rw [if_pos (by omega), wi, if_pos (by omega)]
    · by_cases z0 : k = 0
      · refine Ev.step (fun n => ?_) (j (decide (i + 1 = s.length)) (by unfold wantR; by_cases q : i + 1 = s.length <;> simp [q, z0] <;> omega))
        simp only [impl_IsRing.l1]
        rw [if_pos (by omega), wi, if_neg (by omega), if_pos (by omega), wn]
        congr 1
        rw [Bool.eq_iff_iff]; simp; omega
      · refine Ev.step (fun n => ?_) (j false (by show (0 : Int) = _; unfold wantR; rw [if_neg (by omega)]))
        simp only [impl_IsRing.l1]
        rw [if_pos (by omega), wi, if_neg (by omega), if_neg (by omega)]
theorem ring_i0 (s : List S133) (hs : s.length < 1000) (d : Nat) : ∀ i : Nat, i + d = s.length → Ev (fun n => impl_IsRing.l0 n s (s.length : Int) (i : Int)) (ringS s i d) := by
  induction d with
  | zero =>
    intro i hi
    refine Ev.step (f := fun _ => some true) (fun n => ?_) (Ev.now _)
    simp only [impl_IsRing.l0]
    rw [if_neg (by omega)]
  | succ d ih =>
    intro i hi
    have h1 : i < s.length := by omega
    unfold ringS
    rw [List.range'_succ, List.all_cons]
    cases hq : segL (s.getD i z133)
    · refine Ev.step (f := fun _ => some false) (fun n => ?_) (Ev.now _)
      simp only [impl_IsRing.l0, impl_IsSegment.f, Option.bind_some]
      rw [if_pos (by omega), if_pos (by omega), if_pos (by omega), rdSg s i h1]
      unfold segL at hq
      rw [hq]; simp
    · refine Ev.step (fun n => ?_) (ring_i1 s hs i h1 _ (ih (i + 1) (by omega)) i 0 (by omega))
      simp only [impl_IsRing.l0, impl_IsSegment.f, Option.bind_some]
      rw [if_pos (by omega), if_pos (by omega), if_pos (by omega), rdSg s i h1]
      unfold segL at hq
      rw [hq, if_pos rfl]; rfl
theorem isRing_i (l : List S75) (hl : l.length < 9223372036854775807) : Ev (fun k => impl_IsRing.f k l) (rgB l) := by
  unfold impl_IsRing.f rgB
  have dead : Ev (fun k => impl_IsRing.j0 k l true) false := Ev.step (f := fun _ => some false) (fun k => by simp [impl_IsRing.j0]) (Ev.now _)
  by_cases h2 : (l.length : Int) < 3
  · simp only [if_pos h2]
    have : inR (l.length : Int) 3 10 = false := by unfold inR; simp; omega
    rw [this]; exact dead
  · simp only [if_neg h2]
    by_cases h10 : (l.length : Int) > 10
    · have : inR (l.length : Int) 3 10 = false := by unfold inR; simp; omega
      rw [this, decide_eq_true h10]; exact dead
    · have : inR (l.length : Int) 3 10 = true := by unfold inR; simp; omega
      rw [this, decide_eq_false h10]
      have hb : l.length < 1000 := by omega
      refine Ev.step (f := fun k => (impl_around.f k l).bind fun t => impl_IsRing.l0 k t (t.length : Int) 0) (fun k => by simp [impl_IsRing.j0]) (Ev.bind (around_i l hb) ?_)
      exact ring_i0 (arR l) (by rw [arR_len]; exact hb) l.length 0 (by rw [arR_len]; omega)
def nmB (s : ByteArray) : Bool := (List.range' 0 s.size).all (fun (i : Nat) => decide (97 ≤ bt s (i : Int)) && decide (bt s (i : Int) ≤ 122)) && inR (s.size : Int) 1 8
theorem nm_loop_s (s : ByteArray) (hs : s.size ≤ 9223372036854775807) (d : Nat) : ∀ i : Nat, i + d = s.size → Ev (fun k => spec_IsName.l0 k s (i : Int)) ((List.range' i d).all (fun (i : Nat) => decide (97 ≤ bt s (i : Int)) && decide (bt s (i : Int) ≤ 122)) && inR (s.size : Int) 1 8) := by
  induction d with
  | zero =>
    intro i hi
    refine Ev.step (f := fun _ => some (inR (s.size : Int) 1 8)) (fun k => ?_) (Ev.now _)
    simp only [spec_IsName.l0, spec_l1In.f]
    rw [if_neg (by omega)]; rfl
  | succ d ih =>
    intro i hi
    rw [List.range'_succ, List.all_cons]
    by_cases h1 : bt s (i : Int) < 97
    · rw [decide_eq_false (show ¬ 97 ≤ bt s (i : Int) by omega)]
      refine Ev.step (f := fun _ => some false) (fun k => ?_) (Ev.now _)
      simp only [spec_IsName.l0]
      rw [if_pos (by omega), if_pos (by omega), if_pos h1]
    · by_cases h2 : bt s (i : Int) > 122
      · rw [decide_eq_true (show 97 ≤ bt s (i : Int) by omega), decide_eq_false (show ¬ bt s (i : Int) ≤ 122 by omega)]
        refine Ev.step (f := fun _ => some false) (fun k => ?_) (Ev.now _)
        simp only [spec_IsName.l0]
        rw [if_pos (by omega), if_pos (by omega), if_neg h1, if_pos h2]
      · rw [decide_eq_true (show 97 ≤ bt s (i : Int) by omega), decide_eq_true (show bt s (i : Int) ≤ 122 by omega)]
        refine Ev.step (fun k => ?_) (ih (i + 1) (by omega))
        simp only [spec_IsName.l0]
        rw [if_pos (by omega), if_pos (by omega), if_neg h1, if_neg h2, w1' i (by omega)]
theorem nm_s (s : ByteArray) (hs : s.size ≤ 9223372036854775807) : Ev (fun k => spec_IsName.f k s) (nmB s) := nm_loop_s s hs s.size 0 (by omega)
theorem nm_loop_i (s : ByteArray) (hs : s.size ≤ 9223372036854775807) (d : Nat) : ∀ i : Nat, i + d = s.size → Ev (fun k => impl_IsName.l0 k s (s.size : Int) (i : Int)) ((List.range' i d).all (fun (i : Nat) => decide (97 ≤ bt s (i : Int)) && decide (bt s (i : Int) ≤ 122)) && inR (s.size : Int) 1 8) := by
  induction d with
  | zero =>
    intro i hi
    refine Ev.step (f := fun _ => some (inR (s.size : Int) 1 8)) (fun k => ?_) (Ev.now _)
    simp only [impl_IsName.l0, impl_InRange.f]
    rw [if_neg (by omega)]; rfl
  | succ d ih =>
    intro i hi
    rw [List.range'_succ, List.all_cons]
    by_cases h1 : bt s (i : Int) < 97
    · rw [decide_eq_false (show ¬ 97 ≤ bt s (i : Int) by omega)]
      refine Ev.step (f := fun _ => some false) (fun k => ?_) (Ev.now _)
      simp only [impl_IsName.l0]
      rw [if_pos (by omega), if_pos (by omega), if_pos (by omega), if_pos h1]
    · by_cases h2 : bt s (i : Int) > 122
      · rw [decide_eq_true (show 97 ≤ bt s (i : Int) by omega), decide_eq_false (show ¬ bt s (i : Int) ≤ 122 by omega)]
        refine Ev.step (f := fun _ => some false) (fun k => ?_) (Ev.now _)
        simp only [impl_IsName.l0]
        rw [if_pos (by omega), if_pos (by omega), if_pos (by omega), if_neg h1, if_pos h2]
      · rw [decide_eq_true (show 97 ≤ bt s (i : Int) by omega), decide_eq_true (show bt s (i : Int) ≤ 122 by omega)]
        refine Ev.step (fun k => ?_) (ih (i + 1) (by omega))
        simp only [impl_IsName.l0]
        rw [if_pos (by omega), if_pos (by omega), if_pos (by omega), if_neg h1, if_neg h2, w1' i (by omega)]
theorem nm_i (s : ByteArray) (hs : s.size ≤ 9223372036854775807) : Ev (fun k => impl_IsName.f k s) (nmB s) := nm_loop_i s hs s.size 0 (by omega)
theorem lnB_len {l : List S75} (h : lnB l = true) : 2 ≤ l.length ∧ l.length ≤ 10 := by
  unfold lnB inR at h; simp at h; omega
theorem rgB_len {l : List S75} (h : rgB l = true) : 3 ≤ l.length ∧ l.length ≤ 10 := by
  unfold rgB inR at h; simp at h; omega
/-- The segments of a line, one behind the other. -/
def sgR (l : List S75) : List S133 := (List.range (l.length - 1)).map fun i => (⟨l.getD i z75, l.getD (i + 1) z75⟩ : S133)
def sgL (l : List S75) : List S133 := if lnB l then sgR l else []
theorem sgR_len (l : List S75) : (sgR l).length = l.length - 1 := by simp [sgR]
theorem sgR_take (l : List S75) (i : Nat) (h : i + 1 < l.length) : (sgR l).take (i + 1) = (sgR l).take i ++ [(⟨l.getD i z75, l.getD (i + 1) z75⟩ : S133)] := by
  rw [List.take_succ_eq_append_getElem (by rw [sgR_len]; omega)]
  simp [sgR]
theorem seg_sl (l : List S75) (hl : lnB l = true) (d : Nat) : ∀ i : Nat, i + 1 + d = l.length → Ev (fun k => spec_SegmentsOf.l0 k l ((sgR l).take i) ((i + 1 : Nat) : Int)) (sgR l) := by
  have hb := lnB_len hl
  induction d with
  | zero =>
    intro i hi
    rw [List.take_of_length_le (by rw [sgR_len]; omega)]
    refine Ev.step (f := fun _ => some _) (fun k => ?_) (Ev.now _)
    simp only [spec_SegmentsOf.l0]
    rw [if_neg (by omega)]
  | succ d ih =>
    intro i hi
    have hlen : ((sgR l).take i).length < 4398046511104 := by rw [List.length_take, sgR_len]; omega
    have w : wrap64 (((i + 1 : Nat) : Int) - 1) = (i : Int) := by unfold wrap64; omega
    refine Ev.step (f := fun k => (spec_IsLine.f k l).bind fun t => if t = true then spec_SegmentsOf.l0 k l ((sgR l).take (i + 1)) ((i + 1 + 1 : Nat) : Int) else some ((sgR l).take i)) (fun k => ?_) (Ev.bind (isLine_s l (by omega)) ?_)
    · simp only [spec_SegmentsOf.l0]
      rw [if_pos (by omega), w, if_pos (by omega), if_pos (by omega), if_pos (by omega), if_pos hlen, rdPd, rdPd, sgR_take l i (by omega), w1' (i + 1) (by omega)]
    · rw [hl]
      simp only [if_true]
      exact ih (i + 1) (by omega)
theorem seg_s (l : List S75) (hl : l.length < 9223372036854775807) : Ev (fun k => spec_SegmentsOf.f k l) (sgL l) := by
  unfold spec_SegmentsOf.f sgL
  cases h : lnB l
  · by_cases h1 : (1 : Int) < (l.length : Int)
    · refine Ev.step (f := fun k => (spec_IsLine.f k l).bind fun t => if t = true then spec_SegmentsOf.l0 (k + 1) l [] 1 else some []) (fun k => ?_) (Ev.bind (isLine_s l hl) ?_)
      · simp only [spec_SegmentsOf.l0]
        rw [if_pos h1]
        cases hh : spec_IsLine.f k l with
        | none => rfl
        | some b => cases b <;> simp [h1]
      · rw [h]; simp only [Bool.false_eq_true, if_false]; exact Ev.now _
    · refine Ev.step (f := fun _ => some []) (fun k => ?_) (Ev.now _)
      simp only [spec_SegmentsOf.l0]
      rw [if_neg h1]
  · have hb := lnB_len h
    exact seg_sl l h (l.length - 1) 0 (by omega)
theorem seg_il (l : List S75) (hl : lnB l = true) (d : Nat) : ∀ i : Nat, i + 1 + d = l.length → Ev (fun k => impl_SegmentsOf.l0 k l ((sgR l).take i) ((i + 1 : Nat) : Int)) (sgR l) := by
  have hb := lnB_len hl
  induction d with
  | zero =>
    intro i hi
    rw [List.take_of_length_le (by rw [sgR_len]; omega)]
    refine Ev.step (f := fun _ => some _) (fun k => ?_) (Ev.now _)
    simp only [impl_SegmentsOf.l0]
    rw [if_neg (by omega)]
  | succ d ih =>
    intro i hi
    have hlen : ((sgR l).take i).length < 4398046511104 := by rw [List.length_take, sgR_len]; omega
    have w : wrap64 (((i + 1 : Nat) : Int) - 1) = (i : Int) := by unfold wrap64; omega
    refine Ev.step (fun k => ?_) (ih (i + 1) (by omega))
    simp only [impl_SegmentsOf.l0]
    rw [if_pos (by omega), w, if_pos (by omega), if_pos (by omega), if_pos (by omega), if_pos hlen, rdPd, rdPd, sgR_take l i (by omega), w1' (i + 1) (by omega)]
theorem seg_i (l : List S75) (hl : l.length < 9223372036854775807) : Ev (fun k => impl_SegmentsOf.f k l) (sgL l) := by
  unfold impl_SegmentsOf.f sgL
  simp only [Option.bind_some]
  refine Ev.bind (isLine_i l hl) ?_
  cases h : lnB l
  · simp only [Bool.false_eq_true, if_false]; exact Ev.now _
  · have hb := lnB_len h
    simp only [if_true]
    exact seg_il l h (l.length - 1) 0 (by omega)
def wantS (i k : Nat) : Int := if k + 1 = i then 1 else 0
def inRow2 (s : List S133) (i : Nat) (k : Nat) : Bool := decide (howL (s.getD i z133) (s.getD k z133) = wantS i k)
def simS (s : List S133) (i d : Nat) : Bool := (List.range' i d).all fun i => (List.range' 0 i).all (inRow2 s i)
def smB (l : List S75) : Bool := lnB l && simS (sgL l) 0 (sgL l).length
theorem sim_s1 (l : List S75) (s : List S133) (hs : s.length < 1000) (i : Nat) (hi : i < s.length) (rest : Bool) (hr : Ev (fun k => spec_IsSimple.l0 k l s ((i + 1 : Nat) : Int)) rest) (d : Nat) :
    ∀ k : Nat, k + d = i → Ev (fun n => spec_IsSimple.l1 n l s (i : Int) (k : Int)) ((List.range' k d).all (inRow2 s i) && rest) := by
  induction d with
  | zero =>
    intro k hk
    refine Ev.step (fun n => ?_) hr
    simp only [spec_IsSimple.l1]
    rw [if_neg (by omega), w1' i (by omega)]
  | succ d ih =>
    intro k hk
    have hk1 : k < s.length := by omega
    rw [List.range'_succ, List.all_cons]
    have e2 : Ev (fun n => (spec_HowMeet.f (s.getD i z133).f0.f0 (s.getD i z133).f0.f1 (s.getD i z133).f1.f0 (s.getD i z133).f1.f1 (s.getD k z133).f0.f0 (s.getD k z133).f0.f1 (s.getD k z133).f1.f0 (s.getD k z133).f1.f1).bind fun t => if t = wantS i k then spec_IsSimple.l1 n l s (i : Int) ((k + 1 : Nat) : Int) else some false) (inRow2 s i k && (List.range' (k + 1) d).all (inRow2 s i) && rest) := by
      refine Ev.bind (how_s _ _ _ _ _ _ _ _) ?_
      by_cases hw : howL (s.getD i z133) (s.getD k z133) = wantS i k
      · have e : inRow2 s i k = true := by unfold inRow2; exact decide_eq_true hw
        rw [e, Bool.true_and]
        refine Ev.congr (fun n => ?_) (ih (k + 1) (by omega))
        exact if_pos hw
      · have e : inRow2 s i k = false := by unfold inRow2; exact decide_eq_false hw
        rw [e]
        refine Ev.congr (fun n => ?_) (Ev.now _)
        exact if_neg hw
    refine Ev.step (fun n => ?_) e2
    simp only [spec_IsSimple.l1]
    by_cases z : k + 1 = i
    · have hw : wantS i k = 1 := by unfold wantS; rw [if_pos z]
      rw [hw, if_pos (by omega), w1' k (by omega), if_pos (by omega), if_pos (by omega), if_pos (by omega), if_pos (by omega), if_pos (by omega), rdSg s i hi, rdSg s k hk1]
    · have hw : wantS i k = 0 := by unfold wantS; rw [if_neg z]
      rw [hw, if_pos (by omega), w1' k (by omega), if_neg (by omega), if_pos (by omega), if_pos (by omega), if_pos (by omega), if_pos (by omega), rdSg s i hi, rdSg s k hk1]
theorem sim_s0 (l : List S75) (hl : l.length < 9223372036854775807) (s : List S133) (hs : s.length < 1000) (d : Nat) : ∀ i : Nat, i + d = s.length → Ev (fun n => spec_IsSimple.l0 n l s (i : Int)) (simS s i d && lnB l) := by
  induction d with
  | zero =>
    intro i hi
    refine Ev.step (f := fun k => (spec_IsLine.f k l).bind fun t => some t) (fun n => ?_) (Ev.bind (isLine_s l hl) (Ev.now _))
    simp only [spec_IsSimple.l0]
    rw [if_neg (by omega)]
  | succ d ih =>
    intro i hi
    have h1 : i < s.length := by omega
    unfold simS
    rw [List.range'_succ, List.all_cons, Bool.and_assoc]
    refine Ev.step (fun n => ?_) (sim_s1 l s hs i h1 _ (ih (i + 1) (by omega)) i 0 (by omega))
    simp only [spec_IsSimple.l0]
    rw [if_pos (by omega)]; rfl
theorem sgL_len (l : List S75) : (sgL l).length < 1000 := by
  unfold sgL
  cases h : lnB l
  · simp
  · have := lnB_len h; simp [sgR_len]; omega
theorem isSimple_s (l : List S75) (hl : l.length < 9223372036854775807) : Ev (fun k => spec_IsSimple.f k l) (smB l) := by
  unfold spec_IsSimple.f smB
  refine Ev.bind (seg_s l hl) ?_
  rw [Bool.and_comm]
  exact sim_s0 l hl (sgL l) (sgL_len l) (sgL l).length 0 (by omega)
theorem sim_i1 (s : List S133) (hs : s.length < 1000) (i : Nat) (hi : i < s.length) (rest : Bool) (hr : Ev (fun k => impl_IsSimple.l0 k s (s.length : Int) ((i + 1 : Nat) : Int)) rest) (d : Nat) :
    ∀ k : Nat, k + d = i → Ev (fun n => impl_IsSimple.l1 n s (i : Int) (s.length : Int) (i : Int) (i : Int) (k : Int)) ((List.range' k d).all (inRow2 s i) && rest) := by
  induction d with
  | zero =>
    intro k hk
    refine Ev.step (fun n => ?_) hr
    simp only [impl_IsSimple.l1]
    rw [if_neg (by omega), w1' i (by omega)]
  | succ d ih =>
    intro k hk
    have hk1 : k < s.length := by omega
    rw [List.range'_succ, List.all_cons]
    have e2 : Ev (fun n => (impl_HowMeet.f n (s.getD i z133).f0.f0 (s.getD i z133).f0.f1 (s.getD i z133).f1.f0 (s.getD i z133).f1.f1 (s.getD k z133).f0.f0 (s.getD k z133).f0.f1 (s.getD k z133).f1.f0 (s.getD k z133).f1.f1).bind fun t => if t = wantS i k then impl_IsSimple.l1 n s (i : Int) (s.length : Int) (i : Int) (i : Int) ((k + 1 : Nat) : Int) else some false) (inRow2 s i k && (List.range' (k + 1) d).all (inRow2 s i) && rest) := by
      refine Ev.bind (how_i _ _ _ _ _ _ _ _) ?_
      by_cases hw : howL (s.getD i z133) (s.getD k z133) = wantS i k
      · have e : inRow2 s i k = true := by unfold inRow2; exact decide_eq_true hw
        rw [e, Bool.true_and]
        refine Ev.congr (fun n => ?_) (ih (k + 1) (by omega))
        exact if_pos hw
      · have e : inRow2 s i k = false := by unfold inRow2; exact decide_eq_false hw
        rw [e]
        refine Ev.congr (fun n => ?_) (Ev.now _)
        exact if_neg hw
    have wi : wrap64 ((i : Int) - 1) = (i : Int) - 1 := by unfold wrap64; omega
    refine Ev.step (fun n => ?_) e2
    simp only [impl_IsSimple.l1]
    by_cases z : k + 1 = i
    · have hw : wantS i k = 1 := by unfold wantS; rw [if_pos z]
      rw [hw, if_pos (by omega), wi, if_pos (by omega), if_pos (by omega), if_pos (by omega), if_pos (by omega), if_pos (by omega), rdSg s i hi, rdSg s k hk1, w1' k (by omega)]
    · have hw : wantS i k = 0 := by unfold wantS; rw [if_neg z]
      rw [hw, if_pos (by omega), wi, if_neg (by omega), if_pos (by omega), if_pos (by omega), if_pos (by omega), if_pos (by omega), rdSg s i hi, rdSg s k hk1, w1' k (by omega)]
theorem sim_i0 (s : List S133) (hs : s.length < 1000) (d : Nat) : ∀ i : Nat, i + d = s.length → Ev (fun n => impl_IsSimple.l0 n s (s.length : Int) (i : Int)) (simS s i d) := by
  induction d with
  | zero =>
    intro i hi
    refine Ev.step (f := fun _ => some true) (fun n => ?_) (Ev.now _)
    simp only [impl_IsSimple.l0]
    rw [if_neg (by omega)]
  | succ d ih =>
    intro i hi
    have h1 : i < s.length := by omega
    unfold simS
    rw [List.range'_succ, List.all_cons]
    refine Ev.step (fun n => ?_) (sim_i1 s hs i h1 _ (ih (i + 1) (by omega)) i 0 (by omega))
    simp only [impl_IsSimple.l0]
    rw [if_pos (by omega)]; rfl
theorem isSimple_i (l : List S75) (hl : l.length < 9223372036854775807) : Ev (fun k => impl_IsSimple.f k l) (smB l) := by
  unfold impl_IsSimple.f smB
  refine Ev.bind (isLine_i l hl) ?_
  cases h : lnB l
  · simp only [Bool.false_eq_true, if_false, Bool.false_and]; exact Ev.now _
  · simp only [if_true, Bool.true_and]
    refine Ev.bind (seg_i l hl) ?_
    exact sim_i0 (sgL l) (sgL_len l) (sgL l).length 0 (by omega)
def kdB (kd : Int) (l : List S75) : Bool := if kd = 1 then decide (l.length = 1) && isPt (l.getD 0 z75).f0 (l.getD 0 z75).f1 else if kd = 2 then smB l else if kd = 3 then rgB l else false
def ftB (a b c : Int) (s : ByteArray) (l : List S75) : Bool := inR a 1 99 && (inR c 0 9 && ((decide (s.toList = ([] : List UInt8)) || nmB s) && kdB b l))
theorem rdP0 (l : List S75) : rd_T75 l 0 = l.getD 0 z75 := rfl
theorem ft_js (a b c : Int) (s : ByteArray) (l : List S75) (hl : l.length < 9223372036854775807) (q : Bool) : Ev (fun k => spec_IsFeature.j0 k q a b c s l) (!q && kdB b l) := by
  cases q
  · unfold kdB
    by_cases h1 : b = 1
    · refine Ev.step (f := fun _ => some (decide (l.length = 1) && isPt (l.getD 0 z75).f0 (l.getD 0 z75).f1)) (fun k => ?_) (by simp only [if_pos h1]; exact Ev.now _)
      simp only [spec_IsFeature.j0, Bool.false_eq_true, if_false, if_pos h1, spec_IsPoint.f, Option.bind_some, rdP0]
      by_cases h : (l.length : Int) = 1
      · rw [if_pos h, if_pos (by omega), decide_eq_true (show l.length = 1 by omega)]; rfl
      · rw [if_neg h, decide_eq_false (show ¬ l.length = 1 by omega)]; rfl
    · by_cases h2 : b = 2
      · simp only [if_neg h1, if_pos h2]
        refine Ev.step (f := fun k => (spec_IsSimple.f k l).bind fun t => some t) (fun k => ?_) (Ev.bind (isSimple_s l hl) (Ev.now _))
        simp only [spec_IsFeature.j0, Bool.false_eq_true, if_false, if_neg h1, if_pos h2]
      · by_cases h3 : b = 3
        · simp only [if_neg h1, if_neg h2, if_pos h3]
          refine Ev.step (f := fun k => (spec_IsRing.f k l).bind fun t => some t) (fun k => ?_) (Ev.bind (isRing_s l hl) (Ev.now _))
          simp only [spec_IsFeature.j0, Bool.false_eq_true, if_false, if_neg h1, if_neg h2, if_pos h3]
        · simp only [if_neg h1, if_neg h2, if_neg h3]
          refine Ev.step (f := fun _ => some false) (fun k => ?_) (Ev.now _)
          simp only [spec_IsFeature.j0, Bool.false_eq_true, if_false, if_neg h1, if_neg h2, if_neg h3]
  · refine Ev.step (f := fun _ => some false) (fun k => ?_) (Ev.now _)
    simp [spec_IsFeature.j0]
theorem ft_s (a b c : Int) (s : ByteArray) (hs : s.size ≤ 9223372036854775807) (l : List S75) (hl : l.length < 9223372036854775807) : Ev (fun k => spec_IsFeature.f k a b c s l) (ftB a b c s l) := by
  unfold spec_IsFeature.f ftB spec_l1In.f
  simp only [Option.bind_some]
  cases inR a 1 99
  · simp only [Bool.false_eq_true, if_false]; exact ft_js a b c s l hl true
  · cases inR c 0 9
    · simp only [if_true, Bool.false_eq_true, if_false]; exact ft_js a b c s l hl true
    · simp only [if_true, Bool.true_and]
      by_cases he : s.toList = ([] : List UInt8)
      · simp only [if_pos he, decide_eq_true he, Bool.true_or]; exact ft_js a b c s l hl false
      · simp only [if_neg he, decide_eq_false he, Bool.false_or]
        refine Ev.bind (nm_s s hs) ?_
        have := ft_js a b c s l hl (!nmB s)
        rw [Bool.not_not] at this
        exact this
theorem ft_ji (a b c : Int) (s : ByteArray) (l : List S75) (hl : l.length < 9223372036854775807) (q : Bool) : Ev (fun k => impl_IsFeature.j0 k q a b c s l) (!q && kdB b l) := by
  cases q
  · unfold kdB
    by_cases h1 : b = 1
    · refine Ev.step (f := fun _ => some (decide (l.length = 1) && isPt (l.getD 0 z75).f0 (l.getD 0 z75).f1)) (fun k => ?_) (by simp only [if_pos h1]; exact Ev.now _)
      simp only [impl_IsFeature.j0, Bool.false_eq_true, if_false, if_pos h1, impl_IsPoint.f, Option.bind_some, rdP0]
      by_cases h : (l.length : Int) = 1
      · rw [if_pos h, if_pos (by omega), decide_eq_true (show l.length = 1 by omega)]; rfl
      · rw [if_neg h, decide_eq_false (show ¬ l.length = 1 by omega)]; rfl
    · by_cases h2 : b = 2
      · simp only [if_neg h1, if_pos h2]
        refine Ev.step (f := fun k => (impl_IsSimple.f k l).bind fun t => some t) (fun k => ?_) (Ev.bind (isSimple_i l hl) (Ev.now _))
        simp only [impl_IsFeature.j0, Bool.false_eq_true, if_false, if_neg h1, if_pos h2]
      · by_cases h3 : b = 3
        · simp only [if_neg h1, if_neg h2, if_pos h3]
          refine Ev.step (f := fun k => (impl_IsRing.f k l).bind fun t => some t) (fun k => ?_) (Ev.bind (isRing_i l hl) (Ev.now _))
          simp only [impl_IsFeature.j0, Bool.false_eq_true, if_false, if_neg h1, if_neg h2, if_pos h3]
        · simp only [if_neg h1, if_neg h2, if_neg h3]
          refine Ev.step (f := fun _ => some false) (fun k => ?_) (Ev.now _)
          simp only [impl_IsFeature.j0, Bool.false_eq_true, if_false, if_neg h1, if_neg h2, if_neg h3]
  · refine Ev.step (f := fun _ => some false) (fun k => ?_) (Ev.now _)
    simp [impl_IsFeature.j0]
theorem ft_i (a b c : Int) (s : ByteArray) (hs : s.size ≤ 9223372036854775807) (l : List S75) (hl : l.length < 9223372036854775807) : Ev (fun k => impl_IsFeature.f k a b c s l) (ftB a b c s l) := by
  unfold impl_IsFeature.f ftB impl_InRange.f
  simp only [Option.bind_some]
  cases inR a 1 99
  · simp only [Bool.false_eq_true, if_false]; exact ft_ji a b c s l hl true
  · cases inR c 0 9
    · simp only [if_true, Bool.false_eq_true, if_false]; exact ft_ji a b c s l hl true
    · simp only [if_true, Bool.true_and]
      by_cases he : s.toList = ([] : List UInt8)
      · simp only [if_pos he, decide_eq_true he, Bool.true_or]; exact ft_ji a b c s l hl false
      · simp only [if_neg he, decide_eq_false he, Bool.false_or]
        refine Ev.bind (nm_i s hs) ?_
        have := ft_ji a b c s l hl (!nmB s)
        rw [Bool.not_not] at this
        exact this
def prB (a b c : Int) (s : ByteArray) (l : List S75) : List S133 := if ftB a b c s l then (if b = 2 then sgL l else if b = 3 then (if rgB l then arR l else []) else []) else []
theorem pr_s (a b c : Int) (s : ByteArray) (hs : s.size ≤ 9223372036854775807) (l : List S75) (hl : l.length < 9223372036854775807) : Ev (fun k => spec_PartsOf.f k a b c s l) (prB a b c s l) := by
  unfold spec_PartsOf.f prB
  refine Ev.bind (ft_s a b c s hs l hl) ?_
  cases ftB a b c s l
  · simp only [Bool.false_eq_true, if_false]; exact Ev.now _
  · simp only [if_true]
    by_cases h2 : b = 2
    · simp only [if_pos h2]; exact Ev.bind (seg_s l hl) (Ev.now _)
    · by_cases h3 : b = 3
      · simp only [if_neg h2, if_pos h3]
        refine Ev.bind (a := if rgB l then arR l else []) ?_ (Ev.now _)
        unfold spec_RingSegments.f
        refine Ev.bind (isRing_s l hl) ?_
        cases h : rgB l
        · simp only [Bool.false_eq_true, if_false]; exact Ev.now _
        · simp only [if_true]
          have := rgB_len h
          exact Ev.bind (around_s l (by omega)) (Ev.now _)
      · simp only [if_neg h2, if_neg h3]; exact Ev.now _
theorem pr_i (a b c : Int) (s : ByteArray) (hs : s.size ≤ 9223372036854775807) (l : List S75) (hl : l.length < 9223372036854775807) : Ev (fun k => impl_PartsOf.f k a b c s l) (prB a b c s l) := by
  unfold impl_PartsOf.f prB
  refine Ev.bind (ft_i a b c s hs l hl) ?_
  cases ftB a b c s l
  · simp only [Bool.false_eq_true, if_false]; exact Ev.now _
  · simp only [if_true]
    by_cases h2 : b = 2
    · simp only [if_pos h2]; exact Ev.bind (seg_i l hl) (Ev.now _)
    · by_cases h3 : b = 3
      · simp only [if_neg h2, if_pos h3]
        refine Ev.bind (a := if rgB l then arR l else []) ?_ (Ev.now _)
        unfold impl_RingSegments.f
        refine Ev.bind (isRing_i l hl) ?_
        cases h : rgB l
        · simp only [Bool.false_eq_true, if_false]; exact Ev.now _
        · simp only [if_true]
          have := rgB_len h
          exact Ev.bind (around_i l (by omega)) (Ev.now _)
      · simp only [if_neg h2, if_neg h3]; exact Ev.now _
theorem prB_len (a b c : Int) (s : ByteArray) (l : List S75) : (prB a b c s l).length < 1000 := by
  unfold prB
  split
  · split
    · exact sgL_len l
    · split
      · cases h : rgB l
        · simp
        · have := rgB_len h; simp [arR_len]; omega
      · simp
  · simp
def boxB (a b c d : Int) : Bool := isPt a b && (isPt c d && (decide (a ≤ c) && decide (b ≤ d)))
theorem box_s (a b c d : Int) : spec_IsBox.f a b c d = some (boxB a b c d) := by
  unfold spec_IsBox.f boxB spec_IsPoint.f
  simp only [Option.bind_some]
  cases isPt a b
  · rfl
  · cases isPt c d
    · rfl
    · by_cases h : a ≤ c
      · simp [h]
      · simp [h]
theorem box_i (a b c d : Int) : impl_IsBox.f a b c d = some (boxB a b c d) := by
  unfold impl_IsBox.f boxB impl_IsPoint.f
  simp only [Option.bind_some]
  cases isPt a b
  · rfl
  · cases isPt c d
    · rfl
    · by_cases h : a ≤ c
      · simp [h]
      · simp [h]
theorem isPt_bd {x y : Int} (h : isPt x y = true) : 0 ≤ x ∧ x ≤ 200 ∧ 0 ≤ y ∧ y ≤ 200 := by
  simp only [isPt, inR, Bool.and_eq_true, decide_eq_true_eq] at h
  omega
theorem box_bound {a b c d : Int} (h : boxB a b c d = true) : 0 ≤ a ∧ a ≤ 200 ∧ 0 ≤ b ∧ b ≤ 200 ∧ 0 ≤ c ∧ c ≤ 200 ∧ 0 ≤ d ∧ d ≤ 200 := by
  simp only [boxB, Bool.and_eq_true] at h
  have := isPt_bd h.1
  have := isPt_bd h.2.1
  omega
theorem mn_bound (a b : Int) (h : 0 ≤ a ∧ a ≤ 200) (h' : 0 ≤ b ∧ b ≤ 200) : 0 ≤ mn a b ∧ mn a b ≤ 200 := by unfold mn; split <;> omega
theorem mx_bound (a b : Int) (h : 0 ≤ a ∧ a ≤ 200) (h' : 0 ≤ b ∧ b ≤ 200) : 0 ≤ mx a b ∧ mx a b ≤ 200 := by unfold mx; split <;> omega
theorem wrap_mid {a : Int} (h : -1000 ≤ a) (h' : a ≤ 1000) : wrap64 a = a := by unfold wrap64; omega
theorem mn_self (a : Int) : mn a a = a := by unfold mn; split <;> omega
theorem mx_self (a : Int) : mx a a = a := by unfold mx; split <;> omega
/-- Two boxes meet. -/
def mtB (a b c d e f g h : Int) : Bool := boxB a b c d && (boxB e f g h && (decide (mx a e ≤ mn c g) && decide (mx b f ≤ mn d h)))
theorem mt_s (a b c d e f g h : Int) : spec_BoxesMeet.f a b c d e f g h = some (mtB a b c d e f g h) := by
  unfold spec_BoxesMeet.f mtB
  simp only [box_s, Option.bind_some]
  cases h1 : boxB a b c d
  · rfl
  · cases h2 : boxB e f g h
    · rfl
    · have e1 : decide (mx a e ≤ mn c g) = (decide (a ≤ g) && decide (e ≤ c)) := by
        simp only [boxB, Bool.and_eq_true, decide_eq_true_eq] at h1 h2
        rw [← Bool.decide_and, decide_eq_decide]; unfold mx mn; (repeat' split) <;> omega
      have e2 : decide (mx b f ≤ mn d h) = (decide (b ≤ h) && decide (f ≤ d)) := by
        simp only [boxB, Bool.and_eq_true, decide_eq_true_eq] at h1 h2
        rw [← Bool.decide_and, decide_eq_decide]; unfold mx mn; (repeat' split) <;> omega
      rw [e1, e2]
      by_cases q1 : a ≤ g <;> by_cases q2 : e ≤ c <;> by_cases q3 : b ≤ h <;> simp [q1, q2, q3]
theorem mt_i (a b c d e f g h : Int) : impl_BoxesMeet.f a b c d e f g h = some (mtB a b c d e f g h) := by
  unfold impl_BoxesMeet.f impl_common.f mtB
  simp only [box_i, Option.bind_some]
  cases h1 : boxB a b c d
  · rfl
  · cases h2 : boxB e f g h
    · rfl
    · have b1 := box_bound h1
      have b2 := box_bound h2
      have m1 := mn_bound c g (by omega) (by omega)
      have m2 := mx_bound a e (by omega) (by omega)
      have m3 := mn_bound d h (by omega) (by omega)
      have m4 := mx_bound b f (by omega) (by omega)
      rw [wrap_mid (a := mn c g - mx a e) (by omega) (by omega), wrap_mid (a := mn d h - mx b f) (by omega) (by omega)]
      by_cases h3 : mx a e ≤ mn c g
      · simp only [if_true, if_pos (show mn c g - mx a e ≥ 0 by omega), decide_eq_true h3, Bool.true_and]
        rw [decide_eq_decide.2 (show mn d h - mx b f ≥ 0 ↔ mx b f ≤ mn d h by omega)]
      · simp only [if_true, if_neg (show ¬ mn c g - mx a e ≥ 0 by omega), decide_eq_false h3, Bool.true_and, Bool.false_and]
/-- The box of two points. -/
def bx2 (a b c d : Int) : Int × Int × Int × Int × Bool := if isPt a b && isPt c d then (mn a c, mn b d, mx a c, mx b d, true) else (0, 0, 0, 0, false)
theorem bx2_s (a b c d : Int) : Ev (fun k => spec_BoxOf.f k [(⟨a, b⟩ : S75), ⟨c, d⟩]) (bx2 a b c d) := by
  refine ⟨3, fun k hk => ?_⟩
  obtain ⟨m, rfl⟩ : ∃ m, k = m + 3 := ⟨k - 3, by omega⟩
  have e0 : rd_T75 [(⟨a, b⟩ : S75), ⟨c, d⟩] 0 = ⟨a, b⟩ := rfl
  have e1 : rd_T75 [(⟨a, b⟩ : S75), ⟨c, d⟩] 1 = ⟨c, d⟩ := rfl
  have w0 : wrap64 1 = 1 := by unfold wrap64; omega
  have w1 : wrap64 2 = 2 := by unfold wrap64; omega
  simp only [spec_BoxOf.f, spec_BoxOf.l0, spec_IsPoint.f, spec_Min.f, spec_Max.f, List.length_cons, List.length_nil, e0, Option.bind_some, bx2]
  cases h1 : isPt a b
  · simp
  · cases h2 : isPt c d
    · simp [w0, e1, h2, mn_self, mx_self]
    · simp [w0, w1, e1, h2, mn_self, mx_self]
theorem bx2_i (a b c d : Int) : Ev (fun k => impl_BoxOf.f k [(⟨a, b⟩ : S75), ⟨c, d⟩]) (bx2 a b c d) := by
  refine ⟨3, fun k hk => ?_⟩
  obtain ⟨m, rfl⟩ : ∃ m, k = m + 3 := ⟨k - 3, by omega⟩
  have e0 : rd_T75 [(⟨a, b⟩ : S75), ⟨c, d⟩] 0 = ⟨a, b⟩ := rfl
  have e1 : rd_T75 [(⟨a, b⟩ : S75), ⟨c, d⟩] 1 = ⟨c, d⟩ := rfl
  have w0 : wrap64 1 = 1 := by unfold wrap64; omega
  have w1 : wrap64 2 = 2 := by unfold wrap64; omega
  simp only [impl_BoxOf.f, impl_BoxOf.l0, impl_IsPoint.f, List.length_cons, List.length_nil, e0, Option.bind_some, bx2]
  cases h1 : isPt a b
  · simp
  · cases h2 : isPt c d
    · simp [w0, e1, h2, mn_self, mx_self]
    · simp [w0, w1, e1, h2, mn_self, mx_self]
def cn (v p : Int) : Int := if p = v then 1 else 0
theorem cn_bd (v p : Int) : 0 ≤ cn v p ∧ cn v p ≤ 1 := by unfold cn; split <;> omega
def sdL (a b c d : Int) (p : S75) : Int := sideI a b c d p.f0 p.f1
theorem ms_step (a b c d : Int) (xs : List S75) (hx : xs.length = 4) (k : Nat) (L R : Int) (i : Nat) (hi : i < 4) (hL : 0 ≤ L ∧ L ≤ 4) (hR : 0 ≤ R ∧ R ≤ 4) :
    spec_MeetsBox.l0 (k + 1) xs L R (i : Int) a b c d = spec_MeetsBox.l0 k xs (L + cn 1 (sdL a b c d (xs.getD i z75))) (R + cn (-1) (sdL a b c d (xs.getD i z75))) ((i + 1 : Nat) : Int) a b c d := by
  have w : wrap64 ((i : Int) + 1) = ((i + 1 : Nat) : Int) := by unfold wrap64; omega
  have wL : wrap64 (L + 1) = L + 1 := by unfold wrap64; omega
  have wR : wrap64 (R + 1) = R + 1 := by unfold wrap64; omega
  have e : rd_T75 xs (i : Int) = xs.getD i z75 := by unfold rd_T75; rw [Int.toNat_natCast]
  rw [spec_MeetsBox.l0]
  rw [if_pos (by omega), if_pos (by omega), if_pos (by omega)]
  unfold spec_SideOf.f
  simp only [Option.bind_some, w, wL, wR, e]
  show _ = spec_MeetsBox.l0 k xs (L + cn 1 (sideI a b c d _ _)) (R + cn (-1) (sideI a b c d _ _)) _ _ _ _ _
  generalize sideI a b c d (xs.getD i z75).f0 (xs.getD i z75).f1 = s
  by_cases h1 : s = 1
  · subst h1; simp [cn]
  · by_cases h2 : s = -1
    · subst h2; simp [cn]
    · simp [cn, h1, h2]
theorem mi_step (a b c d : Int) (xs : List S75) (hx : xs.length = 4) (k : Nat) (L R : Int) (i : Nat) (hi : i < 4) (hL : 0 ≤ L ∧ L ≤ 4) (hR : 0 ≤ R ∧ R ≤ 4) :
    impl_MeetsBox.l0 (k + 1) L R xs 4 (i : Int) a b c d = impl_MeetsBox.l0 k (L + cn 1 (sdL a b c d (xs.getD i z75))) (R + cn (-1) (sdL a b c d (xs.getD i z75))) xs 4 ((i + 1 : Nat) : Int) a b c d := by
  have w : wrap64 ((i : Int) + 1) = ((i + 1 : Nat) : Int) := by unfold wrap64; omega
  have wL : wrap64 (L + 1) = L + 1 := by unfold wrap64; omega
  have wR : wrap64 (R + 1) = R + 1 := by unfold wrap64; omega
  have e : rd_T75 xs (i : Int) = xs.getD i z75 := by unfold rd_T75; rw [Int.toNat_natCast]
  rw [impl_MeetsBox.l0]
  rw [if_pos (by omega), if_pos (by omega), if_pos (by omega)]
  unfold impl_SideOf.f
  simp only [Option.bind_some, w, wL, wR, e]
  show _ = impl_MeetsBox.l0 k (L + cn 1 (sideI a b c d _ _)) (R + cn (-1) (sideI a b c d _ _)) _ _ _ _ _ _ _
  generalize sideI a b c d (xs.getD i z75).f0 (xs.getD i z75).f1 = s
  by_cases h1 : s = 1
  · subst h1; simp [cn]
  · by_cases h2 : s = -1
    · subst h2; simp [cn]
    · simp [cn, h1, h2]
/-- How many corners of a box lie on a side. -/
def cns (v a b c d e f g h : Int) : Int := cn v (sideI a b c d e f) + cn v (sideI a b c d e h) + cn v (sideI a b c d g h) + cn v (sideI a b c d g f)
/-- A segment meets a box. -/
def mbB (a b c d e f g h : Int) : Bool := isSeg a b c d && (boxB e f g h && (mtB (mn a c) (mn b d) (mx a c) (mx b d) e f g h && (decide (cns 1 a b c d e f g h < 4) && decide (cns (-1) a b c d e f g h < 4))))
theorem isSeg_pts {a b c d : Int} (h : isSeg a b c d = true) : isPt a b = true ∧ isPt c d = true := by
  simp only [isSeg, Bool.and_eq_true] at h
  exact h.1
theorem mb_s (a b c d e f g h : Int) : Ev (fun k => spec_MeetsBox.f k a b c d e f g h) (mbB a b c d e f g h) := by
  unfold spec_MeetsBox.f mbB
  refine Ev.bind (bx2_s a b c d) ?_
  unfold spec_IsSegment.f
  simp only [Option.bind_some]
  cases h1 : isSeg a b c d
  · refine Ev.step (f := fun _ => some false) (fun k => ?_) (Ev.now _)
    simp [spec_MeetsBox.j0]
  · obtain ⟨p1, p2⟩ := isSeg_pts h1
    simp only [bx2, p1, p2, Bool.and_self, if_true, mt_s, Option.bind_some, Bool.true_and]
    cases h2 : mtB (mn a c) (mn b d) (mx a c) (mx b d) e f g h
    · refine Ev.step (f := fun _ => some (boxB e f g h && (false && (decide (cns 1 a b c d e f g h < 4) && decide (cns (-1) a b c d e f g h < 4))))) (fun k => ?_) (Ev.now _)
      cases boxB e f g h <;> simp [spec_MeetsBox.j0]
    · have h3 : boxB e f g h = true := by simp only [mtB, Bool.and_eq_true] at h2; exact h2.2.1
      rw [h3]
      refine ⟨6, fun k hk => ?_⟩
      obtain ⟨m, rfl⟩ : ∃ m, k = m + 6 := ⟨k - 6, by omega⟩
      show spec_MeetsBox.j0 ((m + 5) + 1) _ a b c d e f g h = _
      rw [spec_MeetsBox.j0]
      simp only [Bool.not_true, Bool.false_eq_true, if_false]
      have c1 := cn_bd 1 (sideI a b c d e f); have c2 := cn_bd 1 (sideI a b c d e h); have c3 := cn_bd 1 (sideI a b c d g h); have c4 := cn_bd 1 (sideI a b c d g f)
      have d1 := cn_bd (-1) (sideI a b c d e f); have d2 := cn_bd (-1) (sideI a b c d e h); have d3 := cn_bd (-1) (sideI a b c d g h); have d4 := cn_bd (-1) (sideI a b c d g f)
      have hx : ([(⟨e, f⟩ : S75), ⟨e, h⟩, ⟨g, h⟩, ⟨g, f⟩] : List S75).length = 4 := rfl
      generalize hxs : ([(⟨e, f⟩ : S75), ⟨e, h⟩, ⟨g, h⟩, ⟨g, f⟩] : List S75) = xs at hx ⊢
      have q0 : sdL a b c d (xs.getD 0 z75) = sideI a b c d e f := by subst hxs; rfl
      have q1 : sdL a b c d (xs.getD 1 z75) = sideI a b c d e h := by subst hxs; rfl
      have q2 : sdL a b c d (xs.getD 2 z75) = sideI a b c d g h := by subst hxs; rfl
      have q3 : sdL a b c d (xs.getD 3 z75) = sideI a b c d g f := by subst hxs; rfl
      have t0 := ms_step a b c d xs hx (m + 4) 0 0 0 (by omega) (by omega) (by omega)
      rw [q0] at t0
      have t1 := ms_step a b c d xs hx (m + 3) (0 + cn 1 (sideI a b c d e f)) (0 + cn (-1) (sideI a b c d e f)) 1 (by omega) (by omega) (by omega)
      rw [q1] at t1
      have t2 := ms_step a b c d xs hx (m + 2) (0 + cn 1 (sideI a b c d e f) + cn 1 (sideI a b c d e h)) (0 + cn (-1) (sideI a b c d e f) + cn (-1) (sideI a b c d e h)) 2 (by omega) (by omega) (by omega)
      rw [q2] at t2
      have t3 := ms_step a b c d xs hx (m + 1) (0 + cn 1 (sideI a b c d e f) + cn 1 (sideI a b c d e h) + cn 1 (sideI a b c d g h)) (0 + cn (-1) (sideI a b c d e f) + cn (-1) (sideI a b c d e h) + cn (-1) (sideI a b c d g h)) 3 (by omega) (by omega) (by omega)
      rw [q3] at t3
      refine (t0.trans (t1.trans (t2.trans t3))).trans ?_
      rw [spec_MeetsBox.l0]
      rw [if_neg (by omega)]
      unfold cns
      have e1 : ∀ v : Int, 0 + cn v (sideI a b c d e f) + cn v (sideI a b c d e h) + cn v (sideI a b c d g h) + cn v (sideI a b c d g f) = cn v (sideI a b c d e f) + cn v (sideI a b c d e h) + cn v (sideI a b c d g h) + cn v (sideI a b c d g f) := fun v => by omega
      rw [e1, e1]
      by_cases h4 : cn 1 (sideI a b c d e f) + cn 1 (sideI a b c d e h) + cn 1 (sideI a b c d g h) + cn 1 (sideI a b c d g f) < 4
      · rw [if_pos h4]; simp [h4]
      · rw [if_neg h4]; simp [h4]
theorem mb_i (a b c d e f g h : Int) : Ev (fun k => impl_MeetsBox.f k a b c d e f g h) (mbB a b c d e f g h) := by
  unfold impl_MeetsBox.f mbB
  unfold impl_IsSegment.f
  simp only [Option.bind_some, box_i]
  cases h1 : isSeg a b c d
  · refine Ev.step (f := fun _ => some false) (fun k => ?_) (Ev.now _)
    simp [impl_MeetsBox.j0]
  · obtain ⟨p1, p2⟩ := isSeg_pts h1
    simp only [if_true, Bool.true_and]
    cases h3 : boxB e f g h
    · refine Ev.step (f := fun _ => some false) (fun k => ?_) (Ev.now _)
      simp [impl_MeetsBox.j0]
    · refine Ev.step (f := fun k => (impl_BoxOf.f k [(⟨a, b⟩ : S75), ⟨c, d⟩]).bind fun bt => (impl_BoxesMeet.f bt.1 bt.2.1 bt.2.2.1 bt.2.2.2.1 e f g h).bind fun t => if t = true then ((some ([(⟨e, f⟩ : S75), ⟨g, h⟩, ⟨e, h⟩, ⟨g, f⟩] : List S75)).bind fun y => impl_MeetsBox.l0 k 0 0 y (y.length : Int) 0 a b c d) else some false) (fun k => ?_) (Ev.bind (bx2_i a b c d) ?_)
      · rw [impl_MeetsBox.j0]; simp only [Bool.not_true, Bool.false_eq_true, if_false]
      · simp only [bx2, p1, p2, Bool.and_self, if_true, mt_i, Option.bind_some, Bool.true_and]
        cases h2 : mtB (mn a c) (mn b d) (mx a c) (mx b d) e f g h
        · simp only [Bool.false_eq_true, if_false, Bool.false_and]; exact Ev.now _
        · simp only [if_true, Bool.true_and]
          refine ⟨5, fun k hk => ?_⟩
          obtain ⟨m, rfl⟩ : ∃ m, k = m + 5 := ⟨k - 5, by omega⟩
          dsimp only
          have c1 := cn_bd 1 (sideI a b c d e f); have c2 := cn_bd 1 (sideI a b c d e h); have c3 := cn_bd 1 (sideI a b c d g h); have c4 := cn_bd 1 (sideI a b c d g f)
          have d1 := cn_bd (-1) (sideI a b c d e f); have d2 := cn_bd (-1) (sideI a b c d e h); have d3 := cn_bd (-1) (sideI a b c d g h); have d4 := cn_bd (-1) (sideI a b c d g f)
          have hx : ([(⟨e, f⟩ : S75), ⟨g, h⟩, ⟨e, h⟩, ⟨g, f⟩] : List S75).length = 4 := rfl
          have hl : ((([(⟨e, f⟩ : S75), ⟨g, h⟩, ⟨e, h⟩, ⟨g, f⟩] : List S75).length : Nat) : Int) = 4 := rfl
          rw [hl]
          generalize hxs : ([(⟨e, f⟩ : S75), ⟨g, h⟩, ⟨e, h⟩, ⟨g, f⟩] : List S75) = xs at hx ⊢
          have q0 : sdL a b c d (xs.getD 0 z75) = sideI a b c d e f := by subst hxs; rfl
          have q1 : sdL a b c d (xs.getD 1 z75) = sideI a b c d g h := by subst hxs; rfl
          have q2 : sdL a b c d (xs.getD 2 z75) = sideI a b c d e h := by subst hxs; rfl
          have q3 : sdL a b c d (xs.getD 3 z75) = sideI a b c d g f := by subst hxs; rfl
          have t0 := mi_step a b c d xs hx (m + 4) 0 0 0 (by omega) (by omega) (by omega)
          rw [q0] at t0
          have t1 := mi_step a b c d xs hx (m + 3) (0 + cn 1 (sideI a b c d e f)) (0 + cn (-1) (sideI a b c d e f)) 1 (by omega) (by omega) (by omega)
          rw [q1] at t1
          have t2 := mi_step a b c d xs hx (m + 2) (0 + cn 1 (sideI a b c d e f) + cn 1 (sideI a b c d g h)) (0 + cn (-1) (sideI a b c d e f) + cn (-1) (sideI a b c d g h)) 2 (by omega) (by omega) (by omega)
          rw [q2] at t2
          have t3 := mi_step a b c d xs hx (m + 1) (0 + cn 1 (sideI a b c d e f) + cn 1 (sideI a b c d g h) + cn 1 (sideI a b c d e h)) (0 + cn (-1) (sideI a b c d e f) + cn (-1) (sideI a b c d g h) + cn (-1) (sideI a b c d e h)) 3 (by omega) (by omega) (by omega)
          rw [q3] at t3
          refine (t0.trans (t1.trans (t2.trans t3))).trans ?_
          rw [impl_MeetsBox.l0]
          rw [if_neg (by omega)]
          unfold cns
          have e1 : ∀ v : Int, 0 + cn v (sideI a b c d e f) + cn v (sideI a b c d g h) + cn v (sideI a b c d e h) + cn v (sideI a b c d g f) = cn v (sideI a b c d e f) + cn v (sideI a b c d e h) + cn v (sideI a b c d g h) + cn v (sideI a b c d g f) := fun v => by omega
          rw [e1, e1]
          by_cases h4 : cn 1 (sideI a b c d e f) + cn 1 (sideI a b c d e h) + cn 1 (sideI a b c d g h) + cn 1 (sideI a b c d g f) < 4
          · rw [if_pos h4]; simp [h4]
          · rw [if_neg h4]; simp [h4]
theorem prB_one (a c : Int) (s : ByteArray) (l : List S75) : prB a 1 c s l = [] := by
  unfold prB; split <;> rfl
theorem ft_one {a c : Int} {s : ByteArray} {l : List S75} (h : ftB a 1 c s l = true) : l.length = 1 := by
  simp only [ftB, kdB, if_true, Bool.and_eq_true, decide_eq_true_eq] at h
  exact h.2.2.2.1
def tbB (t : Int) : Int × Int × Int × Int × Bool := if inR t 0 440 then (wrap64 (Int.tmod t 21 * 10), wrap64 (wrap64 (Int.tdiv t 21) * 10), mn (wrap64 (wrap64 (Int.tmod t 21 * 10) + 10)) 200, mn (wrap64 (wrap64 (wrap64 (Int.tdiv t 21) * 10) + 10)) 200, true) else (0, 0, 0, 0, false)
theorem mn_sym (a b : Int) : mn a b = mn b a := by unfold mn; (repeat' split) <;> omega
theorem tb_s (t : Int) : spec_TileBox.f t = some (tbB t) := by
  unfold spec_TileBox.f tbB spec_l1In.f spec_Min.f
  simp only [Option.bind_some, mn_sym 200]
  cases inR t 0 440 <;> simp
theorem tb_i (t : Int) : impl_TileBox.f t = some (tbB t) := by
  unfold impl_TileBox.f tbB impl_InRange.f
  simp only [Option.bind_some]
  cases inR t 0 440 <;> simp
def ibB (a b c d x y : Int) : Bool := boxB a b c d && (inR x a c && inR y b d)
theorem ib_s (a b c d x y : Int) : spec_InBox.f a b c d x y = some (ibB a b c d x y) := by
  unfold spec_InBox.f ibB spec_l1In.f
  simp only [box_s, Option.bind_some]
  cases boxB a b c d <;> cases inR x a c <;> simp
theorem ib_i (a b c d x y : Int) : impl_InBox.f a b c d x y = some (ibB a b c d x y) := by
  unfold impl_InBox.f ibB impl_InRange.f
  simp only [box_i, Option.bind_some]
  cases boxB a b c d <;> cases inR x a c <;> simp
/-- The pieces of the segments that meet a box. -/
def fpB (id : Int) (sg : List S133) (e f g h : Int) (i d : Nat) : List S56 :=
  ((List.range' i d).filter fun j => mbB (sg.getD j z133).f0.f0 (sg.getD j z133).f0.f1 (sg.getD j z133).f1.f0 (sg.getD j z133).f1.f1 e f g h).map fun (j : Nat) => (⟨id, (j : Int)⟩ : S56)
def pcB (a b c : Int) (s : ByteArray) (l : List S75) (e f g h : Int) : List S56 :=
  if b = 1 then (if ibB e f g h (l.getD 0 z75).f0 (l.getD 0 z75).f1 then [(⟨a, 0⟩ : S56)] else []) else fpB a (prB a b c s l) e f g h 0 (prB a b c s l).length
theorem fpB_step (id : Int) (sg : List S133) (e f g h : Int) (i d : Nat) : fpB id sg e f g h i (d + 1) = (if mbB (sg.getD i z133).f0.f0 (sg.getD i z133).f0.f1 (sg.getD i z133).f1.f0 (sg.getD i z133).f1.f1 e f g h then [(⟨id, (i : Int)⟩ : S56)] else []) ++ fpB id sg e f g h (i + 1) d := by
  unfold fpB
  rw [List.range'_succ, List.filter_cons]
  split <;> simp
theorem fp_s (a b c : Int) (s : ByteArray) (l : List S75) (sg : List S133) (hs : sg.length < 1000) (e f g h : Int) (d : Nat) : ∀ (i : Nat) (o : List S56), i + d = sg.length → o.length ≤ i →
    Ev (fun k => spec_l20Pieces.l0 k sg o (i : Int) a b c s l e f g h) (o ++ fpB a sg e f g h i d) := by
  induction d with
  | zero =>
    intro i o hi ho
    refine Ev.step (f := fun _ => some o) (fun k => ?_) (by simp only [fpB, List.range'_zero, List.filter_nil, List.map_nil, List.append_nil]; exact Ev.now _)
    simp only [spec_l20Pieces.l0]
    rw [if_neg (by omega)]
  | succ d ih =>
    intro i o hi ho
    have h1 : i < sg.length := by omega
    rw [fpB_step, ← List.append_assoc]
    refine Ev.step (f := fun k => (spec_MeetsBox.f k (sg.getD i z133).f0.f0 (sg.getD i z133).f0.f1 (sg.getD i z133).f1.f0 (sg.getD i z133).f1.f1 e f g h).bind fun t => if t = true then spec_l20Pieces.l0 k sg (o ++ [(⟨a, (i : Int)⟩ : S56)]) ((i + 1 : Nat) : Int) a b c s l e f g h else spec_l20Pieces.l0 k sg o ((i + 1 : Nat) : Int) a b c s l e f g h) (fun k => ?_) (Ev.bind (mb_s _ _ _ _ _ _ _ _) ?_)
    · simp only [spec_l20Pieces.l0]
      rw [if_pos (by omega), if_pos (by omega), rdSg sg i h1, w1' i (by omega), if_pos (show o.length < 8796093022208 by omega)]
    · cases mbB (sg.getD i z133).f0.f0 (sg.getD i z133).f0.f1 (sg.getD i z133).f1.f0 (sg.getD i z133).f1.f1 e f g h
      · simp only [Bool.false_eq_true, if_false, List.append_nil]; exact ih (i + 1) o (by omega) (by omega)
      · simp only [if_true]; exact ih (i + 1) _ (by omega) (by simp; omega)
theorem pc_s (a b c : Int) (s : ByteArray) (l : List S75) (h1 : b = 1 → l.length = 1) (e f g h : Int) : Ev (fun k => spec_l20Pieces.f k a b c s l (prB a b c s l) e f g h) (pcB a b c s l e f g h) := by
  unfold spec_l20Pieces.f pcB
  simp only [Option.bind_some]
  have hp := prB_len a b c s l
  have go : Ev (fun k => spec_l20Pieces.j0 k (prB a b c s l) [] false a b c s l e f g h) (fpB a (prB a b c s l) e f g h 0 (prB a b c s l).length) := by
    refine Ev.step (fun k => ?_) (fp_s a b c s l (prB a b c s l) hp e f g h (prB a b c s l).length 0 [] (by omega) (by simp))
    simp [spec_l20Pieces.j0]
  by_cases hb : b = 1
  · simp only [if_pos hb]
    have := h1 hb
    simp only [if_pos (show (0 : Int) < (l.length : Int) by omega), ib_s, rdP0, Option.bind_some]
    cases ibB e f g h (l.getD 0 z75).f0 (l.getD 0 z75).f1
    · subst hb
      rw [prB_one] at go ⊢
      simp only [Bool.false_eq_true, if_false]; exact go
    · refine Ev.step (f := fun _ => some _) (fun k => ?_) (Ev.now _)
      simp [spec_l20Pieces.j0]
  · simp only [if_neg hb]; exact go
theorem fp_i (a b c : Int) (s : ByteArray) (l : List S75) (sg : List S133) (hs : sg.length < 1000) (e f g h : Int) (d : Nat) : ∀ (i : Nat) (o : List S56), i + d = sg.length → o.length ≤ i + 1 →
    Ev (fun k => impl_piecesOf.l0 k false o sg (sg.length : Int) (i : Int) a b c s l e f g h) (o ++ fpB a sg e f g h i d) := by
  induction d with
  | zero =>
    intro i o hi ho
    refine Ev.step (f := fun _ => some o) (fun k => ?_) (by simp only [fpB, List.range'_zero, List.filter_nil, List.map_nil, List.append_nil]; exact Ev.now _)
    simp only [impl_piecesOf.l0]
    rw [if_neg (by omega)]
  | succ d ih =>
    intro i o hi ho
    have h1 : i < sg.length := by omega
    rw [fpB_step, ← List.append_assoc]
    refine Ev.step (f := fun k => (impl_MeetsBox.f k (sg.getD i z133).f0.f0 (sg.getD i z133).f0.f1 (sg.getD i z133).f1.f0 (sg.getD i z133).f1.f1 e f g h).bind fun t => if t = true then impl_piecesOf.l0 k false (o ++ [(⟨a, (i : Int)⟩ : S56)]) sg (sg.length : Int) ((i + 1 : Nat) : Int) a b c s l e f g h else impl_piecesOf.l0 k false o sg (sg.length : Int) ((i + 1 : Nat) : Int) a b c s l e f g h) (fun k => ?_) (Ev.bind (mb_i _ _ _ _ _ _ _ _) ?_)
    · simp only [impl_piecesOf.l0]
      rw [if_pos (by omega), if_pos (by omega), if_pos (by omega), if_neg (by simp), rdSg sg i h1, w1' i (by omega), if_pos (show o.length < 8796093022208 by omega)]
    · cases mbB (sg.getD i z133).f0.f0 (sg.getD i z133).f0.f1 (sg.getD i z133).f1.f0 (sg.getD i z133).f1.f1 e f g h
      · simp only [Bool.false_eq_true, if_false, List.append_nil]; exact ih (i + 1) o (by omega) (by omega)
      · simp only [if_true]; exact ih (i + 1) _ (by omega) (by simp; omega)
theorem pc_i (a b c : Int) (s : ByteArray) (hs : s.size ≤ 9223372036854775807) (l : List S75) (hl : l.length < 9223372036854775807) (h1 : b = 1 → l.length = 1) (e f g h : Int) : Ev (fun k => impl_piecesOf.f k a b c s l e f g h false) (pcB a b c s l e f g h) := by
  unfold impl_piecesOf.f pcB
  simp only [Option.bind_some]
  have hp := prB_len a b c s l
  have go : ∀ o : List S56, o.length ≤ 1 → Ev (fun k => impl_piecesOf.j1 k false o a b c s l e f g h) (o ++ fpB a (prB a b c s l) e f g h 0 (prB a b c s l).length) := by
    intro o ho
    refine Ev.step (f := fun k => (impl_PartsOf.f k a b c s l).bind fun t => impl_piecesOf.l0 k false o t (t.length : Int) 0 a b c s l e f g h) (fun k => by rw [impl_piecesOf.j1]) (Ev.bind (pr_i a b c s hs l hl) ?_)
    exact fp_i a b c s l (prB a b c s l) hp e f g h (prB a b c s l).length 0 o (by omega) (by omega)
  have go0 : Ev (fun k => impl_piecesOf.j0 k false [] false a b c s l e f g h) (fpB a (prB a b c s l) e f g h 0 (prB a b c s l).length) := by
    refine Ev.step (fun k => ?_) (go [] (by simp))
    simp [impl_piecesOf.j0]
  by_cases hb : b = 1
  · simp only [if_pos hb]
    have := h1 hb
    simp only [Bool.false_eq_true, if_false, if_pos (show (0 : Int) < (l.length : Int) by omega), ib_i, rdP0, Option.bind_some]
    subst hb
    rw [prB_one] at go go0
    cases ibB e f g h (l.getD 0 z75).f0 (l.getD 0 z75).f1
    · simp only [Bool.false_eq_true, if_false]; exact go0
    · simp only [if_true]
      refine Ev.step (fun k => ?_) (go [(⟨a, 0⟩ : S56)] (by simp))
      simp [impl_piecesOf.j0]
  · simp only [if_neg hb]; exact go0
theorem rdp_at (l : List S136) (i : Nat) (h : i < l.length) : rd_T136 l (i : Int) = l[i] := by
  unfold rd_T136
  rw [Int.toNat_natCast, List.getD_eq_getElem?_getD, List.getElem?_eq_getElem h]
  rfl
theorem rdP_at (l : List S75) (i : Nat) (h : i < l.length) : rd_T75 l (i : Int) = l[i] := by
  unfold rd_T75
  rw [Int.toNat_natCast, List.getD_eq_getElem?_getD, List.getElem?_eq_getElem h]
  rfl
def convP (x : S136) : S75 := ⟨x.f0, x.f1⟩
theorem toPoints_l (l : List S136) (hb : l.length < 9223372036854775807) (d : Nat) : ∀ i : Nat, i + d = l.length → Ev (fun k => laws_toPointS.l0 k l ((l.map convP).take i ++ List.replicate d z75) (i : Int)) (l.map convP) := by
  induction d with
  | zero =>
    intro i hi
    refine Ev.step (f := fun _ => some (l.map convP)) (fun k => ?_) (Ev.now _)
    simp only [laws_toPointS.l0]
    rw [if_neg (by omega), List.take_of_length_le (by simp; omega)]
    simp
  | succ d ih =>
    intro i hi
    have h1 : i < l.length := by omega
    refine Ev.step (fun k => ?_) (ih (i + 1) (by omega))
    simp only [laws_toPointS.l0, laws_toPoint.f, Option.bind_some]
    rw [if_pos (by omega), if_pos (by omega), if_pos (by simp; omega), rdp_at l i h1, w1 i (by omega)]
    congr 1
    have hm : i < (l.map convP).length := by simpa using h1
    rw [Int.toNat_natCast, List.set_append_right _ _ (by simp; omega), List.take_succ_eq_append_getElem hm, List.replicate_succ]
    simp only [List.length_take, List.length_map, Nat.min_eq_left (show i ≤ l.length by omega), Nat.sub_self, List.set_cons_zero, List.append_assoc, List.singleton_append, List.getElem_map, convP]
theorem toPoints (l : List S136) (hb : l.length ≤ 1048576) : Ev (fun k => laws_toPointS.f k l) (l.map convP) := by
  unfold laws_toPointS.f
  simp only [if_pos (show (0 : Int) ≤ (l.length : Int) by omega), Int.toNat_natCast, if_pos (show l.length ≤ 17592186044416 by omega)]
  have := toPoints_l l (by omega) l.length 0 (by omega)
  simpa using this
theorem eqPoints_l (l : List S75) (hb : l.length < 9223372036854775807) (d : Nat) : ∀ i : Nat, i + d = l.length → Ev (fun k => laws_eqPointS.l0 k l l (i : Int)) true := by
  induction d with
  | zero =>
    intro i hi
    refine Ev.step (f := fun _ => some true) (fun k => ?_) (Ev.now _)
    simp only [laws_eqPointS.l0]
    rw [if_neg (by omega)]
  | succ d ih =>
    intro i hi
    have h1 : i < l.length := by omega
    refine Ev.step (fun k => ?_) (ih (i + 1) (by omega))
    simp only [laws_eqPointS.l0, laws_eqPoint.f]
    rw [if_pos (by omega), if_pos (by omega), if_pos (by omega), w1 i (by omega)]
    simp
theorem eqPoints (l : List S75) (hb : l.length < 9223372036854775807) : Ev (fun k => laws_eqPointS.f k l l) true := by
  unfold laws_eqPointS.f
  simp only [if_true]
  exact eqPoints_l l hb l.length 0 (by omega)
theorem toFeature1 (a b c : Int) (s : ByteArray) (l : List S136) (hl : l.length ≤ 1048576) : Ev (fun k => laws_toFeature.f k a b c s l) (a, b, c, s, l.map convP) := by
  unfold laws_toFeature.f
  exact Ev.bind (toPoints l hl) (Ev.now _)
theorem eqFeature1 (a b c : Int) (s : ByteArray) (l : List S75) (hl : l.length < 9223372036854775807) : Ev (fun k => laws_eqFeature.f k a b c s l a b c s l) true := by
  unfold laws_eqFeature.f
  simp only [if_true]
  refine Ev.bind (eqPoints l hl) ?_
  simp only [if_true]
  exact Ev.now _
theorem szFeature1 (a b c : Int) (s : ByteArray) (hs : s.size ≤ 9223372036854775807) (l : List S136) (hl : l.length ≤ 9223372036854775807) (n : Int) (h0 : 0 ≤ n) (h1 : n ≤ 1048576) : ∃ r, laws_szFeature.f a b c s l n = some r ∧ (¬ r < 0 → l.length ≤ 1048576 ∧ s.size ≤ 1048576 ∧ 0 ≤ r ∧ r ≤ 1048576) := by
  unfold laws_szFeature.f laws_szPointS.f
  have w : wrap64 (n - (s.size : Int)) = n - (s.size : Int) := by unfold wrap64; omega
  rw [w]
  by_cases hc : n - (s.size : Int) < 0
  · rw [if_pos hc]; exact ⟨_, rfl, fun h => by omega⟩
  · have w2 : wrap64 (n - (s.size : Int) - (l.length : Int)) = n - (s.size : Int) - (l.length : Int) := by unfold wrap64; omega
    rw [if_neg hc, w2]
    by_cases hc2 : n - (s.size : Int) - (l.length : Int) < 0
    · rw [if_pos hc2]; exact ⟨-1, rfl, fun h => by omega⟩
    · rw [if_neg hc2]; exact ⟨n - (s.size : Int) - (l.length : Int), by simp only [Option.bind_some]; rw [if_neg hc2], fun h => by omega⟩
theorem rdf_at (l : List S52) (i : Nat) (h : i < l.length) : rd_T52 l (i : Int) = l[i] := by
  unfold rd_T52
  rw [Int.toNat_natCast, List.getD_eq_getElem?_getD, List.getElem?_eq_getElem h]
  rfl
theorem rdF_at (l : List S59) (i : Nat) (h : i < l.length) : rd_T59 l (i : Int) = l[i] := by
  unfold rd_T59
  rw [Int.toNat_natCast, List.getD_eq_getElem?_getD, List.getElem?_eq_getElem h]
  rfl
def convF (x : S52) : S59 := ⟨x.f0, x.f1, x.f2, x.f3, x.f4.map convP⟩
theorem toFeatures_l (l : List S52) (hb : l.length < 9223372036854775807) (hp : ∀ x ∈ l, x.f4.length ≤ 1048576) (d : Nat) : ∀ i : Nat, i + d = l.length → Ev (fun k => laws_toFeatureS.l0 k l ((l.map convF).take i ++ List.replicate d z59) (i : Int)) (l.map convF) := by
  induction d with
  | zero =>
    intro i hi
    refine Ev.step (f := fun _ => some (l.map convF)) (fun k => ?_) (Ev.now _)
    simp only [laws_toFeatureS.l0]
    rw [if_neg (by omega), List.take_of_length_le (by simp; omega)]
    simp
  | succ d ih =>
    intro i hi
    have h1 : i < l.length := by omega
    have ht := toPoints l[i].f4 (hp _ (List.getElem_mem h1))
    have hf : Ev (fun k => laws_toFeature.f k l[i].f0 l[i].f1 l[i].f2 l[i].f3 l[i].f4) (l[i].f0, l[i].f1, l[i].f2, l[i].f3, l[i].f4.map convP) := by
      unfold laws_toFeature.f
      exact Ev.bind ht (Ev.now _)
    refine Ev.step (f := fun k => (laws_toFeature.f k l[i].f0 l[i].f1 l[i].f2 l[i].f3 l[i].f4).bind fun b => laws_toFeatureS.l0 k l (((l.map convF).take i ++ List.replicate (d + 1) z59).set i (⟨b.1, b.2.1, b.2.2.1, b.2.2.2.1, b.2.2.2.2⟩ : S59)) ((i + 1 : Nat) : Int)) (fun k => ?_) (Ev.bind hf ?_)
    · simp only [laws_toFeatureS.l0]
      have hlen : (i : Int) < (((l.map convF).take i ++ List.replicate (d + 1) z59).length : Int) := by simp; omega
      rw [if_pos (by omega), if_pos (by omega), rdf_at l i h1, w1 i (by omega), Int.toNat_natCast]
      simp only [if_pos hlen]
    · have hm : i < (l.map convF).length := by simpa using h1
      have e : ((l.map convF).take i ++ List.replicate (d + 1) z59).set i (⟨l[i].f0, l[i].f1, l[i].f2, l[i].f3, l[i].f4.map convP⟩ : S59) = (l.map convF).take (i + 1) ++ List.replicate d z59 := by
        rw [List.set_append_right _ _ (by simp; omega), List.take_succ_eq_append_getElem hm, List.replicate_succ]
        simp only [List.length_take, List.length_map, Nat.min_eq_left (show i ≤ l.length by omega), Nat.sub_self, List.set_cons_zero, List.append_assoc, List.singleton_append, List.getElem_map, convF]
      simp only [e]
      exact ih (i + 1) (by omega)
theorem toFeatures (l : List S52) (hb : l.length ≤ 1048576) (hp : ∀ x ∈ l, x.f4.length ≤ 1048576) : Ev (fun k => laws_toFeatureS.f k l) (l.map convF) := by
  unfold laws_toFeatureS.f
  simp only [if_pos (show (0 : Int) ≤ (l.length : Int) by omega), Int.toNat_natCast, if_pos (show l.length ≤ 4398046511104 by omega)]
  have := toFeatures_l l (by omega) hp l.length 0 (by omega)
  simpa using this
theorem eqFeatures_l (l : List S59) (hb : l.length < 9223372036854775807) (hp : ∀ x ∈ l, x.f4.length < 9223372036854775807) (d : Nat) : ∀ i : Nat, i + d = l.length → Ev (fun k => laws_eqFeatureS.l0 k l l (i : Int)) true := by
  induction d with
  | zero =>
    intro i hi
    refine Ev.step (f := fun _ => some true) (fun k => ?_) (Ev.now _)
    simp only [laws_eqFeatureS.l0]
    rw [if_neg (by omega)]
  | succ d ih =>
    intro i hi
    have h1 : i < l.length := by omega
    have hf : Ev (fun k => laws_eqFeature.f k l[i].f0 l[i].f1 l[i].f2 l[i].f3 l[i].f4 l[i].f0 l[i].f1 l[i].f2 l[i].f3 l[i].f4) true := by
      unfold laws_eqFeature.f
      simp only [if_true]
      refine Ev.bind (eqPoints l[i].f4 (hp _ (List.getElem_mem h1))) ?_
      simp only [if_true]
      exact Ev.now _
    refine Ev.step (f := fun k => (laws_eqFeature.f k l[i].f0 l[i].f1 l[i].f2 l[i].f3 l[i].f4 l[i].f0 l[i].f1 l[i].f2 l[i].f3 l[i].f4).bind fun t => if t = true then laws_eqFeatureS.l0 k l l ((i + 1 : Nat) : Int) else some false) (fun k => ?_) (Ev.bind hf ?_)
    · simp only [laws_eqFeatureS.l0]
      rw [if_pos (by omega), if_pos (by omega), if_pos (by omega), rdF_at l i h1, w1 i (by omega)]
    · simp only [if_true]
      exact ih (i + 1) (by omega)
theorem eqFeatures (l : List S59) (hb : l.length < 9223372036854775807) (hp : ∀ x ∈ l, x.f4.length < 9223372036854775807) : Ev (fun k => laws_eqFeatureS.f k l l) true := by
  unfold laws_eqFeatureS.f
  simp only [if_true]
  exact eqFeatures_l l hb hp l.length 0 (by omega)
theorem szFeatures_l (l : List S52) (hl : ∀ x ∈ l, x.f3.size ≤ 9223372036854775807 ∧ x.f4.length ≤ 9223372036854775807) (hb : l.length < 9223372036854775807) (d : Nat) :
    ∀ (i : Nat) (n : Int), i + d = l.length → 0 ≤ n → n ≤ 1048576 → ∃ r, Ev (fun k => laws_szFeatureS.l0 k l n (i : Int)) r ∧ (¬ r < 0 → ∀ x ∈ l.drop i, x.f3.size ≤ 1048576 ∧ x.f4.length ≤ 1048576) := by
  induction d with
  | zero =>
    intro i n hi h0 h1
    have e : l.drop i = [] := List.drop_of_length_le (by omega)
    rw [e]
    refine ⟨n, Ev.step (f := fun _ => some n) (fun k => ?_) (Ev.now _), fun _ x hx => by simp at hx⟩
    simp only [laws_szFeatureS.l0]
    rw [if_neg (by omega)]
  | succ d ih =>
    intro i n hi h0 h1
    have hl1 : i < l.length := by omega
    obtain ⟨hx1, hx2⟩ := hl _ (List.getElem_mem hl1)
    have e := List.drop_eq_getElem_cons hl1
    rw [e]
    have hw : wrap64 (n - (l[i].f3.size : Int)) = n - (l[i].f3.size : Int) := by unfold wrap64; omega
    by_cases hc : n - (l[i].f3.size : Int) < 0
    · refine ⟨-1, Ev.step (f := fun _ => some (-1)) (fun k => ?_) (Ev.now _), fun h => by omega⟩
      simp only [laws_szFeatureS.l0, laws_szFeature.f]
      rw [if_pos (by omega), if_pos (by omega), rdf_at l i hl1, hw, if_pos hc]
      rfl
    · have hw2 : wrap64 (n - (l[i].f3.size : Int) - (l[i].f4.length : Int)) = n - (l[i].f3.size : Int) - (l[i].f4.length : Int) := by unfold wrap64; omega
      by_cases hc2 : n - (l[i].f3.size : Int) - (l[i].f4.length : Int) < 0
      · refine ⟨-1, Ev.step (f := fun _ => some (-1)) (fun k => ?_) (Ev.now _), fun h => by omega⟩
        simp only [laws_szFeatureS.l0, laws_szFeature.f, laws_szPointS.f]
        rw [if_pos (by omega), if_pos (by omega), rdf_at l i hl1, hw, if_neg hc, hw2, if_pos hc2]
        rfl
      · obtain ⟨r, hr, hr2⟩ := ih (i + 1) (n - (l[i].f3.size : Int) - (l[i].f4.length : Int)) (by omega) (by omega) (by omega)
        refine ⟨r, Ev.step (fun k => ?_) hr, fun h x hx => ?_⟩
        · simp only [laws_szFeatureS.l0, laws_szFeature.f, laws_szPointS.f]
          rw [if_pos (by omega), if_pos (by omega), rdf_at l i hl1, hw, if_neg hc, hw2, if_neg hc2]
          simp only [Option.bind_some]
          rw [if_neg hc2]
          simp only [Option.bind_some]
          rw [if_neg hc2, w1 i (by omega)]
        · rcases List.mem_cons.1 hx with hx | hx
          · subst hx; omega
          · exact hr2 h x hx
theorem szFeatures (l : List S52) (hl : ∀ x ∈ l, x.f3.size ≤ 9223372036854775807 ∧ x.f4.length ≤ 9223372036854775807) (hb : l.length ≤ 9223372036854775807) : ∃ r, Ev (fun k => laws_szFeatureS.f k l 1048576) r ∧ (¬ r < 0 → l.length ≤ 1048576 ∧ ∀ x ∈ l, x.f3.size ≤ 1048576 ∧ x.f4.length ≤ 1048576) := by
  unfold laws_szFeatureS.f
  have hw : wrap64 (1048576 - (l.length : Int)) = 1048576 - (l.length : Int) := by unfold wrap64; omega
  rw [hw]
  by_cases hc : 1048576 - (l.length : Int) < 0
  · exact ⟨-1, by simp only [if_pos hc]; exact Ev.now _, fun h => by omega⟩
  · simp only [if_neg hc]
    obtain ⟨r, hr, hr2⟩ := szFeatures_l l hl (by omega) l.length 0 (1048576 - (l.length : Int)) (by omega) (by omega) (by omega)
    exact ⟨r, hr, fun h => ⟨by omega, by simpa using hr2 h⟩⟩
theorem rdFg (l : List S59) (i : Nat) : rd_T59 l (i : Int) = l.getD i z59 := by unfold rd_T59; rw [Int.toNat_natCast]
def ftF (x : S59) : Bool := ftB x.f0 x.f1 x.f2 x.f3 x.f4
def chk (l : List S59) (i : Nat) : Bool := ftF (l.getD i z59) && (decide (i = 0) || decide ((l.getD (i - 1) z59).f0 < (l.getD i z59).f0))
def srcR (l : List S59) (i d : Nat) : Bool := (List.range' i d).all (chk l)
/-- That features are a source. -/
def srB (l : List S59) : Bool := srcR l 0 l.length && decide ((l.length : Int) ≤ 16)
section
variable (l : List S59) (hb : l.length < 9223372036854775807) (hx : ∀ x ∈ l, x.f3.size ≤ 9223372036854775807 ∧ x.f4.length < 9223372036854775807)
include hb hx
theorem src_sl (d : Nat) : ∀ i : Nat, i + d = l.length → Ev (fun k => spec_IsSource.l0 k l (i : Int)) (srcR l i d && decide ((l.length : Int) ≤ 16)) := by
  induction d with
  | zero =>
    intro i hi
    refine Ev.step (f := fun _ => some (decide ((l.length : Int) ≤ 16))) (fun k => ?_) (by simp only [srcR, List.range'_zero, List.all_nil, Bool.true_and]; exact Ev.now _)
    simp only [spec_IsSource.l0]
    rw [if_neg (by omega)]
  | succ d ih =>
    intro i hi
    have hlt : i < l.length := by omega
    have hm : l.getD i z59 ∈ l := by rw [List.getD_eq_getElem?_getD, List.getElem?_eq_getElem hlt]; exact List.getElem_mem hlt
    obtain ⟨g1, g2⟩ := hx _ hm
    have e : srcR l i (d + 1) = (chk l i && srcR l (i + 1) d) := by unfold srcR; rw [List.range'_succ, List.all_cons]
    rw [e]
    have hr := ih (i + 1) (by omega)
    have ft := ft_s (l.getD i z59).f0 (l.getD i z59).f1 (l.getD i z59).f2 (l.getD i z59).f3 g1 (l.getD i z59).f4 g2
    refine Ev.step (f := fun k => (spec_IsFeature.f k (l.getD i z59).f0 (l.getD i z59).f1 (l.getD i z59).f2 (l.getD i z59).f3 (l.getD i z59).f4).bind fun t242 => (if t242 = true then (if (i : Int) > 0 then (if 0 ≤ (wrap64 ((i : Int) - 1)) then (if (wrap64 ((i : Int) - 1)) < (l.length : Int) then (if ((rd_T59 l (wrap64 ((i : Int) - 1))).f0) ≥ ((l.getD i z59).f0) then (some false) else (spec_IsSource.l0 k l ((i + 1 : Nat) : Int))) else (none)) else (none)) else (spec_IsSource.l0 k l ((i + 1 : Nat) : Int))) else (some false))) (fun k => ?_) (Ev.bind ft ?_)
    · simp only [spec_IsSource.l0]
      rw [if_pos (by omega), if_pos (by omega), rdFg, w1' i (by omega)]
    · unfold chk ftF
      cases hf : ftB (l.getD i z59).f0 (l.getD i z59).f1 (l.getD i z59).f2 (l.getD i z59).f3 (l.getD i z59).f4
      · simp only [Bool.false_eq_true, if_false, Bool.false_and]; exact Ev.now _
      · simp only [if_true, Bool.true_and]
        by_cases h0 : i = 0
        · subst h0
          simp only [if_neg (show ¬ (((0 : Nat) : Int) > 0) by omega), decide_true, Bool.true_or, Bool.true_and]
          exact hr
        · have hw : wrap64 ((i : Int) - 1) = ((i - 1 : Nat) : Int) := by unfold wrap64; omega
          simp only [if_pos (show (i : Int) > 0 by omega), hw, if_pos (show 0 ≤ ((i - 1 : Nat) : Int) by omega), if_pos (show ((i - 1 : Nat) : Int) < (l.length : Int) by omega), rdFg, decide_eq_false h0, Bool.false_or]
          by_cases hc : (l.getD (i - 1) z59).f0 < (l.getD i z59).f0
          · simp only [if_neg (show ¬ ((l.getD (i - 1) z59).f0 ≥ (l.getD i z59).f0) by omega), decide_eq_true hc, Bool.true_and]
            exact hr
          · simp only [if_pos (show (l.getD (i - 1) z59).f0 ≥ (l.getD i z59).f0 by omega), decide_eq_false hc, Bool.false_and]
            exact Ev.now _
theorem src_il (d : Nat) : ∀ i : Nat, i + d = l.length → Ev (fun k => impl_IsSource.l0 k l l (l.length : Int) (i : Int)) (srcR l i d) := by
  induction d with
  | zero =>
    intro i hi
    refine Ev.step (f := fun _ => some true) (fun k => ?_) (Ev.now _)
    simp only [impl_IsSource.l0]
    rw [if_neg (by omega)]
  | succ d ih =>
    intro i hi
    have hlt : i < l.length := by omega
    have hm : l.getD i z59 ∈ l := by rw [List.getD_eq_getElem?_getD, List.getElem?_eq_getElem hlt]; exact List.getElem_mem hlt
    obtain ⟨g1, g2⟩ := hx _ hm
    have e : srcR l i (d + 1) = (chk l i && srcR l (i + 1) d) := by unfold srcR; rw [List.range'_succ, List.all_cons]
    rw [e]
    have hr := ih (i + 1) (by omega)
    have ft := ft_i (l.getD i z59).f0 (l.getD i z59).f1 (l.getD i z59).f2 (l.getD i z59).f3 g1 (l.getD i z59).f4 g2
    refine Ev.step (f := fun k => (impl_IsFeature.f k (l.getD i z59).f0 (l.getD i z59).f1 (l.getD i z59).f2 (l.getD i z59).f3 (l.getD i z59).f4).bind fun t242 => (if t242 = true then (if (i : Int) > 0 then (if 0 ≤ (wrap64 ((i : Int) - 1)) then (if (wrap64 ((i : Int) - 1)) < (l.length : Int) then (if ((l.getD i z59).f0) ≤ ((rd_T59 l (wrap64 ((i : Int) - 1))).f0) then (some false) else (impl_IsSource.l0 k l l (l.length : Int) ((i + 1 : Nat) : Int))) else (none)) else (none)) else (impl_IsSource.l0 k l l (l.length : Int) ((i + 1 : Nat) : Int))) else (some false))) (fun k => ?_) (Ev.bind ft ?_)
    · simp only [impl_IsSource.l0]
      rw [if_pos (by omega), if_pos (by omega), if_pos (by omega), rdFg, w1' i (by omega)]
    · unfold chk ftF
      cases hf : ftB (l.getD i z59).f0 (l.getD i z59).f1 (l.getD i z59).f2 (l.getD i z59).f3 (l.getD i z59).f4
      · simp only [Bool.false_eq_true, if_false, Bool.false_and]; exact Ev.now _
      · simp only [if_true, Bool.true_and]
        by_cases h0 : i = 0
        · subst h0
          simp only [if_neg (show ¬ (((0 : Nat) : Int) > 0) by omega), decide_true, Bool.true_or, Bool.true_and]
          exact hr
        · have hw : wrap64 ((i : Int) - 1) = ((i - 1 : Nat) : Int) := by unfold wrap64; omega
          simp only [if_pos (show (i : Int) > 0 by omega), hw, if_pos (show 0 ≤ ((i - 1 : Nat) : Int) by omega), if_pos (show ((i - 1 : Nat) : Int) < (l.length : Int) by omega), rdFg, decide_eq_false h0, Bool.false_or]
          by_cases hc : (l.getD (i - 1) z59).f0 < (l.getD i z59).f0
          · simp only [if_neg (show ¬ ((l.getD i z59).f0 ≤ (l.getD (i - 1) z59).f0) by omega), decide_eq_true hc, Bool.true_and]
            exact hr
          · simp only [if_pos (show (l.getD i z59).f0 ≤ (l.getD (i - 1) z59).f0 by omega), decide_eq_false hc, Bool.false_and]
            exact Ev.now _
theorem src_s : Ev (fun k => spec_IsSource.f k l) (srB l) := src_sl l hb hx l.length 0 (by omega)
theorem src_i : Ev (fun k => impl_IsSource.f k l) (srB l) := by
  unfold impl_IsSource.f srB
  by_cases h : (l.length : Int) > 16
  · simp only [if_pos h, decide_eq_false (show ¬ ((l.length : Int) ≤ 16) by omega), Bool.and_false]; exact Ev.now _
  · simp only [if_neg h, decide_eq_true (show (l.length : Int) ≤ 16 by omega), Bool.and_true]
    exact src_il l hb hx l.length 0 (by omega)
end
theorem mfT_bound (l : List S59) (h : ∀ x ∈ l, x.f4.length ≤ 1048576) : mfT l ≤ l.length * 2097156 := by
  induction l with
  | nil => simp [mfT]
  | cons x l ih =>
    have h1 := h x (by simp)
    have h2 := ih (fun y hy => h y (by simp [hy]))
    simp only [mfT, List.length_cons, Nat.add_mul, Nat.one_mul]
    omega
theorem markF (l : List S59) (hb : l.length ≤ 1048576) (h : ∀ x ∈ l, x.f4.length ≤ 1048576) : laws_markFeatureS.f l 1 = some (1 + (mfT l : Int)) := by
  have := mfT_bound l h
  unfold laws_markFeatureS.f
  rw [if_pos ⟨by omega, by omega⟩]
theorem rdPc (l : List S56) (i : Nat) : rd_T56 l (i : Int) = l.getD i z56 := by unfold rd_T56; rw [Int.toNat_natCast]
theorem eqPieces_l (l : List S56) (hb : l.length < 9223372036854775807) (d : Nat) : ∀ i : Nat, i + d = l.length → Ev (fun k => laws_eqPieceS.l0 k l l (i : Int)) true := by
  induction d with
  | zero =>
    intro i hi
    refine Ev.step (f := fun _ => some true) (fun k => ?_) (Ev.now _)
    simp only [laws_eqPieceS.l0]
    rw [if_neg (by omega)]
  | succ d ih =>
    intro i hi
    refine Ev.step (fun k => ?_) (ih (i + 1) (by omega))
    simp only [laws_eqPieceS.l0, laws_eqPiece.f, if_true, Option.bind_some]
    rw [if_pos (by omega), if_pos (by omega), if_pos (by omega), w1' i (by omega)]
theorem eqPieces (l : List S56) (hb : l.length < 9223372036854775807) : Ev (fun k => laws_eqPieceS.f k l l) true := by
  unfold laws_eqPieceS.f
  simp only [if_true]
  exact eqPieces_l l hb l.length 0 (by omega)
def Mk (M : List S56) (n : Nat) : Prop := ∀ j : Nat, j < n → M.getD j z56 = ⟨1 + 2 * (j : Int), 2 + 2 * (j : Int)⟩
theorem markPieces_l (n : Nat) (hn : n ≤ 1000000000000000) (d : Nat) : ∀ (i : Nat) (M : List S56), i + d = n → M.length = n → Mk M i → ∃ M' : List S56, Ev (fun k => laws_markPieceS.l0 k M (1 + 2 * (i : Int)) (i : Int)) (1 + 2 * (n : Int), M') ∧ M'.length = n ∧ Mk M' n := by
  induction d with
  | zero =>
    intro i M hi hl hM
    have hin : i = n := by omega
    subst hin
    refine ⟨M, Ev.step (f := fun _ => some (1 + 2 * (i : Int), M)) (fun k => ?_) (Ev.now _), hl, hM⟩
    simp only [laws_markPieceS.l0]
    rw [if_neg (by omega)]
  | succ d ih =>
    intro i M hi hl hM
    have w0 : wrap64 (1 + 2 * (i : Int) + 1) = 2 + 2 * (i : Int) := by unfold wrap64; omega
    have w2 : wrap64 (2 + 2 * (i : Int) + 1) = 1 + 2 * ((i + 1 : Nat) : Int) := by unfold wrap64; omega
    have hL : ((M.set i (⟨1 + 2 * (i : Int), (rd_T56 M (i : Int)).f1⟩ : S56)).set i (⟨(rd_T56 (M.set i (⟨1 + 2 * (i : Int), (rd_T56 M (i : Int)).f1⟩ : S56)) (i : Int)).f0, 2 + 2 * (i : Int)⟩ : S56)) = M.set i ⟨1 + 2 * (i : Int), 2 + 2 * (i : Int)⟩ := by
      rw [List.set_set, rdPc (M.set i _), List.getD_eq_getElem?_getD, List.getElem?_set, if_pos rfl, if_pos (by omega)]; rfl
    obtain ⟨M', e, h1, h2⟩ := ih (i + 1) (M.set i ⟨1 + 2 * (i : Int), 2 + 2 * (i : Int)⟩) (by omega) (by rw [List.length_set]; exact hl) (by
      intro j hj
      by_cases hji : j = i
      · subst hji
        rw [List.getD_eq_getElem?_getD, List.getElem?_set, if_pos rfl, if_pos (by omega)]; rfl
      · rw [List.getD_eq_getElem?_getD, List.getElem?_set, if_neg (fun h => hji h.symm), ← List.getD_eq_getElem?_getD]
        exact hM j (by omega))
    refine ⟨M', Ev.step (fun k => ?_) e, h1, h2⟩
    simp only [laws_markPieceS.l0, Option.bind_some]
    rw [if_pos (by omega), if_pos (by omega), Int.toNat_natCast, w0, w2, w1' i (by omega), hL]
theorem heldPieces_l (n : Nat) (hn : n ≤ 1000000000000000) (M : List S56) (hl : M.length = n) (hM : Mk M n) (d : Nat) : ∀ i : Nat, i + d = n → Ev (fun k => laws_heldPieceS.l0 k M (1 + 2 * (i : Int)) (i : Int)) (1 + 2 * (n : Int)) := by
  induction d with
  | zero =>
    intro i hi
    have hin : i = n := by omega
    subst hin
    refine Ev.step (f := fun _ => some (1 + 2 * (i : Int))) (fun k => ?_) (Ev.now _)
    simp only [laws_heldPieceS.l0]
    rw [if_neg (by omega)]
  | succ d ih =>
    intro i hi
    have w0 : wrap64 (1 + 2 * (i : Int) + 1) = 2 + 2 * (i : Int) := by unfold wrap64; omega
    have w2 : wrap64 (2 + 2 * (i : Int) + 1) = 1 + 2 * ((i + 1 : Nat) : Int) := by unfold wrap64; omega
    refine Ev.step (fun k => ?_) (ih (i + 1) (by omega))
    simp only [laws_heldPieceS.l0, rdPc, hM i (by omega), w0, w2, if_true]
    rw [if_pos (by omega), if_pos (by omega), w1' i (by omega)]
theorem markPieces (l : List S56) (hn : l.length ≤ 1000000000000000) : ∃ M : List S56, Ev (fun k => laws_markPieceS.f k l 1) (1 + 2 * (l.length : Int), M) ∧ Ev (fun k => laws_heldPieceS.f k M 1) (1 + 2 * (l.length : Int)) := by
  obtain ⟨M, e, h1, h2⟩ := markPieces_l l.length hn l.length 0 l (by omega) rfl (fun j hj => by omega)
  exact ⟨M, e, heldPieces_l l.length hn M h1 h2 l.length 0 (by omega)⟩
theorem pcB_len (a b c : Int) (s : ByteArray) (l : List S75) (e f g h : Int) : (pcB a b c s l e f g h).length ≤ 1000 := by
  unfold pcB
  split
  · split <;> simp
  · unfold fpB
    rw [List.length_map]
    have h1 := List.length_filter_le (fun j => mbB ((prB a b c s l).getD j z133).f0.f0 ((prB a b c s l).getD j z133).f0.f1 ((prB a b c s l).getD j z133).f1.f0 ((prB a b c s l).getD j z133).f1.f1 e f g h) (List.range' 0 (prB a b c s l).length)
    rw [List.length_range'] at h1
    have := prB_len a b c s l
    omega
def pcF (x : S59) (e f g h : Int) : List S56 := pcB x.f0 x.f1 x.f2 x.f3 x.f4 e f g h
def pnF (l : List S59) (e f g h : Int) (i d : Nat) : List S56 := (List.range' i d).flatMap fun i => pcF (l.getD i z59) e f g h
theorem pnF_step (l : List S59) (e f g h : Int) (i d : Nat) : pnF l e f g h i (d + 1) = pcF (l.getD i z59) e f g h ++ pnF l e f g h (i + 1) d := by unfold pnF; rw [List.range'_succ, List.flatMap_cons]
theorem pnF_len (l : List S59) (e f g h : Int) (d : Nat) : ∀ i, (pnF l e f g h i d).length ≤ 1000 * d := by
  induction d with
  | zero => intro i; simp [pnF]
  | succ d ih =>
    intro i
    have h1 := pcB_len (l.getD i z59).f0 (l.getD i z59).f1 (l.getD i z59).f2 (l.getD i z59).f3 (l.getD i z59).f4 e f g h
    have h2 := ih (i + 1)
    rw [pnF_step, List.length_append]
    unfold pcF
    omega
theorem src_ft {l : List S59} (hs : srB l = true) (i : Nat) (hi : i < l.length) : ftF (l.getD i z59) = true := by
  unfold srB srcR at hs
  rw [Bool.and_eq_true, List.all_eq_true] at hs
  have := hs.1 i (by simp [List.mem_range']; omega)
  unfold chk at this
  rw [Bool.and_eq_true] at this
  exact this.1
theorem ft_len1 {x : S59} (h : ftF x = true) (h1 : x.f1 = 1) : x.f4.length = 1 := by
  unfold ftF ftB kdB at h
  simp only [Bool.and_eq_true] at h
  have h := h.2.2.2
  rw [if_pos h1, Bool.and_eq_true, decide_eq_true_eq] at h
  exact h.1
section
variable (l : List S59) (hb : l.length < 9223372036854775807) (hx : ∀ x ∈ l, x.f3.size ≤ 9223372036854775807 ∧ x.f4.length < 9223372036854775807)
include hb hx
theorem pn_sl (hs : srB l = true) (e f g h : Int) (d : Nat) : ∀ (i : Nat) (o : List S56), i + d = l.length → o.length + 1000 * d ≤ 900000 → Ev (fun k => spec_PiecesIn.l0 k l o true (i : Int) e f g h) (o ++ pnF l e f g h i d) := by
  induction d with
  | zero =>
    intro i o hi ho
    rw [show pnF l e f g h i 0 = [] from rfl, List.append_nil]
    refine Ev.step (f := fun k => spec_PiecesIn.j1 k l o true (i : Int) false e f g h) (fun k => ?_) (Ev.step (f := fun _ => some o) (fun k => by simp [spec_PiecesIn.j1]) (Ev.now _))
    simp only [spec_PiecesIn.l0]
    rw [if_neg (by omega)]
  | succ d ih =>
    intro i o hi ho
    have hlt : i < l.length := by omega
    have hm : l.getD i z59 ∈ l := by rw [List.getD_eq_getElem?_getD, List.getElem?_eq_getElem hlt]; exact List.getElem_mem hlt
    obtain ⟨g1, g2⟩ := hx _ hm
    have hft := src_ft hs i hlt
    have src := src_s l hb hx
    rw [hs] at src
    have hlen := pcB_len (l.getD i z59).f0 (l.getD i z59).f1 (l.getD i z59).f2 (l.getD i z59).f3 (l.getD i z59).f4 e f g h
    have hr := ih (i + 1) (o ++ pcF (l.getD i z59) e f g h) (by omega) (by rw [List.length_append]; unfold pcF; omega)
    rw [pnF_step, ← List.append_assoc]
    have pr := pr_s (l.getD i z59).f0 (l.getD i z59).f1 (l.getD i z59).f2 (l.getD i z59).f3 g1 (l.getD i z59).f4 g2
    have pc := pc_s (l.getD i z59).f0 (l.getD i z59).f1 (l.getD i z59).f2 (l.getD i z59).f3 (l.getD i z59).f4 (ft_len1 hft) e f g h
    refine Ev.step (f := fun k => (spec_IsSource.f k l).bind fun t190 => spec_PiecesIn.j1 k l o true (i : Int) t190 e f g h) (fun k => ?_) (Ev.bind src ?_)
    · simp only [spec_PiecesIn.l0, if_true]
      rw [if_pos (by omega)]
    · refine Ev.step (f := fun k => (spec_PartsOf.f k (l.getD i z59).f0 (l.getD i z59).f1 (l.getD i z59).f2 (l.getD i z59).f3 (l.getD i z59).f4).bind fun t329 => ((spec_l20Pieces.f k (l.getD i z59).f0 (l.getD i z59).f1 (l.getD i z59).f2 (l.getD i z59).f3 (l.getD i z59).f4 t329 e f g h).bind fun t332 => (if o.length + t332.length < 8796093022208 then (spec_PiecesIn.l0 k l (o ++ t332) true ((i + 1 : Nat) : Int) e f g h) else (none)))) (fun k => ?_) (Ev.bind pr (Ev.bind pc ?_))
      · simp only [spec_PiecesIn.j1, if_true, rdFg]
        rw [if_pos (by omega), if_pos (by omega), w1' i (by omega)]
      · simp only [if_pos (show o.length + (pcB (l.getD i z59).f0 (l.getD i z59).f1 (l.getD i z59).f2 (l.getD i z59).f3 (l.getD i z59).f4 e f g h).length < 8796093022208 by omega)]
        exact hr
theorem pn_il (hs : srB l = true) (e f g h : Int) (d : Nat) : ∀ (i : Nat) (o : List S56), i + d = l.length → o.length + 1000 * d ≤ 900000 → Ev (fun k => impl_PiecesIn.l0 k o l (l.length : Int) (i : Int) e f g h) (o ++ pnF l e f g h i d) := by
  induction d with
  | zero =>
    intro i o hi ho
    rw [show pnF l e f g h i 0 = [] from rfl, List.append_nil]
    refine Ev.step (f := fun _ => some o) (fun k => ?_) (Ev.now _)
    simp only [impl_PiecesIn.l0]
    rw [if_neg (by omega)]
  | succ d ih =>
    intro i o hi ho
    have hlt : i < l.length := by omega
    have hm : l.getD i z59 ∈ l := by rw [List.getD_eq_getElem?_getD, List.getElem?_eq_getElem hlt]; exact List.getElem_mem hlt
    obtain ⟨g1, g2⟩ := hx _ hm
    have hft := src_ft hs i hlt
    have hlen := pcB_len (l.getD i z59).f0 (l.getD i z59).f1 (l.getD i z59).f2 (l.getD i z59).f3 (l.getD i z59).f4 e f g h
    have hr := ih (i + 1) (o ++ pcF (l.getD i z59) e f g h) (by omega) (by rw [List.length_append]; unfold pcF; omega)
    rw [pnF_step, ← List.append_assoc]
    have pc := pc_i (l.getD i z59).f0 (l.getD i z59).f1 (l.getD i z59).f2 (l.getD i z59).f3 g1 (l.getD i z59).f4 g2 (ft_len1 hft) e f g h
    refine Ev.step (f := fun k => (impl_piecesOf.f k (l.getD i z59).f0 (l.getD i z59).f1 (l.getD i z59).f2 (l.getD i z59).f3 (l.getD i z59).f4 e f g h false).bind fun t528 => (if o.length + t528.length < 8796093022208 then (impl_PiecesIn.l0 k (o ++ t528) l (l.length : Int) ((i + 1 : Nat) : Int) e f g h) else (none))) (fun k => ?_) (Ev.bind pc ?_)
    · simp only [impl_PiecesIn.l0, rdFg]
      rw [if_pos (by omega), if_pos (by omega), if_pos (by omega), w1' i (by omega)]
    · simp only [if_pos (show o.length + (pcB (l.getD i z59).f0 (l.getD i z59).f1 (l.getD i z59).f2 (l.getD i z59).f3 (l.getD i z59).f4 e f g h).length < 8796093022208 by omega)]
      exact hr
omit hb hx in
theorem src16 (hs : srB l = true) : l.length ≤ 16 := by
  unfold srB at hs
  rw [Bool.and_eq_true, decide_eq_true_eq] at hs
  omega
/-- The pieces in a tile. -/
def pinV (l : List S59) (t : Int) : List S56 := if (tbB t).2.2.2.2 = true ∧ srB l = true then pnF l (tbB t).1 (tbB t).2.1 (tbB t).2.2.1 (tbB t).2.2.2.1 0 l.length else []
theorem pin_s (t : Int) : Ev (fun k => spec_PiecesIn.f k l t) (pinV l t) := by
  unfold spec_PiecesIn.f pinV
  simp only [tb_s, Option.bind_some]
  generalize tbB t = B
  obtain ⟨e, f, g, h, ok⟩ := B
  have dead : ∀ ok : Bool, Ev (fun k => spec_PiecesIn.j1 k l [] ok 0 false e f g h) [] := fun ok => Ev.step (f := fun _ => some []) (fun k => by simp [spec_PiecesIn.j1]) (Ev.now _)
  have src := src_s l hb hx
  cases ok with
  | false =>
    rw [if_neg (by simp)]
    by_cases h0 : (0 : Int) < (l.length : Int)
    · refine Ev.step (fun k => ?_) (dead false)
      simp only [spec_PiecesIn.l0, Bool.false_eq_true, if_false]
      rw [if_pos h0]
    · refine Ev.step (fun k => ?_) (dead false)
      simp only [spec_PiecesIn.l0]
      rw [if_neg h0]
  | true =>
    by_cases hs : srB l = true
    · rw [if_pos ⟨rfl, hs⟩]
      have h16 := src16 l hs
      have r := pn_sl l hb hx hs e f g h l.length 0 [] (by omega) (by simp; omega)
      rw [List.nil_append] at r
      exact r
    · rw [if_neg (fun q => hs q.2)]
      have hf : srB l = false := by simpa using hs
      rw [hf] at src
      by_cases h0 : (0 : Int) < (l.length : Int)
      · refine Ev.step (f := fun k => (spec_IsSource.f k l).bind fun t248 => spec_PiecesIn.j1 k l [] true 0 t248 e f g h) (fun k => ?_) (Ev.bind src (dead true))
        simp only [spec_PiecesIn.l0, if_true]
        rw [if_pos h0]
      · refine Ev.step (fun k => ?_) (dead true)
        simp only [spec_PiecesIn.l0]
        rw [if_neg h0]
theorem pin_i (t : Int) : Ev (fun k => impl_PiecesIn.f k l t) (pinV l t) := by
  unfold impl_PiecesIn.f pinV
  simp only [tb_i, Option.bind_some]
  generalize tbB t = B
  obtain ⟨e, f, g, h, ok⟩ := B
  have dead : Ev (fun k => impl_PiecesIn.j0 k l [] true e f g h) [] := Ev.step (f := fun _ => some []) (fun k => by simp [impl_PiecesIn.j0]) (Ev.now _)
  have src := src_i l hb hx
  cases ok with
  | false =>
    rw [if_neg (by simp)]
    simp only [Bool.false_eq_true, if_false]
    exact dead
  | true =>
    simp only [if_true]
    refine Ev.bind src ?_
    by_cases hs : srB l = true
    · rw [if_pos (And.intro trivial hs)]
      have h16 := src16 l hs
      have r := pn_il l hb hx hs e f g h l.length 0 [] (by omega) (by simp; omega)
      rw [List.nil_append] at r
      simp only [hs, Bool.not_true]
      exact Ev.step (fun k => by simp [impl_PiecesIn.j0]) r
    · rw [if_neg (fun q => hs q.2)]
      have hf : srB l = false := by simpa using hs
      simp only [hf, Bool.not_false]
      exact dead
omit hb hx in
theorem pinV_len (t : Int) : (pinV l t).length ≤ 900000 := by
  unfold pinV
  split
  · rename_i h
    have := src16 l h.2
    have := pnF_len l (tbB t).1 (tbB t).2.1 (tbB t).2.2.1 (tbB t).2.2.2.1 l.length 0
    omega
  · simp
end
/-- One piece stands ahead of another. -/
def plt (a b : S56) : Prop := a.f0 < b.f0 ∨ (a.f0 = b.f0 ∧ a.f1 < b.f1)
instance (a b : S56) : Decidable (plt a b) := inferInstanceAs (Decidable (_ ∨ _))
theorem plt_irr (a : S56) : ¬ plt a a := by unfold plt; omega
theorem plt_trans {a b c : S56} (h : plt a b) (h' : plt b c) : plt a c := by unfold plt at *; omega
theorem plt_tri {a b : S56} (h : ¬ plt a b) (h' : ¬ plt b a) : a = b := by
  obtain ⟨a0, a1⟩ := a
  obtain ⟨b0, b1⟩ := b
  unfold plt at *
  dsimp only at h h'
  congr <;> omega
theorem p_ext {a b : S56} (h : a.f0 = b.f0 ∧ a.f1 = b.f1) : a = b := by
  obtain ⟨a0, a1⟩ := a
  obtain ⟨b0, b1⟩ := b
  obtain ⟨rfl, rfl⟩ := h
  rfl
def AscP (l : List S56) : Prop := l.Pairwise plt
theorem ascP_eq : ∀ {a b : List S56}, AscP a → AscP b → (∀ x, x ∈ a ↔ x ∈ b) → a = b
  | [], [], _, _, _ => rfl
  | [], y :: b, _, _, h => absurd ((h y).2 (List.mem_cons_self ..)) (by simp)
  | x :: a, [], _, _, h => absurd ((h x).1 (List.mem_cons_self ..)) (by simp)
  | x :: a, y :: b, ha, hb, h => by
    have ha' := List.pairwise_cons.1 ha
    have hb' := List.pairwise_cons.1 hb
    have e : x = y := by
      rcases List.mem_cons.1 ((h x).1 (List.mem_cons_self ..)) with e | h1
      · exact e
      · rcases List.mem_cons.1 ((h y).2 (List.mem_cons_self ..)) with e | h2
        · exact e.symm
        · exact absurd (plt_trans (ha'.1 y h2) (hb'.1 x h1)) (plt_irr x)
    subst e
    rw [ascP_eq ha'.2 hb'.2 (fun z => ⟨fun hz => ?_, fun hz => ?_⟩)]
    · rcases List.mem_cons.1 ((h z).1 (List.mem_cons_of_mem _ hz)) with e | h1
      · subst e; exact absurd (ha'.1 z hz) (plt_irr z)
      · exact h1
    · rcases List.mem_cons.1 ((h z).2 (List.mem_cons_of_mem _ hz)) with e | h1
      · subst e; exact absurd (hb'.1 z hz) (plt_irr z)
      · exact h1
/-- Where a piece belongs: behind the last of the first k that is not above it. -/
def posP (l : List S56) (x : S56) : Nat → Nat
  | 0 => 0
  | k + 1 => if plt x (l.getD k z56) then posP l x k else k + 1
def putP (l : List S56) (x : S56) : List S56 := if 0 < posP l x l.length ∧ (l.getD (posP l x l.length - 1) z56).f0 = x.f0 ∧ (l.getD (posP l x l.length - 1) z56).f1 = x.f1 then l else l.take (posP l x l.length) ++ x :: l.drop (posP l x l.length)
theorem posP_le (l : List S56) (x : S56) : ∀ k, posP l x k ≤ k
  | 0 => Nat.le_refl _
  | k + 1 => by unfold posP; split; exact Nat.le_succ_of_le (posP_le l x k); exact Nat.le_refl _
theorem posP_hi (l : List S56) (x : S56) : ∀ k i, posP l x k ≤ i → i < k → plt x (l.getD i z56)
  | 0, _, _, h => by omega
  | k + 1, i, h, h' => by
    unfold posP at h
    split at h
    · rename_i h1
      by_cases e : i = k
      · subst e; exact h1
      · exact posP_hi l x k i h (by omega)
    · omega
theorem posP_lo (l : List S56) (x : S56) : ∀ k, 0 < posP l x k → ¬ plt x (l.getD (posP l x k - 1) z56)
  | 0, h => by simp [posP] at h
  | k + 1, h => by
    unfold posP at h ⊢
    split
    · rename_i h1
      rw [if_pos h1] at h
      exact posP_lo l x k h
    · rename_i h1
      simpa using h1
theorem getP_at (l : List S56) (i : Nat) (h : i < l.length) : l.getD i z56 = l[i] := by rw [List.getD_eq_getElem?_getD, List.getElem?_eq_getElem h]; rfl
theorem ascP_lt {l : List S56} (h : AscP l) {i j : Nat} (hij : i < j) (hj : j < l.length) : plt l[i] l[j] := List.pairwise_iff_getElem.1 h i j (by omega) hj hij
/-- In an ascending list all that stand ahead of the place are below the piece, unless it is there. -/
theorem putP_lo {l : List S56} {x : S56} (h : AscP l) (hn : ¬ (0 < posP l x l.length ∧ (l.getD (posP l x l.length - 1) z56).f0 = x.f0 ∧ (l.getD (posP l x l.length - 1) z56).f1 = x.f1)) {i : Nat} (hi : i < posP l x l.length) (hl : i < l.length) : plt l[i] x := by
  have hp : 0 < posP l x l.length := by omega
  have hle := posP_le l x l.length
  have h1 := posP_lo l x l.length hp
  have h2 : ¬ l.getD (posP l x l.length - 1) z56 = x := fun e => hn ⟨hp, by rw [e], by rw [e]⟩
  rw [getP_at l _ (by omega)] at h1 h2
  have h3 : plt l[posP l x l.length - 1] x := by
    by_cases h4 : plt l[posP l x l.length - 1] x
    · exact h4
    · exact absurd (plt_tri h4 h1) h2
  by_cases e : i = posP l x l.length - 1
  · subst e; exact h3
  · exact plt_trans (ascP_lt h (show i < posP l x l.length - 1 by omega) (by omega)) h3
theorem putP_mem {l : List S56} (x y : S56) : y ∈ putP l x ↔ y = x ∨ y ∈ l := by
  have hle := posP_le l x l.length
  unfold putP
  split
  · rename_i h
    have h := And.intro h.1 (p_ext h.2)
    rw [getP_at l _ (by omega)] at h
    constructor
    · exact .inr
    · rintro (rfl | h1)
      · rw [← h.2]; exact List.getElem_mem _
      · exact h1
  · rw [List.mem_append, List.mem_cons]
    constructor
    · rintro (h | h | h)
      · exact .inr (List.mem_of_mem_take h)
      · exact .inl h
      · exact .inr (List.mem_of_mem_drop h)
    · rintro (h | h)
      · exact .inr (.inl h)
      · rw [← List.take_append_drop (posP l x l.length) l, List.mem_append] at h
        exact h.elim .inl (fun h => .inr (.inr h))
theorem putP_asc {l : List S56} (h : AscP l) (x : S56) : AscP (putP l x) := by
  have hle := posP_le l x l.length
  unfold putP
  split
  · exact h
  · rename_i hn
    have hlo : ∀ y ∈ l.take (posP l x l.length), plt y x := by
      intro y hy
      obtain ⟨i, hi, rfl⟩ := List.getElem_of_mem hy
      rw [List.length_take] at hi
      rw [List.getElem_take]
      exact putP_lo h hn (by omega) (by omega)
    have hhi : ∀ y ∈ l.drop (posP l x l.length), plt x y := by
      intro y hy
      obtain ⟨i, hi, rfl⟩ := List.getElem_of_mem hy
      rw [List.length_drop] at hi
      rw [List.getElem_drop]
      have := posP_hi l x l.length (posP l x l.length + i) (by omega) (by omega)
      rwa [getP_at l _ (by omega)] at this
    have h' := h
    unfold AscP at h' ⊢
    rw [← List.take_append_drop (posP l x l.length) l, List.pairwise_append] at h'
    rw [List.pairwise_append, List.pairwise_cons]
    refine ⟨h'.1, ⟨hhi, h'.2.1⟩, fun a ha b hb => ?_⟩
    rcases List.mem_cons.1 hb with rfl | hb
    · exact hlo a ha
    · exact plt_trans (hlo a ha) (hhi b hb)
def leP (a b : S56) : Bool := !decide (plt b a)
def sortP (l : List S56) : List S56 := l.mergeSort leP
theorem leP_iff {a b : S56} : leP a b = true ↔ ¬ plt b a := by unfold leP; simp
theorem nplt_trans {a b c : S56} (h : ¬ plt b a) (h' : ¬ plt c b) : ¬ plt c a := by unfold plt at *; omega
theorem sortP_pw (l : List S56) : (sortP l).Pairwise (fun a b => ¬ plt b a) := by
  have h := List.pairwise_mergeSort (le := leP) (fun a b c h1 h2 => leP_iff.2 (nplt_trans (leP_iff.1 h1) (leP_iff.1 h2))) (fun a b => by
    unfold leP plt
    by_cases h : b.f0 < a.f0 ∨ b.f0 = a.f0 ∧ b.f1 < a.f1
    · have : ¬ (a.f0 < b.f0 ∨ a.f0 = b.f0 ∧ a.f1 < b.f1) := by omega
      simp [this]
    · simp [h]) l
  exact h.imp (fun h => leP_iff.1 h)
theorem sortP_mem (l : List S56) (x : S56) : x ∈ sortP l ↔ x ∈ l := (List.mergeSort_perm l leP).mem_iff
def eqPc (a b : S56) : Bool := decide (a.f0 = b.f0 ∧ a.f1 = b.f1)
theorem eqPc_iff {a b : S56} : eqPc a b = true ↔ a = b := by
  unfold eqPc
  rw [decide_eq_true_iff]
  exact ⟨p_ext, fun h => by rw [h]; exact ⟨rfl, rfl⟩⟩
/-- What is kept of a row behind a piece: each one that is not like the one ahead of it. -/
def cmpT : S56 → List S56 → List S56
  | _, [] => []
  | p, y :: r => if eqPc y p = true then cmpT y r else y :: cmpT y r
def cmpP : List S56 → List S56
  | [] => []
  | x :: r => x :: cmpT x r
theorem cmpT_mem : ∀ (r : List S56) (p x : S56), x = p ∨ x ∈ cmpT p r ↔ x = p ∨ x ∈ r
  | [], p, x => by simp [cmpT]
  | y :: r, p, x => by
    have ih := cmpT_mem r y x
    unfold cmpT
    split
    · rename_i h
      have e := eqPc_iff.1 h
      subst e
      rw [ih, List.mem_cons]
      constructor
      · rintro (h | h) <;> simp [h]
      · rintro (h | h | h) <;> simp [h]
    · rw [List.mem_cons, List.mem_cons, ih]
theorem cmpP_mem (l : List S56) (x : S56) : x ∈ cmpP l ↔ x ∈ l := by
  cases l with
  | nil => rfl
  | cons y r => unfold cmpP; rw [List.mem_cons, List.mem_cons]; exact cmpT_mem r y x
theorem cmpT_sub : ∀ (r : List S56) (p : S56), (cmpT p r).Sublist r
  | [], _ => List.Sublist.refl _
  | y :: r, p => by
    unfold cmpT
    split
    · exact (cmpT_sub r y).cons _
    · exact (cmpT_sub r y).cons_cons _
theorem cmpT_asc : ∀ (r : List S56) (p : S56), (p :: r).Pairwise (fun a b => ¬ plt b a) → AscP (p :: cmpT p r)
  | [], p, _ => by unfold cmpT; exact List.pairwise_singleton _ _
  | y :: r, p, h => by
    have h' := List.pairwise_cons.1 h
    have ih := cmpT_asc r y h'.2
    unfold cmpT
    split
    · rename_i e
      have e := eqPc_iff.1 e
      subst e
      exact ih
    · rename_i e
      have e : ¬ y = p := fun h => e (eqPc_iff.2 h)
      have hp : plt p y := by
        by_cases h1 : plt p y
        · exact h1
        · exact absurd (plt_tri (h'.1 y (List.mem_cons_self ..)) h1) e
      refine List.pairwise_cons.2 ⟨fun z hz => ?_, ih⟩
      rcases List.mem_cons.1 hz with rfl | hz
      · exact hp
      · exact plt_trans hp ((List.pairwise_cons.1 ih).1 z hz)
theorem cmpP_asc {l : List S56} (h : l.Pairwise (fun a b => ¬ plt b a)) : AscP (cmpP l) := by
  cases l with
  | nil => exact List.Pairwise.nil
  | cons x r => exact cmpT_asc r x h
/-- Sorted and made compact: just what the insertions give. -/
theorem join_eq {l m : List S56} (hm : AscP m) (h : ∀ x, x ∈ m ↔ x ∈ l) : cmpP (sortP l) = m := ascP_eq (cmpP_asc (sortP_pw l)) hm (fun x => by rw [cmpP_mem, sortP_mem, h])
theorem fold_asc (xs : List S56) : ∀ {m : List S56}, AscP m → AscP (xs.foldl putP m) := by
  induction xs with
  | nil => intro m h; exact h
  | cons x xs ih => intro m h; exact ih (putP_asc h x)
theorem fold_mem (xs : List S56) : ∀ (m : List S56) (y : S56), y ∈ xs.foldl putP m ↔ y ∈ m ∨ y ∈ xs := by
  induction xs with
  | nil => intro m y; simp
  | cons x xs ih =>
    intro m y
    rw [List.foldl_cons, ih, putP_mem, List.mem_cons]
    constructor
    · rintro ((h | h) | h) <;> simp [h]
    · rintro (h | h | h) <;> simp [h]
theorem join_fold (xs : List S56) : cmpP (sortP xs) = xs.foldl putP [] := join_eq (fold_asc xs List.Pairwise.nil) (fun x => by rw [fold_mem]; simp)
theorem toInts_l (l : List Int) (hb : l.length < 9223372036854775807) (d : Nat) : ∀ i : Nat, i + d = l.length → Ev (fun k => laws_toIntS.l0 k l (l.take i ++ List.replicate d 0) (i : Int)) l := by
  induction d with
  | zero =>
    intro i hi
    refine Ev.step (f := fun _ => some l) (fun k => ?_) (Ev.now _)
    simp only [laws_toIntS.l0]
    rw [if_neg (by omega), List.take_of_length_le (by omega)]
    simp
  | succ d ih =>
    intro i hi
    have h1 : i < l.length := by omega
    refine Ev.step (fun k => ?_) (ih (i + 1) (by omega))
    simp only [laws_toIntS.l0]
    rw [if_pos (by omega), if_pos (by omega), if_pos (by simp; omega), rd_at l i h1, w1 i (by omega)]
    congr 1
    rw [Int.toNat_natCast, List.set_append_right _ _ (by simp; omega), List.take_succ_eq_append_getElem h1, List.append_assoc]
    congr 1
    have : i - (l.take i).length = 0 := by simp; omega
    rw [this, List.replicate_succ]
    rfl
theorem toInts (l : List Int) (hb : l.length ≤ 35184372088832) : Ev (fun k => laws_toIntS.f k l) l := by
  unfold laws_toIntS.f
  simp only [if_pos (show 0 ≤ (l.length : Int) by omega), Int.toNat_natCast, if_pos hb]
  exact toInts_l l (by omega) l.length 0 (by omega)
theorem eqInts_l (a b : List Int) (hl : a.length = b.length) (hb : a.length < 9223372036854775807) (d : Nat) : ∀ i : Nat, i + d = a.length → Ev (fun k => laws_eqIntS.l0 k a b (i : Int)) (decide (a.drop i = b.drop i)) := by
  induction d with
  | zero =>
    intro i hi
    refine Ev.step (f := fun _ => some (decide (a.drop i = b.drop i))) (fun k => ?_) (Ev.now _)
    simp only [laws_eqIntS.l0]
    rw [if_neg (by omega), List.drop_of_length_le (by omega), List.drop_of_length_le (by omega)]
    simp
  | succ d ih =>
    intro i hi
    have h1 : i < a.length := by omega
    have h2 : i < b.length := by omega
    have ea := List.drop_eq_getElem_cons h1
    have eb := List.drop_eq_getElem_cons h2
    by_cases he : a[i] = b[i]
    · have := ih (i + 1) (by omega)
      have e : decide (a.drop i = b.drop i) = decide (a.drop (i + 1) = b.drop (i + 1)) := decide_eq_decide.2 (by rw [ea, eb, List.cons.injEq]; exact ⟨fun h => h.2, fun h => ⟨he, h⟩⟩)
      rw [e]
      refine Ev.step (fun k => ?_) this
      simp only [laws_eqIntS.l0]
      rw [if_pos (by omega), if_pos (by omega), if_pos (by omega), rd_at a i h1, rd_at b i h2, if_pos he, w1 i (by omega)]
    · have e : decide (a.drop i = b.drop i) = false := decide_eq_false (by rw [ea, eb, List.cons.injEq]; exact fun h => he h.1)
      rw [e]
      refine Ev.step (f := fun _ => some false) (fun k => ?_) (Ev.now _)
      simp only [laws_eqIntS.l0]
      rw [if_pos (by omega), if_pos (by omega), if_pos (by omega), rd_at a i h1, rd_at b i h2, if_neg he]
theorem eqInts (a b : List Int) (hb : a.length < 9223372036854775807) : Ev (fun k => laws_eqIntS.f k a b) (decide (a = b)) := by
  unfold laws_eqIntS.f
  by_cases hl : a.length = b.length
  · simp only [if_pos (show (a.length : Int) = (b.length : Int) by omega)]
    have := eqInts_l a b hl hb a.length 0 (by omega)
    simpa using this
  · simp only [if_neg (show ¬ (a.length : Int) = (b.length : Int) by omega)]
    have e : decide (a = b) = false := by simp; intro h; exact hl (by rw [h])
    rw [e]
    exact Ev.now _
def marks (v : Int) (n : Nat) : List Int := (List.range n).map fun (j : Nat) => v + (j : Int)
theorem marks_zero (v : Int) : marks v 0 = [] := rfl
theorem marks_succ (v : Int) (n : Nat) : marks v (n + 1) = v :: marks (v + 1) n := by
  unfold marks
  rw [List.range_succ_eq_map]
  simp only [List.map_cons, List.map_map, List.cons.injEq]
  refine ⟨by simp, List.map_congr_left fun j _ => ?_⟩
  simp only [Function.comp]
  omega
theorem wrapv (v : Int) (h0 : 0 ≤ v) (h : v < 9223372036854775807) : wrap64 (v + 1) = v + 1 := by unfold wrap64; omega
theorem markInts_l (suf : List Int) : ∀ (pre : List Int) (v : Int), 0 ≤ v → pre.length + suf.length < 4611686018427387904 → v + (suf.length : Int) < 4611686018427387904 →
    Ev (fun k => laws_markIntS.l0 k (pre ++ suf) v (pre.length : Int)) (v + (suf.length : Int), pre ++ marks v suf.length) := by
  induction suf with
  | nil =>
    intro pre v h0 h1 h2
    refine Ev.step (f := fun _ => some (v + (([] : List Int).length : Int), pre ++ marks v 0)) (fun k => ?_) (Ev.now _)
    simp only [laws_markIntS.l0]
    rw [if_neg (by simp)]
    simp [marks_zero]
  | cons x suf ih =>
    intro pre v h0 h1 h2
    simp only [List.length_cons] at h1 h2
    have := ih (pre ++ [v]) (v + 1) (by omega) (by simp; omega) (by omega)
    have e : (v + 1 + (suf.length : Int), (pre ++ [v]) ++ marks (v + 1) suf.length) = (v + ((x :: suf).length : Int), pre ++ marks v (x :: suf).length) := by
      simp only [List.length_cons, marks_succ, List.append_assoc, List.singleton_append, Prod.mk.injEq, and_true]
      omega
    rw [e] at this
    refine Ev.step (fun k => ?_) this
    simp only [laws_markIntS.l0]
    rw [if_pos (by simp; omega), if_pos (by omega), wrapv v h0 (by omega), w1 pre.length (by omega)]
    congr 1
    · rw [Int.toNat_natCast, List.set_append_right _ _ (Nat.le_refl _), Nat.sub_self]
      simp
    · simp
theorem markInts (l : List Int) (h : l.length < 2305843009213693952) : Ev (fun k => laws_markIntS.f k l 1) (1 + (l.length : Int), marks 1 l.length) := by
  have := markInts_l l [] 1 (by omega) (by simp; omega) (by omega)
  simpa [laws_markIntS.f] using this
theorem posQ_eq (l : List S56) (x : S56) : ∀ k, posQ l x.f0 x.f1 k = posP l x k
  | 0 => rfl
  | k + 1 => by
    unfold posQ posP
    rw [posQ_eq l x k]
    by_cases h : plt x (l.getD k z56)
    · rw [if_pos h, if_pos (by unfold plt at h; omega)]
    · rw [if_neg h, if_neg (by unfold plt at h; omega)]
theorem putQ_eq (l : List S56) (x : S56) : putQ l x = putP l x := by
  unfold putQ putP
  rw [posQ_eq]
  by_cases h : 0 < posP l x l.length ∧ l.getD (posP l x l.length - 1) z56 = x
  · rw [if_pos h, if_pos ⟨h.1, by rw [h.2], by rw [h.2]⟩]
  · rw [if_neg h, if_neg (fun h' => h ⟨h'.1, p_ext h'.2⟩), List.append_assoc]; rfl
theorem foldQ_eq (xs : List S56) : ∀ m, xs.foldl putQ m = xs.foldl putP m := by
  induction xs with
  | nil => intro m; rfl
  | cons x xs ih => intro m; rw [List.foldl_cons, List.foldl_cons, putQ_eq, ih]
theorem sortPc_eq (l : List S56) : sortPc l = sortP l := by
  unfold sortPc sortP
  congr 1
theorem cmpT_eq (l : List S56) : ∀ (d i : Nat), i + d = l.length → 0 < i → ((List.range' i d).filter (Go.Lib.keeps l.toArray)).map (l.toArray[·]!) = cmpT (l.getD (i - 1) z56) (l.drop i) := by
  intro d
  induction d with
  | zero => intro i h h0; rw [List.drop_of_length_le (by omega)]; rfl
  | succ d ih =>
    intro i h h0
    have hi : i < l.length := by omega
    have e1 : l.toArray[i]! = l[i] := by simp [hi]
    have e2 : l.toArray[i - 1]! = l[i - 1] := by simp [show i - 1 < l.length by omega]
    have e3 := ih (i + 1) (by omega) (by omega)
    rw [Nat.add_sub_cancel, getP_at l i hi] at e3
    rw [List.drop_eq_getElem_cons hi, cmpT, getP_at l (i - 1) (by omega), List.range'_succ]
    by_cases he : l[i] = l[i - 1]
    · rw [if_pos (eqPc_iff.2 he), ← e3, List.filter_cons_of_neg (by rw [Go.Lib.keeps_neg h0 (by rw [e1, e2, he])]; simp)]
    · rw [if_neg (fun h => he (eqPc_iff.1 h)), ← e3, List.filter_cons_of_pos (Go.Lib.keeps_pos (by rw [e1, e2]; exact he)), List.map_cons, e1]
theorem compP_eq (l : List S56) : compP l = cmpP l := by
  unfold compP Go.Lib.compactUpTo
  cases hl : l with
  | nil => rfl
  | cons x r =>
    have h := cmpT_eq (x :: r) r.length 1 (by simp; omega) (by omega)
    rw [List.range_eq_range', List.length_cons, List.range'_succ, List.filter_cons_of_pos (by simp [Go.Lib.keeps]), List.map_cons]
    unfold cmpP
    rw [Nat.zero_add, h]
    rfl
section
variable (L : List S59) (hb : L.length < 9223372036854775807) (hx : ∀ x ∈ L, x.f3.size ≤ 9223372036854775807 ∧ x.f4.length < 9223372036854775807)
include hb hx
theorem jl_ev (l : List Int) : ∀ o : List S56, o.length + 900000 * l.length ≤ 1000000000000 → Ev (fun k => jl k L l o) (o ++ l.flatMap (pinV L)) := by
  induction l with
  | nil => intro o ho; rw [List.flatMap_nil, List.append_nil]; exact Ev.now _
  | cons t r ih =>
    intro o ho
    have h1 := pinV_len L t
    rw [List.length_cons] at ho
    have := ih (o ++ pinV L t) (by rw [List.length_append]; omega)
    rw [List.flatMap_cons, ← List.append_assoc]
    show Ev (fun k => (impl_PiecesIn.f k L t).bind fun p => if o.length + p.length < 8796093022208 then jl k L r (o ++ p) else none) _
    refine Ev.bind (pin_i L hb hx t) ?_
    simp only [if_pos (show o.length + (pinV L t).length < 8796093022208 by omega)]
    exact this
omit hb hx in
theorem putP_le (l : List S56) (x : S56) : (putP l x).length ≤ l.length + 1 := by rw [← putQ_eq]; exact putQ_len l x
omit hb hx in
theorem fold_le (xs : List S56) : ∀ m : List S56, (xs.foldl putP m).length ≤ m.length + xs.length := by
  induction xs with
  | nil => intro m; simp
  | cons x xs ih => intro m; rw [List.foldl_cons, List.length_cons]; have := ih (putP m x); have := putP_le m x; omega
theorem js_ev (l : List Int) : ∀ o : List S56, o.length + 900000 * l.length ≤ 1000000000000 → Ev (fun k => js k L l o) ((l.flatMap (pinV L)).foldl putP o) := by
  induction l with
  | nil => intro o ho; exact Ev.now _
  | cons t r ih =>
    intro o ho
    have h1 := pinV_len L t
    have h2 := fold_le (pinV L t) o
    rw [List.length_cons] at ho
    have := ih ((pinV L t).foldl putP o) (by omega)
    rw [List.flatMap_cons, List.foldl_append]
    show Ev (fun k => (spec_PiecesIn.f k L t).bind fun p => if o.length + p.length < 4398046511104 then js k L r (p.foldl putQ o) else none) _
    refine Ev.bind (pin_s L hb hx t) ?_
    simp only [if_pos (show o.length + (pinV L t).length < 4398046511104 by omega), foldQ_eq]
    exact this
omit hb hx in
theorem flat_le (l : List Int) : (l.flatMap (pinV L)).length ≤ 900000 * l.length := by
  induction l with
  | nil => simp
  | cons t r ih => have := pinV_len L t; rw [List.flatMap_cons, List.length_append, List.length_cons]; omega
def joinV (l : List Int) : List S56 := (l.flatMap (pinV L)).foldl putP []
omit hb hx in
theorem joinV_len (l : List Int) (h : l.length ≤ 1048576) : (joinV L l).length ≤ 1000000000000 := by
  have h1 := fold_le (l.flatMap (pinV L)) []
  have h2 := flat_le L l
  unfold joinV
  simp only [List.length_nil] at h1
  omega
theorem join_s (l : List Int) (h : l.length ≤ 1048576) : Ev (fun k => spec_JoinTiles.f k L l) (joinV L l) := by
  unfold spec_JoinTiles.f joinV
  exact js_ev L hb hx l [] (by simp; omega)
theorem join_i (l : List Int) (h : l.length ≤ 1048576) : Ev (fun k => impl_JoinTiles.f k L l) (joinV L l) := by
  unfold impl_JoinTiles.f joinV
  have h2 := flat_le L l
  refine Ev.bind (jl_ev L hb hx l [] (by simp; omega)) ?_
  rw [List.nil_append]
  simp only [if_pos (show (l.flatMap (pinV L)).length < 4611686018427387904 by omega), sortPc_eq, compP_eq, join_fold]
  exact Ev.now _
end
theorem main : ∀ (l0 : List (S52)) (l1 : List (Int)), (l0.length ≤ 9223372036854775807 ∧ ∀ x ∈ l0, ((Lit.int .i64 x.f0).wf = true ∧ (Lit.int .i64 x.f1).wf = true ∧ (Lit.int .i64 x.f2).wf = true ∧ x.f3.size ≤ 9223372036854775807 ∧ (x.f4.length ≤ 9223372036854775807 ∧ ∀ y ∈ x.f4, ((Lit.int .i64 y.f0).wf = true ∧ (Lit.int .i64 y.f1).wf = true)))) → (l1.length ≤ 9223372036854775807 ∧ ∀ x ∈ l1, (Lit.int .i64 x).wf = true) → ∃ k, laws_FnExactJoinTiles.f k l0 l1 = some true := by
  intro l tl hl _
  refine Ev.rounds (r := true) ?_
  unfold laws_FnExactJoinTiles.f
  by_cases h20 : 1048576 < tl.length
  · simp only [if_pos h20]; exact Ev.now _
  simp only [if_neg h20]
  have h20 : tl.length ≤ 1048576 := by omega
  obtain ⟨r, hr, hb⟩ := szFeatures l (fun x hx => ⟨(hl.2 x hx).2.2.2.1, (hl.2 x hx).2.2.2.2.1⟩) hl.1
  refine Ev.bind hr ?_
  by_cases hc : r < 0
  · simp only [if_pos hc]; exact Ev.now _
  · simp only [if_neg hc]
    obtain ⟨h1, h2⟩ := hb hc
    have t := toFeatures l h1 (fun x hx => (h2 x hx).2)
    have hxL : ∀ x ∈ l.map convF, x.f3.size ≤ 9223372036854775807 ∧ x.f4.length < 9223372036854775807 := by
      intro x hx
      obtain ⟨y, hy, rfl⟩ := List.mem_map.1 hx
      have := h2 y hy
      unfold convF
      simp only [List.length_map]
      omega
    have hxL2 : ∀ x ∈ l.map convF, x.f4.length ≤ 1048576 := by
      intro x hx
      obtain ⟨y, hy, rfl⟩ := List.mem_map.1 hx
      have := h2 y hy
      unfold convF
      simp only [List.length_map]
      omega
    have hL1 : (l.map convF).length ≤ 1048576 := by simpa using h1
    have hL : (l.map convF).length < 9223372036854775807 := by omega
    generalize l.map convF = L at t hxL hxL2 hL1 hL
    have tt := toInts tl (by omega)
    have s1 := join_s L hL hxL tl h20
    have s2 := join_i L hL hxL tl h20
    have hA := joinV_len L tl h20
    generalize joinV L tl = A at s1 s2 hA
    have ep := eqPieces A (by omega)
    have ef := eqFeatures L hL (fun x hx => (hxL x hx).2)
    have ei := eqInts tl tl (by omega)
    rw [decide_eq_true rfl] at ei
    have mf := markF L hL1 hxL2
    have hm := mfT_bound L hxL2
    have mi : Ev (fun k => laws_markIntS.f k tl (1 + (mfT L : Int))) (1 + (mfT L : Int) + (tl.length : Int), marks (1 + (mfT L : Int)) tl.length) := by
      have := markInts_l tl [] (1 + (mfT L : Int)) (by omega) (by simp; omega) (by omega)
      simpa [laws_markIntS.f] using this
    obtain ⟨M, m1, m2⟩ := markPieces A (by omega)
    refine Ev.bind t (Ev.bind tt (Ev.bind s1 (Ev.bind s2 (Ev.bind ep (Ev.bind ef (Ev.bind ei ?_))))))
    simp only [mf, Option.bind_some]
    refine Ev.bind mi (Ev.bind m1 (Ev.bind m2 ?_))
    have c1 : (0 : Int) ≤ 1 + (mfT L : Int) + (tl.length : Int) := by omega
    have c2 : (0 : Int) ≤ 1 + 2 * (A.length : Int) := by omega
    rw [if_pos ⟨trivial, trivial, trivial, c1, c2, rfl⟩]
    exact Ev.now _
end Go.Proofs.YtkomgmgpgnjooaaGreat.Pure.FnExactJoinTiles
