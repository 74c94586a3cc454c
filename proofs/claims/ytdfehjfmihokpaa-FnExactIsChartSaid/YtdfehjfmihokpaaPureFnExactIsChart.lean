/- Whether something is a chart: the program and the reference answer the same: each label is of a feature of its name, the features are a source, the labels lie apart. No condition. -/
import Derived.Test.YtdfehjfmihokpaaPFnExactIsChartx
import Derived.Test.YtdfehjfmihokpaaMeet
namespace Go.Proofs.Ytdfehjfmihokpaa.Pure.FnExactIsChart
open Go Go.RowKit Go.Proofs.Ytdfehjfmihokpaa.PFnExactIsChart Go.Proofs.YtdfehjfmihokpaaW.PrintWords Go.Proofs.YtdfehjfmihokpaaW.PrintLast Go.Proofs.YtdfehjfmihokpaaW.PrintMore Go.Proofs.YtdfehjfmihokpaaGeo
set_option linter.unusedVariables false
set_option linter.unusedSimpArgs false
open Go.Proofs.YtdfehjfmihokpaaMeet
theorem w1 (i : Nat) (h : i < 9223372036854775807) : wrap64 ((i : Int) + 1) = ((i + 1 : Nat) : Int) := by unfold wrap64; omega
theorem rd_at (l : List Int) (i : Nat) (h : i < l.length) : rd l (i : Int) = l[i] := by
  unfold rd
  rw [Int.toNat_natCast, List.getD_eq_getElem?_getD, List.getElem?_eq_getElem h]
  rfl
theorem how_s (a b c d e f g h : Int) : Ev (fun _ => spec_HowMeet.f a b c d e f g h) (howS a b c d e f g h) := Ev.now _
theorem before_key {x y x' y' : Int} (h : isPt x y = true) (h' : isPt x' y' = true) : beforeI x y x' y' = decide (kyI x y < kyI x' y') := by
  rw [isPt_iff] at h h'
  unfold beforeI kyI
  rw [Bool.eq_iff_iff]; simp; omega
theorem j3_i (a b c d : Int) (h : isPt a b = true) (h' : isPt c d = true) : Ev (fun k => impl_HowMeet.j3 k a b c d) (if kyI c d < kyI a b then 0 else if kyI a b = kyI c d then 1 else 3) := by
  refine Ev.step (f := fun _ => some (if kyI c d < kyI a b then 0 else if kyI a b = kyI c d then 1 else 3)) (fun k => ?_) (Ev.now _)
  simp only [impl_HowMeet.j3, impl_BeforePoint.f, before_key h' h, Option.bind_some, decide_eq_true_eq]
  have e : (a == c && b == d) = decide (kyI a b = kyI c d) := by
    rw [← ky_inj h h']
    rw [Bool.eq_iff_iff]; simp
  rw [e]
  by_cases z : kyI c d < kyI a b
  · rw [if_pos z, if_pos z]
  · rw [if_neg z, if_neg z]
    by_cases z' : kyI a b = kyI c d
    · simp [z']
    · simp [z']
theorem j2_i (e f g h a b c d : Int) (h1 : isPt g h = true) (h2 : isPt a b = true) (h3 : isPt c d = true) : Ev (fun k => impl_HowMeet.j2 k e f g h a b c d) (if mn (kyI c d) (kyI g h) < kyI a b then 0 else if kyI a b = mn (kyI c d) (kyI g h) then 1 else 3) := by
  refine Ev.step (f := fun k => if kyI g h < kyI c d then impl_HowMeet.j3 k a b g h else impl_HowMeet.j3 k a b c d) (fun k => ?_) ?_
  · simp only [impl_HowMeet.j2, impl_BeforePoint.f, before_key h1 h3, Option.bind_some, decide_eq_true_eq]
  · unfold mn
    by_cases z : kyI g h < kyI c d
    · simp only [if_pos z]; exact j3_i a b g h h2 h1
    · simp only [if_neg z]; exact j3_i a b c d h2 h3
theorem fwd_i (a b c d : Int) (h : isPt a b = true) (h' : isPt c d = true) : ∃ x y u v, impl_forward.f a b c d = some (x, y, u, v) ∧ isPt x y = true ∧ isPt u v = true ∧ kyI x y = mn (kyI a b) (kyI c d) ∧ kyI u v = mx (kyI a b) (kyI c d) := by
  unfold impl_forward.f impl_BeforePoint.f impl_TurnSegment.f
  simp only [before_key h' h, Option.bind_some, decide_eq_true_eq]
  by_cases z : kyI c d < kyI a b
  · exact ⟨c, d, a, b, by rw [if_pos z], h', h, by unfold mn; rw [if_pos z], by unfold mx; rw [if_neg (by omega)]⟩
  · exact ⟨a, b, c, d, by rw [if_neg z], h, h', by unfold mn; rw [if_neg z], by unfold mx; split <;> omega⟩
theorem how_i (a b c d e f g h : Int) : Ev (fun k => impl_HowMeet.f k a b c d e f g h) (howS a b c d e f g h) := by
  rw [← how_eq]
  unfold impl_HowMeet.f howP impl_IsSegment.f
  simp only [Option.bind_some]
  have dead : Ev (fun k => impl_HowMeet.j0 k true a b c d e f g h) 0 := Ev.step (f := fun _ => some 0) (fun k => by simp [impl_HowMeet.j0]) (Ev.now _)
  cases h1 : isSeg a b c d
  · simp only [Bool.false_eq_true, if_false, true_or, if_true]; exact dead
  · cases h2 : isSeg e f g h
    · simp only [if_true, Bool.not_false, or_true]; exact dead
    · simp only [if_true, Bool.not_true, Bool.true_eq_false, or_self, if_false]
      obtain ⟨ha, hc, _⟩ := isSeg_iff.mp h1
      obtain ⟨he, hg, _⟩ := isSeg_iff.mp h2
      have j4t : Ev (fun k => impl_HowMeet.j4 k true a b c d e f g h) 2 := Ev.step (f := fun _ => some 2) (fun k => by simp [impl_HowMeet.j4]) (Ev.now _)
      have j4f : Ev (fun k => impl_HowMeet.j4 k false a b c d e f g h) (if isOnI a b c d e f || isOnI a b c d g h || isOnI e f g h a b || isOnI e f g h c d then 1 else 0) := by
        refine Ev.step (f := fun _ => some (if isOnI a b c d e f || isOnI a b c d g h || isOnI e f g h a b || isOnI e f g h c d then 1 else 0)) (fun k => ?_) (Ev.now _)
        simp only [impl_HowMeet.j4, impl_IsOn.f, Option.bind_some, Bool.false_eq_true, if_false]
        cases isOnI a b c d e f <;> cases isOnI a b c d g h <;> cases isOnI e f g h a b <;> cases isOnI e f g h c d <;> rfl
      by_cases hcol : sideI a b c d e f = 0 ∧ sideI a b c d g h = 0
      · rw [if_pos hcol]
        obtain ⟨x, y, u, v, f1, p1, p2, k1, k2⟩ := fwd_i a b c d ha hc
        obtain ⟨x', y', u', v', f2, p1', p2', k1', k2'⟩ := fwd_i e f g h he hg
        refine Ev.step (f := fun k => impl_HowMeet.j1 k (sideI a b c d e f) (sideI a b c d g h) true a b c d e f g h) (fun k => ?_) ?_
        · simp [impl_HowMeet.j0, impl_SideOf.f, hcol.1, hcol.2]
        · refine Ev.step (f := fun k => if kyI x y < kyI x' y' then impl_HowMeet.j2 k x' y' u' v' x' y' u v else impl_HowMeet.j2 k x' y' u' v' x y u v) (fun k => ?_) ?_
          · simp only [impl_HowMeet.j1, f1, f2, impl_BeforePoint.f, Option.bind_some, before_key p1 p1', decide_eq_true_eq, if_true]
          · rw [← k1, ← k2, ← k1', ← k2']
            by_cases z : kyI x y < kyI x' y'
            · simp only [if_pos z]
              have e : mx (kyI x y) (kyI x' y') = kyI x' y' := by unfold mx; rw [if_pos z]
              rw [e]
              exact j2_i x' y' u' v' x' y' u v p2' p1' p2
            · simp only [if_neg z]
              have e : mx (kyI x y) (kyI x' y') = kyI x y := by unfold mx; rw [if_neg z]
              rw [e]
              exact j2_i x' y' u' v' x y u v p2' p1 p2
      · rw [if_neg hcol]
        refine Ev.step (f := fun k => impl_HowMeet.j1 k (sideI a b c d e f) (sideI a b c d g h) false a b c d e f g h) (fun k => ?_) ?_
        · simp only [impl_HowMeet.j0, impl_SideOf.f, Option.bind_some, Bool.false_eq_true, if_false]
          by_cases z : sideI a b c d e f = 0
          · have z' : ¬ sideI a b c d g h = 0 := fun q => hcol ⟨z, q⟩
            have z'' : (sideI a b c d g h == 0) = false := by simp [z']
            rw [if_pos z, z'']
          · rw [if_neg z]
        · have w1 := wrap_sd _ _ (sd_bd a b c d e f) (sd_bd a b c d g h)
          have w2 := wrap_sd _ _ (sd_bd e f g h a b) (sd_bd e f g h c d)
          by_cases zu : sideI a b c d e f * sideI a b c d g h < 0
          · by_cases zv : sideI e f g h a b * sideI e f g h c d < 0
            · rw [if_pos ⟨zu, zv⟩]
              refine Ev.step (fun k => ?_) j4t
              simp [impl_HowMeet.j1, impl_SideOf.f, w1, w2, zu, zv]
            · rw [if_neg (fun q => zv q.2)]
              refine Ev.step (fun k => ?_) j4f
              simp [impl_HowMeet.j1, impl_SideOf.f, w1, w2, zu, zv]
          · rw [if_neg (fun q => zu q.1)]
            refine Ev.step (fun k => ?_) j4f
            simp [impl_HowMeet.j1, impl_SideOf.f, w1, zu]
/-- A line's points, one behind the other: each a point, none like the one ahead of it. -/
def chkL : Option S82 → List S82 → Bool
  | _, [] => true
  | o, p :: r => isPt p.f0 p.f1 && ((match o with | none => true | some q => !eqP q p) && chkL (some p) r)
theorem chkL_cons (o : Option S82) (p : S82) (r : List S82) : chkL o (p :: r) = (isPt p.f0 p.f1 && ((match o with | none => true | some q => !eqP q p) && chkL (some p) r)) := by cases o <;> rfl
def lnB (l : List S82) : Bool := inR (l.length : Int) 2 10 && chkL none l
def prevL (l : List S82) (i : Nat) : Option S82 := if i = 0 then none else some (l.getD (i - 1) z82)
theorem prevL_succ (l : List S82) (i : Nat) (h : i < l.length) : prevL l (i + 1) = some l[i] := by
  unfold prevL
  rw [if_neg (by omega), Nat.add_sub_cancel, List.getD_eq_getElem?_getD, List.getElem?_eq_getElem h]; rfl
theorem w1m (i : Nat) (h : 0 < i) (h' : i < 9223372036854775807) : wrap64 ((i : Int) - 1) = ((i - 1 : Nat) : Int) := by unfold wrap64; omega
theorem isLine_sl (l : List S82) (hl : l.length < 9223372036854775807) (d : Nat) : ∀ i : Nat, i + d = l.length → Ev (fun k => spec_IsLine.l0 k l (i : Int)) (chkL (prevL l i) (l.drop i) && inR (l.length : Int) 2 10) := by
  induction d with
  | zero =>
    intro i hi
    rw [List.drop_of_length_le (by omega)]
    refine Ev.step (f := fun _ => some _) (fun k => ?_) (Ev.now _)
    simp only [spec_IsLine.l0, spec_l1In.f]
    rw [if_neg (by omega)]
    simp [chkL]
  | succ d ih =>
    intro i hi
    have h1 : i < l.length := by omega
    have hd := List.drop_eq_getElem_cons h1
    rw [hd, chkL_cons]
    cases hp : isPt l[i].f0 l[i].f1
    · refine Ev.step (f := fun _ => some false) (fun k => ?_) (Ev.now _)
      simp only [spec_IsLine.l0, spec_IsPoint.f, Option.bind_some]
      rw [if_pos (by omega), if_pos (by omega), rdPt l i h1, hp]
      simp
    · have ih' := ih (i + 1) (by omega)
      rw [prevL_succ l i h1] at ih'
      by_cases h0 : i = 0
      · subst h0
        refine Ev.step (fun k => ?_) ih'
        simp only [spec_IsLine.l0, spec_IsPoint.f, Option.bind_some]
        rw [if_pos (by omega), if_pos (by omega), rdPt l 0 h1, hp, if_pos rfl, if_neg (by omega), w1' 0 (by omega)]
      · have hi1 : i - 1 < l.length := by omega
        have eP : prevL l i = some l[i - 1] := by unfold prevL; rw [if_neg h0, List.getD_eq_getElem?_getD, List.getElem?_eq_getElem hi1]; rfl
        rw [eP]
        dsimp only
        have eq : (((l[i - 1]).f0) == (l[i].f0) && (((l[i - 1]).f1) == (l[i].f1))) = eqP l[i - 1] l[i] := by
          unfold eqP; rw [Bool.eq_iff_iff]; simp
        cases he : eqP l[i - 1] l[i]
        · refine Ev.step (fun k => ?_) ih'
          simp only [spec_IsLine.l0, spec_IsPoint.f, Option.bind_some]
          rw [if_pos (by omega), if_pos (by omega), rdPt l i h1, hp, if_pos rfl, if_pos (by omega), w1m i (by omega) (by omega), if_pos (by omega), if_pos (by omega), rdPt l (i - 1) hi1, eq, he, w1' i (by omega)]
          simp
        · refine Ev.step (f := fun _ => some false) (fun k => ?_) (Ev.now _)
          simp only [spec_IsLine.l0, spec_IsPoint.f, Option.bind_some]
          rw [if_pos (by omega), if_pos (by omega), rdPt l i h1, hp, if_pos rfl, if_pos (by omega), w1m i (by omega) (by omega), if_pos (by omega), if_pos (by omega), rdPt l (i - 1) hi1, eq, he]
          simp
theorem isLine_s (l : List S82) (hl : l.length < 9223372036854775807) : Ev (fun k => spec_IsLine.f k l) (lnB l) := by
  unfold spec_IsLine.f lnB
  rw [Bool.and_comm]
  exact isLine_sl l hl l.length 0 (by omega)
theorem isLine_il (l : List S82) (hl : l.length < 9223372036854775807) (d : Nat) : ∀ i : Nat, i + d = l.length → Ev (fun k => impl_IsLine.l0 k l l (l.length : Int) (i : Int)) (chkL (prevL l i) (l.drop i)) := by
  induction d with
  | zero =>
    intro i hi
    rw [List.drop_of_length_le (by omega)]
    refine Ev.step (f := fun _ => some _) (fun k => ?_) (Ev.now _)
    simp only [impl_IsLine.l0]
    rw [if_neg (by omega)]
    simp [chkL]
  | succ d ih =>
    intro i hi
    have h1 : i < l.length := by omega
    have hd := List.drop_eq_getElem_cons h1
    rw [hd, chkL_cons]
    cases hp : isPt l[i].f0 l[i].f1
    · refine Ev.step (f := fun _ => some false) (fun k => ?_) (Ev.now _)
      simp only [impl_IsLine.l0, impl_IsPoint.f, Option.bind_some]
      rw [if_pos (by omega), if_pos (by omega), if_pos (by omega), rdPt l i h1, hp]
      simp
    · have ih' := ih (i + 1) (by omega)
      rw [prevL_succ l i h1] at ih'
      by_cases h0 : i = 0
      · subst h0
        refine Ev.step (fun k => ?_) ih'
        simp only [impl_IsLine.l0, impl_IsPoint.f, Option.bind_some]
        rw [if_pos (by omega), if_pos (by omega), if_pos (by omega), rdPt l 0 h1, hp, if_pos rfl, if_neg (by omega), w1' 0 (by omega)]
      · have hi1 : i - 1 < l.length := by omega
        have eP : prevL l i = some l[i - 1] := by unfold prevL; rw [if_neg h0, List.getD_eq_getElem?_getD, List.getElem?_eq_getElem hi1]; rfl
        rw [eP]
        dsimp only
        have eq : (((l[i]).f0) == (l[i - 1].f0) && (((l[i]).f1) == (l[i - 1].f1))) = eqP l[i - 1] l[i] := by
          unfold eqP; rw [Bool.eq_iff_iff]; simp; omega
        cases he : eqP l[i - 1] l[i]
        · refine Ev.step (fun k => ?_) ih'
          simp only [impl_IsLine.l0, impl_IsPoint.f, Option.bind_some]
          rw [if_pos (by omega), if_pos (by omega), if_pos (by omega), rdPt l i h1, hp, if_pos rfl, if_pos (by omega), w1m i (by omega) (by omega), if_pos (by omega), if_pos (by omega), rdPt l (i - 1) hi1, eq, he, w1' i (by omega)]
          simp
        · refine Ev.step (f := fun _ => some false) (fun k => ?_) (Ev.now _)
          simp only [impl_IsLine.l0, impl_IsPoint.f, Option.bind_some]
          rw [if_pos (by omega), if_pos (by omega), if_pos (by omega), rdPt l i h1, hp, if_pos rfl, if_pos (by omega), w1m i (by omega) (by omega), if_pos (by omega), if_pos (by omega), rdPt l (i - 1) hi1, eq, he]
          simp
theorem isLine_i (l : List S82) (hl : l.length < 9223372036854775807) : Ev (fun k => impl_IsLine.f k l) (lnB l) := by
  unfold impl_IsLine.f lnB
  have dead : Ev (fun k => impl_IsLine.j0 k l true) false := Ev.step (f := fun _ => some false) (fun k => by simp [impl_IsLine.j0]) (Ev.now _)
  by_cases h2 : (l.length : Int) < 2
  · simp only [if_pos h2]
    have : inR (l.length : Int) 2 10 = false := by unfold inR; simp; omega
    rw [this]; exact dead
  · simp only [if_neg h2]
    by_cases h10 : (l.length : Int) > 10
    · have : inR (l.length : Int) 2 10 = false := by unfold inR; simp; omega
      rw [this, decide_eq_true h10]; exact dead
    · have : inR (l.length : Int) 2 10 = true := by unfold inR; simp; omega
      rw [this, decide_eq_false h10]
      exact Ev.step (fun k => by simp [impl_IsLine.j0]) (isLine_il l hl l.length 0 (by omega))
theorem rdSg (l : List S85) (i : Nat) (h : i < l.length) : rd_T85 l (i : Int) = l.getD i z85 := by
  unfold rd_T85
  rw [Int.toNat_natCast]
def howL (p q : S85) : Int := howS p.f0.f0 p.f0.f1 p.f1.f0 p.f1.f1 q.f0.f0 q.f0.f1 q.f1.f0 q.f1.f1
def segL (p : S85) : Bool := isSeg p.f0.f0 p.f0.f1 p.f1.f0 p.f1.f1
def wantR (n i k : Nat) : Int := if k + 1 = i ∨ (k = 0 ∧ i + 1 = n) then 1 else 0
def inRow (s : List S85) (i : Nat) (k : Nat) : Bool := decide (howL (s.getD i z85) (s.getD k z85) = wantR s.length i k)
def ringS (s : List S85) (i d : Nat) : Bool := (List.range' i d).all fun i => segL (s.getD i z85) && (List.range' 0 i).all (inRow s i)
/-- The segments around. -/
def arR (l : List S82) : List S85 := (List.range l.length).map fun i => (⟨l.getD i z82, l.getD ((i + 1) % l.length) z82⟩ : S85)
def rgB (l : List S82) : Bool := inR (l.length : Int) 3 10 && ringS (arR l) 0 l.length
theorem arR_len (l : List S82) : (arR l).length = l.length := by simp [arR]
theorem arR_take (l : List S82) (i : Nat) (h : i < l.length) : (arR l).take (i + 1) = (arR l).take i ++ [(⟨l.getD i z82, l.getD ((i + 1) % l.length) z82⟩ : S85)] := by
  rw [List.take_succ_eq_append_getElem (by rw [arR_len]; exact h)]
  simp [arR]
theorem tmod_nat (a n : Nat) : Int.tmod (a : Int) (n : Int) = ((a % n : Nat) : Int) := by rw [Int.ofNat_tmod]
theorem rdPd (l : List S82) (i : Nat) : rd_T82 l (i : Int) = l.getD i z82 := by
  unfold rd_T82
  rw [Int.toNat_natCast]
theorem around_sl (l : List S82) (hl : l.length < 1000) (d : Nat) : ∀ i : Nat, i + d = l.length → Ev (fun k => spec_l7Segments.l0 k l ((arR l).take i) (i : Int)) (arR l) := by
  induction d with
  | zero =>
    intro i hi
    rw [List.take_of_length_le (by rw [arR_len]; omega)]
    refine Ev.step (f := fun _ => some _) (fun k => ?_) (Ev.now _)
    simp only [spec_l7Segments.l0]
    rw [if_neg (by omega)]
  | succ d ih =>
    intro i hi
    have h1 : i < l.length := by omega
    have hm : (i + 1) % l.length < l.length := Nat.mod_lt _ (by omega)
    refine Ev.step (fun k => ?_) (ih (i + 1) (by omega))
    have hlen : ((arR l).take i).length < 4398046511104 := by rw [List.length_take, arR_len]; omega
    simp only [spec_l7Segments.l0]
    rw [if_pos (by omega), if_pos (by omega), if_neg (by omega), w1' i (by omega), tmod_nat, if_pos (by omega), if_pos (by omega), if_pos hlen, rdPd, rdPd, arR_take l i h1]
theorem around_s (l : List S82) (hl : l.length < 1000) : Ev (fun k => spec_l7Segments.f k l) (arR l) := by
  unfold spec_l7Segments.f
  exact around_sl l hl l.length 0 (by omega)
theorem around_il (l : List S82) (hl : l.length < 1000) (d : Nat) : ∀ i : Nat, i + d = l.length → Ev (fun k => impl_around.l0 k l ((arR l).take i) l (l.length : Int) (i : Int)) (arR l) := by
  induction d with
  | zero =>
    intro i hi
    rw [List.take_of_length_le (by rw [arR_len]; omega)]
    refine Ev.step (f := fun _ => some _) (fun k => ?_) (Ev.now _)
    simp only [impl_around.l0]
    rw [if_neg (by omega)]
  | succ d ih =>
    intro i hi
    have h1 : i < l.length := by omega
    have hm : (i + 1) % l.length < l.length := Nat.mod_lt _ (by omega)
    refine Ev.step (fun k => ?_) (ih (i + 1) (by omega))
    have hlen : ((arR l).take i).length < 4398046511104 := by rw [List.length_take, arR_len]; omega
    simp only [impl_around.l0]
    rw [if_pos (by omega), if_pos (by omega), if_pos (by omega), if_neg (by omega), w1' i (by omega), tmod_nat, if_pos (by omega), if_pos (by omega), if_pos hlen, rdPd, rdPd, arR_take l i h1]
theorem around_i (l : List S82) (hl : l.length < 1000) : Ev (fun k => impl_around.f k l) (arR l) := by
  unfold impl_around.f
  exact around_il l hl l.length 0 (by omega)
theorem ring_s1 (s : List S85) (hs : s.length < 1000) (i : Nat) (hi : i < s.length) (rest : Bool) (hr : Ev (fun k => spec_IsRing.l0 k s ((i + 1 : Nat) : Int)) rest) (d : Nat) :
    ∀ k : Nat, k + d = i → Ev (fun n => spec_IsRing.l1 n s (i : Int) (k : Int)) ((List.range' k d).all (inRow s i) && rest) := by
  induction d with
  | zero =>
    intro k hk
    refine Ev.step (fun n => ?_) hr
    simp only [spec_IsRing.l1]
    rw [if_neg (by omega), w1' i (by omega)]
  | succ d ih =>
    intro k hk
    have hk1 : k < s.length := by omega
    rw [List.range'_succ, List.all_cons]
    have e2 : Ev (fun n => (spec_HowMeet.f (s.getD i z85).f0.f0 (s.getD i z85).f0.f1 (s.getD i z85).f1.f0 (s.getD i z85).f1.f1 (s.getD k z85).f0.f0 (s.getD k z85).f0.f1 (s.getD k z85).f1.f0 (s.getD k z85).f1.f1).bind fun t => if t = wantR s.length i k then spec_IsRing.l1 n s (i : Int) ((k + 1 : Nat) : Int) else some false) (inRow s i k && (List.range' (k + 1) d).all (inRow s i) && rest) := by
      refine Ev.bind (how_s _ _ _ _ _ _ _ _) ?_
      by_cases hw : howL (s.getD i z85) (s.getD k z85) = wantR s.length i k
      · have e : inRow s i k = true := by unfold inRow; exact decide_eq_true hw
        rw [e, Bool.true_and]
        have : Ev (fun n => spec_IsRing.l1 n s (i : Int) ((k + 1 : Nat) : Int)) ((List.range' (k + 1) d).all (inRow s i) && rest) := ih (k + 1) (by omega)
        refine Ev.congr (fun n => ?_) this
        exact if_pos hw
      · have e : inRow s i k = false := by unfold inRow; exact decide_eq_false hw
        rw [e]
        refine Ev.congr (fun n => ?_) (Ev.now _)
        exact if_neg hw
    have j : ∀ b : Bool, (if b = true then (1 : Int) else 0) = wantR s.length i k → Ev (fun n => spec_IsRing.j2 n s (i : Int) (k : Int) 0 b) (inRow s i k && (List.range' (k + 1) d).all (inRow s i) && rest) := by
      intro b hb
      refine Ev.step (fun n => ?_) e2
      simp only [spec_IsRing.j2]
      rw [← hb]
      cases b
      · rw [if_neg (by simp), if_pos (by omega), if_pos (by omega), if_pos (by omega), if_pos (by omega), rdSg s i hi, rdSg s k hk1, w1' k (by omega)]; rfl
      · rw [if_pos rfl, if_pos (by omega), if_pos (by omega), if_pos (by omega), if_pos (by omega), rdSg s i hi, rdSg s k hk1, w1' k (by omega)]; rfl
    by_cases z : k + 1 = i
    · refine Ev.step (fun n => ?_) (j true (by show (1 : Int) = _; unfold wantR; rw [if_pos (.inl z)]))
      simp only [spec_IsRing.l1]
      rw [if_pos (by omega), w1' k (by omega), if_pos (by omega)]
    · by_cases z0 : k = 0
      · refine Ev.step (fun n => ?_) (j (decide (i + 1 = s.length)) (by unfold wantR; by_cases q : i + 1 = s.length <;> simp [q, z0] <;> omega))
        simp only [spec_IsRing.l1]
        rw [if_pos (by omega), w1' k (by omega), if_neg (by omega), if_pos (by omega), w1' i (by omega)]
        congr 1
        rw [Bool.eq_iff_iff]; simp; omega
      · refine Ev.step (fun n => ?_) (j false (by show (0 : Int) = _; unfold wantR; rw [if_neg (by omega)]))
        simp only [spec_IsRing.l1]
        rw [if_pos (by omega), w1' k (by omega), if_neg (by omega), if_neg (by omega)]
theorem ring_s0 (s : List S85) (hs : s.length < 1000) (d : Nat) : ∀ i : Nat, i + d = s.length → Ev (fun n => spec_IsRing.l0 n s (i : Int)) (ringS s i d) := by
  induction d with
  | zero =>
    intro i hi
    refine Ev.step (f := fun _ => some true) (fun n => ?_) (Ev.now _)
    simp only [spec_IsRing.l0]
    rw [if_neg (by omega)]
  | succ d ih =>
    intro i hi
    have h1 : i < s.length := by omega
    unfold ringS
    rw [List.range'_succ, List.all_cons]
    cases hq : segL (s.getD i z85)
    · refine Ev.step (f := fun _ => some false) (fun n => ?_) (Ev.now _)
      simp only [spec_IsRing.l0, spec_IsSegment.f, Option.bind_some]
      rw [if_pos (by omega), if_pos (by omega), rdSg s i h1]
      unfold segL at hq
      rw [hq]; simp
    · refine Ev.step (fun n => ?_) (ring_s1 s hs i h1 _ (ih (i + 1) (by omega)) i 0 (by omega))
      simp only [spec_IsRing.l0, spec_IsSegment.f, Option.bind_some]
      rw [if_pos (by omega), if_pos (by omega), rdSg s i h1]
      unfold segL at hq
      rw [hq, if_pos rfl]; rfl
theorem isRing_s (l : List S82) (hl : l.length < 9223372036854775807) : Ev (fun k => spec_IsRing.f k l) (rgB l) := by
  unfold spec_IsRing.f rgB spec_l1In.f
  simp only [Option.bind_some]
  cases h : inR (l.length : Int) 3 10
  · simp only [Bool.false_eq_true, if_false, Bool.false_and]; exact Ev.now _
  · have hb : l.length < 1000 := by unfold inR at h; simp at h; omega
    simp only [if_true, Bool.true_and]
    refine Ev.bind (around_s l hb) ?_
    have := ring_s0 (arR l) (by rw [arR_len]; exact hb) l.length 0 (by rw [arR_len]; omega)
    exact this
theorem ring_i1 (s : List S85) (hs : s.length < 1000) (i : Nat) (hi : i < s.length) (rest : Bool) (hr : Ev (fun k => impl_IsRing.l0 k s (s.length : Int) ((i + 1 : Nat) : Int)) rest) (d : Nat) :
    ∀ k : Nat, k + d = i → Ev (fun n => impl_IsRing.l1 n s (i : Int) (s.length : Int) (i : Int) (i : Int) (k : Int)) ((List.range' k d).all (inRow s i) && rest) := by
  induction d with
  | zero =>
    intro k hk
    refine Ev.step (fun n => ?_) hr
    simp only [impl_IsRing.l1]
    rw [if_neg (by omega), w1' i (by omega)]
  | succ d ih =>
    intro k hk
    have hk1 : k < s.length := by omega
    rw [List.range'_succ, List.all_cons]
    have e2 : Ev (fun n => (impl_HowMeet.f n (s.getD i z85).f0.f0 (s.getD i z85).f0.f1 (s.getD i z85).f1.f0 (s.getD i z85).f1.f1 (s.getD k z85).f0.f0 (s.getD k z85).f0.f1 (s.getD k z85).f1.f0 (s.getD k z85).f1.f1).bind fun t => if t = wantR s.length i k then impl_IsRing.l1 n s (i : Int) (s.length : Int) (i : Int) (i : Int) ((k + 1 : Nat) : Int) else some false) (inRow s i k && (List.range' (k + 1) d).all (inRow s i) && rest) := by
      refine Ev.bind (how_i _ _ _ _ _ _ _ _) ?_
      by_cases hw : howL (s.getD i z85) (s.getD k z85) = wantR s.length i k
      · have e : inRow s i k = true := by unfold inRow; exact decide_eq_true hw
        rw [e, Bool.true_and]
        refine Ev.congr (fun n => ?_) (ih (k + 1) (by omega))
        exact if_pos hw
      · have e : inRow s i k = false := by unfold inRow; exact decide_eq_false hw
        rw [e]
        refine Ev.congr (fun n => ?_) (Ev.now _)
        exact if_neg hw
    have j : ∀ b : Bool, (if b = true then (1 : Int) else 0) = wantR s.length i k → Ev (fun n => impl_IsRing.j3 n s (i : Int) (k : Int) 0 (s.length : Int) (i : Int) (i : Int) (k : Int) b) (inRow s i k && (List.range' (k + 1) d).all (inRow s i) && rest) := by
      intro b hb
      refine Ev.step (fun n => ?_) e2
      simp only [impl_IsRing.j3]
      rw [← hb]
      cases b
      · rw [if_neg (by simp), if_pos (by omega), if_pos (by omega), if_pos (by omega), if_pos (by omega), rdSg s i hi, rdSg s k hk1, w1' k (by omega)]; rfl
      · rw [if_pos rfl, if_pos (by omega), if_pos (by omega), if_pos (by omega), if_pos (by omega), rdSg s i hi, rdSg s k hk1, w1' k (by omega)]; rfl
    have wi : wrap64 ((i : Int) - 1) = (i : Int) - 1 := by unfold wrap64; omega
    have wn : wrap64 ((s.length : Int) - 1) = (s.length : Int) - 1 := by unfold wrap64; omega
    by_cases z : k + 1 = i
    · refine Ev.step (fun n => ?_) (j true (by show (1 : Int) = _; unfold wantR; rw [if_pos (.inl z)]))
      simp only [impl_IsRing.l1]
      rw [if_pos (by omega), wi, if_pos (by omega)]
    · by_cases z0 : k = 0
      · refine Ev.step (fun n => ?_) (j (decide (i + 1 = s.length)) (by unfold wantR; by_cases q : i + 1 = s.length <;> simp [q, z0] <;> omega))
        simp only [impl_IsRing.l1]
        rw [if_pos (by omega), wi, if_neg (by omega), if_pos (by omega), wn]
        congr 1
        rw [Bool.eq_iff_iff]; simp; omega
      · refine Ev.step (fun n => ?_) (j false (by show (0 : Int) = _; unfold wantR; rw [if_neg (by omega)]))
        simp only [impl_IsRing.l1]
        rw [if_pos (by omega), wi, if_neg (by omega), if_neg (by omega)]
theorem ring_i0 (s : List S85) (hs : s.length < 1000) (d : Nat) : ∀ i : Nat, i + d = s.length → Ev (fun n => impl_IsRing.l0 n s (s.length : Int) (i : Int)) (ringS s i d) := by
  induction d with
  | zero =>
    intro i hi
    refine Ev.step (f := fun _ => some true) (fun n => ?_) (Ev.now _)
    simp only [impl_IsRing.l0]
    rw [if_neg (by omega)]
  | succ d ih =>
    intro i hi
    have h1 : i < s.length := by omega
    unfold ringS
    rw [List.range'_succ, List.all_cons]
    cases hq : segL (s.getD i z85)
    · refine Ev.step (f := fun _ => some false) (fun n => ?_) (Ev.now _)
      simp only [impl_IsRing.l0, impl_IsSegment.f, Option.bind_some]
      rw [if_pos (by omega), if_pos (by omega), if_pos (by omega), rdSg s i h1]
      unfold segL at hq
      rw [hq]; simp
    · refine Ev.step (fun n => ?_) (ring_i1 s hs i h1 _ (ih (i + 1) (by omega)) i 0 (by omega))
      simp only [impl_IsRing.l0, impl_IsSegment.f, Option.bind_some]
      rw [if_pos (by omega), if_pos (by omega), if_pos (by omega), rdSg s i h1]
      unfold segL at hq
      rw [hq, if_pos rfl]; rfl
theorem isRing_i (l : List S82) (hl : l.length < 9223372036854775807) : Ev (fun k => impl_IsRing.f k l) (rgB l) := by
  unfold impl_IsRing.f rgB
  have dead : Ev (fun k => impl_IsRing.j0 k l true) false := Ev.step (f := fun _ => some false) (fun k => by simp [impl_IsRing.j0]) (Ev.now _)
  by_cases h2 : (l.length : Int) < 3
  · simp only [if_pos h2]
    have : inR (l.length : Int) 3 10 = false := by unfold inR; simp; omega
    rw [this]; exact dead
  · simp only [if_neg h2]
    by_cases h10 : (l.length : Int) > 10
    · have : inR (l.length : Int) 3 10 = false := by unfold inR; simp; omega
      rw [this, decide_eq_true h10]; exact dead
    · have : inR (l.length : Int) 3 10 = true := by unfold inR; simp; omega
      rw [this, decide_eq_false h10]
      have hb : l.length < 1000 := by omega
      refine Ev.step (f := fun k => (impl_around.f k l).bind fun t => impl_IsRing.l0 k t (t.length : Int) 0) (fun k => by simp [impl_IsRing.j0]) (Ev.bind (around_i l hb) ?_)
      exact ring_i0 (arR l) (by rw [arR_len]; exact hb) l.length 0 (by rw [arR_len]; omega)
def nmB (s : ByteArray) : Bool := (List.range' 0 s.size).all (fun (i : Nat) => decide (97 ≤ bt s (i : Int)) && decide (bt s (i : Int) ≤ 122)) && inR (s.size : Int) 1 8
theorem nm_loop_s (s : ByteArray) (hs : s.size ≤ 9223372036854775807) (d : Nat) : ∀ i : Nat, i + d = s.size → Ev (fun k => spec_IsName.l0 k s (i : Int)) ((List.range' i d).all (fun (i : Nat) => decide (97 ≤ bt s (i : Int)) && decide (bt s (i : Int) ≤ 122)) && inR (s.size : Int) 1 8) := by
  induction d with
  | zero =>
    intro i hi
    refine Ev.step (f := fun _ => some (inR (s.size : Int) 1 8)) (fun k => ?_) (Ev.now _)
    simp only [spec_IsName.l0, spec_l1In.f]
    rw [if_neg (by omega)]; rfl
  | succ d ih =>
    intro i hi
    rw [List.range'_succ, List.all_cons]
    by_cases h1 : bt s (i : Int) < 97
    · rw [decide_eq_false (show ¬ 97 ≤ bt s (i : Int) by omega)]
      refine Ev.step (f := fun _ => some false) (fun k => ?_) (Ev.now _)
      simp only [spec_IsName.l0]
      rw [if_pos (by omega), if_pos (by omega), if_pos h1]
    · by_cases h2 : bt s (i : Int) > 122
      · rw [decide_eq_true (show 97 ≤ bt s (i : Int) by omega), decide_eq_false (show ¬ bt s (i : Int) ≤ 122 by omega)]
        refine Ev.step (f := fun _ => some false) (fun k => ?_) (Ev.now _)
        simp only [spec_IsName.l0]
        rw [if_pos (by omega), if_pos (by omega), if_neg h1, if_pos h2]
      · rw [decide_eq_true (show 97 ≤ bt s (i : Int) by omega), decide_eq_true (show bt s (i : Int) ≤ 122 by omega)]
        refine Ev.step (fun k => ?_) (ih (i + 1) (by omega))
        simp only [spec_IsName.l0]
        rw [if_pos (by omega), if_pos (by omega), if_neg h1, if_neg h2, w1' i (by omega)]
theorem nm_s (s : ByteArray) (hs : s.size ≤ 9223372036854775807) : Ev (fun k => spec_IsName.f k s) (nmB s) := nm_loop_s s hs s.size 0 (by omega)
theorem nm_loop_i (s : ByteArray) (hs : s.size ≤ 9223372036854775807) (d : Nat) : ∀ i : Nat, i + d = s.size → Ev (fun k => impl_IsName.l0 k s (s.size : Int) (i : Int)) ((List.range' i d).all (fun (i : Nat) => decide (97 ≤ bt s (i : Int)) && decide (bt s (i : Int) ≤ 122)) && inR (s.size : Int) 1 8) := by
  induction d with
  | zero =>
    intro i hi
    refine Ev.step (f := fun _ => some (inR (s.size : Int) 1 8)) (fun k => ?_) (Ev.now _)
    simp only [impl_IsName.l0, impl_InRange.f]
    rw [if_neg (by omega)]; rfl
  | succ d ih =>
    intro i hi
    rw [List.range'_succ, List.all_cons]
    by_cases h1 : bt s (i : Int) < 97
    · rw [decide_eq_false (show ¬ 97 ≤ bt s (i : Int) by omega)]
      refine Ev.step (f := fun _ => some false) (fun k => ?_) (Ev.now _)
      simp only [impl_IsName.l0]
      rw [if_pos (by omega), if_pos (by omega), if_pos (by omega), if_pos h1]
    · by_cases h2 : bt s (i : Int) > 122
      · rw [decide_eq_true (show 97 ≤ bt s (i : Int) by omega), decide_eq_false (show ¬ bt s (i : Int) ≤ 122 by omega)]
        refine Ev.step (f := fun _ => some false) (fun k => ?_) (Ev.now _)
        simp only [impl_IsName.l0]
        rw [if_pos (by omega), if_pos (by omega), if_pos (by omega), if_neg h1, if_pos h2]
      · rw [decide_eq_true (show 97 ≤ bt s (i : Int) by omega), decide_eq_true (show bt s (i : Int) ≤ 122 by omega)]
        refine Ev.step (fun k => ?_) (ih (i + 1) (by omega))
        simp only [impl_IsName.l0]
        rw [if_pos (by omega), if_pos (by omega), if_pos (by omega), if_neg h1, if_neg h2, w1' i (by omega)]
theorem nm_i (s : ByteArray) (hs : s.size ≤ 9223372036854775807) : Ev (fun k => impl_IsName.f k s) (nmB s) := nm_loop_i s hs s.size 0 (by omega)
theorem lnB_len {l : List S82} (h : lnB l = true) : 2 ≤ l.length ∧ l.length ≤ 10 := by
  unfold lnB inR at h; simp at h; omega
theorem rgB_len {l : List S82} (h : rgB l = true) : 3 ≤ l.length ∧ l.length ≤ 10 := by
  unfold rgB inR at h; simp at h; omega
/-- The segments of a line, one behind the other. -/
def sgR (l : List S82) : List S85 := (List.range (l.length - 1)).map fun i => (⟨l.getD i z82, l.getD (i + 1) z82⟩ : S85)
def sgL (l : List S82) : List S85 := if lnB l then sgR l else []
theorem sgR_len (l : List S82) : (sgR l).length = l.length - 1 := by simp [sgR]
theorem sgR_take (l : List S82) (i : Nat) (h : i + 1 < l.length) : (sgR l).take (i + 1) = (sgR l).take i ++ [(⟨l.getD i z82, l.getD (i + 1) z82⟩ : S85)] := by
  rw [List.take_succ_eq_append_getElem (by rw [sgR_len]; omega)]
  simp [sgR]
theorem seg_sl (l : List S82) (hl : lnB l = true) (d : Nat) : ∀ i : Nat, i + 1 + d = l.length → Ev (fun k => spec_SegmentsOf.l0 k l ((sgR l).take i) ((i + 1 : Nat) : Int)) (sgR l) := by
  have hb := lnB_len hl
  induction d with
  | zero =>
    intro i hi
    rw [List.take_of_length_le (by rw [sgR_len]; omega)]
    refine Ev.step (f := fun _ => some _) (fun k => ?_) (Ev.now _)
    simp only [spec_SegmentsOf.l0]
    rw [if_neg (by omega)]
  | succ d ih =>
    intro i hi
    have hlen : ((sgR l).take i).length < 4398046511104 := by rw [List.length_take, sgR_len]; omega
    have w : wrap64 (((i + 1 : Nat) : Int) - 1) = (i : Int) := by unfold wrap64; omega
    refine Ev.step (f := fun k => (spec_IsLine.f k l).bind fun t => if t = true then spec_SegmentsOf.l0 k l ((sgR l).take (i + 1)) ((i + 1 + 1 : Nat) : Int) else some ((sgR l).take i)) (fun k => ?_) (Ev.bind (isLine_s l (by omega)) ?_)
    · simp only [spec_SegmentsOf.l0]
      rw [if_pos (by omega), w, if_pos (by omega), if_pos (by omega), if_pos (by omega), if_pos hlen, rdPd, rdPd, sgR_take l i (by omega), w1' (i + 1) (by omega)]
    · rw [hl]
      simp only [if_true]
      exact ih (i + 1) (by omega)
theorem seg_s (l : List S82) (hl : l.length < 9223372036854775807) : Ev (fun k => spec_SegmentsOf.f k l) (sgL l) := by
  unfold spec_SegmentsOf.f sgL
  cases h : lnB l
  · by_cases h1 : (1 : Int) < (l.length : Int)
    · refine Ev.step (f := fun k => (spec_IsLine.f k l).bind fun t => if t = true then spec_SegmentsOf.l0 (k + 1) l [] 1 else some []) (fun k => ?_) (Ev.bind (isLine_s l hl) ?_)
      · simp only [spec_SegmentsOf.l0]
        rw [if_pos h1]
        cases hh : spec_IsLine.f k l with
        | none => rfl
        | some b => cases b <;> simp [h1]
      · rw [h]; simp only [Bool.false_eq_true, if_false]; exact Ev.now _
    · refine Ev.step (f := fun _ => some []) (fun k => ?_) (Ev.now _)
      simp only [spec_SegmentsOf.l0]
      rw [if_neg h1]
  · have hb := lnB_len h
    exact seg_sl l h (l.length - 1) 0 (by omega)
theorem seg_il (l : List S82) (hl : lnB l = true) (d : Nat) : ∀ i : Nat, i + 1 + d = l.length → Ev (fun k => impl_SegmentsOf.l0 k l ((sgR l).take i) ((i + 1 : Nat) : Int)) (sgR l) := by
  have hb := lnB_len hl
  induction d with
  | zero =>
    intro i hi
    rw [List.take_of_length_le (by rw [sgR_len]; omega)]
    refine Ev.step (f := fun _ => some _) (fun k => ?_) (Ev.now _)
    simp only [impl_SegmentsOf.l0]
    rw [if_neg (by omega)]
  | succ d ih =>
    intro i hi
    have hlen : ((sgR l).take i).length < 4398046511104 := by rw [List.length_take, sgR_len]; omega
    have w : wrap64 (((i + 1 : Nat) : Int) - 1) = (i : Int) := by unfold wrap64; omega
    refine Ev.step (fun k => ?_) (ih (i + 1) (by omega))
    simp only [impl_SegmentsOf.l0]
    rw [if_pos (by omega), w, if_pos (by omega), if_pos (by omega), if_pos (by omega), if_pos hlen, rdPd, rdPd, sgR_take l i (by omega), w1' (i + 1) (by omega)]
theorem seg_i (l : List S82) (hl : l.length < 9223372036854775807) : Ev (fun k => impl_SegmentsOf.f k l) (sgL l) := by
  unfold impl_SegmentsOf.f sgL
  simp only [Option.bind_some]
  refine Ev.bind (isLine_i l hl) ?_
  cases h : lnB l
  · simp only [Bool.false_eq_true, if_false]; exact Ev.now _
  · have hb := lnB_len h
    simp only [if_true]
    exact seg_il l h (l.length - 1) 0 (by omega)
def wantS (i k : Nat) : Int := if k + 1 = i then 1 else 0
def inRow2 (s : List S85) (i : Nat) (k : Nat) : Bool := decide (howL (s.getD i z85) (s.getD k z85) = wantS i k)
def simS (s : List S85) (i d : Nat) : Bool := (List.range' i d).all fun i => (List.range' 0 i).all (inRow2 s i)
def smB (l : List S82) : Bool := lnB l && simS (sgL l) 0 (sgL l).length
theorem sim_s1 (l : List S82) (s : List S85) (hs : s.length < 1000) (i : Nat) (hi : i < s.length) (rest : Bool) (hr : Ev (fun k => spec_IsSimple.l0 k l s ((i + 1 : Nat) : Int)) rest) (d : Nat) :
    ∀ k : Nat, k + d = i → Ev (fun n => spec_IsSimple.l1 n l s (i : Int) (k : Int)) ((List.range' k d).all (inRow2 s i) && rest) := by
  induction d with
  | zero =>
    intro k hk
    refine Ev.step (fun n => ?_) hr
    simp only [spec_IsSimple.l1]
    rw [if_neg (by omega), w1' i (by omega)]
  | succ d ih =>
    intro k hk
    have hk1 : k < s.length := by omega
    rw [List.range'_succ, List.all_cons]
    have e2 : Ev (fun n => (spec_HowMeet.f (s.getD i z85).f0.f0 (s.getD i z85).f0.f1 (s.getD i z85).f1.f0 (s.getD i z85).f1.f1 (s.getD k z85).f0.f0 (s.getD k z85).f0.f1 (s.getD k z85).f1.f0 (s.getD k z85).f1.f1).bind fun t => if t = wantS i k then spec_IsSimple.l1 n l s (i : Int) ((k + 1 : Nat) : Int) else some false) (inRow2 s i k && (List.range' (k + 1) d).all (inRow2 s i) && rest) := by
      refine Ev.bind (how_s _ _ _ _ _ _ _ _) ?_
      by_cases hw : howL (s.getD i z85) (s.getD k z85) = wantS i k
      · have e : inRow2 s i k = true := by unfold inRow2; exact decide_eq_true hw
        rw [e, Bool.true_and]
        refine Ev.congr (fun n => ?_) (ih (k + 1) (by omega))
        exact if_pos hw
      · have e : inRow2 s i k = false := by unfold inRow2; exact decide_eq_false hw
        rw [e]
        refine Ev.congr (fun n => ?_) (Ev.now _)
        exact if_neg hw
    refine Ev.step (fun n => ?_) e2
    simp only [spec_IsSimple.l1]
    by_cases z : k + 1 = i
    · have hw : wantS i k = 1 := by unfold wantS; rw [if_pos z]
      rw [hw, if_pos (by omega), w1' k (by omega), if_pos (by omega), if_pos (by omega), if_pos (by omega), if_pos (by omega), if_pos (by omega), rdSg s i hi, rdSg s k hk1]
    · have hw : wantS i k = 0 := by unfold wantS; rw [if_neg z]
      rw [hw, if_pos (by omega), w1' k (by omega), if_neg (by omega), if_pos (by omega), if_pos (by omega), if_pos (by omega), if_pos (by omega), rdSg s i hi, rdSg s k hk1]
theorem sim_s0 (l : List S82) (hl : l.length < 9223372036854775807) (s : List S85) (hs : s.length < 1000) (d : Nat) : ∀ i : Nat, i + d = s.length → Ev (fun n => spec_IsSimple.l0 n l s (i : Int)) (simS s i d && lnB l) := by
  induction d with
  | zero =>
    intro i hi
    refine Ev.step (f := fun k => (spec_IsLine.f k l).bind fun t => some t) (fun n => ?_) (Ev.bind (isLine_s l hl) (Ev.now _))
    simp only [spec_IsSimple.l0]
    rw [if_neg (by omega)]
  | succ d ih =>
    intro i hi
    have h1 : i < s.length := by omega
    unfold simS
    rw [List.range'_succ, List.all_cons, Bool.and_assoc]
    refine Ev.step (fun n => ?_) (sim_s1 l s hs i h1 _ (ih (i + 1) (by omega)) i 0 (by omega))
    simp only [spec_IsSimple.l0]
    rw [if_pos (by omega)]; rfl
theorem sgL_len (l : List S82) : (sgL l).length < 1000 := by
  unfold sgL
  cases h : lnB l
  · simp
  · have := lnB_len h; simp [sgR_len]; omega
theorem isSimple_s (l : List S82) (hl : l.length < 9223372036854775807) : Ev (fun k => spec_IsSimple.f k l) (smB l) := by
  unfold spec_IsSimple.f smB
  refine Ev.bind (seg_s l hl) ?_
  rw [Bool.and_comm]
  exact sim_s0 l hl (sgL l) (sgL_len l) (sgL l).length 0 (by omega)
theorem sim_i1 (s : List S85) (hs : s.length < 1000) (i : Nat) (hi : i < s.length) (rest : Bool) (hr : Ev (fun k => impl_IsSimple.l0 k s (s.length : Int) ((i + 1 : Nat) : Int)) rest) (d : Nat) :
    ∀ k : Nat, k + d = i → Ev (fun n => impl_IsSimple.l1 n s (i : Int) (s.length : Int) (i : Int) (i : Int) (k : Int)) ((List.range' k d).all (inRow2 s i) && rest) := by
  induction d with
  | zero =>
    intro k hk
    refine Ev.step (fun n => ?_) hr
    simp only [impl_IsSimple.l1]
    rw [if_neg (by omega), w1' i (by omega)]
  | succ d ih =>
    intro k hk
    have hk1 : k < s.length := by omega
    rw [List.range'_succ, List.all_cons]
    have e2 : Ev (fun n => (impl_HowMeet.f n (s.getD i z85).f0.f0 (s.getD i z85).f0.f1 (s.getD i z85).f1.f0 (s.getD i z85).f1.f1 (s.getD k z85).f0.f0 (s.getD k z85).f0.f1 (s.getD k z85).f1.f0 (s.getD k z85).f1.f1).bind fun t => if t = wantS i k then impl_IsSimple.l1 n s (i : Int) (s.length : Int) (i : Int) (i : Int) ((k + 1 : Nat) : Int) else some false) (inRow2 s i k && (List.range' (k + 1) d).all (inRow2 s i) && rest) := by
      refine Ev.bind (how_i _ _ _ _ _ _ _ _) ?_
      by_cases hw : howL (s.getD i z85) (s.getD k z85) = wantS i k
      · have e : inRow2 s i k = true := by unfold inRow2; exact decide_eq_true hw
        rw [e, Bool.true_and]
        refine Ev.congr (fun n => ?_) (ih (k + 1) (by omega))
        exact if_pos hw
      · have e : inRow2 s i k = false := by unfold inRow2; exact decide_eq_false hw
        rw [e]
        refine Ev.congr (fun n => ?_) (Ev.now _)
        exact if_neg hw
    have wi : wrap64 ((i : Int) - 1) = (i : Int) - 1 := by unfold wrap64; omega
    refine Ev.step (fun n => ?_) e2
    simp only [impl_IsSimple.l1]
    by_cases z : k + 1 = i
    · have hw : wantS i k = 1 := by unfold wantS; rw [if_pos z]
      rw [hw, if_pos (by omega), wi, if_pos (by omega), if_pos (by omega), if_pos (by omega), if_pos (by omega), if_pos (by omega), rdSg s i hi, rdSg s k hk1, w1' k (by omega)]
    · have hw : wantS i k = 0 := by unfold wantS; rw [if_neg z]
      rw [hw, if_pos (by omega), wi, if_neg (by omega), if_pos (by omega), if_pos (by omega), if_pos (by omega), if_pos (by omega), rdSg s i hi, rdSg s k hk1, w1' k (by omega)]
theorem sim_i0 (s : List S85) (hs : s.length < 1000) (d : Nat) : ∀ i : Nat, i + d = s.length → Ev (fun n => impl_IsSimple.l0 n s (s.length : Int) (i : Int)) (simS s i d) := by
  induction d with
  | zero =>
    intro i hi
    refine Ev.step (f := fun _ => some true) (fun n => ?_) (Ev.now _)
    simp only [impl_IsSimple.l0]
    rw [if_neg (by omega)]
  | succ d ih =>
    intro i hi
    have h1 : i < s.length := by omega
    unfold simS
    rw [List.range'_succ, List.all_cons]
    refine Ev.step (fun n => ?_) (sim_i1 s hs i h1 _ (ih (i + 1) (by omega)) i 0 (by omega))
    simp only [impl_IsSimple.l0]
    rw [if_pos (by omega)]; rfl
theorem isSimple_i (l : List S82) (hl : l.length < 9223372036854775807) : Ev (fun k => impl_IsSimple.f k l) (smB l) := by
  unfold impl_IsSimple.f smB
  refine Ev.bind (isLine_i l hl) ?_
  cases h : lnB l
  · simp only [Bool.false_eq_true, if_false, Bool.false_and]; exact Ev.now _
  · simp only [if_true, Bool.true_and]
    refine Ev.bind (seg_i l hl) ?_
    exact sim_i0 (sgL l) (sgL_len l) (sgL l).length 0 (by omega)
def kdB (kd : Int) (l : List S82) : Bool := if kd = 1 then decide (l.length = 1) && isPt (l.getD 0 z82).f0 (l.getD 0 z82).f1 else if kd = 2 then smB l else if kd = 3 then rgB l else false
def ftB (a b c : Int) (s : ByteArray) (l : List S82) : Bool := inR a 1 99 && (inR c 0 9 && ((decide (s.toList = ([] : List UInt8)) || nmB s) && kdB b l))
theorem rdP0 (l : List S82) : rd_T82 l 0 = l.getD 0 z82 := rfl
theorem ft_js (a b c : Int) (s : ByteArray) (l : List S82) (hl : l.length < 9223372036854775807) (q : Bool) : Ev (fun k => spec_IsFeature.j0 k q a b c s l) (!q && kdB b l) := by
  cases q
  · unfold kdB
    by_cases h1 : b = 1
    · refine Ev.step (f := fun _ => some (decide (l.length = 1) && isPt (l.getD 0 z82).f0 (l.getD 0 z82).f1)) (fun k => ?_) (by simp only [if_pos h1]; exact Ev.now _)
      simp only [spec_IsFeature.j0, Bool.false_eq_true, if_false, if_pos h1, spec_IsPoint.f, Option.bind_some, rdP0]
      by_cases h : (l.length : Int) = 1
      · rw [if_pos h, if_pos (by omega), decide_eq_true (show l.length = 1 by omega)]; rfl
      · rw [if_neg h, decide_eq_false (show ¬ l.length = 1 by omega)]; rfl
    · by_cases h2 : b = 2
      · simp only [if_neg h1, if_pos h2]
        refine Ev.step (f := fun k => (spec_IsSimple.f k l).bind fun t => some t) (fun k => ?_) (Ev.bind (isSimple_s l hl) (Ev.now _))
        simp only [spec_IsFeature.j0, Bool.false_eq_true, if_false, if_neg h1, if_pos h2]
      · by_cases h3 : b = 3
        · simp only [if_neg h1, if_neg h2, if_pos h3]
          refine Ev.step (f := fun k => (spec_IsRing.f k l).bind fun t => some t) (fun k => ?_) (Ev.bind (isRing_s l hl) (Ev.now _))
          simp only [spec_IsFeature.j0, Bool.false_eq_true, if_false, if_neg h1, if_neg h2, if_pos h3]
        · simp only [if_neg h1, if_neg h2, if_neg h3]
          refine Ev.step (f := fun _ => some false) (fun k => ?_) (Ev.now _)
          simp only [spec_IsFeature.j0, Bool.false_eq_true, if_false, if_neg h1, if_neg h2, if_neg h3]
  · refine Ev.step (f := fun _ => some false) (fun k => ?_) (Ev.now _)
    simp [spec_IsFeature.j0]
theorem ft_s (a b c : Int) (s : ByteArray) (hs : s.size ≤ 9223372036854775807) (l : List S82) (hl : l.length < 9223372036854775807) : Ev (fun k => spec_IsFeature.f k a b c s l) (ftB a b c s l) := by
  unfold spec_IsFeature.f ftB spec_l1In.f
  simp only [Option.bind_some]
  cases inR a 1 99
  · simp only [Bool.false_eq_true, if_false]; exact ft_js a b c s l hl true
  · cases inR c 0 9
    · simp only [if_true, Bool.false_eq_true, if_false]; exact ft_js a b c s l hl true
    · simp only [if_true, Bool.true_and]
      by_cases he : s.toList = ([] : List UInt8)
      · simp only [if_pos he, decide_eq_true he, Bool.true_or]; exact ft_js a b c s l hl false
      · simp only [if_neg he, decide_eq_false he, Bool.false_or]
        refine Ev.bind (nm_s s hs) ?_
        have := ft_js a b c s l hl (!nmB s)
        rw [Bool.not_not] at this
        exact this
theorem ft_ji (a b c : Int) (s : ByteArray) (l : List S82) (hl : l.length < 9223372036854775807) (q : Bool) : Ev (fun k => impl_IsFeature.j0 k q a b c s l) (!q && kdB b l) := by
  cases q
  · unfold kdB
    by_cases h1 : b = 1
    · refine Ev.step (f := fun _ => some (decide (l.length = 1) && isPt (l.getD 0 z82).f0 (l.getD 0 z82).f1)) (fun k => ?_) (by simp only [if_pos h1]; exact Ev.now _)
      simp only [impl_IsFeature.j0, Bool.false_eq_true, if_false, if_pos h1, impl_IsPoint.f, Option.bind_some, rdP0]
      by_cases h : (l.length : Int) = 1
      · rw [if_pos h, if_pos (by omega), decide_eq_true (show l.length = 1 by omega)]; rfl
      · rw [if_neg h, decide_eq_false (show ¬ l.length = 1 by omega)]; rfl
    · by_cases h2 : b = 2
      · simp only [if_neg h1, if_pos h2]
        refine Ev.step (f := fun k => (impl_IsSimple.f k l).bind fun t => some t) (fun k => ?_) (Ev.bind (isSimple_i l hl) (Ev.now _))
        simp only [impl_IsFeature.j0, Bool.false_eq_true, if_false, if_neg h1, if_pos h2]
      · by_cases h3 : b = 3
        · simp only [if_neg h1, if_neg h2, if_pos h3]
          refine Ev.step (f := fun k => (impl_IsRing.f k l).bind fun t => some t) (fun k => ?_) (Ev.bind (isRing_i l hl) (Ev.now _))
          simp only [impl_IsFeature.j0, Bool.false_eq_true, if_false, if_neg h1, if_neg h2, if_pos h3]
        · simp only [if_neg h1, if_neg h2, if_neg h3]
          refine Ev.step (f := fun _ => some false) (fun k => ?_) (Ev.now _)
          simp only [impl_IsFeature.j0, Bool.false_eq_true, if_false, if_neg h1, if_neg h2, if_neg h3]
  · refine Ev.step (f := fun _ => some false) (fun k => ?_) (Ev.now _)
    simp [impl_IsFeature.j0]
theorem ft_i (a b c : Int) (s : ByteArray) (hs : s.size ≤ 9223372036854775807) (l : List S82) (hl : l.length < 9223372036854775807) : Ev (fun k => impl_IsFeature.f k a b c s l) (ftB a b c s l) := by
  unfold impl_IsFeature.f ftB impl_InRange.f
  simp only [Option.bind_some]
  cases inR a 1 99
  · simp only [Bool.false_eq_true, if_false]; exact ft_ji a b c s l hl true
  · cases inR c 0 9
    · simp only [if_true, Bool.false_eq_true, if_false]; exact ft_ji a b c s l hl true
    · simp only [if_true, Bool.true_and]
      by_cases he : s.toList = ([] : List UInt8)
      · simp only [if_pos he, decide_eq_true he, Bool.true_or]; exact ft_ji a b c s l hl false
      · simp only [if_neg he, decide_eq_false he, Bool.false_or]
        refine Ev.bind (nm_i s hs) ?_
        have := ft_ji a b c s l hl (!nmB s)
        rw [Bool.not_not] at this
        exact this
def boxB (a b c d : Int) : Bool := isPt a b && (isPt c d && (decide (a ≤ c) && decide (b ≤ d)))
theorem box_s (a b c d : Int) : spec_IsBox.f a b c d = some (boxB a b c d) := by
  unfold spec_IsBox.f boxB spec_IsPoint.f
  simp only [Option.bind_some]
  cases isPt a b
  · rfl
  · cases isPt c d
    · rfl
    · by_cases h : a ≤ c
      · simp [h]
      · simp [h]
theorem box_i (a b c d : Int) : impl_IsBox.f a b c d = some (boxB a b c d) := by
  unfold impl_IsBox.f boxB impl_IsPoint.f
  simp only [Option.bind_some]
  cases isPt a b
  · rfl
  · cases isPt c d
    · rfl
    · by_cases h : a ≤ c
      · simp [h]
      · simp [h]
theorem isPt_bd {x y : Int} (h : isPt x y = true) : 0 ≤ x ∧ x ≤ 200 ∧ 0 ≤ y ∧ y ≤ 200 := by
  simp only [isPt, inR, Bool.and_eq_true, decide_eq_true_eq] at h
  omega
theorem box_bound {a b c d : Int} (h : boxB a b c d = true) : 0 ≤ a ∧ a ≤ 200 ∧ 0 ≤ b ∧ b ≤ 200 ∧ 0 ≤ c ∧ c ≤ 200 ∧ 0 ≤ d ∧ d ≤ 200 := by
  simp only [boxB, Bool.and_eq_true] at h
  have := isPt_bd h.1
  have := isPt_bd h.2.1
  omega
def ovB (a b c d e f g h : Int) : Bool := boxB a b c d && (boxB e f g h && (decide (mx a e < mn c g) && decide (mx b f < mn d h)))
theorem ov_s (a b c d e f g h : Int) : spec_BoxesOverlap.f a b c d e f g h = some (ovB a b c d e f g h) := by
  unfold spec_BoxesOverlap.f ovB spec_Min.f spec_Max.f
  simp only [box_s, Option.bind_some]
  cases boxB a b c d
  · rfl
  · cases boxB e f g h
    · rfl
    · by_cases h1 : mx a e < mn c g
      · simp [h1]
      · simp [h1]
theorem mn_bound (a b : Int) (h : 0 ≤ a ∧ a ≤ 200) (h' : 0 ≤ b ∧ b ≤ 200) : 0 ≤ mn a b ∧ mn a b ≤ 200 := by unfold mn; split <;> omega
theorem mx_bound (a b : Int) (h : 0 ≤ a ∧ a ≤ 200) (h' : 0 ≤ b ∧ b ≤ 200) : 0 ≤ mx a b ∧ mx a b ≤ 200 := by unfold mx; split <;> omega
theorem wrap_mid {a : Int} (h : -1000 ≤ a) (h' : a ≤ 1000) : wrap64 a = a := by unfold wrap64; omega
theorem ov_i (a b c d e f g h : Int) : impl_BoxesOverlap.f a b c d e f g h = some (ovB a b c d e f g h) := by
  unfold impl_BoxesOverlap.f impl_common.f ovB
  simp only [box_i, Option.bind_some]
  cases h1 : boxB a b c d
  · rfl
  · cases h2 : boxB e f g h
    · rfl
    · have b1 := box_bound h1
      have b2 := box_bound h2
      have m1 := mn_bound c g (by omega) (by omega)
      have m2 := mx_bound a e (by omega) (by omega)
      have m3 := mn_bound d h (by omega) (by omega)
      have m4 := mx_bound b f (by omega) (by omega)
      rw [wrap_mid (a := mn c g - mx a e) (by omega) (by omega), wrap_mid (a := mn d h - mx b f) (by omega) (by omega)]
      by_cases h3 : mx a e < mn c g
      · simp only [if_true, if_pos (show mn c g - mx a e > 0 by omega), decide_eq_true h3, Bool.true_and]
        rw [decide_eq_decide.2 (show mn d h - mx b f > 0 ↔ mx b f < mn d h by omega)]
      · simp only [if_true, if_neg (show ¬ mn c g - mx a e > 0 by omega), decide_eq_false h3, Bool.true_and, Bool.false_and]
theorem mx_comm (a b : Int) : mx a b = mx b a := by unfold mx; (repeat' split) <;> omega
theorem mn_comm (a b : Int) : mn a b = mn b a := by unfold mn; (repeat' split) <;> omega
theorem ov_comm (a b c d e f g h : Int) : ovB a b c d e f g h = ovB e f g h a b c d := by
  unfold ovB
  rw [mx_comm a e, mx_comm b f, mn_comm c g, mn_comm d h]
  cases boxB a b c d <;> cases boxB e f g h <;> simp
theorem rdl_at (l : List S131) (i : Nat) (h : i < l.length) : rd_T131 l (i : Int) = l[i] := by
  unfold rd_T131
  rw [Int.toNat_natCast, List.getD_eq_getElem?_getD, List.getElem?_eq_getElem h]
  rfl
theorem rdL_at (l : List S100) (i : Nat) (h : i < l.length) : rd_T100 l (i : Int) = l[i] := by
  unfold rd_T100
  rw [Int.toNat_natCast, List.getD_eq_getElem?_getD, List.getElem?_eq_getElem h]
  rfl
def conv (x : S131) : S100 := ⟨x.f0, x.f1, (⟨(⟨x.f2.f0.f0, x.f2.f0.f1⟩ : S82), (⟨x.f2.f1.f0, x.f2.f1.f1⟩ : S82)⟩ : S98)⟩
theorem toLabels_l (l : List S131) (hb : l.length < 9223372036854775807) (d : Nat) : ∀ i : Nat, i + d = l.length → Ev (fun k => laws_toLabelS.l0 k l ((l.map conv).take i ++ List.replicate d z100) (i : Int)) (l.map conv) := by
  induction d with
  | zero =>
    intro i hi
    refine Ev.step (f := fun _ => some (l.map conv)) (fun k => ?_) (Ev.now _)
    simp only [laws_toLabelS.l0]
    rw [if_neg (by omega), List.take_of_length_le (by simp; omega)]
    simp
  | succ d ih =>
    intro i hi
    have h1 : i < l.length := by omega
    refine Ev.step (fun k => ?_) (ih (i + 1) (by omega))
    simp only [laws_toLabelS.l0, laws_toLabel.f, laws_toBox.f, laws_toPoint.f, Option.bind_some]
    rw [if_pos (by omega), if_pos (by omega), if_pos (by simp; omega), rdl_at l i h1, w1 i (by omega)]
    congr 1
    have hm : i < (l.map conv).length := by simpa using h1
    rw [Int.toNat_natCast, List.set_append_right _ _ (by simp; omega), List.take_succ_eq_append_getElem hm, List.replicate_succ]
    simp only [List.length_take, List.length_map, Nat.min_eq_left (show i ≤ l.length by omega), Nat.sub_self, List.set_cons_zero, List.append_assoc, List.singleton_append, List.getElem_map, conv]
theorem toLabels (l : List S131) (hb : l.length ≤ 1048576) : Ev (fun k => laws_toLabelS.f k l) (l.map conv) := by
  unfold laws_toLabelS.f
  simp only [if_pos (show (0 : Int) ≤ (l.length : Int) by omega), Int.toNat_natCast, if_pos (show l.length ≤ 5026338869833 by omega)]
  have := toLabels_l l (by omega) l.length 0 (by omega)
  simpa using this
theorem eqLab (x : S100) : laws_eqLabel.f x.f0 x.f1 x.f2.f0.f0 x.f2.f0.f1 x.f2.f1.f0 x.f2.f1.f1 x.f0 x.f1 x.f2.f0.f0 x.f2.f0.f1 x.f2.f1.f0 x.f2.f1.f1 = some true := by simp [laws_eqLabel.f, laws_eqBox.f, laws_eqPoint.f]
theorem eqLabels_l (l : List S100) (hb : l.length < 9223372036854775807) (d : Nat) : ∀ i : Nat, i + d = l.length → Ev (fun k => laws_eqLabelS.l0 k l l (i : Int)) true := by
  induction d with
  | zero =>
    intro i hi
    refine Ev.step (f := fun _ => some true) (fun k => ?_) (Ev.now _)
    simp only [laws_eqLabelS.l0]
    rw [if_neg (by omega)]
  | succ d ih =>
    intro i hi
    have h1 : i < l.length := by omega
    refine Ev.step (fun k => ?_) (ih (i + 1) (by omega))
    simp only [laws_eqLabelS.l0]
    rw [if_pos (by omega), if_pos (by omega), if_pos (by omega), rdL_at l i h1, eqLab, w1 i (by omega)]
    simp
theorem eqLabels (l : List S100) (hb : l.length < 9223372036854775807) : Ev (fun k => laws_eqLabelS.f k l l) true := by
  unfold laws_eqLabelS.f
  simp only [if_true]
  exact eqLabels_l l hb l.length 0 (by omega)
theorem szLabels_l (l : List S131) (hl : ∀ x ∈ l, x.f1.size ≤ 9223372036854775807) (hb : l.length < 9223372036854775807) (d : Nat) : ∀ (i : Nat) (n : Int), i + d = l.length → 0 ≤ n → n ≤ 1048576 → ∃ r, Ev (fun k => laws_szLabelS.l0 k l n (i : Int)) r := by
  induction d with
  | zero =>
    intro i n hi h0 h1
    refine ⟨n, Ev.step (f := fun _ => some n) (fun k => ?_) (Ev.now _)⟩
    simp only [laws_szLabelS.l0]
    rw [if_neg (by omega)]
  | succ d ih =>
    intro i n hi h0 h1
    have hl1 : i < l.length := by omega
    have hx := hl _ (List.getElem_mem hl1)
    have hw : wrap64 (n - (l[i].f1.size : Int)) = n - (l[i].f1.size : Int) := by unfold wrap64; omega
    by_cases hc : n - (l[i].f1.size : Int) < 0
    · refine ⟨-1, Ev.step (f := fun _ => some (-1)) (fun k => ?_) (Ev.now _)⟩
      simp only [laws_szLabelS.l0, laws_szLabel.f]
      rw [if_pos (by omega), if_pos (by omega), rdl_at l i hl1, hw, if_pos hc]
      rfl
    · obtain ⟨r, hr⟩ := ih (i + 1) (n - (l[i].f1.size : Int)) (by omega) (by omega) (by omega)
      refine ⟨r, Ev.step (fun k => ?_) hr⟩
      simp only [laws_szLabelS.l0, laws_szLabel.f]
      rw [if_pos (by omega), if_pos (by omega), rdl_at l i hl1, hw, if_neg hc]
      simp only [Option.bind_some]
      rw [if_neg hc, w1 i (by omega)]
theorem szLabels (l : List S131) (hl : ∀ x ∈ l, x.f1.size ≤ 9223372036854775807) (hb : l.length ≤ 9223372036854775807) : ∃ r, Ev (fun k => laws_szLabelS.f k l 1048576) r ∧ (¬ r < 0 → l.length ≤ 1048576) := by
  unfold laws_szLabelS.f
  have hw : wrap64 (1048576 - (l.length : Int)) = 1048576 - (l.length : Int) := by unfold wrap64; omega
  rw [hw]
  by_cases hc : 1048576 - (l.length : Int) < 0
  · exact ⟨-1, by simp only [if_pos hc]; exact Ev.now _, fun h => by omega⟩
  · simp only [if_neg hc]
    obtain ⟨r, hr⟩ := szLabels_l l hl (by omega) l.length 0 (1048576 - (l.length : Int)) (by omega) (by omega) (by omega)
    exact ⟨r, hr, fun _ => by omega⟩
theorem szLabelsN (n : Int) (hn : 0 ≤ n) (hn1 : n ≤ 1048576) (l : List S131) (hl : ∀ x ∈ l, x.f1.size ≤ 9223372036854775807) (hb : l.length ≤ 9223372036854775807) : ∃ r, Ev (fun k => laws_szLabelS.f k l n) r ∧ (¬ r < 0 → l.length ≤ 1048576) := by
  unfold laws_szLabelS.f
  have hw : wrap64 (n - (l.length : Int)) = n - (l.length : Int) := by unfold wrap64; omega
  rw [hw]
  by_cases hc : n - (l.length : Int) < 0
  · exact ⟨-1, by simp only [if_pos hc]; exact Ev.now _, fun h => by omega⟩
  · simp only [if_neg hc]
    obtain ⟨r, hr⟩ := szLabels_l l hl (by omega) l.length 0 (n - (l.length : Int)) (by omega) (by omega) (by omega)
    exact ⟨r, hr, fun _ => by omega⟩
def ovL (x y : S100) : Bool := ovB x.f2.f0.f0 x.f2.f0.f1 x.f2.f1.f0 x.f2.f1.f1 y.f2.f0.f0 y.f2.f0.f1 y.f2.f1.f0 y.f2.f1.f1
theorem ovL_comm (x y : S100) : ovL x y = ovL y x := ov_comm _ _ _ _ _ _ _ _
theorem apart_s (l : List S100) (hb : l.length ≤ 1048576) (d : Nat) : ∀ i : Nat, i + d = l.length → ∃ v : Bool, Ev (fun k => spec_AreApart.l0 k l (i : Int)) v ∧ (v = true ↔ ∀ p (hp : p < l.length), i ≤ p → ∀ q (hq : q < l.length), q < p → ovL l[p] l[q] = false) := by
  induction d with
  | zero =>
    intro i hi
    refine ⟨true, Ev.step (f := fun _ => some true) (fun k => ?_) (Ev.now _), by simp; intro p hp; omega⟩
    simp only [spec_AreApart.l0]
    rw [if_neg (by omega)]
  | succ d ih =>
    intro i hi
    have hi' : i < l.length := by omega
    obtain ⟨v, e1, e2⟩ := ih (i + 1) (by omega)
    have inner : ∀ d' j : Nat, j + d' = i → ∃ v : Bool, Ev (fun k => spec_AreApart.l1 k l (i : Int) (j : Int)) v ∧ (v = true ↔ (∀ q (hq : q < l.length), j ≤ q → q < i → ovL l[i] l[q] = false) ∧ ∀ p (hp : p < l.length), i + 1 ≤ p → ∀ q (hq : q < l.length), q < p → ovL l[p] l[q] = false) := by
      intro d'
      induction d' with
      | zero =>
        intro j hj
        refine ⟨v, Ev.step (fun k => ?_) e1, e2.trans ⟨fun h => ⟨fun q _ h1 h2 => by omega, h⟩, fun h => h.2⟩⟩
        simp only [spec_AreApart.l1]
        rw [if_neg (by omega), w1 i (by omega)]
      | succ d' ih' =>
        intro j hj
        have hj' : j < l.length := by omega
        obtain ⟨u, f1, f2⟩ := ih' (j + 1) (by omega)
        by_cases hv : ovL l[i] l[j] = true
        · refine ⟨false, Ev.step (f := fun _ => some false) (fun k => ?_) (Ev.now _), ?_⟩
          · simp only [spec_AreApart.l1, ov_s]
            rw [if_pos (by omega), if_pos (by omega), if_pos (by omega), if_pos (by omega), if_pos (by omega), rdL_at l i hi', rdL_at l j hj']
            show (if ovL l[i] l[j] = true then some false else _) = _
            rw [if_pos hv]
          · constructor
            · intro h; cases h
            · intro h; have := h.1 j hj' (Nat.le_refl _) (by omega); rw [hv] at this; cases this
        · refine ⟨u, Ev.step (fun k => ?_) f1, f2.trans ?_⟩
          · simp only [spec_AreApart.l1, ov_s]
            rw [if_pos (by omega), if_pos (by omega), if_pos (by omega), if_pos (by omega), if_pos (by omega), rdL_at l i hi', rdL_at l j hj', w1 j (by omega)]
            show (if ovL l[i] l[j] = true then some false else _) = _
            rw [if_neg hv]
          · refine ⟨fun h => ⟨fun q hq h1 h2 => ?_, h.2⟩, fun h => ⟨fun q hq h1 h2 => h.1 q hq (by omega) h2, h.2⟩⟩
            by_cases hjq : q = j
            · subst hjq; simpa using hv
            · exact h.1 q hq (by omega) h2
    obtain ⟨u, f1, f2⟩ := inner i 0 (by omega)
    refine ⟨u, Ev.step (fun k => ?_) f1, f2.trans ?_⟩
    · simp only [spec_AreApart.l0]
      rw [if_pos (by omega)]
      rfl
    · constructor
      · rintro ⟨g1, g2⟩ p hp hip
        by_cases hpi : p = i
        · subst hpi
          exact fun q hq hqp => g1 q hq (by omega) hqp
        · exact g2 p hp (by omega)
      · intro g
        exact ⟨fun q hq _ hqi => g i hi' (Nat.le_refl _) q hq hqi, fun p hp hip => g p hp (by omega)⟩
theorem apart_i (l : List S100) (hb : l.length ≤ 1048576) (d : Nat) : ∀ i : Nat, i + d = l.length → ∃ v : Bool, Ev (fun k => impl_AreApart.l0 k l l (l.length : Int) (i : Int)) v ∧ (v = true ↔ ∀ p (hp : p < l.length), i ≤ p → ∀ q (hq : q < l.length), p < q → ovL l[p] l[q] = false) := by
  induction d with
  | zero =>
    intro i hi
    refine ⟨true, Ev.step (f := fun _ => some true) (fun k => ?_) (Ev.now _), by simp; intro p hp; omega⟩
    simp only [impl_AreApart.l0]
    rw [if_neg (by omega)]
  | succ d ih =>
    intro i hi
    have hi' : i < l.length := by omega
    obtain ⟨v, e1, e2⟩ := ih (i + 1) (by omega)
    have hdl : (l.drop (i + 1)).length = l.length - (i + 1) := List.length_drop
    have inner : ∀ d' j : Nat, j + d' = (l.drop (i + 1)).length → ∃ v : Bool, Ev (fun k => impl_AreApart.l1 k l l (l.length : Int) (i : Int) (l.drop (i + 1)) ((l.drop (i + 1)).length : Int) (j : Int) l[i].f0 l[i].f1 l[i].f2.f0.f0 l[i].f2.f0.f1 l[i].f2.f1.f0 l[i].f2.f1.f1) v ∧ (v = true ↔ (∀ q (hq : q < l.length), i + 1 + j ≤ q → ovL l[i] l[q] = false) ∧ ∀ p (hp : p < l.length), i + 1 ≤ p → ∀ q (hq : q < l.length), p < q → ovL l[p] l[q] = false) := by
      intro d'
      induction d' with
      | zero =>
        intro j hj
        refine ⟨v, Ev.step (fun k => ?_) e1, e2.trans ⟨fun h => ⟨fun q _ h1 => by omega, h⟩, fun h => h.2⟩⟩
        simp only [impl_AreApart.l1]
        rw [if_neg (by omega), w1 i (by omega)]
      | succ d' ih' =>
        intro j hj
        have hj' : j < (l.drop (i + 1)).length := by omega
        have hj2 : i + 1 + j < l.length := by omega
        have hg : (l.drop (i + 1))[j] = l[i + 1 + j] := List.getElem_drop
        obtain ⟨u, f1, f2⟩ := ih' (j + 1) (by omega)
        by_cases hv : ovL l[i] l[i + 1 + j] = true
        · refine ⟨false, Ev.step (f := fun _ => some false) (fun k => ?_) (Ev.now _), ?_⟩
          · simp only [impl_AreApart.l1, ov_i]
            rw [if_pos (by omega), if_pos (by omega), if_pos (by omega), rdL_at _ j hj', hg]
            show (if ovL l[i] l[i + 1 + j] = true then some false else _) = _
            rw [if_pos hv]
          · constructor
            · intro h; cases h
            · intro h; have := h.1 (i + 1 + j) hj2 (Nat.le_refl _); rw [hv] at this; cases this
        · refine ⟨u, Ev.step (fun k => ?_) f1, f2.trans ?_⟩
          · simp only [impl_AreApart.l1, ov_i]
            rw [if_pos (by omega), if_pos (by omega), if_pos (by omega), rdL_at _ j hj', hg, w1 j (by omega)]
            show (if ovL l[i] l[i + 1 + j] = true then some false else _) = _
            rw [if_neg hv]
          · refine ⟨fun h => ⟨fun q hq h1 => ?_, h.2⟩, fun h => ⟨fun q hq h1 => h.1 q hq (by omega), h.2⟩⟩
            by_cases hjq : q = i + 1 + j
            · subst hjq; simpa using hv
            · exact h.1 q hq (by omega)
    obtain ⟨u, f1, f2⟩ := inner _ 0 (Nat.zero_add _)
    refine ⟨u, Ev.step (fun k => ?_) f1, f2.trans ?_⟩
    · simp only [impl_AreApart.l0]
      rw [if_pos (by omega), if_pos (by omega), if_pos (by omega), w1 i (by omega), if_pos (by omega), if_pos (by omega), rdL_at l i hi', Int.toNat_natCast]
      rfl
    · constructor
      · rintro ⟨g1, g2⟩ p hp hip
        by_cases hpi : p = i
        · subst hpi
          exact fun q hq hqp => g1 q hq (by omega)
        · exact g2 p hp (by omega)
      · intro g
        exact ⟨fun q hq hqi => g i hi' (Nat.le_refl _) q hq (by omega), fun p hp hip => g p hp (by omega)⟩
theorem rdp_at (l : List S118) (i : Nat) (h : i < l.length) : rd_T118 l (i : Int) = l[i] := by
  unfold rd_T118
  rw [Int.toNat_natCast, List.getD_eq_getElem?_getD, List.getElem?_eq_getElem h]
  rfl
theorem rdP_at (l : List S82) (i : Nat) (h : i < l.length) : rd_T82 l (i : Int) = l[i] := by
  unfold rd_T82
  rw [Int.toNat_natCast, List.getD_eq_getElem?_getD, List.getElem?_eq_getElem h]
  rfl
def convP (x : S118) : S82 := ⟨x.f0, x.f1⟩
theorem toPoints_l (l : List S118) (hb : l.length < 9223372036854775807) (d : Nat) : ∀ i : Nat, i + d = l.length → Ev (fun k => laws_toPointS.l0 k l ((l.map convP).take i ++ List.replicate d z82) (i : Int)) (l.map convP) := by
  induction d with
  | zero =>
    intro i hi
    refine Ev.step (f := fun _ => some (l.map convP)) (fun k => ?_) (Ev.now _)
    simp only [laws_toPointS.l0]
    rw [if_neg (by omega), List.take_of_length_le (by simp; omega)]
    simp
  | succ d ih =>
    intro i hi
    have h1 : i < l.length := by omega
    refine Ev.step (fun k => ?_) (ih (i + 1) (by omega))
    simp only [laws_toPointS.l0, laws_toPoint.f, Option.bind_some]
    rw [if_pos (by omega), if_pos (by omega), if_pos (by simp; omega), rdp_at l i h1, w1 i (by omega)]
    congr 1
    have hm : i < (l.map convP).length := by simpa using h1
    rw [Int.toNat_natCast, List.set_append_right _ _ (by simp; omega), List.take_succ_eq_append_getElem hm, List.replicate_succ]
    simp only [List.length_take, List.length_map, Nat.min_eq_left (show i ≤ l.length by omega), Nat.sub_self, List.set_cons_zero, List.append_assoc, List.singleton_append, List.getElem_map, convP]
theorem toPoints (l : List S118) (hb : l.length ≤ 1048576) : Ev (fun k => laws_toPointS.f k l) (l.map convP) := by
  unfold laws_toPointS.f
  simp only [if_pos (show (0 : Int) ≤ (l.length : Int) by omega), Int.toNat_natCast, if_pos (show l.length ≤ 17592186044416 by omega)]
  have := toPoints_l l (by omega) l.length 0 (by omega)
  simpa using this
theorem eqPoints_l (l : List S82) (hb : l.length < 9223372036854775807) (d : Nat) : ∀ i : Nat, i + d = l.length → Ev (fun k => laws_eqPointS.l0 k l l (i : Int)) true := by
  induction d with
  | zero =>
    intro i hi
    refine Ev.step (f := fun _ => some true) (fun k => ?_) (Ev.now _)
    simp only [laws_eqPointS.l0]
    rw [if_neg (by omega)]
  | succ d ih =>
    intro i hi
    have h1 : i < l.length := by omega
    refine Ev.step (fun k => ?_) (ih (i + 1) (by omega))
    simp only [laws_eqPointS.l0, laws_eqPoint.f]
    rw [if_pos (by omega), if_pos (by omega), if_pos (by omega), w1 i (by omega)]
    simp
theorem eqPoints (l : List S82) (hb : l.length < 9223372036854775807) : Ev (fun k => laws_eqPointS.f k l l) true := by
  unfold laws_eqPointS.f
  simp only [if_true]
  exact eqPoints_l l hb l.length 0 (by omega)
theorem toFeature1 (a b c : Int) (s : ByteArray) (l : List S118) (hl : l.length ≤ 1048576) : Ev (fun k => laws_toFeature.f k a b c s l) (a, b, c, s, l.map convP) := by
  unfold laws_toFeature.f
  exact Ev.bind (toPoints l hl) (Ev.now _)
theorem eqFeature1 (a b c : Int) (s : ByteArray) (l : List S82) (hl : l.length < 9223372036854775807) : Ev (fun k => laws_eqFeature.f k a b c s l a b c s l) true := by
  unfold laws_eqFeature.f
  simp only [if_true]
  refine Ev.bind (eqPoints l hl) ?_
  simp only [if_true]
  exact Ev.now _
theorem szFeature1 (a b c : Int) (s : ByteArray) (hs : s.size ≤ 9223372036854775807) (l : List S118) (hl : l.length ≤ 9223372036854775807) (n : Int) (h0 : 0 ≤ n) (h1 : n ≤ 1048576) : ∃ r, laws_szFeature.f a b c s l n = some r ∧ (¬ r < 0 → l.length ≤ 1048576 ∧ s.size ≤ 1048576 ∧ 0 ≤ r ∧ r ≤ 1048576) := by
  unfold laws_szFeature.f laws_szPointS.f
  have w : wrap64 (n - (s.size : Int)) = n - (s.size : Int) := by unfold wrap64; omega
  rw [w]
  by_cases hc : n - (s.size : Int) < 0
  · rw [if_pos hc]; exact ⟨_, rfl, fun h => by omega⟩
  · have w2 : wrap64 (n - (s.size : Int) - (l.length : Int)) = n - (s.size : Int) - (l.length : Int) := by unfold wrap64; omega
    rw [if_neg hc, w2]
    by_cases hc2 : n - (s.size : Int) - (l.length : Int) < 0
    · rw [if_pos hc2]; exact ⟨-1, rfl, fun h => by omega⟩
    · rw [if_neg hc2]; exact ⟨n - (s.size : Int) - (l.length : Int), by simp only [Option.bind_some]; rw [if_neg hc2], fun h => by omega⟩
theorem rdf_at (l : List S24) (i : Nat) (h : i < l.length) : rd_T24 l (i : Int) = l[i] := by
  unfold rd_T24
  rw [Int.toNat_natCast, List.getD_eq_getElem?_getD, List.getElem?_eq_getElem h]
  rfl
theorem rdF_at (l : List S29) (i : Nat) (h : i < l.length) : rd_T29 l (i : Int) = l[i] := by
  unfold rd_T29
  rw [Int.toNat_natCast, List.getD_eq_getElem?_getD, List.getElem?_eq_getElem h]
  rfl
def convF (x : S24) : S29 := ⟨x.f0, x.f1, x.f2, x.f3, x.f4.map convP⟩
theorem toFeatures_l (l : List S24) (hb : l.length < 9223372036854775807) (hp : ∀ x ∈ l, x.f4.length ≤ 1048576) (d : Nat) : ∀ i : Nat, i + d = l.length → Ev (fun k => laws_toFeatureS.l0 k l ((l.map convF).take i ++ List.replicate d z29) (i : Int)) (l.map convF) := by
  induction d with
  | zero =>
    intro i hi
    refine Ev.step (f := fun _ => some (l.map convF)) (fun k => ?_) (Ev.now _)
    simp only [laws_toFeatureS.l0]
    rw [if_neg (by omega), List.take_of_length_le (by simp; omega)]
    simp
  | succ d ih =>
    intro i hi
    have h1 : i < l.length := by omega
    have ht := toPoints l[i].f4 (hp _ (List.getElem_mem h1))
    have hf : Ev (fun k => laws_toFeature.f k l[i].f0 l[i].f1 l[i].f2 l[i].f3 l[i].f4) (l[i].f0, l[i].f1, l[i].f2, l[i].f3, l[i].f4.map convP) := by
      unfold laws_toFeature.f
      exact Ev.bind ht (Ev.now _)
    refine Ev.step (f := fun k => (laws_toFeature.f k l[i].f0 l[i].f1 l[i].f2 l[i].f3 l[i].f4).bind fun b => laws_toFeatureS.l0 k l (((l.map convF).take i ++ List.replicate (d + 1) z29).set i (⟨b.1, b.2.1, b.2.2.1, b.2.2.2.1, b.2.2.2.2⟩ : S29)) ((i + 1 : Nat) : Int)) (fun k => ?_) (Ev.bind hf ?_)
    · simp only [laws_toFeatureS.l0]
      have hlen : (i : Int) < (((l.map convF).take i ++ List.replicate (d + 1) z29).length : Int) := by simp; omega
      rw [if_pos (by omega), if_pos (by omega), rdf_at l i h1, w1 i (by omega), Int.toNat_natCast]
      simp only [if_pos hlen]
    · have hm : i < (l.map convF).length := by simpa using h1
      have e : ((l.map convF).take i ++ List.replicate (d + 1) z29).set i (⟨l[i].f0, l[i].f1, l[i].f2, l[i].f3, l[i].f4.map convP⟩ : S29) = (l.map convF).take (i + 1) ++ List.replicate d z29 := by
        rw [List.set_append_right _ _ (by simp; omega), List.take_succ_eq_append_getElem hm, List.replicate_succ]
        simp only [List.length_take, List.length_map, Nat.min_eq_left (show i ≤ l.length by omega), Nat.sub_self, List.set_cons_zero, List.append_assoc, List.singleton_append, List.getElem_map, convF]
      simp only [e]
      exact ih (i + 1) (by omega)
theorem toFeatures (l : List S24) (hb : l.length ≤ 1048576) (hp : ∀ x ∈ l, x.f4.length ≤ 1048576) : Ev (fun k => laws_toFeatureS.f k l) (l.map convF) := by
  unfold laws_toFeatureS.f
  simp only [if_pos (show (0 : Int) ≤ (l.length : Int) by omega), Int.toNat_natCast, if_pos (show l.length ≤ 4398046511104 by omega)]
  have := toFeatures_l l (by omega) hp l.length 0 (by omega)
  simpa using this
theorem eqFeatures_l (l : List S29) (hb : l.length < 9223372036854775807) (hp : ∀ x ∈ l, x.f4.length < 9223372036854775807) (d : Nat) : ∀ i : Nat, i + d = l.length → Ev (fun k => laws_eqFeatureS.l0 k l l (i : Int)) true := by
  induction d with
  | zero =>
    intro i hi
    refine Ev.step (f := fun _ => some true) (fun k => ?_) (Ev.now _)
    simp only [laws_eqFeatureS.l0]
    rw [if_neg (by omega)]
  | succ d ih =>
    intro i hi
    have h1 : i < l.length := by omega
    have hf : Ev (fun k => laws_eqFeature.f k l[i].f0 l[i].f1 l[i].f2 l[i].f3 l[i].f4 l[i].f0 l[i].f1 l[i].f2 l[i].f3 l[i].f4) true := by
      unfold laws_eqFeature.f
      simp only [if_true]
      refine Ev.bind (eqPoints l[i].f4 (hp _ (List.getElem_mem h1))) ?_
      simp only [if_true]
      exact Ev.now _
    refine Ev.step (f := fun k => (laws_eqFeature.f k l[i].f0 l[i].f1 l[i].f2 l[i].f3 l[i].f4 l[i].f0 l[i].f1 l[i].f2 l[i].f3 l[i].f4).bind fun t => if t = true then laws_eqFeatureS.l0 k l l ((i + 1 : Nat) : Int) else some false) (fun k => ?_) (Ev.bind hf ?_)
    · simp only [laws_eqFeatureS.l0]
      rw [if_pos (by omega), if_pos (by omega), if_pos (by omega), rdF_at l i h1, w1 i (by omega)]
    · simp only [if_true]
      exact ih (i + 1) (by omega)
theorem eqFeatures (l : List S29) (hb : l.length < 9223372036854775807) (hp : ∀ x ∈ l, x.f4.length < 9223372036854775807) : Ev (fun k => laws_eqFeatureS.f k l l) true := by
  unfold laws_eqFeatureS.f
  simp only [if_true]
  exact eqFeatures_l l hb hp l.length 0 (by omega)
theorem szFeatures_l (l : List S24) (hl : ∀ x ∈ l, x.f3.size ≤ 9223372036854775807 ∧ x.f4.length ≤ 9223372036854775807) (hb : l.length < 9223372036854775807) (d : Nat) :
    ∀ (i : Nat) (n : Int), i + d = l.length → 0 ≤ n → n ≤ 1048576 → ∃ r, Ev (fun k => laws_szFeatureS.l0 k l n (i : Int)) r ∧ (¬ r < 0 → ∀ x ∈ l.drop i, x.f3.size ≤ 1048576 ∧ x.f4.length ≤ 1048576) := by
  induction d with
  | zero =>
    intro i n hi h0 h1
    have e : l.drop i = [] := List.drop_of_length_le (by omega)
    rw [e]
    refine ⟨n, Ev.step (f := fun _ => some n) (fun k => ?_) (Ev.now _), fun _ x hx => by simp at hx⟩
    simp only [laws_szFeatureS.l0]
    rw [if_neg (by omega)]
  | succ d ih =>
    intro i n hi h0 h1
    have hl1 : i < l.length := by omega
    obtain ⟨hx1, hx2⟩ := hl _ (List.getElem_mem hl1)
    have e := List.drop_eq_getElem_cons hl1
    rw [e]
    have hw : wrap64 (n - (l[i].f3.size : Int)) = n - (l[i].f3.size : Int) := by unfold wrap64; omega
    by_cases hc : n - (l[i].f3.size : Int) < 0
    · refine ⟨-1, Ev.step (f := fun _ => some (-1)) (fun k => ?_) (Ev.now _), fun h => by omega⟩
      simp only [laws_szFeatureS.l0, laws_szFeature.f]
      rw [if_pos (by omega), if_pos (by omega), rdf_at l i hl1, hw, if_pos hc]
      rfl
    · have hw2 : wrap64 (n - (l[i].f3.size : Int) - (l[i].f4.length : Int)) = n - (l[i].f3.size : Int) - (l[i].f4.length : Int) := by unfold wrap64; omega
      by_cases hc2 : n - (l[i].f3.size : Int) - (l[i].f4.length : Int) < 0
      · refine ⟨-1, Ev.step (f := fun _ => some (-1)) (fun k => ?_) (Ev.now _), fun h => by omega⟩
        simp only [laws_szFeatureS.l0, laws_szFeature.f, laws_szPointS.f]
        rw [if_pos (by omega), if_pos (by omega), rdf_at l i hl1, hw, if_neg hc, hw2, if_pos hc2]
        rfl
      · obtain ⟨r, hr, hr2⟩ := ih (i + 1) (n - (l[i].f3.size : Int) - (l[i].f4.length : Int)) (by omega) (by omega) (by omega)
        refine ⟨r, Ev.step (fun k => ?_) hr, fun h x hx => ?_⟩
        · simp only [laws_szFeatureS.l0, laws_szFeature.f, laws_szPointS.f]
          rw [if_pos (by omega), if_pos (by omega), rdf_at l i hl1, hw, if_neg hc, hw2, if_neg hc2]
          simp only [Option.bind_some]
          rw [if_neg hc2]
          simp only [Option.bind_some]
          rw [if_neg hc2, w1 i (by omega)]
        · rcases List.mem_cons.1 hx with hx | hx
          · subst hx; omega
          · exact hr2 h x hx
theorem szFeatures (l : List S24) (hl : ∀ x ∈ l, x.f3.size ≤ 9223372036854775807 ∧ x.f4.length ≤ 9223372036854775807) (hb : l.length ≤ 9223372036854775807) : ∃ r, Ev (fun k => laws_szFeatureS.f k l 1048576) r ∧ (¬ r < 0 → l.length ≤ 1048576 ∧ ∀ x ∈ l, x.f3.size ≤ 1048576 ∧ x.f4.length ≤ 1048576) := by
  unfold laws_szFeatureS.f
  have hw : wrap64 (1048576 - (l.length : Int)) = 1048576 - (l.length : Int) := by unfold wrap64; omega
  rw [hw]
  by_cases hc : 1048576 - (l.length : Int) < 0
  · exact ⟨-1, by simp only [if_pos hc]; exact Ev.now _, fun h => by omega⟩
  · simp only [if_neg hc]
    obtain ⟨r, hr, hr2⟩ := szFeatures_l l hl (by omega) l.length 0 (1048576 - (l.length : Int)) (by omega) (by omega) (by omega)
    exact ⟨r, hr, fun h => ⟨by omega, by simpa using hr2 h⟩⟩
theorem szFeaturesB_l (l : List S24) (hl : ∀ x ∈ l, x.f3.size ≤ 9223372036854775807 ∧ x.f4.length ≤ 9223372036854775807) (hb : l.length < 9223372036854775807) (d : Nat) :
    ∀ (i : Nat) (n : Int), i + d = l.length → 0 ≤ n → n ≤ 1048576 → ∃ r, r ≤ 1048576 ∧ Ev (fun k => laws_szFeatureS.l0 k l n (i : Int)) r ∧ (¬ r < 0 → ∀ x ∈ l.drop i, x.f3.size ≤ 1048576 ∧ x.f4.length ≤ 1048576) := by
  induction d with
  | zero =>
    intro i n hi h0 h1
    have e : l.drop i = [] := List.drop_of_length_le (by omega)
    rw [e]
    refine ⟨n, h1, Ev.step (f := fun _ => some n) (fun k => ?_) (Ev.now _), fun _ x hx => by simp at hx⟩
    simp only [laws_szFeatureS.l0]
    rw [if_neg (by omega)]
  | succ d ih =>
    intro i n hi h0 h1
    have hl1 : i < l.length := by omega
    obtain ⟨hx1, hx2⟩ := hl _ (List.getElem_mem hl1)
    have e := List.drop_eq_getElem_cons hl1
    rw [e]
    have hw : wrap64 (n - (l[i].f3.size : Int)) = n - (l[i].f3.size : Int) := by unfold wrap64; omega
    by_cases hc : n - (l[i].f3.size : Int) < 0
    · refine ⟨-1, by omega, Ev.step (f := fun _ => some (-1)) (fun k => ?_) (Ev.now _), fun h => by omega⟩
      simp only [laws_szFeatureS.l0, laws_szFeature.f]
      rw [if_pos (by omega), if_pos (by omega), rdf_at l i hl1, hw, if_pos hc]
      rfl
    · have hw2 : wrap64 (n - (l[i].f3.size : Int) - (l[i].f4.length : Int)) = n - (l[i].f3.size : Int) - (l[i].f4.length : Int) := by unfold wrap64; omega
      by_cases hc2 : n - (l[i].f3.size : Int) - (l[i].f4.length : Int) < 0
      · refine ⟨-1, by omega, Ev.step (f := fun _ => some (-1)) (fun k => ?_) (Ev.now _), fun h => by omega⟩
        simp only [laws_szFeatureS.l0, laws_szFeature.f, laws_szPointS.f]
        rw [if_pos (by omega), if_pos (by omega), rdf_at l i hl1, hw, if_neg hc, hw2, if_pos hc2]
        rfl
      · obtain ⟨r, hr0, hr, hr2⟩ := ih (i + 1) (n - (l[i].f3.size : Int) - (l[i].f4.length : Int)) (by omega) (by omega) (by omega)
        refine ⟨r, hr0, Ev.step (fun k => ?_) hr, fun h x hx => ?_⟩
        · simp only [laws_szFeatureS.l0, laws_szFeature.f, laws_szPointS.f]
          rw [if_pos (by omega), if_pos (by omega), rdf_at l i hl1, hw, if_neg hc, hw2, if_neg hc2]
          simp only [Option.bind_some]
          rw [if_neg hc2]
          simp only [Option.bind_some]
          rw [if_neg hc2, w1 i (by omega)]
        · rcases List.mem_cons.1 hx with hx | hx
          · subst hx; omega
          · exact hr2 h x hx
theorem szFeaturesB (l : List S24) (hl : ∀ x ∈ l, x.f3.size ≤ 9223372036854775807 ∧ x.f4.length ≤ 9223372036854775807) (hb : l.length ≤ 9223372036854775807) : ∃ r, r ≤ 1048576 ∧ Ev (fun k => laws_szFeatureS.f k l 1048576) r ∧ (¬ r < 0 → l.length ≤ 1048576 ∧ ∀ x ∈ l, x.f3.size ≤ 1048576 ∧ x.f4.length ≤ 1048576) := by
  unfold laws_szFeatureS.f
  have hw : wrap64 (1048576 - (l.length : Int)) = 1048576 - (l.length : Int) := by unfold wrap64; omega
  rw [hw]
  by_cases hc : 1048576 - (l.length : Int) < 0
  · exact ⟨-1, by omega, by simp only [if_pos hc]; exact Ev.now _, fun h => by omega⟩
  · simp only [if_neg hc]
    obtain ⟨r, hr0, hr, hr2⟩ := szFeaturesB_l l hl (by omega) l.length 0 (1048576 - (l.length : Int)) (by omega) (by omega) (by omega)
    exact ⟨r, hr0, hr, fun h => ⟨by omega, by simpa using hr2 h⟩⟩
theorem rdFg (l : List S29) (i : Nat) : rd_T29 l (i : Int) = l.getD i z29 := by unfold rd_T29; rw [Int.toNat_natCast]
def ftF (x : S29) : Bool := ftB x.f0 x.f1 x.f2 x.f3 x.f4
def chk (l : List S29) (i : Nat) : Bool := ftF (l.getD i z29) && (decide (i = 0) || decide ((l.getD (i - 1) z29).f0 < (l.getD i z29).f0))
def srcR (l : List S29) (i d : Nat) : Bool := (List.range' i d).all (chk l)
/-- That features are a source. -/
def srB (l : List S29) : Bool := srcR l 0 l.length && decide ((l.length : Int) ≤ 16)
section
variable (l : List S29) (hb : l.length < 9223372036854775807) (hx : ∀ x ∈ l, x.f3.size ≤ 9223372036854775807 ∧ x.f4.length < 9223372036854775807)
include hb hx
theorem src_sl (d : Nat) : ∀ i : Nat, i + d = l.length → Ev (fun k => spec_IsSource.l0 k l (i : Int)) (srcR l i d && decide ((l.length : Int) ≤ 16)) := by
  induction d with
  | zero =>
    intro i hi
    refine Ev.step (f := fun _ => some (decide ((l.length : Int) ≤ 16))) (fun k => ?_) (by simp only [srcR, List.range'_zero, List.all_nil, Bool.true_and]; exact Ev.now _)
    simp only [spec_IsSource.l0]
    rw [if_neg (by omega)]
  | succ d ih =>
    intro i hi
    have hlt : i < l.length := by omega
    have hm : l.getD i z29 ∈ l := by rw [List.getD_eq_getElem?_getD, List.getElem?_eq_getElem hlt]; exact List.getElem_mem hlt
    obtain ⟨g1, g2⟩ := hx _ hm
    have e : srcR l i (d + 1) = (chk l i && srcR l (i + 1) d) := by unfold srcR; rw [List.range'_succ, List.all_cons]
    rw [e]
    have hr := ih (i + 1) (by omega)
    have ft := ft_s (l.getD i z29).f0 (l.getD i z29).f1 (l.getD i z29).f2 (l.getD i z29).f3 g1 (l.getD i z29).f4 g2
    refine Ev.step (f := fun k => (spec_IsFeature.f k (l.getD i z29).f0 (l.getD i z29).f1 (l.getD i z29).f2 (l.getD i z29).f3 (l.getD i z29).f4).bind fun t242 => (if t242 = true then (if (i : Int) > 0 then (if 0 ≤ (wrap64 ((i : Int) - 1)) then (if (wrap64 ((i : Int) - 1)) < (l.length : Int) then (if ((rd_T29 l (wrap64 ((i : Int) - 1))).f0) ≥ ((l.getD i z29).f0) then (some false) else (spec_IsSource.l0 k l ((i + 1 : Nat) : Int))) else (none)) else (none)) else (spec_IsSource.l0 k l ((i + 1 : Nat) : Int))) else (some false))) (fun k => ?_) (Ev.bind ft ?_)
    · simp only [spec_IsSource.l0]
      rw [if_pos (by omega), if_pos (by omega), rdFg, w1' i (by omega)]
    · unfold chk ftF
      cases hf : ftB (l.getD i z29).f0 (l.getD i z29).f1 (l.getD i z29).f2 (l.getD i z29).f3 (l.getD i z29).f4
      · simp only [Bool.false_eq_true, if_false, Bool.false_and]; exact Ev.now _
      · simp only [if_true, Bool.true_and]
        by_cases h0 : i = 0
        · subst h0
          simp only [if_neg (show ¬ (((0 : Nat) : Int) > 0) by omega), decide_true, Bool.true_or, Bool.true_and]
          exact hr
        · have hw : wrap64 ((i : Int) - 1) = ((i - 1 : Nat) : Int) := by unfold wrap64; omega
          simp only [if_pos (show (i : Int) > 0 by omega), hw, if_pos (show 0 ≤ ((i - 1 : Nat) : Int) by omega), if_pos (show ((i - 1 : Nat) : Int) < (l.length : Int) by omega), rdFg, decide_eq_false h0, Bool.false_or]
          by_cases hc : (l.getD (i - 1) z29).f0 < (l.getD i z29).f0
          · simp only [if_neg (show ¬ ((l.getD (i - 1) z29).f0 ≥ (l.getD i z29).f0) by omega), decide_eq_true hc, Bool.true_and]
            exact hr
          · simp only [if_pos (show (l.getD (i - 1) z29).f0 ≥ (l.getD i z29).f0 by omega), decide_eq_false hc, Bool.false_and]
            exact Ev.now _
theorem src_il (d : Nat) : ∀ i : Nat, i + d = l.length → Ev (fun k => impl_IsSource.l0 k l l (l.length : Int) (i : Int)) (srcR l i d) := by
  induction d with
  | zero =>
    intro i hi
    refine Ev.step (f := fun _ => some true) (fun k => ?_) (Ev.now _)
    simp only [impl_IsSource.l0]
    rw [if_neg (by omega)]
  | succ d ih =>
    intro i hi
    have hlt : i < l.length := by omega
    have hm : l.getD i z29 ∈ l := by rw [List.getD_eq_getElem?_getD, List.getElem?_eq_getElem hlt]; exact List.getElem_mem hlt
    obtain ⟨g1, g2⟩ := hx _ hm
    have e : srcR l i (d + 1) = (chk l i && srcR l (i + 1) d) := by unfold srcR; rw [List.range'_succ, List.all_cons]
    rw [e]
    have hr := ih (i + 1) (by omega)
    have ft := ft_i (l.getD i z29).f0 (l.getD i z29).f1 (l.getD i z29).f2 (l.getD i z29).f3 g1 (l.getD i z29).f4 g2
    refine Ev.step (f := fun k => (impl_IsFeature.f k (l.getD i z29).f0 (l.getD i z29).f1 (l.getD i z29).f2 (l.getD i z29).f3 (l.getD i z29).f4).bind fun t242 => (if t242 = true then (if (i : Int) > 0 then (if 0 ≤ (wrap64 ((i : Int) - 1)) then (if (wrap64 ((i : Int) - 1)) < (l.length : Int) then (if ((l.getD i z29).f0) ≤ ((rd_T29 l (wrap64 ((i : Int) - 1))).f0) then (some false) else (impl_IsSource.l0 k l l (l.length : Int) ((i + 1 : Nat) : Int))) else (none)) else (none)) else (impl_IsSource.l0 k l l (l.length : Int) ((i + 1 : Nat) : Int))) else (some false))) (fun k => ?_) (Ev.bind ft ?_)
    · simp only [impl_IsSource.l0]
      rw [if_pos (by omega), if_pos (by omega), if_pos (by omega), rdFg, w1' i (by omega)]
    · unfold chk ftF
      cases hf : ftB (l.getD i z29).f0 (l.getD i z29).f1 (l.getD i z29).f2 (l.getD i z29).f3 (l.getD i z29).f4
      · simp only [Bool.false_eq_true, if_false, Bool.false_and]; exact Ev.now _
      · simp only [if_true, Bool.true_and]
        by_cases h0 : i = 0
        · subst h0
          simp only [if_neg (show ¬ (((0 : Nat) : Int) > 0) by omega), decide_true, Bool.true_or, Bool.true_and]
          exact hr
        · have hw : wrap64 ((i : Int) - 1) = ((i - 1 : Nat) : Int) := by unfold wrap64; omega
          simp only [if_pos (show (i : Int) > 0 by omega), hw, if_pos (show 0 ≤ ((i - 1 : Nat) : Int) by omega), if_pos (show ((i - 1 : Nat) : Int) < (l.length : Int) by omega), rdFg, decide_eq_false h0, Bool.false_or]
          by_cases hc : (l.getD (i - 1) z29).f0 < (l.getD i z29).f0
          · simp only [if_neg (show ¬ ((l.getD i z29).f0 ≤ (l.getD (i - 1) z29).f0) by omega), decide_eq_true hc, Bool.true_and]
            exact hr
          · simp only [if_pos (show (l.getD i z29).f0 ≤ (l.getD (i - 1) z29).f0 by omega), decide_eq_false hc, Bool.false_and]
            exact Ev.now _
theorem src_s : Ev (fun k => spec_IsSource.f k l) (srB l) := src_sl l hb hx l.length 0 (by omega)
theorem src_i : Ev (fun k => impl_IsSource.f k l) (srB l) := by
  unfold impl_IsSource.f srB
  by_cases h : (l.length : Int) > 16
  · simp only [if_pos h, decide_eq_false (show ¬ ((l.length : Int) ≤ 16) by omega), Bool.and_false]; exact Ev.now _
  · simp only [if_neg h, decide_eq_true (show (l.length : Int) ≤ 16 by omega), Bool.and_true]
    exact src_il l hb hx l.length 0 (by omega)
end
theorem ffs_l (l : List S29) (hb : l.length < 9223372036854775807) (id : Int) (d : Nat) : ∀ i : Nat, i + d = l.length → Ev (fun k => spec_FindFeature.l0 k l id (i : Int)) (ffI (l.drop i) id (i : Int)) := by
  induction d with
  | zero =>
    intro i hi
    rw [List.drop_of_length_le (by omega)]
    refine Ev.step (f := fun _ => some (-1)) (fun k => ?_) (Ev.now _)
    simp only [spec_FindFeature.l0]
    rw [if_neg (by omega)]
  | succ d ih =>
    intro i hi
    have hlt : i < l.length := by omega
    rw [List.drop_eq_getElem_cons hlt, ffI]
    have hg : l.getD i z29 = l[i] := by rw [List.getD_eq_getElem?_getD, List.getElem?_eq_getElem hlt]; rfl
    by_cases he : l[i].f0 = id
    · rw [if_pos he]
      refine Ev.step (f := fun _ => some (i : Int)) (fun k => ?_) (Ev.now _)
      simp only [spec_FindFeature.l0, rdFg, hg]
      rw [if_pos (by omega), if_pos (by omega), if_pos he]
    · rw [if_neg he]
      refine Ev.step (fun k => ?_) (ih (i + 1) (by omega))
      simp only [spec_FindFeature.l0, rdFg, hg]
      rw [if_pos (by omega), if_pos (by omega), if_neg he, w1' i (by omega)]
theorem ff_s (l : List S29) (hb : l.length < 9223372036854775807) (id : Int) : Ev (fun k => spec_FindFeature.f k l id) (ffI l id 0) := by
  have := ffs_l l hb id l.length 0 (by omega)
  rw [List.drop_zero] at this
  exact this
theorem ff_i (l : List S29) (hb : l.length < 9223372036854775807) (id : Int) : impl_FindFeature.f l id = some (ffI l id 0) := by
  unfold impl_FindFeature.f
  rw [if_pos (by omega)]
theorem ffI_in (l : List S29) (id : Int) : (∃ x ∈ l, x.f0 = id) → ∀ b : Int, ∃ i : Nat, i < l.length ∧ ffI l id b = b + (i : Int) ∧ (l.getD i z29).f0 = id := by
  induction l with
  | nil => rintro ⟨x, hx, _⟩; cases hx
  | cons y r ih =>
    rintro ⟨x, hx, he⟩ b
    by_cases hy : y.f0 = id
    · exact ⟨0, by simp, by rw [ffI, if_pos hy]; simp, by simpa using hy⟩
    · rcases List.mem_cons.1 hx with rfl | hx
      · exact absurd he hy
      · obtain ⟨i, h1, h2, h3⟩ := ih ⟨x, hx, he⟩ (b + 1)
        exact ⟨i + 1, by simpa using h1, by rw [ffI, if_neg hy, h2]; push_cast; omega, by simpa using h3⟩
theorem ffI_no (l : List S29) (id : Int) : (∀ x ∈ l, x.f0 ≠ id) → ∀ b : Int, ffI l id b = -1 := by
  induction l with
  | nil => intro _ b; rfl
  | cons y r ih =>
    intro h b
    rw [ffI, if_neg (h y (List.mem_cons_self ..)), ih (fun x hx => h x (List.mem_cons_of_mem _ hx))]
theorem ffI_lt (l : List S29) (id : Int) : ffI l id 0 = -1 ∨ ∃ i : Nat, i < l.length ∧ ffI l id 0 = (i : Int) := by
  by_cases h : ∃ x ∈ l, x.f0 = id
  · obtain ⟨i, h1, h2, _⟩ := ffI_in l id h 0
    exact .inr ⟨i, h1, by omega⟩
  · exact .inl (ffI_no l id (fun x hx he => h ⟨x, hx, he⟩) 0)
/-- A label is of a feature of this name. -/
def lbB (F : List S29) (x : S100) : Bool := decide (0 ≤ ffI F x.f0 0) && decide ((F.getD (ffI F x.f0 0).toNat z29).f3.toList = x.f1.toList)
section
variable (F : List S29) (hF : F.length < 9223372036854775807) (hx : ∀ x ∈ F, x.f3.size ≤ 9223372036854775807 ∧ x.f4.length < 9223372036854775807) (L : List S100) (hL : L.length < 9223372036854775807)
include hF hx hL
theorem ic_sl (v : Bool) (hv : Ev (fun k => spec_AreApart.f k L) v) (d : Nat) : ∀ i : Nat, i + d = L.length → Ev (fun k => spec_IsChart.l0 k (i : Int) F L) ((L.drop i).all (lbB F) && (srB F && v)) := by
  induction d with
  | zero =>
    intro i hi
    rw [List.drop_of_length_le (by omega), List.all_nil, Bool.true_and]
    refine Ev.step (f := fun k => (spec_IsSource.f k F).bind fun t208 => (if t208 = true then ((spec_AreApart.f k L).bind fun t209 => (some t209)) else (some false))) (fun k => ?_) (Ev.bind (src_s F hF hx) ?_)
    · simp only [spec_IsChart.l0]
      rw [if_neg (by omega)]
    · cases hs : srB F
      · simp only [Bool.false_eq_true, if_false]; exact Ev.now _
      · simp only [if_true, Bool.true_and]; exact Ev.bind hv (Ev.now _)
  | succ d ih =>
    intro i hi
    have hlt : i < L.length := by omega
    have hg := rdL_at L i hlt
    have hr := ih (i + 1) (by omega)
    rw [List.drop_eq_getElem_cons hlt, List.all_cons]
    have fs := ff_s F hF L[i].f0
    have hlb : lbB F L[i] = (decide (0 ≤ ffI F L[i].f0 0) && decide ((F.getD (ffI F L[i].f0 0).toNat z29).f3.toList = L[i].f1.toList)) := rfl
    rw [hlb]
    refine Ev.step (f := fun k => (spec_FindFeature.f k F L[i].f0).bind fun t205 => (if t205 < 0 then (some false) else (if 0 ≤ t205 then (if t205 < (F.length : Int) then (if ((rd_T29 F t205).f3).toList = L[i].f1.toList then (spec_IsChart.l0 k ((i + 1 : Nat) : Int) F L) else (some false)) else (none)) else (none)))) (fun k => ?_) (Ev.bind fs ?_)
    · simp only [spec_IsChart.l0, hg]
      rw [if_pos (by omega), if_pos (by omega), w1' i (by omega)]
    · rcases ffI_lt F L[i].f0 with h | ⟨j, hj, h⟩
      · rw [h]
        simp only [if_pos (show (-1 : Int) < 0 by omega)]
        exact Ev.now _
      · rw [h]
        simp only [if_neg (show ¬ (j : Int) < 0 by omega), if_pos (show 0 ≤ (j : Int) by omega), if_pos (show (j : Int) < (F.length : Int) by omega), rdFg, Int.toNat_natCast, decide_eq_true (show 0 ≤ (j : Int) by omega), Bool.true_and]
        by_cases he : (F.getD j z29).f3.toList = L[i].f1.toList
        · simp only [if_pos he, decide_eq_true he, Bool.true_and]
          exact hr
        · simp only [if_neg he, decide_eq_false he, Bool.false_and]
          exact Ev.now _
omit hx in
theorem ic_il (d : Nat) : ∀ i : Nat, i + d = L.length → Ev (fun k => impl_IsChart.l0 k L (L.length : Int) (i : Int) F L) ((L.drop i).all (lbB F)) := by
  induction d with
  | zero =>
    intro i hi
    rw [List.drop_of_length_le (by omega), List.all_nil]
    refine Ev.step (f := fun k => some true) (fun k => ?_) (Ev.now _)
    simp only [impl_IsChart.l0]
    rw [if_neg (by omega)]
  | succ d ih =>
    intro i hi
    have hlt : i < L.length := by omega
    have hg := rdL_at L i hlt
    have hr := ih (i + 1) (by omega)
    rw [List.drop_eq_getElem_cons hlt, List.all_cons]
    have hlb : lbB F L[i] = (decide (0 ≤ ffI F L[i].f0 0) && decide ((F.getD (ffI F L[i].f0 0).toNat z29).f3.toList = L[i].f1.toList)) := rfl
    rw [hlb]
    rcases ffI_lt F L[i].f0 with h | ⟨j, hj, h⟩
    · rw [h]
      refine Ev.step (f := fun _ => some false) (fun k => ?_) (Ev.now _)
      simp only [impl_IsChart.l0, hg, ff_i F hF, h, Option.bind_some]
      rw [if_pos (by omega), if_pos (by omega), if_pos (by omega), if_pos (by omega)]
    · rw [h]
      simp only [Int.toNat_natCast, decide_eq_true (show 0 ≤ (j : Int) by omega), Bool.true_and]
      by_cases he : (F.getD j z29).f3.toList = L[i].f1.toList
      · simp only [decide_eq_true he, Bool.true_and]
        refine Ev.step (fun k => ?_) hr
        simp only [impl_IsChart.l0, hg, ff_i F hF, h, Option.bind_some, rdFg]
        rw [if_pos (by omega), if_pos (by omega), if_pos (by omega), if_neg (by omega), if_pos (by omega), if_pos (by omega), if_pos he, w1' i (by omega)]
      · simp only [decide_eq_false he, Bool.false_and]
        refine Ev.step (f := fun _ => some false) (fun k => ?_) (Ev.now _)
        simp only [impl_IsChart.l0, hg, ff_i F hF, h, Option.bind_some, rdFg]
        rw [if_pos (by omega), if_pos (by omega), if_pos (by omega), if_neg (by omega), if_pos (by omega), if_pos (by omega), if_neg he]
theorem ic_both (hL1 : L.length ≤ 1048576) : ∃ v : Bool, Ev (fun k => spec_IsChart.f k F L) v ∧ Ev (fun k => impl_IsChart.f k F L) v := by
  obtain ⟨v, e1, g1⟩ := apart_s L hL1 L.length 0 (by omega)
  obtain ⟨u, e2, g2⟩ := apart_i L hL1 L.length 0 (by omega)
  have huv : u = v := by
    rw [Bool.eq_iff_iff, g1, g2]
    exact ⟨fun h p hp _ q hq hqp => by rw [ovL_comm]; exact h q hq (Nat.zero_le _) p hp hqp, fun h p hp _ q hq hpq => by rw [ovL_comm]; exact h q hq (Nat.zero_le _) p hp hpq⟩
  subst huv
  have hv : Ev (fun k => spec_AreApart.f k L) u := e1
  have hi : Ev (fun k => impl_AreApart.f k L) u := e2
  have r1 := ic_sl F hF hx L hL u hv L.length 0 (by omega)
  have r2 := ic_il F hF L hL L.length 0 (by omega)
  rw [List.drop_zero] at r1 r2
  have dead : Ev (fun k => impl_IsChart.j0 k true F L) false := Ev.step (f := fun _ => some false) (fun k => by simp [impl_IsChart.j0]) (Ev.now _)
  refine ⟨_, r1, ?_⟩
  unfold impl_IsChart.f
  refine Ev.bind (src_i F hF hx) ?_
  cases hs : srB F
  · simp only [Bool.false_eq_true, if_false, Bool.false_and, Bool.and_false]
    exact dead
  · simp only [if_true, Bool.true_and]
    refine Ev.bind hi ?_
    cases u
    · simp only [Bool.not_false, Bool.and_false]; exact dead
    · simp only [Bool.not_true, Bool.and_true]
      exact Ev.step (fun k => by simp only [impl_IsChart.j0, Bool.false_eq_true, if_false]; rfl) r2
end
theorem main : ∀ (l0_0 : List (S24)) (l0_1 : List (S131)), (l0_0.length ≤ 9223372036854775807 ∧ ∀ x ∈ l0_0, ((Lit.int .i64 x.f0).wf = true ∧ (Lit.int .i64 x.f1).wf = true ∧ (Lit.int .i64 x.f2).wf = true ∧ x.f3.size ≤ 9223372036854775807 ∧ (x.f4.length ≤ 9223372036854775807 ∧ ∀ y ∈ x.f4, ((Lit.int .i64 y.f0).wf = true ∧ (Lit.int .i64 y.f1).wf = true)))) → (l0_1.length ≤ 9223372036854775807 ∧ ∀ x ∈ l0_1, ((Lit.int .i64 x.f0).wf = true ∧ x.f1.size ≤ 9223372036854775807 ∧ (((Lit.int .i64 x.f2.f0.f0).wf = true ∧ (Lit.int .i64 x.f2.f0.f1).wf = true) ∧ ((Lit.int .i64 x.f2.f1.f0).wf = true ∧ (Lit.int .i64 x.f2.f1.f1).wf = true)))) → ∃ k, laws_FnExactIsChart.f k l0_0 l0_1 = some true := by
  intro l m hl hm
  refine Ev.rounds (r := true) ?_
  unfold laws_FnExactIsChart.f
  obtain ⟨r, hr0, hr, hb⟩ := szFeaturesB l (fun x hx => ⟨(hl.2 x hx).2.2.2.1, (hl.2 x hx).2.2.2.2.1⟩) hl.1
  by_cases hc : r < 0
  · have e : Ev (fun k => laws_szChart.f k l m 1048576) (-1) := by
      unfold laws_szChart.f
      refine Ev.bind hr ?_
      simp only [if_pos hc]; exact Ev.now _
    refine Ev.bind e ?_
    simp only [if_pos (show (-1 : Int) < 0 by omega)]
    exact Ev.now _
  · obtain ⟨r2, hr2, hb2⟩ := szLabelsN r (by omega) hr0 m (fun x hx => (hm.2 x hx).2.1) hm.1
    by_cases hc2 : r2 < 0
    · have e : Ev (fun k => laws_szChart.f k l m 1048576) (-1) := by
        unfold laws_szChart.f
        refine Ev.bind hr ?_
        simp only [if_neg hc]
        refine Ev.bind hr2 ?_
        simp only [if_pos hc2]; exact Ev.now _
      refine Ev.bind e ?_
      simp only [if_pos (show (-1 : Int) < 0 by omega)]
      exact Ev.now _
    · have e : Ev (fun k => laws_szChart.f k l m 1048576) r2 := by
        unfold laws_szChart.f
        refine Ev.bind hr ?_
        simp only [if_neg hc]
        refine Ev.bind hr2 ?_
        simp only [if_neg hc2]; exact Ev.now _
      refine Ev.bind e ?_
      simp only [if_neg hc2]
      obtain ⟨h1, h2⟩ := hb hc
      have h3 := hb2 hc2
      have tf := toFeatures l h1 (fun x hx => (h2 x hx).2)
      have tl := toLabels m h3
      have t : Ev (fun k => laws_toChart.f k l m) (l.map convF, m.map conv) := by
        unfold laws_toChart.f
        exact Ev.bind tf (Ev.bind tl (Ev.now _))
      have hxL : ∀ x ∈ l.map convF, x.f3.size ≤ 9223372036854775807 ∧ x.f4.length < 9223372036854775807 := by
        intro x hx
        obtain ⟨y, hy, rfl⟩ := List.mem_map.1 hx
        have := h2 y hy
        unfold convF
        simp only [List.length_map]
        omega
      have hL : (l.map convF).length < 9223372036854775807 := by simp; omega
      have hM : (m.map conv).length ≤ 1048576 := by simpa using h3
      generalize l.map convF = L at t hxL hL
      generalize m.map conv = M at t hM
      obtain ⟨v, s1, s2⟩ := ic_both L hL hxL M (by omega) hM
      have ef := eqFeatures L hL (fun x hx => (hxL x hx).2)
      have el := eqLabels M (by omega)
      have ec : Ev (fun k => laws_eqChart.f k L M L M) true := by
        unfold laws_eqChart.f
        refine Ev.bind ef ?_
        simp only [if_true]
        refine Ev.bind el ?_
        simp only [if_true]
        exact Ev.now _
      refine Ev.bind t (Ev.bind s1 (Ev.bind t (Ev.bind s2 ?_)))
      simp only [bne_self_eq_false, Bool.false_eq_true, if_false]
      refine Ev.bind t (Ev.bind ec ?_)
      simp only [if_true]
      exact Ev.now _
end Go.Proofs.Ytdfehjfmihokpaa.Pure.FnExactIsChart
