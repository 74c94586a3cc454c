/- The names' anchors: the program and the reference answer the same list: that the features are a source, each one's middle. No condition. -/
import Derived.Test.YtdfehjfmihokpaaPFnExactAnchorsOfx
import Derived.Test.YtdfehjfmihokpaaMeet
namespace Go.Proofs.Ytdfehjfmihokpaa.Pure.FnExactAnchorsOf
open Go Go.RowKit Go.Proofs.Ytdfehjfmihokpaa.PFnExactAnchorsOf Go.Proofs.YtdfehjfmihokpaaW.PrintWords Go.Proofs.YtdfehjfmihokpaaW.PrintLast Go.Proofs.YtdfehjfmihokpaaW.PrintMore Go.Proofs.YtdfehjfmihokpaaGeo
set_option linter.unusedVariables false
set_option linter.unusedSimpArgs false
open Go.Proofs.YtdfehjfmihokpaaMeet
theorem w1 (i : Nat) (h : i < 9223372036854775807) : wrap64 ((i : Int) + 1) = ((i + 1 : Nat) : Int) := by unfold wrap64; omega
theorem rd_at (l : List Int) (i : Nat) (h : i < l.length) : rd l (i : Int) = l[i] := by
  unfold rd
  rw [Int.toNat_natCast, List.getD_eq_getElem?_getD, List.getElem?_eq_getElem h]
  rfl
theorem how_s (a b c d e f g h : Int) : Ev (fun _ => spec_HowMeet.f a b c d e f g h) (howS a b c d e f g h) := Ev.now _
theorem before_key {x y x' y' : Int} (h : isPt x y = true) (h' : isPt x' y' = true) : beforeI x y x' y' = decide (kyI x y < kyI x' y') := by
  rw [isPt_iff] at h h'
  unfold beforeI kyI
  rw [Bool.eq_iff_iff]; simp; omega
theorem j3_i (a b c d : Int) (h : isPt a b = true) (h' : isPt c d = true) : Ev (fun k => impl_HowMeet.j3 k a b c d) (if kyI c d < kyI a b then 0 else if kyI a b = kyI c d then 1 else 3) := by
  refine Ev.step (f := fun _ => some (if kyI c d < kyI a b then 0 else if kyI a b = kyI c d then 1 else 3)) (fun k => ?_) (Ev.now _)
  simp only [impl_HowMeet.j3, impl_BeforePoint.f, before_key h' h, Option.bind_some, decide_eq_true_eq]
  have e : (a == c && b == d) = decide (kyI a b = kyI c d) := by
    rw [← ky_inj h h']
    rw [Bool.eq_iff_iff]; simp
  rw [e]
  by_cases z : kyI c d < kyI a b
  · rw [if_pos z, if_pos z]
  · rw [if_neg z, if_neg z]
    by_cases z' : kyI a b = kyI c d
    · simp [z']
    · simp [z']
theorem j2_i (e f g h a b c d : Int) (h1 : isPt g h = true) (h2 : isPt a b = true) (h3 : isPt c d = true) : Ev (fun k => impl_HowMeet.j2 k e f g h a b c d) (if mn (kyI c d) (kyI g h) < kyI a b then 0 else if kyI a b = mn (kyI c d) (kyI g h) then 1 else 3) := by
  refine Ev.step (f := fun k => if kyI g h < kyI c d then impl_HowMeet.j3 k a b g h else impl_HowMeet.j3 k a b c d) (fun k => ?_) ?_
  · simp only [impl_HowMeet.j2, impl_BeforePoint.f, before_key h1 h3, Option.bind_some, decide_eq_true_eq]
  · unfold mn
    by_cases z : kyI g h < kyI c d
    · simp only [if_pos z]; exact j3_i a b g h h2 h1
    · simp only [if_neg z]; exact j3_i a b c d h2 h3
theorem fwd_i (a b c d : Int) (h : isPt a b = true) (h' : isPt c d = true) : ∃ x y u v, impl_forward.f a b c d = some (x, y, u, v) ∧ isPt x y = true ∧ isPt u v = true ∧ kyI x y = mn (kyI a b) (kyI c d) ∧ kyI u v = mx (kyI a b) (kyI c d) := by
  unfold impl_forward.f impl_BeforePoint.f impl_TurnSegment.f
  simp only [before_key h' h, Option.bind_some, decide_eq_true_eq]
  by_cases z : kyI c d < kyI a b
  · exact ⟨c, d, a, b, by rw [if_pos z], h', h, by unfold mn; rw [if_pos z], by unfold mx; rw [if_neg (by omega)]⟩
  · exact ⟨a, b, c, d, by rw [if_neg z], h, h', by unfold mn; rw [if_neg z], by unfold mx; split <;> omega⟩
theorem how_i (a b c d e f g h : Int) : Ev (fun k => impl_HowMeet.f k a b c d e f g h) (howS a b c d e f g h) := by
  rw [← how_eq]
  unfold impl_HowMeet.f howP impl_IsSegment.f
  simp only [Option.bind_some]
  have dead : Ev (fun k => impl_HowMeet.j0 k true a b c d e f g h) 0 := Ev.step (f := fun _ => some 0) (fun k => by simp [impl_HowMeet.j0]) (Ev.now _)
  cases h1 : isSeg a b c d
  · simp only [Bool.false_eq_true, if_false, true_or, if_true]; exact dead
  · cases h2 : isSeg e f g h
    · simp only [if_true, Bool.not_false, or_true]; exact dead
    · simp only [if_true, Bool.not_true, Bool.true_eq_false, or_self, if_false]
      obtain ⟨ha, hc, _⟩ := isSeg_iff.mp h1
      obtain ⟨he, hg, _⟩ := isSeg_iff.mp h2
      have j4t : Ev (fun k => impl_HowMeet.j4 k true a b c d e f g h) 2 := Ev.step (f := fun _ => some 2) (fun k => by simp [impl_HowMeet.j4]) (Ev.now _)
      have j4f : Ev (fun k => impl_HowMeet.j4 k false a b c d e f g h) (if isOnI a b c d e f || isOnI a b c d g h || isOnI e f g h a b || isOnI e f g h c d then 1 else 0) := by
        refine Ev.step (f := fun _ => some (if isOnI a b c d e f || isOnI a b c d g h || isOnI e f g h a b || isOnI e f g h c d then 1 else 0)) (fun k => ?_) (Ev.now _)
        simp only [impl_HowMeet.j4, impl_IsOn.f, Option.bind_some, Bool.false_eq_true, if_false]
        cases isOnI a b c d e f <;> cases isOnI a b c d g h <;> cases isOnI e f g h a b <;> cases isOnI e f g h c d <;> rfl
      by_cases hcol : sideI a b c d e f = 0 ∧ sideI a b c d g h = 0
      · rw [if_pos hcol]
        obtain ⟨x, y, u, v, f1, p1, p2, k1, k2⟩ := fwd_i a b c d ha hc
        obtain ⟨x', y', u', v', f2, p1', p2', k1', k2'⟩ := fwd_i e f g h he hg
        refine Ev.step (f := fun k => impl_HowMeet.j1 k (sideI a b c d e f) (sideI a b c d g h) true a b c d e f g h) (fun k => ?_) ?_
        · simp [impl_HowMeet.j0, impl_SideOf.f, hcol.1, hcol.2]
        · refine Ev.step (f := fun k => if kyI x y < kyI x' y' then impl_HowMeet.j2 k x' y' u' v' x' y' u v else impl_HowMeet.j2 k x' y' u' v' x y u v) (fun k => ?_) ?_
          · simp only [impl_HowMeet.j1, f1, f2, impl_BeforePoint.f, Option.bind_some, before_key p1 p1', decide_eq_true_eq, if_true]
          · rw [← k1, ← k2, ← k1', ← k2']
            by_cases z : kyI x y < kyI x' y'
            · simp only [if_pos z]
              have e : mx (kyI x y) (kyI x' y') = kyI x' y' := by unfold mx; rw [if_pos z]
              rw [e]
              exact j2_i x' y' u' v' x' y' u v p2' p1' p2
            · simp only [if_neg z]
              have e : mx (kyI x y) (kyI x' y') = kyI x y := by unfold mx; rw [if_neg z]
              rw [e]
              exact j2_i x' y' u' v' x y u v p2' p1 p2
      · rw [if_neg hcol]
        refine Ev.step (f := fun k => impl_HowMeet.j1 k (sideI a b c d e f) (sideI a b c d g h) false a b c d e f g h) (fun k => ?_) ?_
        · simp only [impl_HowMeet.j0, impl_SideOf.f, Option.bind_some, Bool.false_eq_true, if_false]
          by_cases z : sideI a b c d e f = 0
          · have z' : ¬ sideI a b c d g h = 0 := fun q => hcol ⟨z, q⟩
            have z'' : (sideI a b c d g h == 0) = false := by simp [z']
            rw [if_pos z, z'']
          · rw [if_neg z]
        · have w1 := wrap_sd _ _ (sd_bd a b c d e f) (sd_bd a b c d g h)
          have w2 := wrap_sd _ _ (sd_bd e f g h a b) (sd_bd e f g h c d)
          by_cases zu : sideI a b c d e f * sideI a b c d g h < 0
          · by_cases zv : sideI e f g h a b * sideI e f g h c d < 0
            · rw [if_pos ⟨zu, zv⟩]
              refine Ev.step (fun k => ?_) j4t
              simp [impl_HowMeet.j1, impl_SideOf.f, w1, w2, zu, zv]
            · rw [if_neg (fun q => zv q.2)]
              refine Ev.step (fun k => ?_) j4f
              simp [impl_HowMeet.j1, impl_SideOf.f, w1, w2, zu, zv]
          · rw [if_neg (fun q => zu q.1)]
            refine Ev.step (fun k => ?_) j4f
            simp [impl_HowMeet.j1, impl_SideOf.f, w1, zu]
/-- A line's points, one behind the other: each a point, none like the one ahead of it. -/
def chkL : Option S82 → List S82 → Bool
  | _, [] => true
  | o, p :: r => isPt p.f0 p.f1 && ((match o with | none => true | some q => !eqP q p) && chkL (some p) r)
theorem chkL_cons (o : Option S82) (p : S82) (r : List S82) : chkL o (p :: r) = (isPt p.f0 p.f1 && ((match o with | none => true | some q => !eqP q p) && chkL (some p) r)) := by cases o <;> rfl
def lnB (l : List S82) : Bool := inR (l.length : Int) 2 10 && chkL none l
def prevL (l : List S82) (i : Nat) : Option S82 := if i = 0 then none else some (l.getD (i - 1) z82)
theorem prevL_succ (l : List S82) (i : Nat) (h : i < l.length) : prevL l (i + 1) = some l[i] := by
  unfold prevL
  rw [if_neg (by omega), Nat.add_sub_cancel, List.getD_eq_getElem?_getD, List.getElem?_eq_getElem h]; rfl
theorem w1m (i : Nat) (h : 0 < i) (h' : i < 9223372036854775807) : wrap64 ((i : Int) - 1) = ((i - 1 : Nat) : Int) := by unfold wrap64; omega
theorem isLine_sl (l : List S82) (hl : l.length < 9223372036854775807) (d : Nat) : ∀ i : Nat, i + d = l.length → Ev (fun k => spec_IsLine.l0 k l (i : Int)) (chkL (prevL l i) (l.drop i) && inR (l.length : Int) 2 10) := by
  induction d with
  | zero =>
    intro i hi
    rw [List.drop_of_length_le (by omega)]
    refine Ev.step (f := fun _ => some _) (fun k => ?_) (Ev.now _)
    simp only [spec_IsLine.l0, spec_l1In.f]
    rw [if_neg (by omega)]
    simp [chkL]
  | succ d ih =>
    intro i hi
    have h1 : i < l.length := by omega
    have hd := List.drop_eq_getElem_cons h1
    rw [hd, chkL_cons]
    cases hp : isPt l[i].f0 l[i].f1
    · refine Ev.step (f := fun _ => some false) (fun k => ?_) (Ev.now _)
      simp only [spec_IsLine.l0, spec_IsPoint.f, Option.bind_some]
      rw [if_pos (by omega), if_pos (by omega), rdPt l i h1, hp]
      simp
    · have ih' := ih (i + 1) (by omega)
      rw [prevL_succ l i h1] at ih'
      by_cases h0 : i = 0
      · subst h0
        refine Ev.step (fun k => ?_) ih'
        simp only [spec_IsLine.l0, spec_IsPoint.f, Option.bind_some]
        rw [if_pos (by omega), if_pos (by omega), rdPt l 0 h1, hp, if_pos rfl, if_neg (by omega), w1' 0 (by omega)]
      · have hi1 : i - 1 < l.length := by omega
        have eP : prevL l i = some l[i - 1] := by unfold prevL; rw [if_neg h0, List.getD_eq_getElem?_getD, List.getElem?_eq_getElem hi1]; rfl
        rw [eP]
        dsimp only
        have eq : (((l[i - 1]).f0) == (l[i].f0) && (((l[i - 1]).f1) == (l[i].f1))) = eqP l[i - 1] l[i] := by
          unfold eqP; rw [Bool.eq_iff_iff]; simp
        cases he : eqP l[i - 1] l[i]
        · refine Ev.step (fun k => ?_) ih'
          simp only [spec_IsLine.l0, spec_IsPoint.f, Option.bind_some]
          rw [if_pos (by omega), if_pos (by omega), rdPt l i h1, hp, if_pos rfl, if_pos (by omega), w1m i (by omega) (by omega), if_pos (by omega), if_pos (by omega), rdPt l (i - 1) hi1, eq, he, w1' i (by omega)]
          simp
        · refine Ev.step (f := fun _ => some false) (fun k => ?_) (Ev.now _)
          simp only [spec_IsLine.l0, spec_IsPoint.f, Option.bind_some]
          rw [if_pos (by omega), if_pos (by omega), rdPt l i h1, hp, if_pos rfl, if_pos (by omega), w1m i (by omega) (by omega), if_pos (by omega), if_pos (by omega), rdPt l (i - 1) hi1, eq, he]
          simp
theorem isLine_s (l : List S82) (hl : l.length < 9223372036854775807) : Ev (fun k => spec_IsLine.f k l) (lnB l) := by
  unfold spec_IsLine.f lnB
  rw [Bool.and_comm]
  exact isLine_sl l hl l.length 0 (by omega)
theorem isLine_il (l : List S82) (hl : l.length < 9223372036854775807) (d : Nat) : ∀ i : Nat, i + d = l.length → Ev (fun k => impl_IsLine.l0 k l l (l.length : Int) (i : Int)) (chkL (prevL l i) (l.drop i)) := by
  induction d with
  | zero =>
    intro i hi
    rw [List.drop_of_length_le (by omega)]
    refine Ev.step (f := fun _ => some _) (fun k => ?_) (Ev.now _)
    simp only [impl_IsLine.l0]
    rw [if_neg (by omega)]
    simp [chkL]
  | succ d ih =>
    intro i hi
    have h1 : i < l.length := by omega
    have hd := List.drop_eq_getElem_cons h1
    rw [hd, chkL_cons]
    cases hp : isPt l[i].f0 l[i].f1
    · refine Ev.step (f := fun _ => some false) (fun k => ?_) (Ev.now _)
      simp only [impl_IsLine.l0, impl_IsPoint.f, Option.bind_some]
      rw [if_pos (by omega), if_pos (by omega), if_pos (by omega), rdPt l i h1, hp]
      simp
    · have ih' := ih (i + 1) (by omega)
      rw [prevL_succ l i h1] at ih'
      by_cases h0 : i = 0
      · subst h0
        refine Ev.step (fun k => ?_) ih'
        simp only [impl_IsLine.l0, impl_IsPoint.f, Option.bind_some]
        rw [if_pos (by omega), if_pos (by omega), if_pos (by omega), rdPt l 0 h1, hp, if_pos rfl, if_neg (by omega), w1' 0 (by omega)]
      · have hi1 : i - 1 < l.length := by omega
        have eP : prevL l i = some l[i - 1] := by unfold prevL; rw [if_neg h0, List.getD_eq_getElem?_getD, List.getElem?_eq_getElem hi1]; rfl
        rw [eP]
        dsimp only
        have eq : (((l[i]).f0) == (l[i - 1].f0) && (((l[i]).f1) == (l[i - 1].f1))) = eqP l[i - 1] l[i] := by
          unfold eqP; rw [Bool.eq_iff_iff]; simp; omega
        cases he : eqP l[i - 1] l[i]
        · refine Ev.step (fun k => ?_) ih'
          simp only [impl_IsLine.l0, impl_IsPoint.f, Option.bind_some]
          rw [if_pos (by omega), if_pos (by omega), if_pos (by omega), rdPt l i h1, hp, if_pos rfl, if_pos (by omega), w1m i (by omega) (by omega), if_pos (by omega), if_pos (by omega), rdPt l (i - 1) hi1, eq, he, w1' i (by omega)]
          simp
        · refine Ev.step (f := fun _ => some false) (fun k => ?_) (Ev.now _)
          simp only [impl_IsLine.l0, impl_IsPoint.f, Option.bind_some]
          rw [if_pos (by omega), if_pos (by omega), if_pos (by omega), rdPt l i h1, hp, if_pos rfl, if_pos (by omega), w1m i (by omega) (by omega), if_pos (by omega), if_pos (by omega), rdPt l (i - 1) hi1, eq, he]
          simp
theorem isLine_i (l : List S82) (hl : l.length < 9223372036854775807) : Ev (fun k => impl_IsLine.f k l) (lnB l) := by
  unfold impl_IsLine.f lnB
  have dead : Ev (fun k => impl_IsLine.j0 k l true) false := Ev.step (f := fun _ => some false) (fun k => by simp [impl_IsLine.j0]) (Ev.now _)
  by_cases h2 : (l.length : Int) < 2
  · simp only [if_pos h2]
    have : inR (l.length : Int) 2 10 = false := by unfold inR; simp; omega
    rw [this]; exact dead
  · simp only [if_neg h2]
    by_cases h10 : (l.length : Int) > 10
    · have : inR (l.length : Int) 2 10 = false := by unfold inR; simp; omega
      rw [this, decide_eq_true h10]; exact dead
    · have : inR (l.length : Int) 2 10 = true := by unfold inR; simp; omega
      rw [this, decide_eq_false h10]
      exact Ev.step (fun k => by simp [impl_IsLine.j0]) (isLine_il l hl l.length 0 (by omega))
theorem rdSg (l : List S85) (i : Nat) (h : i < l.length) : rd_T85 l (i : Int) = l.getD i z85 := by
  unfold rd_T85
  rw [Int.toNat_natCast]
def howL (p q : S85) : Int := howS p.f0.f0 p.f0.f1 p.f1.f0 p.f1.f1 q.f0.f0 q.f0.f1 q.f1.f0 q.f1.f1
def segL (p : S85) : Bool := isSeg p.f0.f0 p.f0.f1 p.f1.f0 p.f1.f1
def wantR (n i k : Nat) : Int := if k + 1 = i ∨ (k = 0 ∧ i + 1 = n) then 1 else 0
def inRow (s : List S85) (i : Nat) (k : Nat) : Bool := decide (howL (s.getD i z85) (s.getD k z85) = wantR s.length i k)
def ringS (s : List S85) (i d : Nat) : Bool := (List.range' i d).all fun i => segL (s.getD i z85) && (List.range' 0 i).all (inRow s i)
/-- The segments around. -/
def arR (l : List S82) : List S85 := (List.range l.length).map fun i => (⟨l.getD i z82, l.getD ((i + 1) % l.length) z82⟩ : S85)
def rgB (l : List S82) : Bool := inR (l.length : Int) 3 10 && ringS (arR l) 0 l.length
theorem arR_len (l : List S82) : (arR l).length = l.length := by simp [arR]
theorem arR_take (l : List S82) (i : Nat) (h : i < l.length) : (arR l).take (i + 1) = (arR l).take i ++ [(⟨l.getD i z82, l.getD ((i + 1) % l.length) z82⟩ : S85)] := by
  rw [List.take_succ_eq_append_getElem (by rw [arR_len]; exact h)]
  simp [arR]
theorem tmod_nat (a n : Nat) : Int.tmod (a : Int) (n : Int) = ((a % n : Nat) : Int) := by rw [Int.ofNat_tmod]
theorem rdPd (l : List S82) (i : Nat) : rd_T82 l (i : Int) = l.getD i z82 := by
  unfold rd_T82
  rw [Int.toNat_natCast]
theorem around_sl (l : List S82) (hl : l.length < 1000) (d : Nat) : ∀ i : Nat, i + d = l.length → Ev (fun k => spec_l7Segments.l0 k l ((arR l).take i) (i : Int)) (arR l) := by
  induction d with
  | zero =>
    intro i hi
    rw [List.take_of_length_le (by rw [arR_len]; omega)]
    refine Ev.step (f := fun _ => some _) (fun k => ?_) (Ev.now _)
    simp only [spec_l7Segments.l0]
    rw [if_neg (by omega)]
  | succ d ih =>
    intro i hi
    have h1 : i < l.length := by omega
    have hm : (i + 1) % l.length < l.length := Nat.mod_lt _ (by omega)
    refine Ev.step (fun k => ?_) (ih (i + 1) (by omega))
    have hlen : ((arR l).take i).length < 4398046511104 := by rw [List.length_take, arR_len]; omega
    simp only [spec_l7Segments.l0]
    rw [if_pos (by omega), if_pos (by omega), if_neg (by omega), w1' i (by omega), tmod_nat, if_pos (by omega), if_pos (by omega), if_pos hlen, rdPd, rdPd, arR_take l i h1]
theorem around_s (l : List S82) (hl : l.length < 1000) : Ev (fun k => spec_l7Segments.f k l) (arR l) := by
  unfold spec_l7Segments.f
  exact around_sl l hl l.length 0 (by omega)
theorem around_il (l : List S82) (hl : l.length < 1000) (d : Nat) : ∀ i : Nat, i + d = l.length → Ev (fun k => impl_around.l0 k l ((arR l).take i) l (l.length : Int) (i : Int)) (arR l) := by
  induction d with
  | zero =>
    intro i hi
    rw [List.take_of_length_le (by rw [arR_len]; omega)]
    refine Ev.step (f := fun _ => some _) (fun k => ?_) (Ev.now _)
    simp only [impl_around.l0]
    rw [if_neg (by omega)]
  | succ d ih =>
    intro i hi
    have h1 : i < l.length := by omega
    have hm : (i + 1) % l.length < l.length := Nat.mod_lt _ (by omega)
    refine Ev.step (fun k => ?_) (ih (i + 1) (by omega))
    have hlen : ((arR l).take i).length < 4398046511104 := by rw [List.length_take, arR_len]; omega
    simp only [impl_around.l0]
    rw [if_pos (by omega), if_pos (by omega), if_pos (by omega), if_neg (by omega), w1' i (by omega), tmod_nat, if_pos (by omega), if_pos (by omega), if_pos hlen, rdPd, rdPd, arR_take l i h1]
theorem around_i (l : List S82) (hl : l.length < 1000) : Ev (fun k => impl_around.f k l) (arR l) := by
  unfold impl_around.f
  exact around_il l hl l.length 0 (by omega)
theorem ring_s1 (s : List S85) (hs : s.length < 1000) (i : Nat) (hi : i < s.length) (rest : Bool) (hr : Ev (fun k => spec_IsRing.l0 k s ((i + 1 : Nat) : Int)) rest) (d : Nat) :
    ∀ k : Nat, k + d = i → Ev (fun n => spec_IsRing.l1 n s (i : Int) (k : Int)) ((List.range' k d).all (inRow s i) && rest) := by
  induction d with
  | zero =>
    intro k hk
    refine Ev.step (fun n => ?_) hr
    simp only [spec_IsRing.l1]
    rw [if_neg (by omega), w1' i (by omega)]
  | succ d ih =>
    intro k hk
    have hk1 : k < s.length := by omega
    rw [List.range'_succ, List.all_cons]
    have e2 : Ev (fun n => (spec_HowMeet.f (s.getD i z85).f0.f0 (s.getD i z85).f0.f1 (s.getD i z85).f1.f0 (s.getD i z85).f1.f1 (s.getD k z85).f0.f0 (s.getD k z85).f0.f1 (s.getD k z85).f1.f0 (s.getD k z85).f1.f1).bind fun t => if t = wantR s.length i k then spec_IsRing.l1 n s (i : Int) ((k + 1 : Nat) : Int) else some false) (inRow s i k && (List.range' (k + 1) d).all (inRow s i) && rest) := by
      refine Ev.bind (how_s _ _ _ _ _ _ _ _) ?_
      by_cases hw : howL (s.getD i z85) (s.getD k z85) = wantR s.length i k
      · have e : inRow s i k = true := by unfold inRow; exact decide_eq_true hw
        rw [e, Bool.true_and]
        have : Ev (fun n => spec_IsRing.l1 n s (i : Int) ((k + 1 : Nat) : Int)) ((List.range' (k + 1) d).all (inRow s i) && rest) := ih (k + 1) (by omega)
        refine Ev.congr (fun n => ?_) this
        exact if_pos hw
      · have e : inRow s i k = false := by unfold inRow; exact decide_eq_false hw
        rw [e]
        refine Ev.congr (fun n => ?_) (Ev.now _)
        exact if_neg hw
    have j : ∀ b : Bool, (if b = true then (1 : Int) else 0) = wantR s.length i k → Ev (fun n => spec_IsRing.j2 n s (i : Int) (k : Int) 0 b) (inRow s i k && (List.range' (k + 1) d).all (inRow s i) && rest) := by
      intro b hb
      refine Ev.step (fun n => ?_) e2
      simp only [spec_IsRing.j2]
      rw [← hb]
      cases b
      · rw [if_neg (by simp), if_pos (by omega), if_pos (by omega), if_pos (by omega), if_pos (by omega), rdSg s i hi, rdSg s k hk1, w1' k (by omega)]; rfl
      · rw [if_pos rfl, if_pos (by omega), if_pos (by omega), if_pos (by omega), if_pos (by omega), rdSg s i hi, rdSg s k hk1, w1' k (by omega)]; rfl
    by_cases z : k + 1 = i
    · refine Ev.step (fun n => ?_) (j true (by show (1 : Int) = _; unfold wantR; rw [if_pos (.inl z)]))
      simp only [spec_IsRing.l1]
      rw [if_pos (by omega), w1' k (by omega), if_pos (by omega)]
    · by_cases z0 : k = 0
      · refine Ev.step (fun n => ?_) (j (decide (i + 1 = s.length)) (by unfold wantR; by_cases q : i + 1 = s.length <;> simp [q, z0] <;> omega))
        simp only [spec_IsRing.l1]
        rw [if_pos (by omega), w1' k (by omega), if_neg (by omega), if_pos (by omega), w1' i (by omega)]
        congr 1
        rw [Bool.eq_iff_iff]; simp; omega
      · refine Ev.step (fun n => ?_) (j false (by show (0 : Int) = _; unfold wantR; rw [if_neg (by omega)]))
        simp only [spec_IsRing.l1]
        rw [if_pos (by omega), w1' k (by omega), if_neg (by omega), if_neg (by omega)]
theorem ring_s0 (s : List S85) (hs : s.length < 1000) (d : Nat) : ∀ i : Nat, i + d = s.length → Ev (fun n => spec_IsRing.l0 n s (i : Int)) (ringS s i d) := by
  induction d with
  | zero =>
    intro i hi
    refine Ev.step (f := fun _ => some true) (fun n => ?_) (Ev.now _)
    simp only [spec_IsRing.l0]
    rw [if_neg (by omega)]
  | succ d ih =>
    intro i hi
    have h1 : i < s.length := by omega
    unfold ringS
    rw [List.range'_succ, List.all_cons]
    cases hq : segL (s.getD i z85)
    · refine Ev.step (f := fun _ => some false) (fun n => ?_) (Ev.now _)
      simp only [spec_IsRing.l0, spec_IsSegment.f, Option.bind_some]
      rw [if_pos (by omega), if_pos (by omega), rdSg s i h1]
      unfold segL at hq
      rw [hq]; simp
    · refine Ev.step (fun n => ?_) (ring_s1 s hs i h1 _ (ih (i + 1) (by omega)) i 0 (by omega))
      simp only [spec_IsRing.l0, spec_IsSegment.f, Option.bind_some]
      rw [if_pos (by omega), if_pos (by omega), rdSg s i h1]
      unfold segL at hq
      rw [hq, if_pos rfl]; rfl
theorem isRing_s (l : List S82) (hl : l.length < 9223372036854775807) : Ev (fun k => spec_IsRing.f k l) (rgB l) := by
  unfold spec_IsRing.f rgB spec_l1In.f
  simp only [Option.bind_some]
  cases h : inR (l.length : Int) 3 10
  · simp only [Bool.false_eq_true, if_false, Bool.false_and]; exact Ev.now _
  · have hb : l.length < 1000 := by unfold inR at h; simp at h; omega
    simp only [if_true, Bool.true_and]
    refine Ev.bind (around_s l hb) ?_
    have := ring_s0 (arR l) (by rw [arR_len]; exact hb) l.length 0 (by rw [arR_len]; omega)
    exact this
theorem ring_i1 (s : List S85) (hs : s.length < 1000) (i : Nat) (hi : i < s.length) (rest : Bool) (hr : Ev (fun k => impl_IsRing.l0 k s (s.length : Int) ((i + 1 : Nat) : Int)) rest) (d : Nat) :
    ∀ k : Nat, k + d = i → Ev (fun n => impl_IsRing.l1 n s (i : Int) (s.length : Int) (i : Int) (i : Int) (k : Int)) ((List.range' k d).all (inRow s i) && rest) := by
  induction d with
  | zero =>
    intro k hk
    refine Ev.step (fun n => ?_) hr
    simp only [impl_IsRing.l1]
    rw [if_neg (by omega), w1' i (by omega)]
  | succ d ih =>
    intro k hk
    have hk1 : k < s.length := by omega
    rw [List.range'_succ, List.all_cons]
    have e2 : Ev (fun n => (impl_HowMeet.f n (s.getD i z85).f0.f0 (s.getD i z85).f0.f1 (s.getD i z85).f1.f0 (s.getD i z85).f1.f1 (s.getD k z85).f0.f0 (s.getD k z85).f0.f1 (s.getD k z85).f1.f0 (s.getD k z85).f1.f1).bind fun t => if t = wantR s.length i k then impl_IsRing.l1 n s (i : Int) (s.length : Int) (i : Int) (i : Int) ((k + 1 : Nat) : Int) else some false) (inRow s i k && (List.range' (k + 1) d).all (inRow s i) && rest) := by
      refine Ev.bind (how_i _ _ _ _ _ _ _ _) ?_
      by_cases hw : howL (s.getD i z85) (s.getD k z85) = wantR s.length i k
      · have e : inRow s i k = true := by unfold inRow; exact decide_eq_true hw
        rw [e, Bool.true_and]
        refine Ev.congr (fun n => ?_) (ih (k + 1) (by omega))
        exact if_pos hw
      · have e : inRow s i k = false := by unfold inRow; exact decide_eq_false hw
        rw [e]
        refine Ev.congr (fun n => ?_) (Ev.now _)
        exact if_neg hw
    have j : ∀ b : Bool, (if b = true then (1 : Int) else 0) = wantR s.length i k → Ev (fun n => impl_IsRing.j3 n s (i : Int) (k : Int) 0 (s.length : Int) (i : Int) (i : Int) (k : Int) b) (inRow s i k && (List.range' (k + 1) d).all (inRow s i) && rest) := by
      intro b hb
      refine Ev.step (fun n => ?_) e2
      simp only [impl_IsRing.j3]
      rw [← hb]
      cases b
      · rw [if_neg (by simp), if_pos (by omega), if_pos (by omega), if_pos (by omega), if_pos (by omega), rdSg s i hi, rdSg s k hk1, w1' k (by omega)]; rfl
      · rw [if_pos rfl, if_pos (by omega), if_pos (by omega), if_pos (by omega), if_pos (by omega), rdSg s i hi, rdSg s k hk1, w1' k (by omega)]; rfl
    have wi : wrap64 ((i : Int) - 1) = (i : Int) - 1 := by unfold wrap64; omega
    have wn : wrap64 ((s.length : Int) - 1) = (s.length : Int) - 1 := by unfold wrap64; omega
    by_cases z : k + 1 = i
    · refine Ev.step (fun n => ?_) (j true (by show (1 : Int) = _; unfold wantR; rw [if_pos (.inl z)]))
      simp only [impl_IsRing.l1]
      rw [if_pos (by omega), wi, if_pos (by omega)]
    · by_cases z0 : k = 0
      · refine Ev.step (fun n => ?_) (j (decide (i + 1 = s.length)) (by unfold wantR; by_cases q : i + 1 = s.length <;> simp [q, z0] <;> omega))
        simp only [impl_IsRing.l1]
        rw [if_pos (by omega), wi, if_neg (by omega), if_pos (by omega), wn]
        congr 1
        rw [Bool.eq_iff_iff]; simp; omega
      · refine Ev.step (fun n => ?_) (j false (by show (0 : Int) = _; unfold wantR; rw [if_neg (by omega)]))
        simp only [impl_IsRing.l1]
        rw [if_pos (by omega), wi, if_neg (by omega), if_neg (by omega)]
theorem ring_i0 (s : List S85) (hs : s.length < 1000) (d : Nat) : ∀ i : Nat, i + d = s.length → Ev (fun n => impl_IsRing.l0 n s (s.length : Int) (i : Int)) (ringS s i d) := by
  induction d with
  | zero =>
    intro i hi
    refine Ev.step (f := fun _ => some true) (fun n => ?_) (Ev.now _)
    simp only [impl_IsRing.l0]
    rw [if_neg (by omega)]
  | succ d ih =>
    intro i hi
    have h1 : i < s.length := by omega
    unfold ringS
    rw [List.range'_succ, List.all_cons]
    cases hq : segL (s.getD i z85)
    · refine Ev.step (f := fun _ => some false) (fun n => ?_) (Ev.now _)
      simp only [impl_IsRing.l0, impl_IsSegment.f, Option.bind_some]
      rw [if_pos (by omega), if_pos (by omega), if_pos (by omega), rdSg s i h1]
      unfold segL at hq
      rw [hq]; simp
    · refine Ev.step (fun n => ?_) (ring_i1 s hs i h1 _ (ih (i + 1) (by omega)) i 0 (by omega))
      simp only [impl_IsRing.l0, impl_IsSegment.f, Option.bind_some]
      rw [if_pos (by omega), if_pos (by omega), if_pos (by omega), rdSg s i h1]
      unfold segL at hq
      rw [hq, if_pos rfl]; rfl
theorem isRing_i (l : List S82) (hl : l.length < 9223372036854775807) : Ev (fun k => impl_IsRing.f k l) (rgB l) := by
  unfold impl_IsRing.f rgB
  have dead : Ev (fun k => impl_IsRing.j0 k l true) false := Ev.step (f := fun _ => some false) (fun k => by simp [impl_IsRing.j0]) (Ev.now _)
  by_cases h2 : (l.length : Int) < 3
  · simp only [if_pos h2]
    have : inR (l.length : Int) 3 10 = false := by unfold inR; simp; omega
    rw [this]; exact dead
  · simp only [if_neg h2]
    by_cases h10 : (l.length : Int) > 10
    · have : inR (l.length : Int) 3 10 = false := by unfold inR; simp; omega
      rw [this, decide_eq_true h10]; exact dead
    · have : inR (l.length : Int) 3 10 = true := by unfold inR; simp; omega
      rw [this, decide_eq_false h10]
      have hb : l.length < 1000 := by omega
      refine Ev.step (f := fun k => (impl_around.f k l).bind fun t => impl_IsRing.l0 k t (t.length : Int) 0) (fun k => by simp [impl_IsRing.j0]) (Ev.bind (around_i l hb) ?_)
      exact ring_i0 (arR l) (by rw [arR_len]; exact hb) l.length 0 (by rw [arR_len]; omega)
def nmB (s : ByteArray) : Bool := (List.range' 0 s.size).all (fun (i : Nat) => decide (97 ≤ bt s (i : Int)) && decide (bt s (i : Int) ≤ 122)) && inR (s.size : Int) 1 8
theorem nm_loop_s (s : ByteArray) (hs : s.size ≤ 9223372036854775807) (d : Nat) : ∀ i : Nat, i + d = s.size → Ev (fun k => spec_IsName.l0 k s (i : Int)) ((List.range' i d).all (fun (i : Nat) => decide (97 ≤ bt s (i : Int)) && decide (bt s (i : Int) ≤ 122)) && inR (s.size : Int) 1 8) := by
  induction d with
  | zero =>
    intro i hi
    refine Ev.step (f := fun _ => some (inR (s.size : Int) 1 8)) (fun k => ?_) (Ev.now _)
    simp only [spec_IsName.l0, spec_l1In.f]
    rw [if_neg (by omega)]; rfl
  | succ d ih =>
    intro i hi
    rw [List.range'_succ, List.all_cons]
    by_cases h1 : bt s (i : Int) < 97
    · rw [decide_eq_false (show ¬ 97 ≤ bt s (i : Int) by omega)]
      refine Ev.step (f := fun _ => some false) (fun k => ?_) (Ev.now _)
      simp only [spec_IsName.l0]
      rw [if_pos (by omega), if_pos (by omega), if_pos h1]
    · by_cases h2 : bt s (i : Int) > 122
      · rw [decide_eq_true (show 97 ≤ bt s (i : Int) by omega), decide_eq_false (show ¬ bt s (i : Int) ≤ 122 by omega)]
        refine Ev.step (f := fun _ => some false) (fun k => ?_) (Ev.now _)
        simp only [spec_IsName.l0]
        rw [if_pos (by omega), if_pos (by omega), if_neg h1, if_pos h2]
      · rw [decide_eq_true (show 97 ≤ bt s (i : Int) by omega), decide_eq_true (show bt s (i : Int) ≤ 122 by omega)]
        refine Ev.step (fun k => ?_) (ih (i + 1) (by omega))
        simp only [spec_IsName.l0]
        rw [if_pos (by omega), if_pos (by omega), if_neg h1, if_neg h2, w1' i (by omega)]
theorem nm_s (s : ByteArray) (hs : s.size ≤ 9223372036854775807) : Ev (fun k => spec_IsName.f k s) (nmB s) := nm_loop_s s hs s.size 0 (by omega)
theorem nm_loop_i (s : ByteArray) (hs : s.size ≤ 9223372036854775807) (d : Nat) : ∀ i : Nat, i + d = s.size → Ev (fun k => impl_IsName.l0 k s (s.size : Int) (i : Int)) ((List.range' i d).all (fun (i : Nat) => decide (97 ≤ bt s (i : Int)) && decide (bt s (i : Int) ≤ 122)) && inR (s.size : Int) 1 8) := by
  induction d with
  | zero =>
    intro i hi
    refine Ev.step (f := fun _ => some (inR (s.size : Int) 1 8)) (fun k => ?_) (Ev.now _)
    simp only [impl_IsName.l0, impl_InRange.f]
    rw [if_neg (by omega)]; rfl
  | succ d ih =>
    intro i hi
    rw [List.range'_succ, List.all_cons]
    by_cases h1 : bt s (i : Int) < 97
    · rw [decide_eq_false (show ¬ 97 ≤ bt s (i : Int) by omega)]
      refine Ev.step (f := fun _ => some false) (fun k => ?_) (Ev.now _)
      simp only [impl_IsName.l0]
      rw [if_pos (by omega), if_pos (by omega), if_pos (by omega), if_pos h1]
    · by_cases h2 : bt s (i : Int) > 122
      · rw [decide_eq_true (show 97 ≤ bt s (i : Int) by omega), decide_eq_false (show ¬ bt s (i : Int) ≤ 122 by omega)]
        refine Ev.step (f := fun _ => some false) (fun k => ?_) (Ev.now _)
        simp only [impl_IsName.l0]
        rw [if_pos (by omega), if_pos (by omega), if_pos (by omega), if_neg h1, if_pos h2]
      · rw [decide_eq_true (show 97 ≤ bt s (i : Int) by omega), decide_eq_true (show bt s (i : Int) ≤ 122 by omega)]
        refine Ev.step (fun k => ?_) (ih (i + 1) (by omega))
        simp only [impl_IsName.l0]
        rw [if_pos (by omega), if_pos (by omega), if_pos (by omega), if_neg h1, if_neg h2, w1' i (by omega)]
theorem nm_i (s : ByteArray) (hs : s.size ≤ 9223372036854775807) : Ev (fun k => impl_IsName.f k s) (nmB s) := nm_loop_i s hs s.size 0 (by omega)
theorem lnB_len {l : List S82} (h : lnB l = true) : 2 ≤ l.length ∧ l.length ≤ 10 := by
  unfold lnB inR at h; simp at h; omega
theorem rgB_len {l : List S82} (h : rgB l = true) : 3 ≤ l.length ∧ l.length ≤ 10 := by
  unfold rgB inR at h; simp at h; omega
/-- The segments of a line, one behind the other. -/
def sgR (l : List S82) : List S85 := (List.range (l.length - 1)).map fun i => (⟨l.getD i z82, l.getD (i + 1) z82⟩ : S85)
def sgL (l : List S82) : List S85 := if lnB l then sgR l else []
theorem sgR_len (l : List S82) : (sgR l).length = l.length - 1 := by simp [sgR]
theorem sgR_take (l : List S82) (i : Nat) (h : i + 1 < l.length) : (sgR l).take (i + 1) = (sgR l).take i ++ [(⟨l.getD i z82, l.getD (i + 1) z82⟩ : S85)] := by
  rw [List.take_succ_eq_append_getElem (by rw [sgR_len]; omega)]
  simp [sgR]
theorem seg_sl (l : List S82) (hl : lnB l = true) (d : Nat) : ∀ i : Nat, i + 1 + d = l.length → Ev (fun k => spec_SegmentsOf.l0 k l ((sgR l).take i) ((i + 1 : Nat) : Int)) (sgR l) := by
  have hb := lnB_len hl
  induction d with
  | zero =>
    intro i hi
    rw [List.take_of_length_le (by rw [sgR_len]; omega)]
    refine Ev.step (f := fun _ => some _) (fun k => ?_) (Ev.now _)
    simp only [spec_SegmentsOf.l0]
    rw [if_neg (by omega)]
  | succ d ih =>
    intro i hi
    have hlen : ((sgR l).take i).length < 4398046511104 := by rw [List.length_take, sgR_len]; omega
    have w : wrap64 (((i + 1 : Nat) : Int) - 1) = (i : Int) := by unfold wrap64; omega
    refine Ev.step (f := fun k => (spec_IsLine.f k l).bind fun t => if t = true then spec_SegmentsOf.l0 k l ((sgR l).take (i + 1)) ((i + 1 + 1 : Nat) : Int) else some ((sgR l).take i)) (fun k => ?_) (Ev.bind (isLine_s l (by omega)) ?_)
    · simp only [spec_SegmentsOf.l0]
      rw [if_pos (by omega), w, if_pos (by omega), if_pos (by omega), if_pos (by omega), if_pos hlen, rdPd, rdPd, sgR_take l i (by omega), w1' (i + 1) (by omega)]
    · rw [hl]
      simp only [if_true]
      exact ih (i + 1) (by omega)
theorem seg_s (l : List S82) (hl : l.length < 9223372036854775807) : Ev (fun k => spec_SegmentsOf.f k l) (sgL l) := by
  unfold spec_SegmentsOf.f sgL
  cases h : lnB l
  · by_cases h1 : (1 : Int) < (l.length : Int)
    · refine Ev.step (f := fun k => (spec_IsLine.f k l).bind fun t => if t = true then spec_SegmentsOf.l0 (k + 1) l [] 1 else some []) (fun k => ?_) (Ev.bind (isLine_s l hl) ?_)
      · simp only [spec_SegmentsOf.l0]
        rw [if_pos h1]
        cases hh : spec_IsLine.f k l with
        | none => rfl
        | some b => cases b <;> simp [h1]
      · rw [h]; simp only [Bool.false_eq_true, if_false]; exact Ev.now _
    · refine Ev.step (f := fun _ => some []) (fun k => ?_) (Ev.now _)
      simp only [spec_SegmentsOf.l0]
      rw [if_neg h1]
  · have hb := lnB_len h
    exact seg_sl l h (l.length - 1) 0 (by omega)
theorem seg_il (l : List S82) (hl : lnB l = true) (d : Nat) : ∀ i : Nat, i + 1 + d = l.length → Ev (fun k => impl_SegmentsOf.l0 k l ((sgR l).take i) ((i + 1 : Nat) : Int)) (sgR l) := by
  have hb := lnB_len hl
  induction d with
  | zero =>
    intro i hi
    rw [List.take_of_length_le (by rw [sgR_len]; omega)]
    refine Ev.step (f := fun _ => some _) (fun k => ?_) (Ev.now _)
    simp only [impl_SegmentsOf.l0]
    rw [if_neg (by omega)]
  | succ d ih =>
    intro i hi
    have hlen : ((sgR l).take i).length < 4398046511104 := by rw [List.length_take, sgR_len]; omega
    have w : wrap64 (((i + 1 : Nat) : Int) - 1) = (i : Int) := by unfold wrap64; omega
    refine Ev.step (fun k => ?_) (ih (i + 1) (by omega))
    simp only [impl_SegmentsOf.l0]
    rw [if_pos (by omega), w, if_pos (by omega), if_pos (by omega), if_pos (by omega), if_pos hlen, rdPd, rdPd, sgR_take l i (by omega), w1' (i + 1) (by omega)]
theorem seg_i (l : List S82) (hl : l.length < 9223372036854775807) : Ev (fun k => impl_SegmentsOf.f k l) (sgL l) := by
  unfold impl_SegmentsOf.f sgL
  simp only [Option.bind_some]
  refine Ev.bind (isLine_i l hl) ?_
  cases h : lnB l
  · simp only [Bool.false_eq_true, if_false]; exact Ev.now _
  · have hb := lnB_len h
    simp only [if_true]
    exact seg_il l h (l.length - 1) 0 (by omega)
def wantS (i k : Nat) : Int := if k + 1 = i then 1 else 0
def inRow2 (s : List S85) (i : Nat) (k : Nat) : Bool := decide (howL (s.getD i z85) (s.getD k z85) = wantS i k)
def simS (s : List S85) (i d : Nat) : Bool := (List.range' i d).all fun i => (List.range' 0 i).all (inRow2 s i)
def smB (l : List S82) : Bool := lnB l && simS (sgL l) 0 (sgL l).length
theorem sim_s1 (l : List S82) (s : List S85) (hs : s.length < 1000) (i : Nat) (hi : i < s.length) (rest : Bool) (hr : Ev (fun k => spec_IsSimple.l0 k l s ((i + 1 : Nat) : Int)) rest) (d : Nat) :
    ∀ k : Nat, k + d = i → Ev (fun n => spec_IsSimple.l1 n l s (i : Int) (k : Int)) ((List.range' k d).all (inRow2 s i) && rest) := by
  induction d with
  | zero =>
    intro k hk
    refine Ev.step (fun n => ?_) hr
    simp only [spec_IsSimple.l1]
    rw [if_neg (by omega), w1' i (by omega)]
  | succ d ih =>
    intro k hk
    have hk1 : k < s.length := by omega
    rw [List.range'_succ, List.all_cons]
    have e2 : Ev (fun n => (spec_HowMeet.f (s.getD i z85).f0.f0 (s.getD i z85).f0.f1 (s.getD i z85).f1.f0 (s.getD i z85).f1.f1 (s.getD k z85).f0.f0 (s.getD k z85).f0.f1 (s.getD k z85).f1.f0 (s.getD k z85).f1.f1).bind fun t => if t = wantS i k then spec_IsSimple.l1 n l s (i : Int) ((k + 1 : Nat) : Int) else some false) (inRow2 s i k && (List.range' (k + 1) d).all (inRow2 s i) && rest) := by
      refine Ev.bind (how_s _ _ _ _ _ _ _ _) ?_
      by_cases hw : howL (s.getD i z85) (s.getD k z85) = wantS i k
      · have e : inRow2 s i k = true := by unfold inRow2; exact decide_eq_true hw
        rw [e, Bool.true_and]
        refine Ev.congr (fun n => ?_) (ih (k + 1) (by omega))
        exact if_pos hw
      · have e : inRow2 s i k = false := by unfold inRow2; exact decide_eq_false hw
        rw [e]
        refine Ev.congr (fun n => ?_) (Ev.now _)
        exact if_neg hw
    refine Ev.step (fun n => ?_) e2
    simp only [spec_IsSimple.l1]
    by_cases z : k + 1 = i
    · have hw : wantS i k = 1 := by unfold wantS; rw [if_pos z]
      rw [hw, if_pos (by omega), w1' k (by omega), if_pos (by omega), if_pos (by omega), if_pos (by omega), if_pos (by omega), if_pos (by omega), rdSg s i hi, rdSg s k hk1]
    · have hw : wantS i k = 0 := by unfold wantS; rw [if_neg z]
      rw [hw, if_pos (by omega), w1' k (by omega), if_neg (by omega), if_pos (by omega), if_pos (by omega), if_pos (by omega), if_pos (by omega), rdSg s i hi, rdSg s k hk1]
theorem sim_s0 (l : List S82) (hl : l.length < 9223372036854775807) (s : List S85) (hs : s.length < 1000) (d : Nat) : ∀ i : Nat, i + d = s.length → Ev (fun n => spec_IsSimple.l0 n l s (i : Int)) (simS s i d && lnB l) := by
  induction d with
  | zero =>
    intro i hi
    refine Ev.step (f := fun k => (spec_IsLine.f k l).bind fun t => some t) (fun n => ?_) (Ev.bind (isLine_s l hl) (Ev.now _))
    simp only [spec_IsSimple.l0]
    rw [if_neg (by omega)]
  | succ d ih =>
    intro i hi
    have h1 : i < s.length := by omega
    unfold simS
    rw [List.range'_succ, List.all_cons, Bool.and_assoc]
    refine Ev.step (fun n => ?_) (sim_s1 l s hs i h1 _ (ih (i + 1) (by omega)) i 0 (by omega))
    simp only [spec_IsSimple.l0]
    rw [if_pos (by omega)]; rfl
theorem sgL_len (l : List S82) : (sgL l).length < 1000 := by
  unfold sgL
  cases h : lnB l
  · simp
  · have := lnB_len h; simp [sgR_len]; omega
theorem isSimple_s (l : List S82) (hl : l.length < 9223372036854775807) : Ev (fun k => spec_IsSimple.f k l) (smB l) := by
  unfold spec_IsSimple.f smB
  refine Ev.bind (seg_s l hl) ?_
  rw [Bool.and_comm]
  exact sim_s0 l hl (sgL l) (sgL_len l) (sgL l).length 0 (by omega)
theorem sim_i1 (s : List S85) (hs : s.length < 1000) (i : Nat) (hi : i < s.length) (rest : Bool) (hr : Ev (fun k => impl_IsSimple.l0 k s (s.length : Int) ((i + 1 : Nat) : Int)) rest) (d : Nat) :
    ∀ k : Nat, k + d = i → Ev (fun n => impl_IsSimple.l1 n s (i : Int) (s.length : Int) (i : Int) (i : Int) (k : Int)) ((List.range' k d).all (inRow2 s i) && rest) := by
  induction d with
  | zero =>
    intro k hk
    refine Ev.step (fun n => ?_) hr
    simp only [impl_IsSimple.l1]
    rw [if_neg (by omega), w1' i (by omega)]
  | succ d ih =>
    intro k hk
    have hk1 : k < s.length := by omega
    rw [List.range'_succ, List.all_cons]
    have e2 : Ev (fun n => (impl_HowMeet.f n (s.getD i z85).f0.f0 (s.getD i z85).f0.f1 (s.getD i z85).f1.f0 (s.getD i z85).f1.f1 (s.getD k z85).f0.f0 (s.getD k z85).f0.f1 (s.getD k z85).f1.f0 (s.getD k z85).f1.f1).bind fun t => if t = wantS i k then impl_IsSimple.l1 n s (i : Int) (s.length : Int) (i : Int) (i : Int) ((k + 1 : Nat) : Int) else some false) (inRow2 s i k && (List.range' (k + 1) d).all (inRow2 s i) && rest) := by
      refine Ev.bind (how_i _ _ _ _ _ _ _ _) ?_
      by_cases hw : howL (s.getD i z85) (s.getD k z85) = wantS i k
      · have e : inRow2 s i k = true := by unfold inRow2; exact decide_eq_true hw
        rw [e, Bool.true_and]
        refine Ev.congr (fun n => ?_) (ih (k + 1) (by omega))
        exact if_pos hw
      · have e : inRow2 s i k = false := by unfold inRow2; exact decide_eq_false hw
        rw [e]
        refine Ev.congr (fun n => ?_) (Ev.now _)
        exact if_neg hw
    have wi : wrap64 ((i : Int) - 1) = (i : Int) - 1 := by unfold wrap64; omega
    refine Ev.step (fun n => ?_) e2
    simp only [impl_IsSimple.l1]
    by_cases z : k + 1 = i
    · have hw : wantS i k = 1 := by unfold wantS; rw [if_pos z]
      rw [hw, if_pos (by omega), wi, if_pos (by omega), if_pos (by omega), if_pos (by omega), if_pos (by omega), if_pos (by omega), rdSg s i hi, rdSg s k hk1, w1' k (by omega)]
    · have hw : wantS i k = 0 := by unfold wantS; rw [if_neg z]
      rw [hw, if_pos (by omega), wi, if_neg (by omega), if_pos (by omega), if_pos (by omega), if_pos (by omega), if_pos (by omega), rdSg s i hi, rdSg s k hk1, w1' k (by omega)]
theorem sim_i0 (s : List S85) (hs : s.length < 1000) (d : Nat) : ∀ i : Nat, i + d = s.length → Ev (fun n => impl_IsSimple.l0 n s (s.length : Int) (i : Int)) (simS s i d) := by
  induction d with
  | zero =>
    intro i hi
    refine Ev.step (f := fun _ => some true) (fun n => ?_) (Ev.now _)
    simp only [impl_IsSimple.l0]
    rw [if_neg (by omega)]
  | succ d ih =>
    intro i hi
    have h1 : i < s.length := by omega
    unfold simS
    rw [List.range'_succ, List.all_cons]
    refine Ev.step (fun n => ?_) (sim_i1 s hs i h1 _ (ih (i + 1) (by omega)) i 0 (by omega))
    simp only [impl_IsSimple.l0]
    rw [if_pos (by omega)]; rfl
theorem isSimple_i (l : List S82) (hl : l.length < 9223372036854775807) : Ev (fun k => impl_IsSimple.f k l) (smB l) := by
  unfold impl_IsSimple.f smB
  refine Ev.bind (isLine_i l hl) ?_
  cases h : lnB l
  · simp only [Bool.false_eq_true, if_false, Bool.false_and]; exact Ev.now _
  · simp only [if_true, Bool.true_and]
    refine Ev.bind (seg_i l hl) ?_
    exact sim_i0 (sgL l) (sgL_len l) (sgL l).length 0 (by omega)
def kdB (kd : Int) (l : List S82) : Bool := if kd = 1 then decide (l.length = 1) && isPt (l.getD 0 z82).f0 (l.getD 0 z82).f1 else if kd = 2 then smB l else if kd = 3 then rgB l else false
def ftB (a b c : Int) (s : ByteArray) (l : List S82) : Bool := inR a 1 99 && (inR c 0 9 && ((decide (s.toList = ([] : List UInt8)) || nmB s) && kdB b l))
theorem rdP0 (l : List S82) : rd_T82 l 0 = l.getD 0 z82 := rfl
theorem ft_js (a b c : Int) (s : ByteArray) (l : List S82) (hl : l.length < 9223372036854775807) (q : Bool) : Ev (fun k => spec_IsFeature.j0 k q a b c s l) (!q && kdB b l) := by
  cases q
  · unfold kdB
    by_cases h1 : b = 1
    · refine Ev.step (f := fun _ => some (decide (l.length = 1) && isPt (l.getD 0 z82).f0 (l.getD 0 z82).f1)) (fun k => ?_) (by simp only [if_pos h1]; exact Ev.now _)
      simp only [spec_IsFeature.j0, Bool.false_eq_true, if_false, if_pos h1, spec_IsPoint.f, Option.bind_some, rdP0]
      by_cases h : (l.length : Int) = 1
      · rw [if_pos h, if_pos (by omega), decide_eq_true (show l.length = 1 by omega)]; rfl
      · rw [if_neg h, decide_eq_false (show ¬ l.length = 1 by omega)]; rfl
    · by_cases h2 : b = 2
      · simp only [if_neg h1, if_pos h2]
        refine Ev.step (f := fun k => (spec_IsSimple.f k l).bind fun t => some t) (fun k => ?_) (Ev.bind (isSimple_s l hl) (Ev.now _))
        simp only [spec_IsFeature.j0, Bool.false_eq_true, if_false, if_neg h1, if_pos h2]
      · by_cases h3 : b = 3
        · simp only [if_neg h1, if_neg h2, if_pos h3]
          refine Ev.step (f := fun k => (spec_IsRing.f k l).bind fun t => some t) (fun k => ?_) (Ev.bind (isRing_s l hl) (Ev.now _))
          simp only [spec_IsFeature.j0, Bool.false_eq_true, if_false, if_neg h1, if_neg h2, if_pos h3]
        · simp only [if_neg h1, if_neg h2, if_neg h3]
          refine Ev.step (f := fun _ => some false) (fun k => ?_) (Ev.now _)
          simp only [spec_IsFeature.j0, Bool.false_eq_true, if_false, if_neg h1, if_neg h2, if_neg h3]
  · refine Ev.step (f := fun _ => some false) (fun k => ?_) (Ev.now _)
    simp [spec_IsFeature.j0]
theorem ft_s (a b c : Int) (s : ByteArray) (hs : s.size ≤ 9223372036854775807) (l : List S82) (hl : l.length < 9223372036854775807) : Ev (fun k => spec_IsFeature.f k a b c s l) (ftB a b c s l) := by
  unfold spec_IsFeature.f ftB spec_l1In.f
  simp only [Option.bind_some]
  cases inR a 1 99
  · simp only [Bool.false_eq_true, if_false]; exact ft_js a b c s l hl true
  · cases inR c 0 9
    · simp only [if_true, Bool.false_eq_true, if_false]; exact ft_js a b c s l hl true
    · simp only [if_true, Bool.true_and]
      by_cases he : s.toList = ([] : List UInt8)
      · simp only [if_pos he, decide_eq_true he, Bool.true_or]; exact ft_js a b c s l hl false
      · simp only [if_neg he, decide_eq_false he, Bool.false_or]
        refine Ev.bind (nm_s s hs) ?_
        have := ft_js a b c s l hl (!nmB s)
        rw [Bool.not_not] at this
        exact this
theorem ft_ji (a b c : Int) (s : ByteArray) (l : List S82) (hl : l.length < 9223372036854775807) (q : Bool) : Ev (fun k => impl_IsFeature.j0 k q a b c s l) (!q && kdB b l) := by
  cases q
  · unfold kdB
    by_cases h1 : b = 1
    · refine Ev.step (f := fun _ => some (decide (l.length = 1) && isPt (l.getD 0 z82).f0 (l.getD 0 z82).f1)) (fun k => ?_) (by simp only [if_pos h1]; exact Ev.now _)
      simp only [impl_IsFeature.j0, Bool.false_eq_true, if_false, if_pos h1, impl_IsPoint.f, Option.bind_some, rdP0]
      by_cases h : (l.length : Int) = 1
      · rw [if_pos h, if_pos (by omega), decide_eq_true (show l.length = 1 by omega)]; rfl
      · rw [if_neg h, decide_eq_false (show ¬ l.length = 1 by omega)]; rfl
    · by_cases h2 : b = 2
      · simp only [if_neg h1, if_pos h2]
        refine Ev.step (f := fun k => (impl_IsSimple.f k l).bind fun t => some t) (fun k => ?_) (Ev.bind (isSimple_i l hl) (Ev.now _))
        simp only [impl_IsFeature.j0, Bool.false_eq_true, if_false, if_neg h1, if_pos h2]
      · by_cases h3 : b = 3
        · simp only [if_neg h1, if_neg h2, if_pos h3]
          refine Ev.step (f := fun k => (impl_IsRing.f k l).bind fun t => some t) (fun k => ?_) (Ev.bind (isRing_i l hl) (Ev.now _))
          simp only [impl_IsFeature.j0, Bool.false_eq_true, if_false, if_neg h1, if_neg h2, if_pos h3]
        · simp only [if_neg h1, if_neg h2, if_neg h3]
          refine Ev.step (f := fun _ => some false) (fun k => ?_) (Ev.now _)
          simp only [impl_IsFeature.j0, Bool.false_eq_true, if_false, if_neg h1, if_neg h2, if_neg h3]
  · refine Ev.step (f := fun _ => some false) (fun k => ?_) (Ev.now _)
    simp [impl_IsFeature.j0]
theorem ft_i (a b c : Int) (s : ByteArray) (hs : s.size ≤ 9223372036854775807) (l : List S82) (hl : l.length < 9223372036854775807) : Ev (fun k => impl_IsFeature.f k a b c s l) (ftB a b c s l) := by
  unfold impl_IsFeature.f ftB impl_InRange.f
  simp only [Option.bind_some]
  cases inR a 1 99
  · simp only [Bool.false_eq_true, if_false]; exact ft_ji a b c s l hl true
  · cases inR c 0 9
    · simp only [if_true, Bool.false_eq_true, if_false]; exact ft_ji a b c s l hl true
    · simp only [if_true, Bool.true_and]
      by_cases he : s.toList = ([] : List UInt8)
      · simp only [if_pos he, decide_eq_true he, Bool.true_or]; exact ft_ji a b c s l hl false
      · simp only [if_neg he, decide_eq_false he, Bool.false_or]
        refine Ev.bind (nm_i s hs) ?_
        have := ft_ji a b c s l hl (!nmB s)
        rw [Bool.not_not] at this
        exact this
theorem rdp_at (l : List S118) (i : Nat) (h : i < l.length) : rd_T118 l (i : Int) = l[i] := by
  unfold rd_T118
  rw [Int.toNat_natCast, List.getD_eq_getElem?_getD, List.getElem?_eq_getElem h]
  rfl
theorem rdP_at (l : List S82) (i : Nat) (h : i < l.length) : rd_T82 l (i : Int) = l[i] := by
  unfold rd_T82
  rw [Int.toNat_natCast, List.getD_eq_getElem?_getD, List.getElem?_eq_getElem h]
  rfl
def convP (x : S118) : S82 := ⟨x.f0, x.f1⟩
theorem toPoints_l (l : List S118) (hb : l.length < 9223372036854775807) (d : Nat) : ∀ i : Nat, i + d = l.length → Ev (fun k => laws_toPointS.l0 k l ((l.map convP).take i ++ List.replicate d z82) (i : Int)) (l.map convP) := by
  induction d with
  | zero =>
    intro i hi
    refine Ev.step (f := fun _ => some (l.map convP)) (fun k => ?_) (Ev.now _)
    simp only [laws_toPointS.l0]
    rw [if_neg (by omega), List.take_of_length_le (by simp; omega)]
    simp
  | succ d ih =>
    intro i hi
    have h1 : i < l.length := by omega
    refine Ev.step (fun k => ?_) (ih (i + 1) (by omega))
    simp only [laws_toPointS.l0, laws_toPoint.f, Option.bind_some]
    rw [if_pos (by omega), if_pos (by omega), if_pos (by simp; omega), rdp_at l i h1, w1 i (by omega)]
    congr 1
    have hm : i < (l.map convP).length := by simpa using h1
    rw [Int.toNat_natCast, List.set_append_right _ _ (by simp; omega), List.take_succ_eq_append_getElem hm, List.replicate_succ]
    simp only [List.length_take, List.length_map, Nat.min_eq_left (show i ≤ l.length by omega), Nat.sub_self, List.set_cons_zero, List.append_assoc, List.singleton_append, List.getElem_map, convP]
theorem toPoints (l : List S118) (hb : l.length ≤ 1048576) : Ev (fun k => laws_toPointS.f k l) (l.map convP) := by
  unfold laws_toPointS.f
  simp only [if_pos (show (0 : Int) ≤ (l.length : Int) by omega), Int.toNat_natCast, if_pos (show l.length ≤ 17592186044416 by omega)]
  have := toPoints_l l (by omega) l.length 0 (by omega)
  simpa using this
theorem eqPoints_l (l : List S82) (hb : l.length < 9223372036854775807) (d : Nat) : ∀ i : Nat, i + d = l.length → Ev (fun k => laws_eqPointS.l0 k l l (i : Int)) true := by
  induction d with
  | zero =>
    intro i hi
    refine Ev.step (f := fun _ => some true) (fun k => ?_) (Ev.now _)
    simp only [laws_eqPointS.l0]
    rw [if_neg (by omega)]
  | succ d ih =>
    intro i hi
    have h1 : i < l.length := by omega
    refine Ev.step (fun k => ?_) (ih (i + 1) (by omega))
    simp only [laws_eqPointS.l0, laws_eqPoint.f]
    rw [if_pos (by omega), if_pos (by omega), if_pos (by omega), w1 i (by omega)]
    simp
theorem eqPoints (l : List S82) (hb : l.length < 9223372036854775807) : Ev (fun k => laws_eqPointS.f k l l) true := by
  unfold laws_eqPointS.f
  simp only [if_true]
  exact eqPoints_l l hb l.length 0 (by omega)
theorem toFeature1 (a b c : Int) (s : ByteArray) (l : List S118) (hl : l.length ≤ 1048576) : Ev (fun k => laws_toFeature.f k a b c s l) (a, b, c, s, l.map convP) := by
  unfold laws_toFeature.f
  exact Ev.bind (toPoints l hl) (Ev.now _)
theorem eqFeature1 (a b c : Int) (s : ByteArray) (l : List S82) (hl : l.length < 9223372036854775807) : Ev (fun k => laws_eqFeature.f k a b c s l a b c s l) true := by
  unfold laws_eqFeature.f
  simp only [if_true]
  refine Ev.bind (eqPoints l hl) ?_
  simp only [if_true]
  exact Ev.now _
theorem szFeature1 (a b c : Int) (s : ByteArray) (hs : s.size ≤ 9223372036854775807) (l : List S118) (hl : l.length ≤ 9223372036854775807) (n : Int) (h0 : 0 ≤ n) (h1 : n ≤ 1048576) : ∃ r, laws_szFeature.f a b c s l n = some r ∧ (¬ r < 0 → l.length ≤ 1048576 ∧ s.size ≤ 1048576 ∧ 0 ≤ r ∧ r ≤ 1048576) := by
  unfold laws_szFeature.f laws_szPointS.f
  have w : wrap64 (n - (s.size : Int)) = n - (s.size : Int) := by unfold wrap64; omega
  rw [w]
  by_cases hc : n - (s.size : Int) < 0
  · rw [if_pos hc]; exact ⟨_, rfl, fun h => by omega⟩
  · have w2 : wrap64 (n - (s.size : Int) - (l.length : Int)) = n - (s.size : Int) - (l.length : Int) := by unfold wrap64; omega
    rw [if_neg hc, w2]
    by_cases hc2 : n - (s.size : Int) - (l.length : Int) < 0
    · rw [if_pos hc2]; exact ⟨-1, rfl, fun h => by omega⟩
    · rw [if_neg hc2]; exact ⟨n - (s.size : Int) - (l.length : Int), by simp only [Option.bind_some]; rw [if_neg hc2], fun h => by omega⟩
theorem rdf_at (l : List S24) (i : Nat) (h : i < l.length) : rd_T24 l (i : Int) = l[i] := by
  unfold rd_T24
  rw [Int.toNat_natCast, List.getD_eq_getElem?_getD, List.getElem?_eq_getElem h]
  rfl
theorem rdF_at (l : List S29) (i : Nat) (h : i < l.length) : rd_T29 l (i : Int) = l[i] := by
  unfold rd_T29
  rw [Int.toNat_natCast, List.getD_eq_getElem?_getD, List.getElem?_eq_getElem h]
  rfl
def convF (x : S24) : S29 := ⟨x.f0, x.f1, x.f2, x.f3, x.f4.map convP⟩
theorem toFeatures_l (l : List S24) (hb : l.length < 9223372036854775807) (hp : ∀ x ∈ l, x.f4.length ≤ 1048576) (d : Nat) : ∀ i : Nat, i + d = l.length → Ev (fun k => laws_toFeatureS.l0 k l ((l.map convF).take i ++ List.replicate d z29) (i : Int)) (l.map convF) := by
  induction d with
  | zero =>
    intro i hi
    refine Ev.step (f := fun _ => some (l.map convF)) (fun k => ?_) (Ev.now _)
    simp only [laws_toFeatureS.l0]
    rw [if_neg (by omega), List.take_of_length_le (by simp; omega)]
    simp
  | succ d ih =>
    intro i hi
    have h1 : i < l.length := by omega
    have ht := toPoints l[i].f4 (hp _ (List.getElem_mem h1))
    have hf : Ev (fun k => laws_toFeature.f k l[i].f0 l[i].f1 l[i].f2 l[i].f3 l[i].f4) (l[i].f0, l[i].f1, l[i].f2, l[i].f3, l[i].f4.map convP) := by
      unfold laws_toFeature.f
      exact Ev.bind ht (Ev.now _)
    refine Ev.step (f := fun k => (laws_toFeature.f k l[i].f0 l[i].f1 l[i].f2 l[i].f3 l[i].f4).bind fun b => laws_toFeatureS.l0 k l (((l.map convF).take i ++ List.replicate (d + 1) z29).set i (⟨b.1, b.2.1, b.2.2.1, b.2.2.2.1, b.2.2.2.2⟩ : S29)) ((i + 1 : Nat) : Int)) (fun k => ?_) (Ev.bind hf ?_)
    · simp only [laws_toFeatureS.l0]
      have hlen : (i : Int) < (((l.map convF).take i ++ List.replicate (d + 1) z29).length : Int) := by simp; omega
      rw [if_pos (by omega), if_pos (by omega), rdf_at l i h1, w1 i (by omega), Int.toNat_natCast]
      simp only [if_pos hlen]
    · have hm : i < (l.map convF).length := by simpa using h1
      have e : ((l.map convF).take i ++ List.replicate (d + 1) z29).set i (⟨l[i].f0, l[i].f1, l[i].f2, l[i].f3, l[i].f4.map convP⟩ : S29) = (l.map convF).take (i + 1) ++ List.replicate d z29 := by
        rw [List.set_append_right _ _ (by simp; omega), List.take_succ_eq_append_getElem hm, List.replicate_succ]
        simp only [List.length_take, List.length_map, Nat.min_eq_left (show i ≤ l.length by omega), Nat.sub_self, List.set_cons_zero, List.append_assoc, List.singleton_append, List.getElem_map, convF]
      simp only [e]
      exact ih (i + 1) (by omega)
theorem toFeatures (l : List S24) (hb : l.length ≤ 1048576) (hp : ∀ x ∈ l, x.f4.length ≤ 1048576) : Ev (fun k => laws_toFeatureS.f k l) (l.map convF) := by
  unfold laws_toFeatureS.f
  simp only [if_pos (show (0 : Int) ≤ (l.length : Int) by omega), Int.toNat_natCast, if_pos (show l.length ≤ 4398046511104 by omega)]
  have := toFeatures_l l (by omega) hp l.length 0 (by omega)
  simpa using this
theorem eqFeatures_l (l : List S29) (hb : l.length < 9223372036854775807) (hp : ∀ x ∈ l, x.f4.length < 9223372036854775807) (d : Nat) : ∀ i : Nat, i + d = l.length → Ev (fun k => laws_eqFeatureS.l0 k l l (i : Int)) true := by
  induction d with
  | zero =>
    intro i hi
    refine Ev.step (f := fun _ => some true) (fun k => ?_) (Ev.now _)
    simp only [laws_eqFeatureS.l0]
    rw [if_neg (by omega)]
  | succ d ih =>
    intro i hi
    have h1 : i < l.length := by omega
    have hf : Ev (fun k => laws_eqFeature.f k l[i].f0 l[i].f1 l[i].f2 l[i].f3 l[i].f4 l[i].f0 l[i].f1 l[i].f2 l[i].f3 l[i].f4) true := by
      unfold laws_eqFeature.f
      simp only [if_true]
      refine Ev.bind (eqPoints l[i].f4 (hp _ (List.getElem_mem h1))) ?_
      simp only [if_true]
      exact Ev.now _
    refine Ev.step (f := fun k => (laws_eqFeature.f k l[i].f0 l[i].f1 l[i].f2 l[i].f3 l[i].f4 l[i].f0 l[i].f1 l[i].f2 l[i].f3 l[i].f4).bind fun t => if t = true then laws_eqFeatureS.l0 k l l ((i + 1 : Nat) : Int) else some false) (fun k => ?_) (Ev.bind hf ?_)
    · simp only [laws_eqFeatureS.l0]
      rw [if_pos (by omega), if_pos (by omega), if_pos (by omega), rdF_at l i h1, w1 i (by omega)]
    · simp only [if_true]
      exact ih (i + 1) (by omega)
theorem eqFeatures (l : List S29) (hb : l.length < 9223372036854775807) (hp : ∀ x ∈ l, x.f4.length < 9223372036854775807) : Ev (fun k => laws_eqFeatureS.f k l l) true := by
  unfold laws_eqFeatureS.f
  simp only [if_true]
  exact eqFeatures_l l hb hp l.length 0 (by omega)
theorem szFeatures_l (l : List S24) (hl : ∀ x ∈ l, x.f3.size ≤ 9223372036854775807 ∧ x.f4.length ≤ 9223372036854775807) (hb : l.length < 9223372036854775807) (d : Nat) :
    ∀ (i : Nat) (n : Int), i + d = l.length → 0 ≤ n → n ≤ 1048576 → ∃ r, Ev (fun k => laws_szFeatureS.l0 k l n (i : Int)) r ∧ (¬ r < 0 → ∀ x ∈ l.drop i, x.f3.size ≤ 1048576 ∧ x.f4.length ≤ 1048576) := by
  induction d with
  | zero =>
    intro i n hi h0 h1
    have e : l.drop i = [] := List.drop_of_length_le (by omega)
    rw [e]
    refine ⟨n, Ev.step (f := fun _ => some n) (fun k => ?_) (Ev.now _), fun _ x hx => by simp at hx⟩
    simp only [laws_szFeatureS.l0]
    rw [if_neg (by omega)]
  | succ d ih =>
    intro i n hi h0 h1
    have hl1 : i < l.length := by omega
    obtain ⟨hx1, hx2⟩ := hl _ (List.getElem_mem hl1)
    have e := List.drop_eq_getElem_cons hl1
    rw [e]
    have hw : wrap64 (n - (l[i].f3.size : Int)) = n - (l[i].f3.size : Int) := by unfold wrap64; omega
    by_cases hc : n - (l[i].f3.size : Int) < 0
    · refine ⟨-1, Ev.step (f := fun _ => some (-1)) (fun k => ?_) (Ev.now _), fun h => by omega⟩
      simp only [laws_szFeatureS.l0, laws_szFeature.f]
      rw [if_pos (by omega), if_pos (by omega), rdf_at l i hl1, hw, if_pos hc]
      rfl
    · have hw2 : wrap64 (n - (l[i].f3.size : Int) - (l[i].f4.length : Int)) = n - (l[i].f3.size : Int) - (l[i].f4.length : Int) := by unfold wrap64; omega
      by_cases hc2 : n - (l[i].f3.size : Int) - (l[i].f4.length : Int) < 0
      · refine ⟨-1, Ev.step (f := fun _ => some (-1)) (fun k => ?_) (Ev.now _), fun h => by omega⟩
        simp only [laws_szFeatureS.l0, laws_szFeature.f, laws_szPointS.f]
        rw [if_pos (by omega), if_pos (by omega), rdf_at l i hl1, hw, if_neg hc, hw2, if_pos hc2]
        rfl
      · obtain ⟨r, hr, hr2⟩ := ih (i + 1) (n - (l[i].f3.size : Int) - (l[i].f4.length : Int)) (by omega) (by omega) (by omega)
        refine ⟨r, Ev.step (fun k => ?_) hr, fun h x hx => ?_⟩
        · simp only [laws_szFeatureS.l0, laws_szFeature.f, laws_szPointS.f]
          rw [if_pos (by omega), if_pos (by omega), rdf_at l i hl1, hw, if_neg hc, hw2, if_neg hc2]
          simp only [Option.bind_some]
          rw [if_neg hc2]
          simp only [Option.bind_some]
          rw [if_neg hc2, w1 i (by omega)]
        · rcases List.mem_cons.1 hx with hx | hx
          · subst hx; omega
          · exact hr2 h x hx
theorem szFeatures (l : List S24) (hl : ∀ x ∈ l, x.f3.size ≤ 9223372036854775807 ∧ x.f4.length ≤ 9223372036854775807) (hb : l.length ≤ 9223372036854775807) : ∃ r, Ev (fun k => laws_szFeatureS.f k l 1048576) r ∧ (¬ r < 0 → l.length ≤ 1048576 ∧ ∀ x ∈ l, x.f3.size ≤ 1048576 ∧ x.f4.length ≤ 1048576) := by
  unfold laws_szFeatureS.f
  have hw : wrap64 (1048576 - (l.length : Int)) = 1048576 - (l.length : Int) := by unfold wrap64; omega
  rw [hw]
  by_cases hc : 1048576 - (l.length : Int) < 0
  · exact ⟨-1, by simp only [if_pos hc]; exact Ev.now _, fun h => by omega⟩
  · simp only [if_neg hc]
    obtain ⟨r, hr, hr2⟩ := szFeatures_l l hl (by omega) l.length 0 (1048576 - (l.length : Int)) (by omega) (by omega) (by omega)
    exact ⟨r, hr, fun h => ⟨by omega, by simpa using hr2 h⟩⟩
theorem rdFg (l : List S29) (i : Nat) : rd_T29 l (i : Int) = l.getD i z29 := by unfold rd_T29; rw [Int.toNat_natCast]
def ftF (x : S29) : Bool := ftB x.f0 x.f1 x.f2 x.f3 x.f4
def chk (l : List S29) (i : Nat) : Bool := ftF (l.getD i z29) && (decide (i = 0) || decide ((l.getD (i - 1) z29).f0 < (l.getD i z29).f0))
def srcR (l : List S29) (i d : Nat) : Bool := (List.range' i d).all (chk l)
/-- That features are a source. -/
def srB (l : List S29) : Bool := srcR l 0 l.length && decide ((l.length : Int) ≤ 16)
section
variable (l : List S29) (hb : l.length < 9223372036854775807) (hx : ∀ x ∈ l, x.f3.size ≤ 9223372036854775807 ∧ x.f4.length < 9223372036854775807)
include hb hx
theorem src_sl (d : Nat) : ∀ i : Nat, i + d = l.length → Ev (fun k => spec_IsSource.l0 k l (i : Int)) (srcR l i d && decide ((l.length : Int) ≤ 16)) := by
  induction d with
  | zero =>
    intro i hi
    refine Ev.step (f := fun _ => some (decide ((l.length : Int) ≤ 16))) (fun k => ?_) (by simp only [srcR, List.range'_zero, List.all_nil, Bool.true_and]; exact Ev.now _)
    simp only [spec_IsSource.l0]
    rw [if_neg (by omega)]
  | succ d ih =>
    intro i hi
    have hlt : i < l.length := by omega
    have hm : l.getD i z29 ∈ l := by rw [List.getD_eq_getElem?_getD, List.getElem?_eq_getElem hlt]; exact List.getElem_mem hlt
    obtain ⟨g1, g2⟩ := hx _ hm
    have e : srcR l i (d + 1) = (chk l i && srcR l (i + 1) d) := by unfold srcR; rw [List.range'_succ, List.all_cons]
    rw [e]
    have hr := ih (i + 1) (by omega)
    have ft := ft_s (l.getD i z29).f0 (l.getD i z29).f1 (l.getD i z29).f2 (l.getD i z29).f3 g1 (l.getD i z29).f4 g2
    refine Ev.step (f := fun k => (spec_IsFeature.f k (l.getD i z29).f0 (l.getD i z29).f1 (l.getD i z29).f2 (l.getD i z29).f3 (l.getD i z29).f4).bind fun t242 => (if t242 = true then (if (i : Int) > 0 then (if 0 ≤ (wrap64 ((i : Int) - 1)) then (if (wrap64 ((i : Int) - 1)) < (l.length : Int) then (if ((rd_T29 l (wrap64 ((i : Int) - 1))).f0) ≥ ((l.getD i z29).f0) then (some false) else (spec_IsSource.l0 k l ((i + 1 : Nat) : Int))) else (none)) else (none)) else (spec_IsSource.l0 k l ((i + 1 : Nat) : Int))) else (some false))) (fun k => ?_) (Ev.bind ft ?_)
    · simp only [spec_IsSource.l0]
      rw [if_pos (by omega), if_pos (by omega), rdFg, w1' i (by omega)]
    · unfold chk ftF
      cases hf : ftB (l.getD i z29).f0 (l.getD i z29).f1 (l.getD i z29).f2 (l.getD i z29).f3 (l.getD i z29).f4
      · simp only [Bool.false_eq_true, if_false, Bool.false_and]; exact Ev.now _
      · simp only [if_true, Bool.true_and]
        by_cases h0 : i = 0
        · subst h0
          simp only [if_neg (show ¬ (((0 : Nat) : Int) > 0) by omega), decide_true, Bool.true_or, Bool.true_and]
          exact hr
        · have hw : wrap64 ((i : Int) - 1) = ((i - 1 : Nat) : Int) := by unfold wrap64; omega
          simp only [if_pos (show (i : Int) > 0 by omega), hw, if_pos (show 0 ≤ ((i - 1 : Nat) : Int) by omega), if_pos (show ((i - 1 : Nat) : Int) < (l.length : Int) by omega), rdFg, decide_eq_false h0, Bool.false_or]
          by_cases hc : (l.getD (i - 1) z29).f0 < (l.getD i z29).f0
          · simp only [if_neg (show ¬ ((l.getD (i - 1) z29).f0 ≥ (l.getD i z29).f0) by omega), decide_eq_true hc, Bool.true_and]
            exact hr
          · simp only [if_pos (show (l.getD (i - 1) z29).f0 ≥ (l.getD i z29).f0 by omega), decide_eq_false hc, Bool.false_and]
            exact Ev.now _
theorem src_il (d : Nat) : ∀ i : Nat, i + d = l.length → Ev (fun k => impl_IsSource.l0 k l l (l.length : Int) (i : Int)) (srcR l i d) := by
  induction d with
  | zero =>
    intro i hi
    refine Ev.step (f := fun _ => some true) (fun k => ?_) (Ev.now _)
    simp only [impl_IsSource.l0]
    rw [if_neg (by omega)]
  | succ d ih =>
    intro i hi
    have hlt : i < l.length := by omega
    have hm : l.getD i z29 ∈ l := by rw [List.getD_eq_getElem?_getD, List.getElem?_eq_getElem hlt]; exact List.getElem_mem hlt
    obtain ⟨g1, g2⟩ := hx _ hm
    have e : srcR l i (d + 1) = (chk l i && srcR l (i + 1) d) := by unfold srcR; rw [List.range'_succ, List.all_cons]
    rw [e]
    have hr := ih (i + 1) (by omega)
    have ft := ft_i (l.getD i z29).f0 (l.getD i z29).f1 (l.getD i z29).f2 (l.getD i z29).f3 g1 (l.getD i z29).f4 g2
    refine Ev.step (f := fun k => (impl_IsFeature.f k (l.getD i z29).f0 (l.getD i z29).f1 (l.getD i z29).f2 (l.getD i z29).f3 (l.getD i z29).f4).bind fun t242 => (if t242 = true then (if (i : Int) > 0 then (if 0 ≤ (wrap64 ((i : Int) - 1)) then (if (wrap64 ((i : Int) - 1)) < (l.length : Int) then (if ((l.getD i z29).f0) ≤ ((rd_T29 l (wrap64 ((i : Int) - 1))).f0) then (some false) else (impl_IsSource.l0 k l l (l.length : Int) ((i + 1 : Nat) : Int))) else (none)) else (none)) else (impl_IsSource.l0 k l l (l.length : Int) ((i + 1 : Nat) : Int))) else (some false))) (fun k => ?_) (Ev.bind ft ?_)
    · simp only [impl_IsSource.l0]
      rw [if_pos (by omega), if_pos (by omega), if_pos (by omega), rdFg, w1' i (by omega)]
    · unfold chk ftF
      cases hf : ftB (l.getD i z29).f0 (l.getD i z29).f1 (l.getD i z29).f2 (l.getD i z29).f3 (l.getD i z29).f4
      · simp only [Bool.false_eq_true, if_false, Bool.false_and]; exact Ev.now _
      · simp only [if_true, Bool.true_and]
        by_cases h0 : i = 0
        · subst h0
          simp only [if_neg (show ¬ (((0 : Nat) : Int) > 0) by omega), decide_true, Bool.true_or, Bool.true_and]
          exact hr
        · have hw : wrap64 ((i : Int) - 1) = ((i - 1 : Nat) : Int) := by unfold wrap64; omega
          simp only [if_pos (show (i : Int) > 0 by omega), hw, if_pos (show 0 ≤ ((i - 1 : Nat) : Int) by omega), if_pos (show ((i - 1 : Nat) : Int) < (l.length : Int) by omega), rdFg, decide_eq_false h0, Bool.false_or]
          by_cases hc : (l.getD (i - 1) z29).f0 < (l.getD i z29).f0
          · simp only [if_neg (show ¬ ((l.getD i z29).f0 ≤ (l.getD (i - 1) z29).f0) by omega), decide_eq_true hc, Bool.true_and]
            exact hr
          · simp only [if_pos (show (l.getD i z29).f0 ≤ (l.getD (i - 1) z29).f0 by omega), decide_eq_false hc, Bool.false_and]
            exact Ev.now _
theorem src_s : Ev (fun k => spec_IsSource.f k l) (srB l) := src_sl l hb hx l.length 0 (by omega)
theorem src_i : Ev (fun k => impl_IsSource.f k l) (srB l) := by
  unfold impl_IsSource.f srB
  by_cases h : (l.length : Int) > 16
  · simp only [if_pos h, decide_eq_false (show ¬ ((l.length : Int) ≤ 16) by omega), Bool.and_false]; exact Ev.now _
  · simp only [if_neg h, decide_eq_true (show (l.length : Int) ≤ 16 by omega), Bool.and_true]
    exact src_il l hb hx l.length 0 (by omega)
end
theorem mfT_bound (l : List S29) (h : ∀ x ∈ l, x.f4.length ≤ 1048576) : mfT l ≤ l.length * 2097156 := by
  induction l with
  | nil => simp [mfT]
  | cons x l ih =>
    have h1 := h x (by simp)
    have h2 := ih (fun y hy => h y (by simp [hy]))
    simp only [mfT, List.length_cons, Nat.add_mul, Nat.one_mul]
    omega
theorem markF (l : List S29) (hb : l.length ≤ 1048576) (h : ∀ x ∈ l, x.f4.length ≤ 1048576) : laws_markFeatureS.f l 1 = some (1 + (mfT l : Int)) := by
  have := mfT_bound l h
  unfold laws_markFeatureS.f
  rw [if_pos ⟨by omega, by omega⟩]
theorem rdPl (l : List S93) (i : Nat) : rd_T93 l (i : Int) = l.getD i z93 := by unfold rd_T93; rw [Int.toNat_natCast]
theorem eqPlaces_l (l : List S93) (hb : l.length < 9223372036854775807) (d : Nat) : ∀ i : Nat, i + d = l.length → Ev (fun k => laws_eqPlaceS.l0 k l l (i : Int)) true := by
  induction d with
  | zero =>
    intro i hi
    refine Ev.step (f := fun _ => some true) (fun k => ?_) (Ev.now _)
    simp only [laws_eqPlaceS.l0]
    rw [if_neg (by omega)]
  | succ d ih =>
    intro i hi
    refine Ev.step (fun k => ?_) (ih (i + 1) (by omega))
    simp only [laws_eqPlaceS.l0, laws_eqPlace.f, laws_eqPoint.f, if_true, Option.bind_some]
    rw [if_pos (by omega), if_pos (by omega), if_pos (by omega), w1' i (by omega)]
theorem eqPlaces (l : List S93) (hb : l.length < 9223372036854775807) : Ev (fun k => laws_eqPlaceS.f k l l) true := by
  unfold laws_eqPlaceS.f
  simp only [if_true]
  exact eqPlaces_l l hb l.length 0 (by omega)
def mkPl (j : Nat) : S93 := ⟨1 + 4 * (j : Int), ⟨2 + 4 * (j : Int), 3 + 4 * (j : Int)⟩, 4 + 4 * (j : Int)⟩
def MkP (M : List S93) (n : Nat) : Prop := ∀ j : Nat, j < n → M.getD j z93 = mkPl j
theorem setget (M : List S93) (i : Nat) (hi : i < M.length) (v : S93) : rd_T93 (M.set i v) (i : Int) = v := by
  rw [rdPl, List.getD_eq_getElem?_getD, List.getElem?_set, if_pos rfl, if_pos hi]; rfl
theorem markPlaces_l (n : Nat) (hn : n ≤ 1000000) (d : Nat) : ∀ (i : Nat) (M : List S93), i + d = n → M.length = n → MkP M i → ∃ M' : List S93, Ev (fun k => laws_markPlaceS.l0 k M (1 + 4 * (i : Int)) (i : Int)) (1 + 4 * (n : Int), M') ∧ M'.length = n ∧ MkP M' n := by
  induction d with
  | zero =>
    intro i M hi hl hM
    have hin : i = n := by omega
    subst hin
    refine ⟨M, Ev.step (f := fun _ => some (1 + 4 * (i : Int), M)) (fun k => ?_) (Ev.now _), hl, hM⟩
    simp only [laws_markPlaceS.l0]
    rw [if_neg (by omega)]
  | succ d ih =>
    intro i M hi hl hM
    have w0 : wrap64 (1 + 4 * (i : Int) + 1) = 2 + 4 * (i : Int) := by unfold wrap64; omega
    have w2 : wrap64 (2 + 4 * (i : Int) + 1) = 3 + 4 * (i : Int) := by unfold wrap64; omega
    have w3 : wrap64 (3 + 4 * (i : Int) + 1) = 4 + 4 * (i : Int) := by unfold wrap64; omega
    have w4 : wrap64 (4 + 4 * (i : Int) + 1) = 1 + 4 * ((i + 1 : Nat) : Int) := by unfold wrap64; omega
    obtain ⟨M', e, h1, h2⟩ := ih (i + 1) (M.set i (mkPl i)) (by omega) (by rw [List.length_set]; exact hl) (by
      intro j hj
      by_cases hji : j = i
      · subst hji
        rw [List.getD_eq_getElem?_getD, List.getElem?_set, if_pos rfl, if_pos (by omega)]; rfl
      · rw [List.getD_eq_getElem?_getD, List.getElem?_set, if_neg (fun h => hji h.symm), ← List.getD_eq_getElem?_getD]
        exact hM j (by omega))
    refine ⟨M', Ev.step (fun k => ?_) e, h1, h2⟩
    have hiM : i < M.length := by omega
    simp only [laws_markPlaceS.l0, Option.bind_some, Int.toNat_natCast, w0, w2, w3, w4, setget M i hiM, List.set_set]
    rw [if_pos (by omega), if_pos (by omega), w1' i (by omega)]
    rfl
theorem heldPlaces_l (n : Nat) (hn : n ≤ 1000000) (M : List S93) (hl : M.length = n) (hM : MkP M n) (d : Nat) : ∀ i : Nat, i + d = n → Ev (fun k => laws_heldPlaceS.l0 k M (1 + 4 * (i : Int)) (i : Int)) (1 + 4 * (n : Int)) := by
  induction d with
  | zero =>
    intro i hi
    have hin : i = n := by omega
    subst hin
    refine Ev.step (f := fun _ => some (1 + 4 * (i : Int))) (fun k => ?_) (Ev.now _)
    simp only [laws_heldPlaceS.l0]
    rw [if_neg (by omega)]
  | succ d ih =>
    intro i hi
    have w0 : wrap64 (1 + 4 * (i : Int) + 1) = 2 + 4 * (i : Int) := by unfold wrap64; omega
    have w2 : wrap64 (2 + 4 * (i : Int) + 1) = 3 + 4 * (i : Int) := by unfold wrap64; omega
    have w3 : wrap64 (3 + 4 * (i : Int) + 1) = 4 + 4 * (i : Int) := by unfold wrap64; omega
    have w4 : wrap64 (4 + 4 * (i : Int) + 1) = 1 + 4 * ((i + 1 : Nat) : Int) := by unfold wrap64; omega
    refine Ev.step (fun k => ?_) (ih (i + 1) (by omega))
    simp only [laws_heldPlaceS.l0, rdPl, hM i (by omega), mkPl, w0, w2, w3, w4, if_true]
    rw [if_pos (by omega), if_pos (by omega), w1' i (by omega)]
theorem markPlaces (l : List S93) (hn : l.length ≤ 1000000) : ∃ M : List S93, Ev (fun k => laws_markPlaceS.f k l 1) (1 + 4 * (l.length : Int), M) ∧ Ev (fun k => laws_heldPlaceS.f k M 1) (1 + 4 * (l.length : Int)) := by
  obtain ⟨M, e, h1, h2⟩ := markPlaces_l l.length hn l.length 0 l (by omega) rfl (fun j hj => by omega)
  exact ⟨M, e, heldPlaces_l l.length hn M h1 h2 l.length 0 (by omega)⟩
theorem sm_pos {L : List S82} (h : smB L = true) : 0 < L.length := by
  unfold smB lnB inR at h
  simp only [Bool.and_eq_true, decide_eq_true_eq] at h
  omega
theorem rg_pos {L : List S82} (h : rgB L = true) : 0 < L.length ∧ L.length ≤ 10 := by
  unfold rgB inR at h
  simp only [Bool.and_eq_true, decide_eq_true_eq] at h
  omega
/-- The sums of a ring's corners, as the machine adds them. -/
def mdR (L : List S82) : Nat → Nat → Int → Int → Int × Int
  | _, 0, x, y => (x, y)
  | i, d + 1, x, y => mdR L (i + 1) d (wrap64 (x + (L.getD i z82).f0)) (wrap64 (y + (L.getD i z82).f1))
theorem rm_sl (L : List S82) (h0 : 0 < L.length) (hb : L.length < 9223372036854775807) (d : Nat) : ∀ (i : Nat) (x y : Int), i + d = L.length → Ev (fun k => spec_RingMiddle.l0 k L (i : Int) x y) (wrap64 (Int.tdiv (mdR L i d x y).1 (L.length : Int)), wrap64 (Int.tdiv (mdR L i d x y).2 (L.length : Int)), true) := by
  induction d with
  | zero =>
    intro i x y hi
    refine Ev.step (f := fun _ => some (wrap64 (Int.tdiv x (L.length : Int)), wrap64 (Int.tdiv y (L.length : Int)), true)) (fun k => ?_) (Ev.now _)
    simp only [spec_RingMiddle.l0]
    rw [if_neg (by omega), if_neg (by omega)]
  | succ d ih =>
    intro i x y hi
    refine Ev.step (fun k => ?_) (ih (i + 1) _ _ (by omega))
    simp only [spec_RingMiddle.l0, rdPd]
    rw [if_pos (by omega), if_pos (by omega), w1' i (by omega)]
theorem rm_il (L : List S82) (h0 : 0 < L.length) (hb : L.length < 9223372036854775807) (d : Nat) : ∀ (i : Nat) (x y : Int), i + d = L.length → Ev (fun k => impl_RingMiddle.l0 k L L (L.length : Int) (i : Int) x y) (wrap64 (Int.tdiv (mdR L i d x y).1 (L.length : Int)), wrap64 (Int.tdiv (mdR L i d x y).2 (L.length : Int)), true) := by
  induction d with
  | zero =>
    intro i x y hi
    refine Ev.step (f := fun _ => some (wrap64 (Int.tdiv x (L.length : Int)), wrap64 (Int.tdiv y (L.length : Int)), true)) (fun k => ?_) (Ev.now _)
    simp only [impl_RingMiddle.l0]
    rw [if_neg (by omega), if_neg (by omega)]
  | succ d ih =>
    intro i x y hi
    refine Ev.step (fun k => ?_) (ih (i + 1) _ _ (by omega))
    simp only [impl_RingMiddle.l0, rdPd]
    rw [if_pos (by omega), if_pos (by omega), if_pos (by omega), w1' i (by omega)]
def mdP (L : List S82) : S82 := ⟨wrap64 (Int.tdiv (mdR L 0 L.length 0 0).1 (L.length : Int)), wrap64 (Int.tdiv (mdR L 0 L.length 0 0).2 (L.length : Int))⟩
theorem rm_s (L : List S82) (h : rgB L = true) : Ev (fun k => spec_RingMiddle.f k L) ((mdP L).f0, (mdP L).f1, true) := by
  have hp := rg_pos h
  have r := isRing_s L (by omega)
  rw [h] at r
  unfold spec_RingMiddle.f
  refine Ev.bind r ?_
  simp only [if_true]
  exact rm_sl L hp.1 (by omega) L.length 0 0 0 (by omega)
theorem rm_i (L : List S82) (h : rgB L = true) : Ev (fun k => impl_RingMiddle.f k L) ((mdP L).f0, (mdP L).f1, true) := by
  have hp := rg_pos h
  have r := isRing_i L (by omega)
  rw [h] at r
  unfold impl_RingMiddle.f
  refine Ev.bind r ?_
  simp only [if_true]
  exact rm_il L hp.1 (by omega) L.length 0 0 0 (by omega)
/-- Where a feature's name is anchored. -/
def anP (x : S29) : S82 := if x.f1 = 3 then mdP x.f4 else x.f4.getD (x.f4.length / 2) z82
def anB (x : S29) : List S93 := if x.f3.toList = ([] : List UInt8) then [] else [⟨x.f0, anP x, x.f2⟩]
def anF (l : List S29) (i d : Nat) : List S93 := (List.range' i d).flatMap fun i => anB (l.getD i z29)
theorem anF_step (l : List S29) (i d : Nat) : anF l i (d + 1) = anB (l.getD i z29) ++ anF l (i + 1) d := by unfold anF; rw [List.range'_succ, List.flatMap_cons]
theorem anB_len (x : S29) : (anB x).length ≤ 1 := by unfold anB; split <;> simp
theorem anF_len (l : List S29) (d : Nat) : ∀ i, (anF l i d).length ≤ d := by
  induction d with
  | zero => intro i; simp [anF]
  | succ d ih =>
    intro i
    have h1 := anB_len (l.getD i z29)
    have h2 := ih (i + 1)
    rw [anF_step, List.length_append]
    omega
theorem src_ft {l : List S29} (hs : srB l = true) (i : Nat) (hi : i < l.length) : ftF (l.getD i z29) = true := by
  unfold srB srcR at hs
  rw [Bool.and_eq_true, List.all_eq_true] at hs
  have := hs.1 i (by simp [List.mem_range']; omega)
  unfold chk at this
  rw [Bool.and_eq_true] at this
  exact this.1
theorem ft_kinds {x : S29} (h : ftF x = true) : (x.f1 = 1 ∧ x.f4.length = 1) ∨ (x.f1 = 2 ∧ 0 < x.f4.length) ∨ (x.f1 = 3 ∧ rgB x.f4 = true) := by
  unfold ftF ftB kdB at h
  simp only [Bool.and_eq_true] at h
  have h := h.2.2.2
  by_cases h1 : x.f1 = 1
  · rw [if_pos h1, Bool.and_eq_true, decide_eq_true_eq] at h
    exact .inl ⟨h1, h.1⟩
  · rw [if_neg h1] at h
    by_cases h2 : x.f1 = 2
    · rw [if_pos h2] at h
      exact .inr (.inl ⟨h2, sm_pos h⟩)
    · rw [if_neg h2] at h
      by_cases h3 : x.f1 = 3
      · rw [if_pos h3] at h
        exact .inr (.inr ⟨h3, h⟩)
      · rw [if_neg h3] at h; cases h
theorem half (n : Nat) (h : n < 9223372036854775807) : wrap64 ((n : Int) / 2) = ((n / 2 : Nat) : Int) := by unfold wrap64; omega
section
variable (l : List S29) (hb : l.length < 9223372036854775807) (hx : ∀ x ∈ l, x.f3.size ≤ 9223372036854775807 ∧ x.f4.length < 9223372036854775807)
include hb hx
theorem an_sl (hs : srB l = true) (d : Nat) : ∀ (i : Nat) (o : List S93), i + d = l.length → o.length + d ≤ 900000 → Ev (fun k => spec_AnchorsOf.l0 k l o (i : Int)) (o ++ anF l i d) := by
  induction d with
  | zero =>
    intro i o hi ho
    rw [show anF l i 0 = [] from rfl, List.append_nil]
    refine Ev.step (f := fun k => spec_AnchorsOf.j1 k l o (i : Int) false) (fun k => ?_) (Ev.step (f := fun _ => some o) (fun k => by simp [spec_AnchorsOf.j1]) (Ev.now _))
    simp only [spec_AnchorsOf.l0]
    rw [if_neg (by omega)]
  | succ d ih =>
    intro i o hi ho
    have hlt : i < l.length := by omega
    have hm : l.getD i z29 ∈ l := by rw [List.getD_eq_getElem?_getD, List.getElem?_eq_getElem hlt]; exact List.getElem_mem hlt
    obtain ⟨g1, g2⟩ := hx _ hm
    have src := src_s l hb hx
    rw [hs] at src
    have kinds := ft_kinds (src_ft hs i hlt)
    have hr := ih (i + 1) (o ++ anB (l.getD i z29)) (by omega) (by have := anB_len (l.getD i z29); rw [List.length_append]; omega)
    rw [anF_step, ← List.append_assoc]
    refine Ev.step (f := fun k => (spec_IsSource.f k l).bind fun t190 => spec_AnchorsOf.j1 k l o (i : Int) t190) (fun k => ?_) (Ev.bind src ?_)
    · simp only [spec_AnchorsOf.l0]
      rw [if_pos (by omega)]
    · generalize hX : l.getD i z29 = X at *
      have hh := half X.f4.length g2
      unfold anB at hr ⊢
      by_cases hn : X.f3.toList = ([] : List UInt8)
      · rw [if_pos hn, List.append_nil] at hr ⊢
        refine Ev.step (fun k => ?_) hr
        simp only [spec_AnchorsOf.j1, if_true, rdFg, hX]
        rw [if_pos (by omega), if_pos (by omega), if_pos hn, w1' i (by omega)]
      · rw [if_neg hn] at hr ⊢
        have hpos : X.f4.length / 2 < X.f4.length := by
          rcases kinds with ⟨_, h⟩ | ⟨_, h⟩ | ⟨_, h⟩
          · omega
          · omega
          · have := rg_pos h; omega
        by_cases h3 : X.f1 = 3
        · have hrg : rgB X.f4 = true := by
            rcases kinds with ⟨h, _⟩ | ⟨h, _⟩ | ⟨_, h⟩
            · omega
            · omega
            · exact h
          have e : anP X = mdP X.f4 := by unfold anP; rw [if_pos h3]
          rw [e] at hr ⊢
          refine Ev.step (f := fun k => (spec_RingMiddle.f k X.f4).bind fun bt195 => (if o.length < 4398046511104 then (spec_AnchorsOf.l0 k l (o ++ [(⟨X.f0, (⟨bt195.1, bt195.2.1⟩ : S82), X.f2⟩ : S93)]) ((i + 1 : Nat) : Int)) else (none))) (fun k => ?_) (Ev.bind (rm_s X.f4 hrg) ?_)
          · simp only [spec_AnchorsOf.j1, if_true, rdFg, hX, hh]
            rw [if_pos (by omega), if_pos (by omega), if_neg hn, if_pos (by omega), if_pos (by omega), if_pos h3, w1' i (by omega)]
          · simp only [if_pos (show o.length < 4398046511104 by omega)]
            exact hr
        · have e : anP X = X.f4.getD (X.f4.length / 2) z82 := by unfold anP; rw [if_neg h3]
          rw [e] at hr ⊢
          refine Ev.step (fun k => ?_) hr
          simp only [spec_AnchorsOf.j1, if_true, rdFg, hX, hh, rdPd]
          rw [if_pos (by omega), if_pos (by omega), if_neg hn, if_pos (by omega), if_pos (by omega), if_neg h3, if_pos (by omega), w1' i (by omega)]
theorem an_s : Ev (fun k => spec_AnchorsOf.f k l) (if srB l = true then anF l 0 l.length else []) := by
  unfold spec_AnchorsOf.f
  by_cases hs : srB l = true
  · rw [if_pos hs]
    have h16 : l.length ≤ 16 := by
      have h := hs
      unfold srB at h
      rw [Bool.and_eq_true, decide_eq_true_eq] at h
      omega
    have h := an_sl l hb hx hs l.length 0 [] (by omega) (by simp; omega)
    rw [List.nil_append] at h
    exact h
  · rw [if_neg hs]
    have hf : srB l = false := by simpa using hs
    have src := src_s l hb hx
    rw [hf] at src
    have dead : Ev (fun k => spec_AnchorsOf.j1 k l [] 0 false) [] := Ev.step (f := fun _ => some []) (fun k => by simp [spec_AnchorsOf.j1]) (Ev.now _)
    by_cases h0 : (0 : Int) < (l.length : Int)
    · refine Ev.step (f := fun k => (spec_IsSource.f k l).bind fun t248 => spec_AnchorsOf.j1 k l [] 0 t248) (fun k => ?_) (Ev.bind src dead)
      simp only [spec_AnchorsOf.l0]
      rw [if_pos h0]
    · refine Ev.step (fun k => ?_) dead
      simp only [spec_AnchorsOf.l0]
      rw [if_neg h0]
theorem an_il (hs : srB l = true) (d : Nat) : ∀ (i : Nat) (o : List S93), i + d = l.length → o.length + d ≤ 900000 → Ev (fun k => impl_AnchorsOf.l0 k o l (l.length : Int) (i : Int)) (o ++ anF l i d) := by
  induction d with
  | zero =>
    intro i o hi ho
    rw [show anF l i 0 = [] from rfl, List.append_nil]
    refine Ev.step (f := fun _ => some o) (fun k => ?_) (Ev.now _)
    simp only [impl_AnchorsOf.l0]
    rw [if_neg (by omega)]
  | succ d ih =>
    intro i o hi ho
    have hlt : i < l.length := by omega
    have hm : l.getD i z29 ∈ l := by rw [List.getD_eq_getElem?_getD, List.getElem?_eq_getElem hlt]; exact List.getElem_mem hlt
    obtain ⟨g1, g2⟩ := hx _ hm
    have kinds := ft_kinds (src_ft hs i hlt)
    have hr := ih (i + 1) (o ++ anB (l.getD i z29)) (by omega) (by have := anB_len (l.getD i z29); rw [List.length_append]; omega)
    rw [anF_step, ← List.append_assoc]
    generalize hX : l.getD i z29 = X at *
    have hh := half X.f4.length g2
    unfold anB at hr ⊢
    by_cases hn : X.f3.toList = ([] : List UInt8)
    · rw [if_pos hn, List.append_nil] at hr ⊢
      refine Ev.step (fun k => ?_) hr
      simp only [impl_AnchorsOf.l0, rdFg, hX]
      rw [if_pos (by omega), if_pos (by omega), if_pos (by omega), if_pos hn, w1' i (by omega)]
    · rw [if_neg hn] at hr ⊢
      rcases kinds with ⟨h1, hL⟩ | ⟨h2, hL⟩ | ⟨h3, hL⟩
      · have e : anP X = X.f4.getD 0 z82 := by unfold anP; rw [if_neg (by omega), hL]
        rw [e] at hr ⊢
        refine Ev.step (fun k => ?_) hr
        have e0 : rd_T82 X.f4 0 = X.f4.getD 0 z82 := rfl
        simp only [impl_AnchorsOf.l0, rdFg, hX, e0]
        rw [if_pos (by omega), if_pos (by omega), if_pos (by omega), if_neg hn, if_pos h1, if_pos (by omega), if_pos (by omega), w1' i (by omega)]
      · have e : anP X = X.f4.getD (X.f4.length / 2) z82 := by unfold anP; rw [if_neg (by omega)]
        rw [e] at hr ⊢
        refine Ev.step (fun k => ?_) hr
        simp only [impl_AnchorsOf.l0, rdFg, hX, hh, rdPd]
        rw [if_pos (by omega), if_pos (by omega), if_pos (by omega), if_neg hn, if_neg (by omega), if_pos h2, if_pos (by omega), if_pos (by omega), if_pos (by omega), w1' i (by omega)]
      · have e : anP X = mdP X.f4 := by unfold anP; rw [if_pos h3]
        rw [e] at hr ⊢
        refine Ev.step (f := fun k => (impl_RingMiddle.f k X.f4).bind fun bt195 => (if o.length < 4398046511104 then (impl_AnchorsOf.l0 k (o ++ [(⟨X.f0, (⟨bt195.1, bt195.2.1⟩ : S82), X.f2⟩ : S93)]) l (l.length : Int) ((i + 1 : Nat) : Int)) else (none))) (fun k => ?_) (Ev.bind (rm_i X.f4 hL) ?_)
        · simp only [impl_AnchorsOf.l0, rdFg, hX]
          rw [if_pos (by omega), if_pos (by omega), if_pos (by omega), if_neg hn, if_neg (by omega), if_neg (by omega), if_pos h3, w1' i (by omega)]
        · simp only [if_pos (show o.length < 4398046511104 by omega)]
          exact hr
theorem an_i : Ev (fun k => impl_AnchorsOf.f k l) (if srB l = true then anF l 0 l.length else []) := by
  unfold impl_AnchorsOf.f
  simp only [Option.bind_some]
  refine Ev.bind (src_i l hb hx) ?_
  by_cases hs : srB l = true
  · simp only [if_pos hs]
    have h16 : l.length ≤ 16 := by
      have h := hs
      unfold srB at h
      rw [Bool.and_eq_true, decide_eq_true_eq] at h
      omega
    have h := an_il l hb hx hs l.length 0 [] (by omega) (by simp; omega)
    rw [List.nil_append] at h
    exact h
  · simp only [if_neg hs]
    exact Ev.now _
end
theorem main : ∀ (l0 : List (S24)), (l0.length ≤ 9223372036854775807 ∧ ∀ x ∈ l0, ((Lit.int .i64 x.f0).wf = true ∧ (Lit.int .i64 x.f1).wf = true ∧ (Lit.int .i64 x.f2).wf = true ∧ x.f3.size ≤ 9223372036854775807 ∧ (x.f4.length ≤ 9223372036854775807 ∧ ∀ y ∈ x.f4, ((Lit.int .i64 y.f0).wf = true ∧ (Lit.int .i64 y.f1).wf = true)))) → ∃ k, laws_FnExactAnchorsOf.f k l0 = some true := by
  intro l hl
  refine Ev.rounds (r := true) ?_
  unfold laws_FnExactAnchorsOf.f
  obtain ⟨r, hr, hb⟩ := szFeatures l (fun x hx => ⟨(hl.2 x hx).2.2.2.1, (hl.2 x hx).2.2.2.2.1⟩) hl.1
  refine Ev.bind hr ?_
  by_cases hc : r < 0
  · simp only [if_pos hc]; exact Ev.now _
  · simp only [if_neg hc]
    obtain ⟨h1, h2⟩ := hb hc
    have t := toFeatures l h1 (fun x hx => (h2 x hx).2)
    have hxL : ∀ x ∈ l.map convF, x.f3.size ≤ 9223372036854775807 ∧ x.f4.length < 9223372036854775807 := by
      intro x hx
      obtain ⟨y, hy, rfl⟩ := List.mem_map.1 hx
      have := h2 y hy
      unfold convF
      simp only [List.length_map]
      omega
    have hxL2 : ∀ x ∈ l.map convF, x.f4.length ≤ 1048576 := by
      intro x hx
      obtain ⟨y, hy, rfl⟩ := List.mem_map.1 hx
      have := h2 y hy
      unfold convF
      simp only [List.length_map]
      omega
    have hL1 : (l.map convF).length ≤ 1048576 := by simpa using h1
    have hL : (l.map convF).length < 9223372036854775807 := by omega
    generalize l.map convF = L at t hxL hxL2 hL1 hL
    have s1 := an_s L hL hxL
    have s2 := an_i L hL hxL
    have hA : (if srB L = true then anF L 0 L.length else []).length ≤ 900000 := by
      by_cases hs : srB L = true
      · rw [if_pos hs]
        have h := hs
        unfold srB at h
        rw [Bool.and_eq_true, decide_eq_true_eq] at h
        have := anF_len L L.length 0
        omega
      · rw [if_neg hs]; simp
    generalize (if srB L = true then anF L 0 L.length else []) = A at s1 s2 hA
    have ep := eqPlaces A (by omega)
    have ef := eqFeatures L hL (fun x hx => (hxL x hx).2)
    have mf := markF L hL1 hxL2
    obtain ⟨M, m1, m2⟩ := markPlaces A (by omega)
    refine Ev.bind t (Ev.bind s1 (Ev.bind t (Ev.bind s2 (Ev.bind ep ?_))))
    simp only [if_true]
    refine Ev.bind t (Ev.bind ef ?_)
    simp only [if_true, mf, Option.bind_some, if_neg (show ¬ (1 + (mfT L : Int) < 0) by omega)]
    refine Ev.bind ep ?_
    simp only [Bool.not_true]
    refine Ev.step (f := fun k => (laws_markPlaceS.f k A 1).bind fun bt475 => ((laws_heldPlaceS.f k bt475.2 1).bind fun t477 => (if t477 < 0 then (some false) else (if t477 = bt475.1 then ((laws_toFeatureS.f k l).bind fun t478 => ((impl_AnchorsOf.f k t478).bind fun t481 => ((laws_eqPlaceS.f k t481 A).bind fun t484 => (if t484 = true then ((laws_heldPlaceS.f k bt475.2 1).bind fun t485 => (if t485 < 0 then (some false) else (if t485 = bt475.1 then (some true) else (some false)))) else (some false))))) else (some false))))) (fun k => by simp only [laws_FnExactAnchorsOf.j0, Bool.false_eq_true, if_false]) ?_
    refine Ev.bind m1 (Ev.bind m2 ?_)
    simp only [if_neg (show ¬ (1 + 4 * (A.length : Int) < 0) by omega), if_true]
    refine Ev.bind t (Ev.bind s2 (Ev.bind ep ?_))
    simp only [if_true]
    refine Ev.bind m2 ?_
    simp only [if_neg (show ¬ (1 + 4 * (A.length : Int) < 0) by omega), if_true]
    exact Ev.now _
end Go.Proofs.Ytdfehjfmihokpaa.Pure.FnExactAnchorsOf
