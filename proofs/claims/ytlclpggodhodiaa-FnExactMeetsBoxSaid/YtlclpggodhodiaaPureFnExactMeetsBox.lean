/- Whether a segment meets a box: the program and the reference answer the same: the box of the two ends, whether boxes meet, and how many corners lie on each side. No condition. -/
import Derived.Test.YtlclpggodhodiaaPFnExactMeetsBoxx
namespace Go.Proofs.Ytlclpggodhodiaa.Pure.FnExactMeetsBox
open Go Go.RowKit Go.Proofs.Ytlclpggodhodiaa.PFnExactMeetsBox Go.Proofs.YtlclpggodhodiaaW.PrintWords Go.Proofs.YtlclpggodhodiaaW.PrintLast Go.Proofs.YtlclpggodhodiaaW.PrintMore Go.Proofs.YtlclpggodhodiaaGeo
set_option linter.unusedVariables false
set_option linter.unusedSimpArgs false
def boxB (a b c d : Int) : Bool := isPt a b && (isPt c d && (decide (a ≤ c) && decide (b ≤ d)))
theorem box_s (a b c d : Int) : spec_IsBox.f a b c d = some (boxB a b c d) := by
  unfold spec_IsBox.f boxB spec_IsPoint.f
  simp only [Option.bind_some]
  cases isPt a b
  · rfl
  · cases isPt c d
    · rfl
    · by_cases h : a ≤ c
      · simp [h]
      · simp [h]
theorem box_i (a b c d : Int) : impl_IsBox.f a b c d = some (boxB a b c d) := by
  unfold impl_IsBox.f boxB impl_IsPoint.f
  simp only [Option.bind_some]
  cases isPt a b
  · rfl
  · cases isPt c d
    · rfl
    · by_cases h : a ≤ c
      · simp [h]
      · simp [h]
theorem isPt_bd {x y : Int} (h : isPt x y = true) : 0 ≤ x ∧ x ≤ 200 ∧ 0 ≤ y ∧ y ≤ 200 := by
  simp only [isPt, inR, Bool.and_eq_true, decide_eq_true_eq] at h
  omega
theorem box_bound {a b c d : Int} (h : boxB a b c d = true) : 0 ≤ a ∧ a ≤ 200 ∧ 0 ≤ b ∧ b ≤ 200 ∧ 0 ≤ c ∧ c ≤ 200 ∧ 0 ≤ d ∧ d ≤ 200 := by
  simp only [boxB, Bool.and_eq_true] at h
  have := isPt_bd h.1
  have := isPt_bd h.2.1
  omega
theorem mn_bound (a b : Int) (h : 0 ≤ a ∧ a ≤ 200) (h' : 0 ≤ b ∧ b ≤ 200) : 0 ≤ mn a b ∧ mn a b ≤ 200 := by unfold mn; split <;> omega
theorem mx_bound (a b : Int) (h : 0 ≤ a ∧ a ≤ 200) (h' : 0 ≤ b ∧ b ≤ 200) : 0 ≤ mx a b ∧ mx a b ≤ 200 := by unfold mx; split <;> omega
theorem wrap_mid {a : Int} (h : -1000 ≤ a) (h' : a ≤ 1000) : wrap64 a = a := by unfold wrap64; omega
theorem mn_self (a : Int) : mn a a = a := by unfold mn; split <;> omega
theorem mx_self (a : Int) : mx a a = a := by unfold mx; split <;> omega
/-- Two boxes meet. -/
def mtB (a b c d e f g h : Int) : Bool := boxB a b c d && (boxB e f g h && (decide (mx a e ≤ mn c g) && decide (mx b f ≤ mn d h)))
theorem mt_s (a b c d e f g h : Int) : spec_BoxesMeet.f a b c d e f g h = some (mtB a b c d e f g h) := by
  unfold spec_BoxesMeet.f mtB
  simp only [box_s, Option.bind_some]
  cases h1 : boxB a b c d
  · rfl
  · cases h2 : boxB e f g h
    · rfl
    · have e1 : decide (mx a e ≤ mn c g) = (decide (a ≤ g) && decide (e ≤ c)) := by
        simp only [boxB, Bool.and_eq_true, decide_eq_true_eq] at h1 h2
        rw [← Bool.decide_and, decide_eq_decide]; unfold mx mn; (repeat' split) <;> omega
      have e2 : decide (mx b f ≤ mn d h) = (decide (b ≤ h) && decide (f ≤ d)) := by
        simp only [boxB, Bool.and_eq_true, decide_eq_true_eq] at h1 h2
        rw [← Bool.decide_and, decide_eq_decide]; unfold mx mn; (repeat' split) <;> omega
      rw [e1, e2]
      by_cases q1 : a ≤ g <;> by_cases q2 : e ≤ c <;> by_cases q3 : b ≤ h <;> simp [q1, q2, q3]
theorem mt_i (a b c d e f g h : Int) : impl_BoxesMeet.f a b c d e f g h = some (mtB a b c d e f g h) := by
  unfold impl_BoxesMeet.f impl_common.f mtB
  simp only [box_i, Option.bind_some]
  cases h1 : boxB a b c d
  · rfl
  · cases h2 : boxB e f g h
    · rfl
    · have b1 := box_bound h1
      have b2 := box_bound h2
      have m1 := mn_bound c g (by omega) (by omega)
      have m2 := mx_bound a e (by omega) (by omega)
      have m3 := mn_bound d h (by omega) (by omega)
      have m4 := mx_bound b f (by omega) (by omega)
      rw [wrap_mid (a := mn c g - mx a e) (by omega) (by omega), wrap_mid (a := mn d h - mx b f) (by omega) (by omega)]
      by_cases h3 : mx a e ≤ mn c g
      · simp only [if_true, if_pos (show mn c g - mx a e ≥ 0 by omega), decide_eq_true h3, Bool.true_and]
        rw [decide_eq_decide.2 (show mn d h - mx b f ≥ 0 ↔ mx b f ≤ mn d h by omega)]
      · simp only [if_true, if_neg (show ¬ mn c g - mx a e ≥ 0 by omega), decide_eq_false h3, Bool.true_and, Bool.false_and]
/-- The box of two points. -/
def bx2 (a b c d : Int) : Int × Int × Int × Int × Bool := if isPt a b && isPt c d then (mn a c, mn b d, mx a c, mx b d, true) else (0, 0, 0, 0, false)
theorem bx2_s (a b c d : Int) : Ev (fun k => spec_BoxOf.f k [(⟨a, b⟩ : S33), ⟨c, d⟩]) (bx2 a b c d) := by
  refine ⟨3, fun k hk => ?_⟩
  obtain ⟨m, rfl⟩ : ∃ m, k = m + 3 := ⟨k - 3, by omega⟩
  have e0 : rd_T33 [(⟨a, b⟩ : S33), ⟨c, d⟩] 0 = ⟨a, b⟩ := rfl
  have e1 : rd_T33 [(⟨a, b⟩ : S33), ⟨c, d⟩] 1 = ⟨c, d⟩ := rfl
  have w0 : wrap64 1 = 1 := by unfold wrap64; omega
  have w1 : wrap64 2 = 2 := by unfold wrap64; omega
  simp only [spec_BoxOf.f, spec_BoxOf.l0, spec_IsPoint.f, spec_Min.f, spec_Max.f, List.length_cons, List.length_nil, e0, Option.bind_some, bx2]
  cases h1 : isPt a b
  · simp
  · cases h2 : isPt c d
    · simp [w0, e1, h2, mn_self, mx_self]
    · simp [w0, w1, e1, h2, mn_self, mx_self]
theorem bx2_i (a b c d : Int) : Ev (fun k => impl_BoxOf.f k [(⟨a, b⟩ : S33), ⟨c, d⟩]) (bx2 a b c d) := by
  refine ⟨3, fun k hk => ?_⟩
  obtain ⟨m, rfl⟩ : ∃ m, k = m + 3 := ⟨k - 3, by omega⟩
  have e0 : rd_T33 [(⟨a, b⟩ : S33), ⟨c, d⟩] 0 = ⟨a, b⟩ := rfl
  have e1 : rd_T33 [(⟨a, b⟩ : S33), ⟨c, d⟩] 1 = ⟨c, d⟩ := rfl
  have w0 : wrap64 1 = 1 := by unfold wrap64; omega
  have w1 : wrap64 2 = 2 := by unfold wrap64; omega
  simp only [impl_BoxOf.f, impl_BoxOf.l0, impl_IsPoint.f, List.length_cons, List.length_nil, e0, Option.bind_some, bx2]
  cases h1 : isPt a b
  · simp
  · cases h2 : isPt c d
    · simp [w0, e1, h2, mn_self, mx_self]
    · simp [w0, w1, e1, h2, mn_self, mx_self]
def cn (v p : Int) : Int := if p = v then 1 else 0
theorem cn_bd (v p : Int) : 0 ≤ cn v p ∧ cn v p ≤ 1 := by unfold cn; split <;> omega
def sdL (a b c d : Int) (p : S33) : Int := sideI a b c d p.f0 p.f1
theorem ms_step (a b c d : Int) (xs : List S33) (hx : xs.length = 4) (k : Nat) (L R : Int) (i : Nat) (hi : i < 4) (hL : 0 ≤ L ∧ L ≤ 4) (hR : 0 ≤ R ∧ R ≤ 4) :
    spec_MeetsBox.l0 (k + 1) xs L R (i : Int) a b c d = spec_MeetsBox.l0 k xs (L + cn 1 (sdL a b c d (xs.getD i z33))) (R + cn (-1) (sdL a b c d (xs.getD i z33))) ((i + 1 : Nat) : Int) a b c d := by
  have w : wrap64 ((i : Int) + 1) = ((i + 1 : Nat) : Int) := by unfold wrap64; omega
  have wL : wrap64 (L + 1) = L + 1 := by unfold wrap64; omega
  have wR : wrap64 (R + 1) = R + 1 := by unfold wrap64; omega
  have e : rd_T33 xs (i : Int) = xs.getD i z33 := by unfold rd_T33; rw [Int.toNat_natCast]
  rw [spec_MeetsBox.l0]
  rw [if_pos (by omega), if_pos (by omega), if_pos (by omega)]
  unfold spec_SideOf.f
  simp only [Option.bind_some, w, wL, wR, e]
  show _ = spec_MeetsBox.l0 k xs (L + cn 1 (sideI a b c d _ _)) (R + cn (-1) (sideI a b c d _ _)) _ _ _ _ _
  generalize sideI a b c d (xs.getD i z33).f0 (xs.getD i z33).f1 = s
  by_cases h1 : s = 1
  · subst h1; simp [cn]
  · by_cases h2 : s = -1
    · subst h2; simp [cn]
    · simp [cn, h1, h2]
theorem mi_step (a b c d : Int) (xs : List S33) (hx : xs.length = 4) (k : Nat) (L R : Int) (i : Nat) (hi : i < 4) (hL : 0 ≤ L ∧ L ≤ 4) (hR : 0 ≤ R ∧ R ≤ 4) :
    impl_MeetsBox.l0 (k + 1) L R xs 4 (i : Int) a b c d = impl_MeetsBox.l0 k (L + cn 1 (sdL a b c d (xs.getD i z33))) (R + cn (-1) (sdL a b c d (xs.getD i z33))) xs 4 ((i + 1 : Nat) : Int) a b c d := by
  have w : wrap64 ((i : Int) + 1) = ((i + 1 : Nat) : Int) := by unfold wrap64; omega
  have wL : wrap64 (L + 1) = L + 1 := by unfold wrap64; omega
  have wR : wrap64 (R + 1) = R + 1 := by unfold wrap64; omega
  have e : rd_T33 xs (i : Int) = xs.getD i z33 := by unfold rd_T33; rw [Int.toNat_natCast]
  rw [impl_MeetsBox.l0]
  rw [if_pos (by omega), if_pos (by omega), if_pos (by omega)]
  unfold impl_SideOf.f
  simp only [Option.bind_some, w, wL, wR, e]
  show _ = impl_MeetsBox.l0 k (L + cn 1 (sideI a b c d _ _)) (R + cn (-1) (sideI a b c d _ _)) _ _ _ _ _ _ _
  generalize sideI a b c d (xs.getD i z33).f0 (xs.getD i z33).f1 = s
  by_cases h1 : s = 1
  · subst h1; simp [cn]
  · by_cases h2 : s = -1
    · subst h2; simp [cn]
    · simp [cn, h1, h2]
/-- How many corners of a box lie on a side. -/
def cns (v a b c d e f g h : Int) : Int := cn v (sideI a b c d e f) + cn v (sideI a b c d e h) + cn v (sideI a b c d g h) + cn v (sideI a b c d g f)
/-- A segment meets a box. -/
def mbB (a b c d e f g h : Int) : Bool := isSeg a b c d && (boxB e f g h && (mtB (mn a c) (mn b d) (mx a c) (mx b d) e f g h && (decide (cns 1 a b c d e f g h < 4) && decide (cns (-1) a b c d e f g h < 4))))
theorem isSeg_pts {a b c d : Int} (h : isSeg a b c d = true) : isPt a b = true ∧ isPt c d = true := by
  simp only [isSeg, Bool.and_eq_true] at h
  exact h.1
theorem mb_s (a b c d e f g h : Int) : Ev (fun k => spec_MeetsBox.f k a b c d e f g h) (mbB a b c d e f g h) := by
  unfold spec_MeetsBox.f mbB
  refine Ev.bind (bx2_s a b c d) ?_
  unfold spec_IsSegment.f
  simp only [Option.bind_some]
  cases h1 : isSeg a b c d
  · refine Ev.step (f := fun _ => some false) (fun k => ?_) (Ev.now _)
    simp [spec_MeetsBox.j0]
  · obtain ⟨p1, p2⟩ := isSeg_pts h1
    simp only [bx2, p1, p2, Bool.and_self, if_true, mt_s, Option.bind_some, Bool.true_and]
    cases h2 : mtB (mn a c) (mn b d) (mx a c) (mx b d) e f g h
    · refine Ev.step (f := fun _ => some (boxB e f g h && (false && (decide (cns 1 a b c d e f g h < 4) && decide (cns (-1) a b c d e f g h < 4))))) (fun k => ?_) (Ev.now _)
      cases boxB e f g h <;> simp [spec_MeetsBox.j0]
    · have h3 : boxB e f g h = true := by simp only [mtB, Bool.and_eq_true] at h2; exact h2.2.1
      rw [h3]
      refine ⟨6, fun k hk => ?_⟩
      obtain ⟨m, rfl⟩ : ∃ m, k = m + 6 := ⟨k - 6, by omega⟩
      show spec_MeetsBox.j0 ((m + 5) + 1) _ a b c d e f g h = _
      rw [spec_MeetsBox.j0]
      simp only [Bool.not_true, Bool.false_eq_true, if_false]
      have c1 := cn_bd 1 (sideI a b c d e f); have c2 := cn_bd 1 (sideI a b c d e h); have c3 := cn_bd 1 (sideI a b c d g h); have c4 := cn_bd 1 (sideI a b c d g f)
      have d1 := cn_bd (-1) (sideI a b c d e f); have d2 := cn_bd (-1) (sideI a b c d e h); have d3 := cn_bd (-1) (sideI a b c d g h); have d4 := cn_bd (-1) (sideI a b c d g f)
      have hx : ([(⟨e, f⟩ : S33), ⟨e, h⟩, ⟨g, h⟩, ⟨g, f⟩] : List S33).length = 4 := rfl
      generalize hxs : ([(⟨e, f⟩ : S33), ⟨e, h⟩, ⟨g, h⟩, ⟨g, f⟩] : List S33) = xs at hx ⊢
      have q0 : sdL a b c d (xs.getD 0 z33) = sideI a b c d e f := by subst hxs; rfl
      have q1 : sdL a b c d (xs.getD 1 z33) = sideI a b c d e h := by subst hxs; rfl
      have q2 : sdL a b c d (xs.getD 2 z33) = sideI a b c d g h := by subst hxs; rfl
      have q3 : sdL a b c d (xs.getD 3 z33) = sideI a b c d g f := by subst hxs; rfl
      have t0 := ms_step a b c d xs hx (m + 4) 0 0 0 (by omega) (by omega) (by omega)
      rw [q0] at t0
      have t1 := ms_step a b c d xs hx (m + 3) (0 + cn 1 (sideI a b c d e f)) (0 + cn (-1) (sideI a b c d e f)) 1 (by omega) (by omega) (by omega)
      rw [q1] at t1
      have t2 := ms_step a b c d xs hx (m + 2) (0 + cn 1 (sideI a b c d e f) + cn 1 (sideI a b c d e h)) (0 + cn (-1) (sideI a b c d e f) + cn (-1) (sideI a b c d e h)) 2 (by omega) (by omega) (by omega)
      rw [q2] at t2
      have t3 := ms_step a b c d xs hx (m + 1) (0 + cn 1 (sideI a b c d e f) + cn 1 (sideI a b c d e h) + cn 1 (sideI a b c d g h)) (0 + cn (-1) (sideI a b c d e f) + cn (-1) (sideI a b c d e h) + cn (-1) (sideI a b c d g h)) 3 (by omega) (by omega) (by omega)
      rw [q3] at t3
      refine (t0.trans (t1.trans (t2.trans t3))).trans ?_
      rw [spec_MeetsBox.l0]
      rw [if_neg (by omega)]
      unfold cns
      have e1 : ∀ v : Int, 0 + cn v (sideI a b c d e f) + cn v (sideI a b c d e h) + cn v (sideI a b c d g h) + cn v (sideI a b c d g f) = cn v (sideI a b c d e f) + cn v (sideI a b c d e h) + cn v (sideI a b c d g h) + cn v (sideI a b c d g f) := fun v => by omega
      rw [e1, e1]
      by_cases h4 : cn 1 (sideI a b c d e f) + cn 1 (sideI a b c d e h) + cn 1 (sideI a b c d g h) + cn 1 (sideI a b c d g f) < 4
      · rw [if_pos h4]; simp [h4]
      · rw [if_neg h4]; simp [h4]
theorem mb_i (a b c d e f g h : Int) : Ev (fun k => impl_MeetsBox.f k a b c d e f g h) (mbB a b c d e f g h) := by
  unfold impl_MeetsBox.f mbB
  unfold impl_IsSegment.f
  simp only [Option.bind_some, box_i]
  cases h1 : isSeg a b c d
  · refine Ev.step (f := fun _ => some false) (fun k => ?_) (Ev.now _)
    simp [impl_MeetsBox.j0]
  · obtain ⟨p1, p2⟩ := isSeg_pts h1
    simp only [if_true, Bool.true_and]
    cases h3 : boxB e f g h
    · refine Ev.step (f := fun _ => some false) (fun k => ?_) (Ev.now _)
      simp [impl_MeetsBox.j0]
    · refine Ev.step (f := fun k => (impl_BoxOf.f k [(⟨a, b⟩ : S33), ⟨c, d⟩]).bind fun bt => (impl_BoxesMeet.f bt.1 bt.2.1 bt.2.2.1 bt.2.2.2.1 e f g h).bind fun t => if t = true then ((some ([(⟨e, f⟩ : S33), ⟨g, h⟩, ⟨e, h⟩, ⟨g, f⟩] : List S33)).bind fun y => impl_MeetsBox.l0 k 0 0 y (y.length : Int) 0 a b c d) else some false) (fun k => ?_) (Ev.bind (bx2_i a b c d) ?_)
      · rw [impl_MeetsBox.j0]; simp only [Bool.not_true, Bool.false_eq_true, if_false]
      · simp only [bx2, p1, p2, Bool.and_self, if_true, mt_i, Option.bind_some, Bool.true_and]
        cases h2 : mtB (mn a c) (mn b d) (mx a c) (mx b d) e f g h
        · simp only [Bool.false_eq_true, if_false, Bool.false_and]; exact Ev.now _
        · simp only [if_true, Bool.true_and]
          refine ⟨5, fun k hk => ?_⟩
          obtain ⟨m, rfl⟩ : ∃ m, k = m + 5 := ⟨k - 5, by omega⟩
          dsimp only
          have c1 := cn_bd 1 (sideI a b c d e f); have c2 := cn_bd 1 (sideI a b c d e h); have c3 := cn_bd 1 (sideI a b c d g h); have c4 := cn_bd 1 (sideI a b c d g f)
          have d1 := cn_bd (-1) (sideI a b c d e f); have d2 := cn_bd (-1) (sideI a b c d e h); have d3 := cn_bd (-1) (sideI a b c d g h); have d4 := cn_bd (-1) (sideI a b c d g f)
          have hx : ([(⟨e, f⟩ : S33), ⟨g, h⟩, ⟨e, h⟩, ⟨g, f⟩] : List S33).length = 4 := rfl
          have hl : ((([(⟨e, f⟩ : S33), ⟨g, h⟩, ⟨e, h⟩, ⟨g, f⟩] : List S33).length : Nat) : Int) = 4 := rfl
          rw [hl]
          generalize hxs : ([(⟨e, f⟩ : S33), ⟨g, h⟩, ⟨e, h⟩, ⟨g, f⟩] : List S33) = xs at hx ⊢
          have q0 : sdL a b c d (xs.getD 0 z33) = sideI a b c d e f := by subst hxs; rfl
          have q1 : sdL a b c d (xs.getD 1 z33) = sideI a b c d g h := by subst hxs; rfl
          have q2 : sdL a b c d (xs.getD 2 z33) = sideI a b c d e h := by subst hxs; rfl
          have q3 : sdL a b c d (xs.getD 3 z33) = sideI a b c d g f := by subst hxs; rfl
          have t0 := mi_step a b c d xs hx (m + 4) 0 0 0 (by omega) (by omega) (by omega)
          rw [q0] at t0
          have t1 := mi_step a b c d xs hx (m + 3) (0 + cn 1 (sideI a b c d e f)) (0 + cn (-1) (sideI a b c d e f)) 1 (by omega) (by omega) (by omega)
          rw [q1] at t1
          have t2 := mi_step a b c d xs hx (m + 2) (0 + cn 1 (sideI a b c d e f) + cn 1 (sideI a b c d g h)) (0 + cn (-1) (sideI a b c d e f) + cn (-1) (sideI a b c d g h)) 2 (by omega) (by omega) (by omega)
          rw [q2] at t2
          have t3 := mi_step a b c d xs hx (m + 1) (0 + cn 1 (sideI a b c d e f) + cn 1 (sideI a b c d g h) + cn 1 (sideI a b c d e h)) (0 + cn (-1) (sideI a b c d e f) + cn (-1) (sideI a b c d g h) + cn (-1) (sideI a b c d e h)) 3 (by omega) (by omega) (by omega)
          rw [q3] at t3
          refine (t0.trans (t1.trans (t2.trans t3))).trans ?_
          rw [impl_MeetsBox.l0]
          rw [if_neg (by omega)]
          unfold cns
          have e1 : ∀ v : Int, 0 + cn v (sideI a b c d e f) + cn v (sideI a b c d g h) + cn v (sideI a b c d e h) + cn v (sideI a b c d g f) = cn v (sideI a b c d e f) + cn v (sideI a b c d e h) + cn v (sideI a b c d g h) + cn v (sideI a b c d g f) := fun v => by omega
          rw [e1, e1]
          by_cases h4 : cn 1 (sideI a b c d e f) + cn 1 (sideI a b c d e h) + cn 1 (sideI a b c d g h) + cn 1 (sideI a b c d g f) < 4
          · rw [if_pos h4]; simp [h4]
          · rw [if_neg h4]; simp [h4]
theorem main : ∀ (a0_0 : Int) (a0_1 : Int) (a0_2 : Int) (a0_3 : Int) (a1_0 : Int) (a1_1 : Int) (a1_2 : Int) (a1_3 : Int), (Lit.int .i64 a0_0).wf = true → (Lit.int .i64 a0_1).wf = true → (Lit.int .i64 a0_2).wf = true → (Lit.int .i64 a0_3).wf = true → (Lit.int .i64 a1_0).wf = true → (Lit.int .i64 a1_1).wf = true → (Lit.int .i64 a1_2).wf = true → (Lit.int .i64 a1_3).wf = true → ∃ k, laws_FnExactMeetsBox.f k a0_0 a0_1 a0_2 a0_3 a1_0 a1_1 a1_2 a1_3 = some true := by
  intro a b c d e f g h _ _ _ _ _ _ _ _
  refine Ev.rounds (r := true) ?_
  unfold laws_FnExactMeetsBox.f laws_toSegment.f laws_toBox.f laws_toPoint.f
  simp only [Option.bind_some]
  refine Ev.bind (mb_s a b c d e f g h) (Ev.bind (mb_i a b c d e f g h) ?_)
  simp only [bne_self_eq_false, Bool.false_eq_true, if_false]
  exact Ev.now _
end Go.Proofs.Ytlclpggodhodiaa.Pure.FnExactMeetsBox
