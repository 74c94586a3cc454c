/-
  Meetings of segments in plain numbers: the program's way to tell them and the reference's way agree. No program stands here. No condition.
-/
import Derived.Test.YtkomgmgpgnjooaaGreatGeo
namespace Go.Proofs.YtkomgmgpgnjooaaGreatMeet
open Go Go.RowKit Go.Proofs.YtkomgmgpgnjooaaGreatW.PrintWords Go.Proofs.YtkomgmgpgnjooaaGreatW.PrintMore Go.Proofs.YtkomgmgpgnjooaaGreatGeo
/-! ### Meetings of segments: the two ways to tell them agree -/
def cr (ax ay bx b_y px py : Int) : Int := (bx - ax) * (py - ay) - (b_y - ay) * (px - ax)
def sdI (a : Int) : Int := if a < 0 then -1 else if a > 0 then 1 else 0
theorem mul_bd {u v : Int} (h1 : -200 ≤ u) (h2 : u ≤ 200) (h3 : -200 ≤ v) (h4 : v ≤ 200) : -40000 ≤ u * v ∧ u * v ≤ 40000 := by
  have a1 : 0 ≤ (200 - u) * (200 - v) := Int.mul_nonneg (by omega) (by omega)
  have a2 : 0 ≤ (200 + u) * (200 + v) := Int.mul_nonneg (by omega) (by omega)
  have a3 : 0 ≤ (200 - u) * (200 + v) := Int.mul_nonneg (by omega) (by omega)
  have a4 : 0 ≤ (200 + u) * (200 - v) := Int.mul_nonneg (by omega) (by omega)
  constructor <;> grind
theorem isPt_iff {x y : Int} : isPt x y = true ↔ (0 ≤ x ∧ x ≤ 200 ∧ 0 ≤ y ∧ y ≤ 200) := by
  unfold isPt inR; simp; omega
theorem cross_eq {ax ay bx b_y px py : Int} (ha : isPt ax ay = true) (hb : isPt bx b_y = true) (hp : isPt px py = true) : crossI ax ay bx b_y px py = cr ax ay bx b_y px py ∧ -80000 ≤ cr ax ay bx b_y px py ∧ cr ax ay bx b_y px py ≤ 80000 := by
  rw [isPt_iff] at ha hb hp
  have m1 := mul_bd (u := bx - ax) (v := py - ay) (by omega) (by omega) (by omega) (by omega)
  have m2 := mul_bd (u := b_y - ay) (v := px - ax) (by omega) (by omega) (by omega) (by omega)
  unfold crossI cr
  have e : ∀ n : Int, -100000 ≤ n → n ≤ 100000 → wrap64 n = n := by intro n h1 h2; unfold wrap64; omega
  rw [e (bx - ax) (by omega) (by omega), e (py - ay) (by omega) (by omega), e (b_y - ay) (by omega) (by omega), e (px - ax) (by omega) (by omega)]
  rw [e ((bx - ax) * (py - ay)) (by omega) (by omega), e ((b_y - ay) * (px - ax)) (by omega) (by omega), e _ (by omega) (by omega)]
  exact ⟨rfl, by omega, by omega⟩
theorem side_eq {ax ay bx b_y px py : Int} (ha : isPt ax ay = true) (hb : isPt bx b_y = true) (hp : isPt px py = true) : sideI ax ay bx b_y px py = sdI (cr ax ay bx b_y px py) := by
  unfold sideI; rw [ha, hb, hp]; simp only [Bool.and_self, if_true]; rw [(cross_eq ha hb hp).1]; rfl
theorem sdI_zero {a : Int} : sdI a = 0 ↔ a = 0 := by unfold sdI; split <;> (try split) <;> omega
theorem sdI_cases (a : Int) : sdI a = -1 ∧ a < 0 ∨ sdI a = 0 ∧ a = 0 ∨ sdI a = 1 ∧ 0 < a := by unfold sdI; split <;> (try split) <;> omega
/-- Two lines with two points in common: the ends of the one lie on one line with these. -/
theorem col1 {ax ay bx b_y px py qx qy : Int} (h : ¬ (ax = bx ∧ ay = b_y)) (hp : cr ax ay bx b_y px py = 0) (hq : cr ax ay bx b_y qx qy = 0) : cr px py qx qy ax ay = 0 ∧ cr px py qx qy bx b_y = 0 := by
  have k1 : (bx - ax) * cr px py qx qy ax ay = 0 := by unfold cr at *; grind
  have k2 : (b_y - ay) * cr px py qx qy ax ay = 0 := by unfold cr at *; grind
  have k3 : (bx - ax) * cr px py qx qy bx b_y = 0 := by unfold cr at *; grind
  have k4 : (b_y - ay) * cr px py qx qy bx b_y = 0 := by unfold cr at *; grind
  rw [Int.mul_eq_zero] at k1 k2 k3 k4
  omega
theorem col2 {ax ay bx b_y cx cy px py qx qy : Int} (h : ¬ (px = qx ∧ py = qy)) (ha : cr px py qx qy ax ay = 0) (hb : cr px py qx qy bx b_y = 0) (hc : cr px py qx qy cx cy = 0) : cr ax ay bx b_y cx cy = 0 := by
  have k1 : (qx - px) * cr ax ay bx b_y cx cy = 0 := by unfold cr at *; grind
  have k2 : (qy - py) * cr ax ay bx b_y cx cy = 0 := by unfold cr at *; grind
  rw [Int.mul_eq_zero] at k1 k2
  omega
/-- Two different points on both lines: one line. -/
theorem col {ax ay bx b_y cx cy dx dy px py qx qy : Int} (h1 : ¬ (ax = bx ∧ ay = b_y)) (h2 : ¬ (cx = dx ∧ cy = dy)) (h : ¬ (px = qx ∧ py = qy))
    (hp : cr ax ay bx b_y px py = 0) (hq : cr ax ay bx b_y qx qy = 0) (hp' : cr cx cy dx dy px py = 0) (hq' : cr cx cy dx dy qx qy = 0) : cr ax ay bx b_y cx cy = 0 ∧ cr ax ay bx b_y dx dy = 0 := by
  obtain ⟨a1, a2⟩ := col1 h1 hp hq
  obtain ⟨a3, a4⟩ := col1 h2 hp' hq'
  exact ⟨col2 h a1 a2 a3, col2 h a1 a2 a4⟩
theorem cr_self1 (ax ay bx b_y : Int) : cr ax ay bx b_y ax ay = 0 := by unfold cr; grind
theorem cr_self2 (ax ay bx b_y : Int) : cr ax ay bx b_y bx b_y = 0 := by unfold cr; grind
theorem cr_diff (ax ay bx b_y cx cy dx dy : Int) : cr cx cy dx dy ax ay - cr cx cy dx dy bx b_y = cr ax ay bx b_y dx dy - cr ax ay bx b_y cx cy := by unfold cr; grind
theorem cr_meetx (ax ay bx b_y cx cy dx dy : Int) : cr cx cy dx dy bx b_y * ax - cr cx cy dx dy ax ay * bx = cr ax ay bx b_y cx cy * dx - cr ax ay bx b_y dx dy * cx := by unfold cr; grind
theorem cr_meety (ax ay bx b_y cx cy dx dy : Int) : cr cx cy dx dy bx b_y * ay - cr cx cy dx dy ax ay * b_y = cr ax ay bx b_y cx cy * dy - cr ax ay bx b_y dx dy * cy := by unfold cr; grind
theorem weigh {A B C D a b c d m : Int} (hA : 0 < A) (hB : 0 < B) (hC : 0 < C) (hD : 0 < D) (e : D + C = A + B) (h : D * a + C * b = A * d + B * c) (ha : a ≤ m) (hb : b ≤ m) (hc : m < c) (hd : m < d) : False := by
  have h1 : D * a ≤ D * m := Int.mul_le_mul_of_nonneg_left ha (by omega)
  have h2 : C * b ≤ C * m := Int.mul_le_mul_of_nonneg_left hb (by omega)
  have h3 : A * (m + 1) ≤ A * d := Int.mul_le_mul_of_nonneg_left hd (by omega)
  have h4 : B * (m + 1) ≤ B * c := Int.mul_le_mul_of_nonneg_left hc (by omega)
  have h5 : D * m + C * m = (A + B) * m := by rw [← e]; grind
  have h6 : A * (m + 1) + B * (m + 1) = (A + B) * m + (A + B) := by grind
  omega
theorem weigh' {A B C D a b c d m : Int} (h1 : A < 0 ∧ 0 < B ∨ B < 0 ∧ 0 < A) (h2 : C < 0 ∧ 0 < D ∨ D < 0 ∧ 0 < C) (e : C - D = B - A) (h : D * a - C * b = A * d - B * c) (ha : a ≤ m) (hb : b ≤ m) (hc : m < c) (hd : m < d) : False := by
  rcases h1 with ⟨x, y⟩ | ⟨x, y⟩ <;> rcases h2 with ⟨u, v⟩ | ⟨u, v⟩
  · omega
  · exact weigh (A := -A) (B := B) (C := C) (D := -D) (a := a) (b := b) (c := c) (d := d) (m := m) (by omega) (by omega) (by omega) (by omega) (by omega) (by grind) ha hb hc hd
  · exact weigh (A := A) (B := -B) (C := -C) (D := D) (a := a) (b := b) (c := c) (d := d) (m := m) (by omega) (by omega) (by omega) (by omega) (by omega) (by grind) ha hb hc hd
  · omega
/-- Segments that cross have boxes that meet, in one coordinate. -/
theorem cross_box {A B C D a b c d : Int} (h1 : A < 0 ∧ 0 < B ∨ B < 0 ∧ 0 < A) (h2 : C < 0 ∧ 0 < D ∨ D < 0 ∧ 0 < C) (e : C - D = B - A) (h : D * a - C * b = A * d - B * c) : mn c d ≤ mx a b ∧ mn a b ≤ mx c d := by
  constructor
  · by_cases hh : mn c d ≤ mx a b
    · exact hh
    · exfalso
      refine weigh' h1 h2 e h (m := mx a b) ?_ ?_ ?_ ?_ <;> (unfold mx mn at *; repeat' split at hh) <;> (repeat' split) <;> omega
  · by_cases hh : mn a b ≤ mx c d
    · exact hh
    · exfalso
      refine weigh' (A := C) (B := D) (C := A) (D := B) (a := c) (b := d) (c := a) (d := b) h2 h1 (by omega) (by omega) (m := mx c d) ?_ ?_ ?_ ?_ <;> (unfold mx mn at *; repeat' split at hh) <;> (repeat' split) <;> omega

def kyI (x y : Int) : Int := 1000 * y + x
theorem between {u V w z : Int} (h0 : 0 ≤ u) (h1 : u ≤ V) (hV : 0 < V) (e : w * u = V * z) : (0 ≤ w → 0 ≤ z ∧ z ≤ w) ∧ (w ≤ 0 → w ≤ z ∧ z ≤ 0) := by
  constructor
  · intro hw
    have a1 : 0 ≤ w * u := Int.mul_nonneg hw h0
    have a2 : w * u ≤ w * V := Int.mul_le_mul_of_nonneg_left h1 hw
    rw [e] at a1 a2
    rw [Int.mul_comm w V] at a2
    exact ⟨Int.nonneg_of_mul_nonneg_right a1 hV, Int.le_of_mul_le_mul_left a2 hV⟩
  · intro hw
    have a1 : 0 ≤ (-w) * u := Int.mul_nonneg (by omega) h0
    have a2 : (-w) * u ≤ (-w) * V := Int.mul_le_mul_of_nonneg_left h1 (by omega)
    have e' : (-w) * u = V * (-z) := by grind
    rw [e'] at a1 a2
    rw [Int.mul_comm (-w) V] at a2
    have := Int.nonneg_of_mul_nonneg_right a1 hV
    have := Int.le_of_mul_le_mul_left a2 hV
    omega
set_option maxHeartbeats 4000000 in
theorem on_key {ax ay bx b_y px py : Int} (ha : isPt ax ay = true) (hb : isPt bx b_y = true) (hp : isPt px py = true) (hne : ¬ (ax = bx ∧ ay = b_y)) (h : cr ax ay bx b_y px py = 0) :
    (inR px (mn ax bx) (mx ax bx) && inR py (mn ay b_y) (mx ay b_y)) = (decide (mn (kyI ax ay) (kyI bx b_y) ≤ kyI px py) && decide (kyI px py ≤ mx (kyI ax ay) (kyI bx b_y))) := by
  rw [isPt_iff] at ha hb hp
  have e : (bx - ax) * (py - ay) = (b_y - ay) * (px - ax) := by unfold cr at h; omega
  have key : (mn ax bx ≤ px ∧ px ≤ mx ax bx ∧ mn ay b_y ≤ py ∧ py ≤ mx ay b_y) ↔ (mn (kyI ax ay) (kyI bx b_y) ≤ kyI px py ∧ kyI px py ≤ mx (kyI ax ay) (kyI bx b_y)) := by
    rcases Int.lt_trichotomy (b_y - ay) 0 with hv | hv | hv
    · have e' : (bx - ax) * (ay - py) = (ay - b_y) * (px - ax) := by grind
      constructor
      · rintro ⟨h1, h2, h3, h4⟩
        have h3' : b_y ≤ py := by unfold mn at h3; split at h3 <;> omega
        have h4' : py ≤ ay := by unfold mx at h4; split at h4 <;> omega
        have q1 : py = ay → px = ax := by
          intro hh; have : (ay - b_y) * (px - ax) = 0 := by rw [← e', hh]; grind
          rw [Int.mul_eq_zero] at this; omega
        have q2 : py = b_y → px = bx := by
          intro hh; have : (ay - b_y) * (px - bx) = 0 := by rw [hh] at e'; grind
          rw [Int.mul_eq_zero] at this; omega
        unfold kyI mn mx; constructor <;> split <;> omega
      · rintro ⟨h1, h2⟩
        have h1' : kyI bx b_y ≤ kyI px py := by unfold kyI mn at *; split at h1 <;> omega
        have h2' : kyI px py ≤ kyI ax ay := by unfold kyI mx at *; split at h2 <;> omega
        unfold kyI at h1' h2'
        obtain ⟨b1, b2⟩ := between (u := ay - py) (V := ay - b_y) (w := bx - ax) (z := px - ax) (by omega) (by omega) (by omega) e'
        have : 0 ≤ bx - ax ∨ bx - ax ≤ 0 := by omega
        rcases this with g | g
        · have := b1 g; unfold mn mx; (refine ⟨?_, ?_, ?_, ?_⟩) <;> split <;> omega
        · have := b2 g; unfold mn mx; (refine ⟨?_, ?_, ?_, ?_⟩) <;> split <;> omega
    · have hy : b_y = ay := by omega
      have : (bx - ax) * (py - ay) = 0 := by rw [e, hv]; grind
      rw [Int.mul_eq_zero] at this
      have hpy : py = ay := by omega
      subst hpy; subst hy
      unfold kyI mn mx
      constructor
      · rintro ⟨h1, h2, h3, h4⟩
        constructor <;> (repeat' split at h1) <;> (repeat' split at h2) <;> split <;> omega
      · rintro ⟨h1, h2⟩
        (refine ⟨?_, ?_, ?_, ?_⟩) <;> (repeat' split at h1) <;> (repeat' split at h2) <;> split <;> omega
    · have e' : (bx - ax) * (py - ay) = (b_y - ay) * (px - ax) := e
      constructor
      · rintro ⟨h1, h2, h3, h4⟩
        have h3' : ay ≤ py := by unfold mn at h3; split at h3 <;> omega
        have h4' : py ≤ b_y := by unfold mx at h4; split at h4 <;> omega
        have q1 : py = ay → px = ax := by
          intro hh; have : (b_y - ay) * (px - ax) = 0 := by rw [← e', hh]; grind
          rw [Int.mul_eq_zero] at this; omega
        have q2 : py = b_y → px = bx := by
          intro hh; have : (b_y - ay) * (px - bx) = 0 := by rw [hh] at e'; grind
          rw [Int.mul_eq_zero] at this; omega
        unfold kyI mn mx; constructor <;> split <;> omega
      · rintro ⟨h1, h2⟩
        have h1' : kyI ax ay ≤ kyI px py := by unfold kyI mn at *; split at h1 <;> omega
        have h2' : kyI px py ≤ kyI bx b_y := by unfold kyI mx at *; split at h2 <;> omega
        unfold kyI at h1' h2'
        obtain ⟨b1, b2⟩ := between (u := py - ay) (V := b_y - ay) (w := bx - ax) (z := px - ax) (by omega) (by omega) (by omega) e'
        have : 0 ≤ bx - ax ∨ bx - ax ≤ 0 := by omega
        rcases this with g | g
        · have := b1 g; unfold mn mx; (refine ⟨?_, ?_, ?_, ?_⟩) <;> split <;> omega
        · have := b2 g; unfold mn mx; (refine ⟨?_, ?_, ?_, ?_⟩) <;> split <;> omega
  unfold inR
  rw [Bool.eq_iff_iff]
  simp only [Bool.and_eq_true, decide_eq_true_eq]
  rw [← key, and_assoc]
/-- Which different ends of both are on the other one. -/
def shareI (ax ay bx b_y cx cy dx dy : Int) : Int :=
  let o0 := isOnI cx cy dx dy ax ay
  let o1 := isOnI cx cy dx dy bx b_y && !(o0 && (decide (ax = bx) && decide (ay = b_y)))
  let o2 := isOnI ax ay bx b_y cx cy && !(o0 && (decide (ax = cx) && decide (ay = cy))) && !(o1 && (decide (bx = cx) && decide (b_y = cy)))
  let o3 := isOnI ax ay bx b_y dx dy && !(o0 && (decide (ax = dx) && decide (ay = dy))) && !(o1 && (decide (bx = dx) && decide (b_y = dy))) && !(o2 && (decide (cx = dx) && decide (cy = dy)))
  (if o0 then 1 else 0) + (if o1 then 1 else 0) + (if o2 then 1 else 0) + (if o3 then 1 else 0)
/-- How the reference tells it. -/
def howS (ax ay bx b_y cx cy dx dy : Int) : Int :=
  if isSeg ax ay bx b_y = false ∨ isSeg cx cy dx dy = false then 0
  else if mx ax bx < mn cx dx ∨ mx cx dx < mn ax bx ∨ mx ay b_y < mn cy dy ∨ mx cy dy < mn ay b_y then 0
  else if shareI ax ay bx b_y cx cy dx dy = 0 then (if sideI ax ay bx b_y cx cy * sideI ax ay bx b_y dx dy < 0 ∧ sideI cx cy dx dy ax ay * sideI cx cy dx dy bx b_y < 0 then 2 else 0)
  else if shareI ax ay bx b_y cx cy dx dy = 1 then 1 else 3
/-- How the program tells it. -/
def howP (ax ay bx b_y cx cy dx dy : Int) : Int :=
  if isSeg ax ay bx b_y = false ∨ isSeg cx cy dx dy = false then 0
  else if sideI ax ay bx b_y cx cy = 0 ∧ sideI ax ay bx b_y dx dy = 0 then
    (let lo := mx (mn (kyI ax ay) (kyI bx b_y)) (mn (kyI cx cy) (kyI dx dy)); let hi := mn (mx (kyI ax ay) (kyI bx b_y)) (mx (kyI cx cy) (kyI dx dy)); if hi < lo then 0 else if lo = hi then 1 else 3)
  else if sideI ax ay bx b_y cx cy * sideI ax ay bx b_y dx dy < 0 ∧ sideI cx cy dx dy ax ay * sideI cx cy dx dy bx b_y < 0 then 2
  else if isOnI ax ay bx b_y cx cy || isOnI ax ay bx b_y dx dy || isOnI cx cy dx dy ax ay || isOnI cx cy dx dy bx b_y then 1 else 0
theorem isSeg_iff {ax ay bx b_y : Int} : isSeg ax ay bx b_y = true ↔ (isPt ax ay = true ∧ isPt bx b_y = true ∧ ¬ (ax = bx ∧ ay = b_y)) := by
  unfold isSeg; simp only [Bool.and_eq_true, Bool.not_eq_true', Bool.and_eq_false_iff, decide_eq_false_iff_not, and_assoc]
  have : (¬ax = bx ∨ ¬ay = b_y) ↔ ¬ (ax = bx ∧ ay = b_y) := by omega
  rw [this]
theorem on_iff {ax ay bx b_y px py : Int} (hs : isSeg ax ay bx b_y = true) (hp : isPt px py = true) : isOnI ax ay bx b_y px py = true ↔ (cr ax ay bx b_y px py = 0 ∧ mn ax bx ≤ px ∧ px ≤ mx ax bx ∧ mn ay b_y ≤ py ∧ py ≤ mx ay b_y) := by
  obtain ⟨h1, h2, h3⟩ := isSeg_iff.mp hs
  unfold isOnI
  rw [hs, hp, side_eq h1 h2 hp]
  simp only [Bool.and_eq_true, decide_eq_true_eq, sdI_zero, inR, true_and, and_assoc]
theorem on_col {ax ay bx b_y px py : Int} (hs : isSeg ax ay bx b_y = true) (hp : isPt px py = true) (h : cr ax ay bx b_y px py = 0) : isOnI ax ay bx b_y px py = (decide (mn (kyI ax ay) (kyI bx b_y) ≤ kyI px py) && decide (kyI px py ≤ mx (kyI ax ay) (kyI bx b_y))) := by
  obtain ⟨h1, h2, h3⟩ := isSeg_iff.mp hs
  rw [← on_key h1 h2 hp h3 h]
  unfold isOnI
  rw [hs, hp, side_eq h1 h2 hp, sdI_zero.mpr h]
  simp
theorem ky_inj {ax ay bx b_y : Int} (h1 : isPt ax ay = true) (h2 : isPt bx b_y = true) : (decide (ax = bx) && decide (ay = b_y)) = decide (kyI ax ay = kyI bx b_y) := by
  rw [isPt_iff] at h1 h2
  unfold kyI
  rw [Bool.eq_iff_iff]; simp; omega
set_option maxHeartbeats 4000000 in
theorem share_one {o1 o2 o3 o4 eab eac ebc ead ebd ecd : Bool} (hon : (o1 || o2 || o3 || o4) = true) (p12 : o3 = true → o4 = true → False) (p13 : o3 = true → o1 = true → ¬ (eac = true) → False) (p14 : o3 = true → o2 = true → ¬ (ead = true) → False) (p23 : o4 = true → o1 = true → ¬ (ebc = true) → False) (p24 : o4 = true → o2 = true → ¬ (ebd = true) → False) (p34 : o1 = true → o2 = true → False) :
    (let o0' := o3
     let o1' := o4 && !(o0' && eab)
     let o2' := o1 && !(o0' && eac) && !(o1' && ebc)
     let o3' := o2 && !(o0' && ead) && !(o1' && ebd) && !(o2' && ecd)
     ((if o0' then 1 else 0) + (if o1' then 1 else 0) + (if o2' then 1 else 0) + (if o3' then 1 else 0) : Int)) = 1 := by
  cases o1 <;> cases o2 <;> cases o3 <;> cases o4 <;> cases eac <;> cases ebc <;> cases ead <;> cases ebd <;> simp_all
set_option maxHeartbeats 4000000 in
theorem how_eq (ax ay bx b_y cx cy dx dy : Int) : howP ax ay bx b_y cx cy dx dy = howS ax ay bx b_y cx cy dx dy := by
  unfold howP howS
  by_cases hs : isSeg ax ay bx b_y = false ∨ isSeg cx cy dx dy = false
  · rw [if_pos hs, if_pos hs]
  rw [if_neg hs, if_neg hs]
  have hs1 : isSeg ax ay bx b_y = true := by cases h : isSeg ax ay bx b_y <;> simp_all
  have hs2 : isSeg cx cy dx dy = true := by cases h : isSeg cx cy dx dy <;> simp_all
  clear hs
  obtain ⟨ha, hb, hab⟩ := isSeg_iff.mp hs1
  obtain ⟨hc, hd, hcd⟩ := isSeg_iff.mp hs2
  have i1 := on_iff hs1 hc
  have i2 := on_iff hs1 hd
  have i3 := on_iff hs2 ha
  have i4 := on_iff hs2 hb
  have g : ∀ a b : Int, mn a b ≤ a ∧ a ≤ mx a b ∧ mn a b ≤ b ∧ b ≤ mx a b := by intro a b; unfold mn mx; split <;> split <;> omega
  by_cases hcol : sideI ax ay bx b_y cx cy = 0 ∧ sideI ax ay bx b_y dx dy = 0
  · rw [if_pos hcol]
    obtain ⟨e1, e2⟩ := hcol
    have f1 := e1; have f2 := e2
    rw [side_eq ha hb hc, sdI_zero] at f1
    rw [side_eq ha hb hd, sdI_zero] at f2
    obtain ⟨f3, f4⟩ := col1 hab f1 f2
    have c1 := on_col hs1 hc f1
    have c2 := on_col hs1 hd f2
    have c3 := on_col hs2 ha f3
    have c4 := on_col hs2 hb f4
    have kab : kyI ax ay ≠ kyI bx b_y := by have := ky_inj ha hb; rw [Bool.eq_iff_iff] at this; simp at this; omega
    have kcd : kyI cx cy ≠ kyI dx dy := by have := ky_inj hc hd; rw [Bool.eq_iff_iff] at this; simp at this; omega
    have hsh : shareI ax ay bx b_y cx cy dx dy = (let lo := mx (mn (kyI ax ay) (kyI bx b_y)) (mn (kyI cx cy) (kyI dx dy)); let hi := mn (mx (kyI ax ay) (kyI bx b_y)) (mx (kyI cx cy) (kyI dx dy)); if hi < lo then 0 else if lo = hi then 1 else 2) := by
      unfold shareI
      rw [c1, c2, c3, c4, ky_inj ha hb, ky_inj ha hc, ky_inj hb hc, ky_inj ha hd, ky_inj hb hd, ky_inj hc hd]
      generalize kyI ax ay = ka at *
      generalize kyI bx b_y = kb at *
      generalize kyI cx cy = kc at *
      generalize kyI dx dy = kd at *
      clear c1 c2 c3 c4 i1 i2 i3 i4 g f1 f2 f3 f4 e1 e2 hs1 hs2 ha hb hc hd hab hcd
      have q1 : mn ka kb = ka ∧ mx ka kb = kb ∧ ka < kb ∨ mn ka kb = kb ∧ mx ka kb = ka ∧ kb < ka := by unfold mn mx; split <;> split <;> omega
      have q2 : mn kc kd = kc ∧ mx kc kd = kd ∧ kc < kd ∨ mn kc kd = kd ∧ mx kc kd = kc ∧ kd < kc := by unfold mn mx; split <;> split <;> omega
      rcases q1 with ⟨q11, q12, q13⟩ | ⟨q11, q12, q13⟩ <;> rcases q2 with ⟨q21, q22, q23⟩ | ⟨q21, q22, q23⟩ <;> rw [q11, q12, q21, q22] <;> clear q11 q12 q21 q22 <;> unfold mn mx <;> grind
    by_cases hbox : mx ax bx < mn cx dx ∨ mx cx dx < mn ax bx ∨ mx ay b_y < mn cy dy ∨ mx cy dy < mn ay b_y
    · rw [if_pos hbox]
      have n1 : isOnI ax ay bx b_y cx cy = false := by
        cases h : isOnI ax ay bx b_y cx cy; · rfl
        have := i1.mp h; have := g cx dx; have := g cy dy; omega
      have n2 : isOnI ax ay bx b_y dx dy = false := by
        cases h : isOnI ax ay bx b_y dx dy; · rfl
        have := i2.mp h; have := g cx dx; have := g cy dy; omega
      have n3 : isOnI cx cy dx dy ax ay = false := by
        cases h : isOnI cx cy dx dy ax ay; · rfl
        have := i3.mp h; have := g ax bx; have := g ay b_y; omega
      have n4 : isOnI cx cy dx dy bx b_y = false := by
        cases h : isOnI cx cy dx dy bx b_y; · rfl
        have := i4.mp h; have := g ax bx; have := g ay b_y; omega
      have h0 : shareI ax ay bx b_y cx cy dx dy = 0 := by unfold shareI; rw [n1, n2, n3, n4]; simp
      rw [h0] at hsh
      dsimp only at hsh ⊢
      split at hsh
      · rename_i h; rw [if_pos h]
      · split at hsh <;> omega
    · rw [if_neg hbox, hsh]
      dsimp only
      rw [e1]
      split
      · simp
      · split
        · simp
        · simp
  · rw [if_neg hcol]
    rw [side_eq ha hb hc, side_eq ha hb hd, sdI_zero, sdI_zero] at hcol
    have one : ∀ (px py qx qy : Int), ¬ (px = qx ∧ py = qy) → cr ax ay bx b_y px py = 0 → cr ax ay bx b_y qx qy = 0 → cr cx cy dx dy px py = 0 → cr cx cy dx dy qx qy = 0 → False := by
      intro px py qx qy hpq h1 h2 h3 h4
      exact hcol (col hab hcd hpq h1 h2 h3 h4)
    have s1 := cr_self1 ax ay bx b_y
    have s2 := cr_self2 ax ay bx b_y
    have s3 := cr_self1 cx cy dx dy
    have s4 := cr_self2 cx cy dx dy
    have hX : (sideI ax ay bx b_y cx cy * sideI ax ay bx b_y dx dy < 0 ∧ sideI cx cy dx dy ax ay * sideI cx cy dx dy bx b_y < 0) → (cr ax ay bx b_y cx cy < 0 ∧ 0 < cr ax ay bx b_y dx dy ∨ cr ax ay bx b_y dx dy < 0 ∧ 0 < cr ax ay bx b_y cx cy) ∧ (cr cx cy dx dy ax ay < 0 ∧ 0 < cr cx cy dx dy bx b_y ∨ cr cx cy dx dy bx b_y < 0 ∧ 0 < cr cx cy dx dy ax ay) := by
      rw [side_eq ha hb hc, side_eq ha hb hd, side_eq hc hd ha, side_eq hc hd hb]
      rintro ⟨h1, h2⟩
      constructor
      · rcases sdI_cases (cr ax ay bx b_y cx cy) with ⟨p, q⟩ | ⟨p, q⟩ | ⟨p, q⟩ <;> rcases sdI_cases (cr ax ay bx b_y dx dy) with ⟨p', q'⟩ | ⟨p', q'⟩ | ⟨p', q'⟩ <;> rw [p, p'] at h1 <;> omega
      · rcases sdI_cases (cr cx cy dx dy ax ay) with ⟨p, q⟩ | ⟨p, q⟩ | ⟨p, q⟩ <;> rcases sdI_cases (cr cx cy dx dy bx b_y) with ⟨p', q'⟩ | ⟨p', q'⟩ | ⟨p', q'⟩ <;> rw [p, p'] at h2 <;> omega
    by_cases hcross : sideI ax ay bx b_y cx cy * sideI ax ay bx b_y dx dy < 0 ∧ sideI cx cy dx dy ax ay * sideI cx cy dx dy bx b_y < 0
    · rw [if_pos hcross]
      obtain ⟨x1, x2⟩ := hX hcross
      have bx1 := cross_box x1 x2 (cr_diff ax ay bx b_y cx cy dx dy) (cr_meetx ax ay bx b_y cx cy dx dy)
      have bx2 := cross_box x1 x2 (cr_diff ax ay bx b_y cx cy dx dy) (cr_meety ax ay bx b_y cx cy dx dy)
      rw [if_neg (by omega)]
      have n1 : isOnI ax ay bx b_y cx cy = false := by cases h : isOnI ax ay bx b_y cx cy; · rfl
                                                       have := i1.mp h; omega
      have n2 : isOnI ax ay bx b_y dx dy = false := by cases h : isOnI ax ay bx b_y dx dy; · rfl
                                                       have := i2.mp h; omega
      have n3 : isOnI cx cy dx dy ax ay = false := by cases h : isOnI cx cy dx dy ax ay; · rfl
                                                      have := i3.mp h; omega
      have n4 : isOnI cx cy dx dy bx b_y = false := by cases h : isOnI cx cy dx dy bx b_y; · rfl
                                                       have := i4.mp h; omega
      have h0 : shareI ax ay bx b_y cx cy dx dy = 0 := by unfold shareI; rw [n1, n2, n3, n4]; simp
      rw [h0, if_pos rfl, if_pos hcross]
    · rw [if_neg hcross]
      by_cases hon : (isOnI ax ay bx b_y cx cy || isOnI ax ay bx b_y dx dy || isOnI cx cy dx dy ax ay || isOnI cx cy dx dy bx b_y) = true
      · rw [if_pos hon]
        have hbox : ¬ (mx ax bx < mn cx dx ∨ mx cx dx < mn ax bx ∨ mx ay b_y < mn cy dy ∨ mx cy dy < mn ay b_y) := by
          have := g cx dx; have := g cy dy; have := g ax bx; have := g ay b_y
          simp only [Bool.or_eq_true] at hon
          rcases hon with ((h | h) | h) | h
          · have := i1.mp h; omega
          · have := i2.mp h; omega
          · have := i3.mp h; omega
          · have := i4.mp h; omega
        rw [if_neg hbox]
        have p12 : isOnI cx cy dx dy ax ay = true → isOnI cx cy dx dy bx b_y = true → False := fun h h' => one ax ay bx b_y hab s1 s2 (i3.mp h).1 (i4.mp h').1
        have p13 : isOnI cx cy dx dy ax ay = true → isOnI ax ay bx b_y cx cy = true → ¬ (ax = cx ∧ ay = cy) → False := fun h h' hn => one ax ay cx cy hn s1 (i1.mp h').1 (i3.mp h).1 s3
        have p14 : isOnI cx cy dx dy ax ay = true → isOnI ax ay bx b_y dx dy = true → ¬ (ax = dx ∧ ay = dy) → False := fun h h' hn => one ax ay dx dy hn s1 (i2.mp h').1 (i3.mp h).1 s4
        have p23 : isOnI cx cy dx dy bx b_y = true → isOnI ax ay bx b_y cx cy = true → ¬ (bx = cx ∧ b_y = cy) → False := fun h h' hn => one bx b_y cx cy hn s2 (i1.mp h').1 (i4.mp h).1 s3
        have p24 : isOnI cx cy dx dy bx b_y = true → isOnI ax ay bx b_y dx dy = true → ¬ (bx = dx ∧ b_y = dy) → False := fun h h' hn => one bx b_y dx dy hn s2 (i2.mp h').1 (i4.mp h).1 s4
        have p34 : isOnI ax ay bx b_y cx cy = true → isOnI ax ay bx b_y dx dy = true → False := fun h h' => one cx cy dx dy hcd (i1.mp h).1 (i2.mp h').1 s3 s4
        have h1 : shareI ax ay bx b_y cx cy dx dy = 1 := by
          have ne : ∀ {p q : Int} {r s : Int}, ¬ ((decide (p = q) && decide (r = s)) = true) → ¬ (p = q ∧ r = s) := by intro p q r s h; simpa using h
          exact share_one hon p12 (fun h h' hn => p13 h h' (ne hn)) (fun h h' hn => p14 h h' (ne hn)) (fun h h' hn => p23 h h' (ne hn)) (fun h h' hn => p24 h h' (ne hn)) p34
        rw [h1]; simp
      · rw [if_neg hon]
        simp only [Bool.or_eq_true, not_or, Bool.not_eq_true] at hon
        obtain ⟨⟨⟨n1, n2⟩, n3⟩, n4⟩ := hon
        have h0 : shareI ax ay bx b_y cx cy dx dy = 0 := by unfold shareI; rw [n1, n2, n3, n4]; simp
        rw [h0, if_pos rfl, if_neg hcross]
        split <;> rfl
end Go.Proofs.YtkomgmgpgnjooaaGreatMeet
