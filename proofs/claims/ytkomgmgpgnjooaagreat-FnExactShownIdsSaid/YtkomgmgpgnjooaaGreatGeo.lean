/-
  Plain words of the map's small functions, over numbers: ranges, points, sides, segments, boxes. No program stands here. No condition.
-/
import Derived.RowKit
import Derived.Test.YtkomgmgpgnjooaaGreatWMore
namespace Go.Proofs.YtkomgmgpgnjooaaGreatGeo
open Go Go.RowKit Go.Proofs.YtkomgmgpgnjooaaGreatW.PrintWords Go.Proofs.YtkomgmgpgnjooaaGreatW.PrintMore
def inR (a b c : Int) : Bool := decide (b ≤ a) && decide (a ≤ c)
def isPt (x y : Int) : Bool := inR x 0 200 && inR y 0 200
def crossI (ax ay bx by_ px py : Int) : Int := wrap64 (wrap64 (wrap64 (bx - ax) * wrap64 (py - ay)) - wrap64 (wrap64 (by_ - ay) * wrap64 (px - ax)))
def cmpI (a b : Int) : Int := if a < b then -1 else if a > b then 1 else 0
def sideI (ax ay bx by_ px py : Int) : Int := if isPt ax ay && isPt bx by_ && isPt px py then cmpI (crossI ax ay bx by_ px py) 0 else 0
def isSeg (ax ay bx by_ : Int) : Bool := isPt ax ay && isPt bx by_ && !(decide (ax = bx) && decide (ay = by_))
def isOnI (ax ay bx by_ px py : Int) : Bool := isSeg ax ay bx by_ && isPt px py && decide (sideI ax ay bx by_ px py = 0) && inR px (mn ax bx) (mx ax bx) && inR py (mn ay by_) (mx ay by_)
def beforeI (ax ay bx by_ : Int) : Bool := decide (ay < by_) || decide (ay = by_) && decide (ax < bx)
theorem cmp_zero (a : Int) : (cmpI a 0 = 0) = (a = 0) := by unfold cmpI; apply propext; constructor <;> intro h <;> (repeat' split at h) <;> (repeat' split) <;> omega
theorem mn_le {a b : Int} (h : a ≤ b) : mn a b = a := by unfold mn; split <;> omega
theorem mn_lt {a b : Int} (h : a < b) : mn a b = a := by unfold mn; split <;> omega
theorem mn_ge {a b : Int} (h : b ≤ a) : mn a b = b := by unfold mn; split <;> omega
theorem mn_gt {a b : Int} (h : b < a) : mn a b = b := by unfold mn; split <;> omega
theorem mx_le {a b : Int} (h : a ≤ b) : mx a b = b := by unfold mx; split <;> omega
theorem mx_lt {a b : Int} (h : a < b) : mx a b = b := by unfold mx; split <;> omega
theorem mx_ge {a b : Int} (h : b ≤ a) : mx a b = a := by unfold mx; split <;> omega
theorem mx_gt {a b : Int} (h : b < a) : mx a b = a := by unfold mx; split <;> omega
end Go.Proofs.YtkomgmgpgnjooaaGreatGeo
