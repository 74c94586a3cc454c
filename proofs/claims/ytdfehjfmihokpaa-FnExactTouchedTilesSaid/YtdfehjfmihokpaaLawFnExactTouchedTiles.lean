/- FnExactTouchedTiles: the row over the printed walk: for every input the law returns true and each argument reads afterwards as it did. No condition. Written by rowgen.py (a program of this session's). -/
import Derived.Test.YtdfehjfmihokpaaPFnExactTouchedTilesx0
import Derived.Test.YtdfehjfmihokpaaPFnExactTouchedTilesx1
import Derived.Test.YtdfehjfmihokpaaPFnExactTouchedTilesx2
import Derived.Test.YtdfehjfmihokpaaPFnExactTouchedTilesx3
import Derived.Test.YtdfehjfmihokpaaPFnExactTouchedTilesx4
import Derived.Test.YtdfehjfmihokpaaPFnExactTouchedTilesx5
import Derived.Test.YtdfehjfmihokpaaPFnExactTouchedTilesx6
import Derived.Test.YtdfehjfmihokpaaPFnExactTouchedTilesx7
import Derived.Test.YtdfehjfmihokpaaPFnExactTouchedTilesx8
import Derived.Test.YtdfehjfmihokpaaPFnExactTouchedTilesx9
import Derived.Test.YtdfehjfmihokpaaPFnExactTouchedTilesx10
import Derived.Test.YtdfehjfmihokpaaPFnExactTouchedTilesx11
import Derived.Test.YtdfehjfmihokpaaPFnExactTouchedTilesx12
import Derived.Test.YtdfehjfmihokpaaPFnExactTouchedTilesx13
import Derived.Test.YtdfehjfmihokpaaPFnExactTouchedTilesx14
import Derived.Test.YtdfehjfmihokpaaPFnExactTouchedTilesx15
import Derived.Test.YtdfehjfmihokpaaPFnExactTouchedTilesx16
import Derived.Test.YtdfehjfmihokpaaPFnExactTouchedTilesx17
import Derived.Test.YtdfehjfmihokpaaPFnExactTouchedTilesx18
import Derived.Test.YtdfehjfmihokpaaPFnExactTouchedTilesx19
import Derived.Test.YtdfehjfmihokpaaPFnExactTouchedTilesx20
import Derived.Test.YtdfehjfmihokpaaPFnExactTouchedTilesx21
import Derived.Test.YtdfehjfmihokpaaPFnExactTouchedTilesx22
import Derived.Test.YtdfehjfmihokpaaPFnExactTouchedTilesx23
import Derived.Test.YtdfehjfmihokpaaPFnExactTouchedTilesx24
import Derived.Test.YtdfehjfmihokpaaPFnExactTouchedTilesx25
import Derived.Test.YtdfehjfmihokpaaPFnExactTouchedTilesx26
import Derived.Test.YtdfehjfmihokpaaPFnExactTouchedTilesx27
import Derived.Test.YtdfehjfmihokpaaRows
import Derived.JoinedOf
import Derived.WalkKit
import Derived.ProofKit
import Derived.Test.YtdfehjfmihokpaaWWords
import Derived.WideKeyArgs
import Derived.ChangeArms
import Derived.DataReads
import Derived.Below
import Derived.RowKit
import Derived.Test.YtdfehjfmihokpaaMeet
import Derived.OpenShut
import Derived.ShutString
import Derived.ChangeOld
import Derived.SizedLaws
namespace Go.Proofs.Ytdfehjfmihokpaa.Facts
set_option maxRecDepth 100000
theorem words_app : ∀ (w r : List Char), (∀ c ∈ w, c ≠ ' ') → wordsSigns (w ++ ' ' :: r) = w :: wordsSigns r
  | [], r, _ => rfl
  | c :: w, r, h => by
    have ih := words_app w r (fun x hx => h x (List.mem_cons_of_mem _ hx))
    have hc : c ≠ ' ' := h c List.mem_cons_self
    rw [List.cons_append, wordsSigns.eq_def]
    split
    · rename_i e; cases e
    · rename_i e; injection e with e1 e2; exact absurd e1 hc
    · rename_i e; injection e with e1 e2; subst e1; subst e2; rw [ih]
theorem order : ∃ s : List Char, (∀ c ∈ s, c ≠ ' ') ∧ isSumSigns s = true ∧ ∃ r, Try.prog.initOrder.toList = "harness".toList ++ ' ' :: (s ++ ' ' :: ("cut".toList ++ ' ' :: r)) := by
  refine ⟨['4', '7', 'e', '9', 'e', '5', '6', 'e', '0', 'c', '6', 'd', 'a', 'c', '0', '6', 'e', '5', 'd', '8', 'a', '9', '6', '3', '5', '0', '1', '5', '0', '7', 'a', '6', '1', 'a', '7', '1', 'd', '0', '2', '9', '5', 'c', '4', '6', '1', '1', 'b', 'f', 'f', 'f', 'b', '4', '4', 'b', '5', '6', 'e', 'c', '5', 'a', '5', '0', '4', 'f'], by decide, by decide, ['a', 't', ' ', 'l', 'o', 'o', 'p', '.', 'e', 'x', 'a', 'm', 'p', 'l', 'e', '/', 'g', '0', '3', '0', '0', '5', '/', 'l', 'a', 'w', 's', '.', 'F', 'n', 'E', 'x', 'a', 'c', 't', 'S', 'i', 'z', 'e', 'A', 't', ' ', 'l', 'o', 'o', 'p', '.', 'e', 'x', 'a', 'm', 'p', 'l', 'e', '/', 'g', '0', '3', '0', '0', '5', '/', 'l', 'a', 'w', 's', '.', 'F', 'n', 'E', 'x', 'a', 'c', 't', 'P', 'i', 'e', 'c', 'e', 'D', 'i', 'g', 'e', 's', 't', ' ', 'l', 'o', 'o', 'p', '.', 'e', 'x', 'a', 'm', 'p', 'l', 'e', '/', 'g', '0', '3', '0', '0', '5', '/', 'l', 'a', 'w', 's', '.', 'F', 'n', 'E', 'x', 'a', 'c', 't', 'D', 'r', 'o', 'p', 'F', 'r', 'o', 'm', ' ', 'l', 'o', 'o', 'p', '.', 'e', 'x', 'a', 'm', 'p', 'l', 'e', '/', 'g', '0', '3', '0', '0', '5', '/', 'l', 'a', 'w', 's', '.', 'F', 'n', 'E', 'x', 'a', 'c', 't', 'A', 'n', 'c', 'h', 'o', 'r', 's', 'O', 'f', ' ', 'l', 'o', 'o', 'p', '.', 'e', 'x', 'a', 'm', 'p', 'l', 'e', '/', 'g', '0', '3', '0', '0', '5', '/', 'l', 'a', 'w', 's', '.', 'F', 'n', 'E', 'x', 'a', 'c', 't', 'I', 's', 'C', 'h', 'a', 'r', 't', ' ', 'l', 'o', 'o', 'p', '.', 'e', 'x', 'a', 'm', 'p', 'l', 'e', '/', 'g', '0', '3', '0', '0', '5', '/', 'l', 'a', 'w', 's', '.', 'F', 'n', 'E', 'x', 'a', 'c', 't', 'T', 'o', 'u', 'c', 'h', 'e', 'd', 'T', 'i', 'l', 'e', 's', ' ', 'l', 'o', 'o', 'p', '.', 'e', 'x', 'a', 'm', 'p', 'l', 'e', '/', 'g', '0', '3', '0', '0', '5', '/', 'l', 'a', 'w', 's', '.', 'F', 'n', 'E', 'x', 'a', 'c', 't', 'C', 'a', 'n', 'S', 'h', 'r', 'i', 'n', 'k', ' ', 'l', 'o', 'o', 'p', '.', 'e', 'x', 'a', 'm', 'p', 'l', 'e', '/', 'g', '0', '3', '0', '0', '5', '/', 'l', 'a', 'w', 's', '.', 'F', 'n', 'E', 'x', 'a', 'c', 't', 'A', 'l', 'l', 'P', 'i', 'e', 'c', 'e', 's', ' ', 'l', 'o', 'o', 'p', '.', 'e', 'x', 'a', 'm', 'p', 'l', 'e', '/', 'g', '0', '3', '0', '0', '5', '/', 'l', 'a', 'w', 's', '.', 'F', 'n', 'E', 'x', 'a', 'c', 't', 'P', 'i', 'e', 'c', 'e', 's', 'I', 'n', ' ', 'l', 'o', 'o', 'p', '.', 'e', 'x', 'a', 'm', 'p', 'l', 'e', '/', 'g', '0', '3', '0', '0', '5', '/', 'l', 'a', 'w', 's', '.', 'F', 'n', 'E', 'x', 'a', 'c', 't', 'T', 'i', 'l', 'e', 'D', 'i', 'g', 'e', 's', 't', ' ', 'l', 'o', 'o', 'p', '.', 'e', 'x', 'a', 'm', 'p', 'l', 'e', '/', 'g', '0', '3', '0', '0', '5', '/', 'l', 'a', 'w', 's', '.', 'F', 'n', 'E', 'x', 'a', 'c', 't', 'S', 'h', 'r', 'i', 'n', 'k', 'F', 'e', 'a', 't', 'u', 'r', 'e', ' ', 'l', 'o', 'o', 'p', '.', 'e', 'x', 'a', 'm', 'p', 'l', 'e', '/', 'g', '0', '3', '0', '0', '5', '/', 'l', 'a', 'w', 's', '.', 'F', 'n', 'E', 'x', 'a', 'c', 't', 'S', 'h', 'r', 'i', 'n', 'k', 'A', 'l', 'l'], ?_⟩
  have e : Try.prog.initOrder = String.ofList (['h', 'a', 'r', 'n', 'e', 's', 's'] ++ ' ' :: (['4', '7', 'e', '9', 'e', '5', '6', 'e', '0', 'c', '6', 'd', 'a', 'c', '0', '6', 'e', '5', 'd', '8', 'a', '9', '6', '3', '5', '0', '1', '5', '0', '7', 'a', '6', '1', 'a', '7', '1', 'd', '0', '2', '9', '5', 'c', '4', '6', '1', '1', 'b', 'f', 'f', 'f', 'b', '4', '4', 'b', '5', '6', 'e', 'c', '5', 'a', '5', '0', '4', 'f'] ++ ' ' :: (['c', 'u', 't'] ++ ' ' :: ['a', 't', ' ', 'l', 'o', 'o', 'p', '.', 'e', 'x', 'a', 'm', 'p', 'l', 'e', '/', 'g', '0', '3', '0', '0', '5', '/', 'l', 'a', 'w', 's', '.', 'F', 'n', 'E', 'x', 'a', 'c', 't', 'S', 'i', 'z', 'e', 'A', 't', ' ', 'l', 'o', 'o', 'p', '.', 'e', 'x', 'a', 'm', 'p', 'l', 'e', '/', 'g', '0', '3', '0', '0', '5', '/', 'l', 'a', 'w', 's', '.', 'F', 'n', 'E', 'x', 'a', 'c', 't', 'P', 'i', 'e', 'c', 'e', 'D', 'i', 'g', 'e', 's', 't', ' ', 'l', 'o', 'o', 'p', '.', 'e', 'x', 'a', 'm', 'p', 'l', 'e', '/', 'g', '0', '3', '0', '0', '5', '/', 'l', 'a', 'w', 's', '.', 'F', 'n', 'E', 'x', 'a', 'c', 't', 'D', 'r', 'o', 'p', 'F', 'r', 'o', 'm', ' ', 'l', 'o', 'o', 'p', '.', 'e', 'x', 'a', 'm', 'p', 'l', 'e', '/', 'g', '0', '3', '0', '0', '5', '/', 'l', 'a', 'w', 's', '.', 'F', 'n', 'E', 'x', 'a', 'c', 't', 'A', 'n', 'c', 'h', 'o', 'r', 's', 'O', 'f', ' ', 'l', 'o', 'o', 'p', '.', 'e', 'x', 'a', 'm', 'p', 'l', 'e', '/', 'g', '0', '3', '0', '0', '5', '/', 'l', 'a', 'w', 's', '.', 'F', 'n', 'E', 'x', 'a', 'c', 't', 'I', 's', 'C', 'h', 'a', 'r', 't', ' ', 'l', 'o', 'o', 'p', '.', 'e', 'x', 'a', 'm', 'p', 'l', 'e', '/', 'g', '0', '3', '0', '0', '5', '/', 'l', 'a', 'w', 's', '.', 'F', 'n', 'E', 'x', 'a', 'c', 't', 'T', 'o', 'u', 'c', 'h', 'e', 'd', 'T', 'i', 'l', 'e', 's', ' ', 'l', 'o', 'o', 'p', '.', 'e', 'x', 'a', 'm', 'p', 'l', 'e', '/', 'g', '0', '3', '0', '0', '5', '/', 'l', 'a', 'w', 's', '.', 'F', 'n', 'E', 'x', 'a', 'c', 't', 'C', 'a', 'n', 'S', 'h', 'r', 'i', 'n', 'k', ' ', 'l', 'o', 'o', 'p', '.', 'e', 'x', 'a', 'm', 'p', 'l', 'e', '/', 'g', '0', '3', '0', '0', '5', '/', 'l', 'a', 'w', 's', '.', 'F', 'n', 'E', 'x', 'a', 'c', 't', 'A', 'l', 'l', 'P', 'i', 'e', 'c', 'e', 's', ' ', 'l', 'o', 'o', 'p', '.', 'e', 'x', 'a', 'm', 'p', 'l', 'e', '/', 'g', '0', '3', '0', '0', '5', '/', 'l', 'a', 'w', 's', '.', 'F', 'n', 'E', 'x', 'a', 'c', 't', 'P', 'i', 'e', 'c', 'e', 's', 'I', 'n', ' ', 'l', 'o', 'o', 'p', '.', 'e', 'x', 'a', 'm', 'p', 'l', 'e', '/', 'g', '0', '3', '0', '0', '5', '/', 'l', 'a', 'w', 's', '.', 'F', 'n', 'E', 'x', 'a', 'c', 't', 'T', 'i', 'l', 'e', 'D', 'i', 'g', 'e', 's', 't', ' ', 'l', 'o', 'o', 'p', '.', 'e', 'x', 'a', 'm', 'p', 'l', 'e', '/', 'g', '0', '3', '0', '0', '5', '/', 'l', 'a', 'w', 's', '.', 'F', 'n', 'E', 'x', 'a', 'c', 't', 'S', 'h', 'r', 'i', 'n', 'k', 'F', 'e', 'a', 't', 'u', 'r', 'e', ' ', 'l', 'o', 'o', 'p', '.', 'e', 'x', 'a', 'm', 'p', 'l', 'e', '/', 'g', '0', '3', '0', '0', '5', '/', 'l', 'a', 'w', 's', '.', 'F', 'n', 'E', 'x', 'a', 'c', 't', 'S', 'h', 'r', 'i', 'n', 'k', 'A', 'l', 'l']))) := by kernel_rfl
  rw [e, String.toList_ofList]; rfl
theorem words : ∃ r, behindMainWord (wordsSigns Try.prog.initOrder.toList) = "cut".toList :: r := by
  obtain ⟨s, h1, h2, r, h⟩ := order
  refine ⟨wordsSigns r, ?_⟩
  rw [h, words_app _ _ (by decide), words_app _ _ h1, words_app _ _ (by decide)]
  exact if_pos (by rw [h2]; rfl)
theorem fa (r : List (List Char)) : ((("cut".toList == "gc".toList || "cut".toList == "spec".toList) && (r.isEmpty || r.head? == some "stop".toList)) : Bool) = false := by kernel_rfl
theorem fb (r : List (List Char)) : ("cut".toList == "carried".toList && r.take 2 == ["gc".toList, "cut".toList] && !Try.prog.laysLater && !Try.prog.bearsReflect) = false := by kernel_rfl
theorem fc (r : List (List Char)) : stripLifts liftWords ("cut".toList :: r) = ([], "cut".toList :: r) := by kernel_rfl
theorem fd : Try.prog.laysLater = false := by kernel_rfl
theorem fe : Try.prog.bearsReflect = false := by kernel_rfl
theorem ff : Try.prog.doorFits [] = true := by kernel_rfl
theorem mayEnter' : Try.prog.mayEnter = true := by
  obtain ⟨r, h⟩ := words
  rw [Program.mayEnter.eq_1]
  generalize behindMainWord (wordsSigns Try.prog.initOrder.toList) = z at *
  subst h
  dsimp only
  rw [fa, fb, fc, fd, fe, ff]
  rfl
theorem head' : Try.prog.headLifts = [] := by
  obtain ⟨r, h⟩ := words
  rw [Program.headLifts.eq_1]
  generalize behindMainWord (wordsSigns Try.prog.initOrder.toList) = z at *
  subst h
  rw [fc]
  rfl
theorem lifts' : Try.prog.liftsFinal = false := by
  obtain ⟨r, h⟩ := words
  rw [Program.liftsFinal.eq_1, head']
  generalize behindMainWord (wordsSigns Try.prog.initOrder.toList) = z at *
  subst h
  rfl
theorem make' : Try.prog.make = some .cut := by
  obtain ⟨r, h⟩ := words
  rw [Program.make.eq_1]
  generalize behindMainWord (wordsSigns Try.prog.initOrder.toList) = z at *
  subst h
  rfl
theorem mayEnter : Try.pinned.checked.prog.mayEnter = true := mayEnter'
theorem lifts : Try.pinned.checked.prog.liftsFinal = false := lifts'
theorem make : Try.pinned.checked.prog.make = some .cut := make'
theorem joined {f : FuncId} {fn : Func} {s : ChangeSpec} {c : OpenClaim}
    (h : (c.wf (OpenSpec.ofChange s) && laidOutB Try.pinned.checked.prog && mapsRowed Try.pinned.checked.prog &&
  fn.params.all (Try.pinned.checked.prog.readableRec ·) && namedTie Try.pinned.checked.prog c.named s.vars &&
  (c.stops == []) && (Try.pinned.checked.prog.stops == []) && (c.knobs == []) && (Try.pinned.checked.prog.stopKnobs == []) &&
  (c.inPlace == Try.pinned.checked.prog.inPlace f) && (c.unfollowed == Try.pinned.checked.prog.unfollowed f) && (c.recurses == Try.pinned.checked.prog.recurses f) && (c.named == Try.pinned.checked.prog.varsNamed f) &&
  (c.maps == (fn.params.toList ++ s.plain.varTypes Try.pinned.checked.prog).any (Try.pinned.checked.prog.mapsRec ·)) && (c.ifaces == (fn.params.toList ++ s.plain.varTypes Try.pinned.checked.prog).any (Try.pinned.checked.prog.ifacesRec ·)) && (c.mapsOut == Try.pinned.checked.prog.mapsAmong fn.resultTypes.toList) &&
  (c.loops == (fn.params.toList ++ s.plain.varTypes Try.pinned.checked.prog).any (Try.pinned.checked.prog.loopsFrom ·)) && (c.wideKeys == (fn.params.toList ++ s.plain.varTypes Try.pinned.checked.prog ++ fn.resultTypes.toList).any (Try.pinned.checked.prog.wideKeysFrom ·)) &&
  s.vars.all (Try.pinned.checked.prog.varReadable ·) && fn.resultTypes.all (fun t => Try.pinned.checked.prog.readableRec t && decide (t < Try.pinned.checked.prog.types.size)) && (c.ifacesOut == fn.resultTypes.toList.any (Try.pinned.checked.prog.ifacesRec ·)) && (c.loopsOut == fn.resultTypes.toList.any (Try.pinned.checked.prog.loopsFrom ·)) && (c.plainKeys == Try.pinned.checked.prog.plainKeys) && c.shortTexts.isNone && Try.pinned.checked.prog.stopsHeard && (c.lifted == false) && (some Make.cut == some c.make) && (c.kinds == (if c.domain.isEmpty then [] else fn.params.toList.map fun t => match Try.pinned.checked.prog.underlying t with | some (.int k) => some k | _ => none)) && (c.pinned == c.pinnedBy) &&
  (c.veiled == (fn.params.toList ++ s.plain.varTypes Try.pinned.checked.prog ++ fn.resultTypes.toList).any (Try.pinned.checked.prog.veiledRec ·)) && c.veiledFits Try.pinned.checked.prog fn.params.toList (fn.params.toList ++ s.plain.varTypes Try.pinned.checked.prog ++ fn.resultTypes.toList)) = true) :
    joinedFacts Try.pinned.checked.prog f fn s c = true := by
  unfold joinedFacts
  rw [mayEnter, lifts, make, Bool.and_true]
  exact h
end Go.Proofs.Ytdfehjfmihokpaa.Facts

namespace Go.Proofs.YtdfehjfmihokpaaOpen
open Go Go.RowKit Go.Proofs.YtdfehjfmihokpaaW.PrintWords
variable {P : Program}

/-- A value of type t that is read as data is of kind k, and B holds of what it is. -/
def Opens {α : Type} (P : Program) (t : TypeId) (k : Kd α) (B : α → Prop) : Prop :=
  ∀ (H : Type) (enc : TypeId × Value → H) (W : World) (n : Nat) (cs : List Value) (x : DataW H × List MemPlace),
    DataW.trod enc P W 0 (fun _ => true) true n t cs = some x → ∃ a, k.K W a cs ∧ B a

theorem opens_int {t : TypeId} {k : IntKind} (ht : P.underlying t = some (.int k)) : Opens P t (Kd.int k) (fun n => (Lit.int k n).wf = true) := by
  intro H enc W n cs x h
  obtain ⟨m, rfl, _, hw⟩ := DataW.trod_int ht h
  exact ⟨m, rfl, hw⟩

theorem opens_bool {t : TypeId} (ht : P.underlying t = some .bool) : Opens P t Kd.bool (fun _ => True) := by
  intro H enc W n cs x h
  obtain ⟨m, rfl, _⟩ := DataW.trod_bool ht h
  exact ⟨m, rfl, trivial⟩

theorem opens_string {t : TypeId} (ht : P.underlying t = some .string) : Opens P t Kd.string (fun s => s.size ≤ 9223372036854775807) := by
  intro H enc W n cs x h
  obtain ⟨s, rfl, _, hs⟩ := DataW.trod_string ht h
  exact ⟨s, rfl, by simpa [maxLen] using hs⟩

theorem add_add (ad : Addr) (i j : Nat) : (ad.add i).add j = ad.add (i + j) := by
  unfold Addr.add
  by_cases h1 : i = 0 <;> by_cases h2 : j = 0 <;> simp [h1, h2, Nat.add_assoc]

/-- A choice at each place of a list's length. -/
theorem choose_list {α : Type} {Q : Nat → α → Prop} : ∀ (n : Nat), (∀ i, i < n → ∃ a, Q i a) → ∃ l : List α, l.length = n ∧ ∀ i a, l[i]? = some a → Q i a
  | 0, _ => ⟨[], rfl, fun i a h => by simp at h⟩
  | n + 1, h => by
    obtain ⟨l, hl, hq⟩ := choose_list n (fun i hi => h i (by omega))
    obtain ⟨a, ha⟩ := h n (by omega)
    refine ⟨l ++ [a], by simp [hl], fun i b hb => ?_⟩
    by_cases hi : i < n
    · rw [List.getElem?_append_left (by omega)] at hb
      exact hq i b hb
    · rw [List.getElem?_append_right (by omega), hl] at hb
      by_cases h0 : i = n
      · subst h0
        simp at hb
        subst hb
        exact ha
      · have : 0 < i - n := by omega
        obtain ⟨m, hm⟩ : ∃ m, i - n = m + 1 := ⟨i - n - 1, by omega⟩
        rw [hm] at hb
        simp at hb

theorem opens_slice {α : Type} {t e : TypeId} {k : Kd α} {B : α → Prop} (ht : P.underlying t = some (.slice e)) (hk : Opens P e k B) (hs : P.cellsOf e = k.sz) (eN : Nat) :
    Opens P t (Kd.slice eN k) (fun l => l.length ≤ 9223372036854775807 ∧ ∀ x ∈ l, B x) := by
  intro H enc W n cs x h
  rcases DataW.trod_slice ht h with ⟨rfl, _⟩ | ⟨a, len, cap, elems, rest, m, _, rfl, _, _, hlc, hcm, hel, hat, _⟩
  · refine ⟨[], ⟨none, 0, rfl, Nat.le_refl _, rfl, by simp, fun h0 => absurd h0 (by simp)⟩, by simp, fun y hy => by simp at hy⟩
  · have one : ∀ i, i < len → ∃ p : α × List Value, k.K W p.1 p.2 ∧ B p.1 ∧ W.cells? 0 (a.add (i * P.cellsOf e)) (P.cellsOf e) = some p.2 := by
      intro i hi
      have h1 := hat i hi
      rw [List.getElem?_eq_getElem (by omega)] at h1
      obtain ⟨c, hc, htr⟩ := Option.bind_eq_some_iff.1 h1
      obtain ⟨b, hb, hB⟩ := hk H enc W m c _ htr
      exact ⟨(b, c), hb, hB, hc⟩
    obtain ⟨l, hl, hq⟩ := choose_list len one
    unfold maxLen at hcm
    refine ⟨l.map (·.1), ⟨some a, cap, by simp [hl], by simpa [hl] using hlc, rfl, by simp [hl]; omega, fun _ => ⟨a, rfl, fun j p hp => ?_⟩⟩, by simp [hl]; omega, fun y hy => ?_⟩
    · rw [List.getElem?_map] at hp
      obtain ⟨q, hq1, rfl⟩ := Option.map_eq_some_iff.1 hp
      obtain ⟨hK, _, hc⟩ := hq j q hq1
      refine ⟨q.2, k.K_len hK, hK, fun i u hu => ?_⟩
      obtain ⟨_, hlen, hcell⟩ := World.cells?_some hc
      have hi : i < P.cellsOf e := by
        have := (List.getElem?_eq_some_iff.1 hu).1
        omega
      have := hcell i hi
      rw [add_add, hu, hs] at this
      exact this
    · obtain ⟨q, hq1, rfl⟩ := List.mem_map.1 hy
      obtain ⟨j, hj, rfl⟩ := List.getElem_of_mem hq1
      exact (hq j _ (List.getElem?_eq_getElem hj)).2.1

/-- The fields from place i on, the cells from off on. -/
def OpensFs {α : Type} (P : Program) (fs : List Field) (off : Nat) (k : Kd α) (B : α → Prop) : Prop :=
  ∀ (H : Type) (enc : TypeId × Value → H) (W : World) (n : Nat) (cs : List Value), cs.length = off + k.sz →
    (∀ f ∈ fs, ∃ x, DataW.trod enc P W 0 (fun _ => true) true n f.type ((cs.drop f.offset).take (P.cellsOf f.type)) = some x) → ∃ a, k.K W a (cs.drop off) ∧ B a

theorem opensFs_one {α : Type} {f : Field} {off : Nat} {k : Kd α} {B : α → Prop} (hk : Opens P f.type k B) (ho : f.offset = off) (hs : P.cellsOf f.type = k.sz) : OpensFs P [f] off k B := by
  intro H enc W n cs hl h
  obtain ⟨x, hx⟩ := h f (by simp)
  rw [ho, hs, List.take_of_length_le (by simp; omega)] at hx
  exact hk H enc W n _ x hx

theorem opensFs_cons {α β : Type} {f : Field} {fs : List Field} {off : Nat} {k : Kd α} {B : α → Prop} {k' : Kd β} {B' : β → Prop} (hk : Opens P f.type k B) (ho : f.offset = off) (hs : P.cellsOf f.type = k.sz)
    (hr : OpensFs P fs (off + k.sz) k' B') : OpensFs P (f :: fs) off (Kd.pair k k') (fun x => B x.1 ∧ B' x.2) := by
  intro H enc W n cs hl h
  obtain ⟨x, hx⟩ := h f (by simp)
  have hl' : cs.length = off + (k.sz + k'.sz) := hl
  rw [ho, hs] at hx
  obtain ⟨a, ha, hB⟩ := hk H enc W n _ x hx
  obtain ⟨b, hb, hB'⟩ := hr H enc W n cs (by omega) (fun g hg => h g (List.mem_cons_of_mem _ hg))
  refine ⟨(a, b), ⟨_, _, ?_, ha, hb⟩, hB, hB'⟩
  rw [← List.drop_drop, List.take_append_drop]

theorem opens_struct {α β : Type} {t : TypeId} {fs : Array Field} {k : Kd α} {B : α → Prop} (ht : P.underlying t = some (.struct fs)) (hk : OpensFs P fs.toList 0 k B) (hs : P.cellsOf t = k.sz)
    (f : β → α) (g : α → β) (hg : ∀ a, f (g a) = a) : Opens P t (Kd.iso k f) (fun x => B (f x)) := by
  intro H enc W n cs x h
  obtain ⟨xs, m, _, _, hlen, hxl, hat⟩ := DataW.trod_struct ht h
  obtain ⟨a, ha, hB⟩ := hk H enc W m cs (by omega) (fun fl hf => by
    obtain ⟨i, hi, rfl⟩ := List.getElem_of_mem hf
    have hi' : i < fs.size := by simpa using hi
    have := hat i fs[i] (by simp [hi'])
    rw [List.getElem?_eq_getElem (by omega)] at this
    exact ⟨_, by simpa using this⟩)
  refine ⟨g a, ?_, ?_⟩
  · show k.K W (f (g a)) cs
    rw [hg]
    simpa using ha
  · show B (f (g a))
    rw [hg]
    exact hB

theorem agg_of {t : TypeId} {fs : Array Field} {w : World} {r : Reach} {b : Nat} {v : Value} (ht : P.underlying t = some (.struct fs)) (h : Value.okWide P w r b t v) : ∃ cs, v = .agg cs := by
  unfold Value.okWide at h
  rw [ht] at h
  obtain ⟨cs, h, _⟩ := h
  exact ⟨cs, h⟩

theorem slice_of {α : Type} {t e eN : Nat} {k : Kd α} {w W : World} {r : Reach} {b : Nat} {v : Value} {l : List α} (ht : P.underlying t = some (.slice e)) (h : Value.okWide P w r b t v) (hK : (Kd.slice eN k).K W l v.cells.toList) :
    ∃ A c, v = .slice A l.length c ∧ l.length ≤ c ∧ k.C W A l.length l := by
  obtain ⟨a, n, c, rfl⟩ := WideShapes.okWide_slice ht h
  obtain ⟨A, c', he, hl, hC⟩ := hK
  simp only [Value.cells, List.cons.injEq, Value.slice.injEq, and_true] at he
  obtain ⟨rfl, rfl, rfl⟩ := he
  exact ⟨_, _, rfl, hl, hC⟩

theorem string_of {t : TypeId} {w : World} {r : Reach} {b : Nat} {v : Value} {s : ByteArray} (ht : P.underlying t = some .string) (h : Value.okWide P w r b t v) (hK : v.cells.toList = [.string s]) : v = .string s := by
  unfold Value.okWide at h
  rw [ht] at h
  simp only [Cell.okWide, ht] at h
  unfold Cell.ok at h
  rw [ht] at h
  cases v <;> simp_all [Value.cells]

/-- The arguments read behind a call that only made memory as they did before it. -/
theorem args_stay {H : Type} {enc : TypeId × Value → H} (hl : laidOutB P = true) {W W' : World} (hb : Below W.heap.size W W') :
    ∀ {ts : List TypeId} {vs : List Value} {ds : List (DataW H)} {ps : List MemPlace}, (∀ t ∈ ts, P.readableRec t = true ∧ t < P.types.size) → (∀ p ∈ ps, p.block < W.heap.size) →
      DataW.TrodAll enc P W 0 (fun _ => true) true ts vs ds ps → DataW.TrodAll enc P W' 0 (fun b => decide (b < W.heap.size)) true ts vs ds ps
  | [], [], [], _, _, _, h => h
  | t :: _, _ :: _, _ :: _, _, hT, hlt, ⟨p, q, h1, h2, e⟩ =>
    ⟨p, q, WideElems.Trod_stays hl (hT t (List.mem_cons_self ..)).1 (hT t (List.mem_cons_self ..)).2 h1 (fun x hx => hb.same (hlt x (by rw [e]; exact List.mem_append_left _ hx))) (fun x hx => by
        simpa using hlt x (by rw [e]; exact List.mem_append_left _ hx)),
      args_stay hl hb (fun t ht => hT t (List.mem_cons_of_mem _ ht)) (fun x hx => hlt x (by rw [e]; exact List.mem_append_right _ hx)) h2, e⟩
  | [], [], _ :: _, _, _, _, h => by cases h
  | [], _ :: _, _, _, _, _, h => by cases h
  | _ :: _, [], _, _, _, _, h => by cases h
  | _ :: _, _ :: _, [], _, _, _, h => by cases h
end Go.Proofs.YtdfehjfmihokpaaOpen

namespace Go.Proofs.Ytdfehjfmihokpaa.Pure.FnExactTouchedTiles
open Go Go.RowKit Go.Proofs.Ytdfehjfmihokpaa.PFnExactTouchedTiles Go.Proofs.YtdfehjfmihokpaaW.PrintWords Go.Proofs.YtdfehjfmihokpaaW.PrintLast Go.Proofs.YtdfehjfmihokpaaW.PrintMore Go.Proofs.YtdfehjfmihokpaaGeo
set_option linter.unusedVariables false
set_option linter.unusedSimpArgs false
open Go.Proofs.YtdfehjfmihokpaaMeet
theorem w1 (i : Nat) (h : i < 9223372036854775807) : wrap64 ((i : Int) + 1) = ((i + 1 : Nat) : Int) := by unfold wrap64; omega
theorem rd_at (l : List Int) (i : Nat) (h : i < l.length) : rd l (i : Int) = l[i] := by
  unfold rd
  rw [Int.toNat_natCast, List.getD_eq_getElem?_getD, List.getElem?_eq_getElem h]
  rfl
theorem how_s (a b c d e f g h : Int) : Ev (fun _ => spec_HowMeet.f a b c d e f g h) (howS a b c d e f g h) := Ev.now _
theorem before_key {x y x' y' : Int} (h : isPt x y = true) (h' : isPt x' y' = true) : beforeI x y x' y' = decide (kyI x y < kyI x' y') := by
  rw [isPt_iff] at h h'
  unfold beforeI kyI
  rw [Bool.eq_iff_iff]; simp; omega
theorem j3_i (a b c d : Int) (h : isPt a b = true) (h' : isPt c d = true) : Ev (fun k => impl_HowMeet.j3 k a b c d) (if kyI c d < kyI a b then 0 else if kyI a b = kyI c d then 1 else 3) := by
  refine Ev.step (f := fun _ => some (if kyI c d < kyI a b then 0 else if kyI a b = kyI c d then 1 else 3)) (fun k => ?_) (Ev.now _)
  simp only [impl_HowMeet.j3, impl_BeforePoint.f, before_key h' h, Option.bind_some, decide_eq_true_eq]
  have e : (a == c && b == d) = decide (kyI a b = kyI c d) := by
    rw [← ky_inj h h']
    rw [Bool.eq_iff_iff]; simp
  rw [e]
  by_cases z : kyI c d < kyI a b
  · rw [if_pos z, if_pos z]
  · rw [if_neg z, if_neg z]
    by_cases z' : kyI a b = kyI c d
    · simp [z']
    · simp [z']
theorem j2_i (e f g h a b c d : Int) (h1 : isPt g h = true) (h2 : isPt a b = true) (h3 : isPt c d = true) : Ev (fun k => impl_HowMeet.j2 k e f g h a b c d) (if mn (kyI c d) (kyI g h) < kyI a b then 0 else if kyI a b = mn (kyI c d) (kyI g h) then 1 else 3) := by
  refine Ev.step (f := fun k => if kyI g h < kyI c d then impl_HowMeet.j3 k a b g h else impl_HowMeet.j3 k a b c d) (fun k => ?_) ?_
  · simp only [impl_HowMeet.j2, impl_BeforePoint.f, before_key h1 h3, Option.bind_some, decide_eq_true_eq]
  · unfold mn
    by_cases z : kyI g h < kyI c d
    · simp only [if_pos z]; exact j3_i a b g h h2 h1
    · simp only [if_neg z]; exact j3_i a b c d h2 h3
theorem fwd_i (a b c d : Int) (h : isPt a b = true) (h' : isPt c d = true) : ∃ x y u v, impl_forward.f a b c d = some (x, y, u, v) ∧ isPt x y = true ∧ isPt u v = true ∧ kyI x y = mn (kyI a b) (kyI c d) ∧ kyI u v = mx (kyI a b) (kyI c d) := by
  unfold impl_forward.f impl_BeforePoint.f impl_TurnSegment.f
  simp only [before_key h' h, Option.bind_some, decide_eq_true_eq]
  by_cases z : kyI c d < kyI a b
  · exact ⟨c, d, a, b, by rw [if_pos z], h', h, by unfold mn; rw [if_pos z], by unfold mx; rw [if_neg (by omega)]⟩
  · exact ⟨a, b, c, d, by rw [if_neg z], h, h', by unfold mn; rw [if_neg z], by unfold mx; split <;> omega⟩
theorem how_i (a b c d e f g h : Int) : Ev (fun k => impl_HowMeet.f k a b c d e f g h) (howS a b c d e f g h) := by
  rw [← how_eq]
  unfold impl_HowMeet.f howP impl_IsSegment.f
  simp only [Option.bind_some]
  have dead : Ev (fun k => impl_HowMeet.j0 k true a b c d e f g h) 0 := Ev.step (f := fun _ => some 0) (fun k => by simp [impl_HowMeet.j0]) (Ev.now _)
  cases h1 : isSeg a b c d
  · simp only [Bool.false_eq_true, if_false, true_or, if_true]; exact dead
  · cases h2 : isSeg e f g h
    · simp only [if_true, Bool.not_false, or_true]; exact dead
    · simp only [if_true, Bool.not_true, Bool.true_eq_false, or_self, if_false]
      obtain ⟨ha, hc, _⟩ := isSeg_iff.mp h1
      obtain ⟨he, hg, _⟩ := isSeg_iff.mp h2
      have j4t : Ev (fun k => impl_HowMeet.j4 k true a b c d e f g h) 2 := Ev.step (f := fun _ => some 2) (fun k => by simp [impl_HowMeet.j4]) (Ev.now _)
      have j4f : Ev (fun k => impl_HowMeet.j4 k false a b c d e f g h) (if isOnI a b c d e f || isOnI a b c d g h || isOnI e f g h a b || isOnI e f g h c d then 1 else 0) := by
        refine Ev.step (f := fun _ => some (if isOnI a b c d e f || isOnI a b c d g h || isOnI e f g h a b || isOnI e f g h c d then 1 else 0)) (fun k => ?_) (Ev.now _)
        simp only [impl_HowMeet.j4, impl_IsOn.f, Option.bind_some, Bool.false_eq_true, if_false]
        cases isOnI a b c d e f <;> cases isOnI a b c d g h <;> cases isOnI e f g h a b <;> cases isOnI e f g h c d <;> rfl
      by_cases hcol : sideI a b c d e f = 0 ∧ sideI a b c d g h = 0
      · rw [if_pos hcol]
        obtain ⟨x, y, u, v, f1, p1, p2, k1, k2⟩ := fwd_i a b c d ha hc
        obtain ⟨x', y', u', v', f2, p1', p2', k1', k2'⟩ := fwd_i e f g h he hg
        refine Ev.step (f := fun k => impl_HowMeet.j1 k (sideI a b c d e f) (sideI a b c d g h) true a b c d e f g h) (fun k => ?_) ?_
        · simp [impl_HowMeet.j0, impl_SideOf.f, hcol.1, hcol.2]
        · refine Ev.step (f := fun k => if kyI x y < kyI x' y' then impl_HowMeet.j2 k x' y' u' v' x' y' u v else impl_HowMeet.j2 k x' y' u' v' x y u v) (fun k => ?_) ?_
          · simp only [impl_HowMeet.j1, f1, f2, impl_BeforePoint.f, Option.bind_some, before_key p1 p1', decide_eq_true_eq, if_true]
          · rw [← k1, ← k2, ← k1', ← k2']
            by_cases z : kyI x y < kyI x' y'
            · simp only [if_pos z]
              have e : mx (kyI x y) (kyI x' y') = kyI x' y' := by unfold mx; rw [if_pos z]
              rw [e]
              exact j2_i x' y' u' v' x' y' u v p2' p1' p2
            · simp only [if_neg z]
              have e : mx (kyI x y) (kyI x' y') = kyI x y := by unfold mx; rw [if_neg z]
              rw [e]
              exact j2_i x' y' u' v' x y u v p2' p1 p2
      · rw [if_neg hcol]
        refine Ev.step (f := fun k => impl_HowMeet.j1 k (sideI a b c d e f) (sideI a b c d g h) false a b c d e f g h) (fun k => ?_) ?_
        · simp only [impl_HowMeet.j0, impl_SideOf.f, Option.bind_some, Bool.false_eq_true, if_false]
          by_cases z : sideI a b c d e f = 0
          · have z' : ¬ sideI a b c d g h = 0 := fun q => hcol ⟨z, q⟩
            have z'' : (sideI a b c d g h == 0) = false := by simp [z']
            rw [if_pos z, z'']
          · rw [if_neg z]
        · have w1 := wrap_sd _ _ (sd_bd a b c d e f) (sd_bd a b c d g h)
          have w2 := wrap_sd _ _ (sd_bd e f g h a b) (sd_bd e f g h c d)
          by_cases zu : sideI a b c d e f * sideI a b c d g h < 0
          · by_cases zv : sideI e f g h a b * sideI e f g h c d < 0
            · rw [if_pos ⟨zu, zv⟩]
              refine Ev.step (fun k => ?_) j4t
              simp [impl_HowMeet.j1, impl_SideOf.f, w1, w2, zu, zv]
            · rw [if_neg (fun q => zv q.2)]
              refine Ev.step (fun k => ?_) j4f
              simp [impl_HowMeet.j1, impl_SideOf.f, w1, w2, zu, zv]
          · rw [if_neg (fun q => zu q.1)]
            refine Ev.step (fun k => ?_) j4f
            simp [impl_HowMeet.j1, impl_SideOf.f, w1, zu]
/-- A line's points, one behind the other: each a point, none like the one ahead of it. -/
def chkL : Option S82 → List S82 → Bool
  | _, [] => true
  | o, p :: r => isPt p.f0 p.f1 && ((match o with | none => true | some q => !eqP q p) && chkL (some p) r)
theorem chkL_cons (o : Option S82) (p : S82) (r : List S82) : chkL o (p :: r) = (isPt p.f0 p.f1 && ((match o with | none => true | some q => !eqP q p) && chkL (some p) r)) := by cases o <;> rfl
def lnB (l : List S82) : Bool := inR (l.length : Int) 2 10 && chkL none l
def prevL (l : List S82) (i : Nat) : Option S82 := if i = 0 then none else some (l.getD (i - 1) z82)
theorem prevL_succ (l : List S82) (i : Nat) (h : i < l.length) : prevL l (i + 1) = some l[i] := by
  unfold prevL
  rw [if_neg (by omega), Nat.add_sub_cancel, List.getD_eq_getElem?_getD, List.getElem?_eq_getElem h]; rfl
theorem w1m (i : Nat) (h : 0 < i) (h' : i < 9223372036854775807) : wrap64 ((i : Int) - 1) = ((i - 1 : Nat) : Int) := by unfold wrap64; omega
theorem isLine_sl (l : List S82) (hl : l.length < 9223372036854775807) (d : Nat) : ∀ i : Nat, i + d = l.length → Ev (fun k => spec_IsLine.l0 k l (i : Int)) (chkL (prevL l i) (l.drop i) && inR (l.length : Int) 2 10) := by
  induction d with
  | zero =>
    intro i hi
    rw [List.drop_of_length_le (by omega)]
    refine Ev.step (f := fun _ => some _) (fun k => ?_) (Ev.now _)
    simp only [spec_IsLine.l0, spec_l1In.f]
    rw [if_neg (by omega)]
    simp [chkL]
  | succ d ih =>
    intro i hi
    have h1 : i < l.length := by omega
    have hd := List.drop_eq_getElem_cons h1
    rw [hd, chkL_cons]
    cases hp : isPt l[i].f0 l[i].f1
    · refine Ev.step (f := fun _ => some false) (fun k => ?_) (Ev.now _)
      simp only [spec_IsLine.l0, spec_IsPoint.f, Option.bind_some]
      rw [if_pos (by omega), if_pos (by omega), rdPt l i h1, hp]
      simp
    · have ih' := ih (i + 1) (by omega)
      rw [prevL_succ l i h1] at ih'
      by_cases h0 : i = 0
      · subst h0
        refine Ev.step (fun k => ?_) ih'
        simp only [spec_IsLine.l0, spec_IsPoint.f, Option.bind_some]
        rw [if_pos (by omega), if_pos (by omega), rdPt l 0 h1, hp, if_pos rfl, if_neg (by omega), w1' 0 (by omega)]
      · have hi1 : i - 1 < l.length := by omega
        have eP : prevL l i = some l[i - 1] := by unfold prevL; rw [if_neg h0, List.getD_eq_getElem?_getD, List.getElem?_eq_getElem hi1]; rfl
        rw [eP]
        dsimp only
        have eq : (((l[i - 1]).f0) == (l[i].f0) && (((l[i - 1]).f1) == (l[i].f1))) = eqP l[i - 1] l[i] := by
          unfold eqP; rw [Bool.eq_iff_iff]; simp
        cases he : eqP l[i - 1] l[i]
        · refine Ev.step (fun k => ?_) ih'
          simp only [spec_IsLine.l0, spec_IsPoint.f, Option.bind_some]
          rw [if_pos (by omega), if_pos (by omega), rdPt l i h1, hp, if_pos rfl, if_pos (by omega), w1m i (by omega) (by omega), if_pos (by omega), if_pos (by omega), rdPt l (i - 1) hi1, eq, he, w1' i (by omega)]
          simp
        · refine Ev.step (f := fun _ => some false) (fun k => ?_) (Ev.now _)
          simp only [spec_IsLine.l0, spec_IsPoint.f, Option.bind_some]
          rw [if_pos (by omega), if_pos (by omega), rdPt l i h1, hp, if_pos rfl, if_pos (by omega), w1m i (by omega) (by omega), if_pos (by omega), if_pos (by omega), rdPt l (i - 1) hi1, eq, he]
          simp
theorem isLine_s (l : List S82) (hl : l.length < 9223372036854775807) : Ev (fun k => spec_IsLine.f k l) (lnB l) := by
  unfold spec_IsLine.f lnB
  rw [Bool.and_comm]
  exact isLine_sl l hl l.length 0 (by omega)
theorem isLine_il (l : List S82) (hl : l.length < 9223372036854775807) (d : Nat) : ∀ i : Nat, i + d = l.length → Ev (fun k => impl_IsLine.l0 k l l (l.length : Int) (i : Int)) (chkL (prevL l i) (l.drop i)) := by
  induction d with
  | zero =>
    intro i hi
    rw [List.drop_of_length_le (by omega)]
    refine Ev.step (f := fun _ => some _) (fun k => ?_) (Ev.now _)
    simp only [impl_IsLine.l0]
    rw [if_neg (by omega)]
    simp [chkL]
  | succ d ih =>
    intro i hi
    have h1 : i < l.length := by omega
    have hd := List.drop_eq_getElem_cons h1
    rw [hd, chkL_cons]
    cases hp : isPt l[i].f0 l[i].f1
    · refine Ev.step (f := fun _ => some false) (fun k => ?_) (Ev.now _)
      simp only [impl_IsLine.l0, impl_IsPoint.f, Option.bind_some]
      rw [if_pos (by omega), if_pos (by omega), if_pos (by omega), rdPt l i h1, hp]
      simp
    · have ih' := ih (i + 1) (by omega)
      rw [prevL_succ l i h1] at ih'
      by_cases h0 : i = 0
      · subst h0
        refine Ev.step (fun k => ?_) ih'
        simp only [impl_IsLine.l0, impl_IsPoint.f, Option.bind_some]
        rw [if_pos (by omega), if_pos (by omega), if_pos (by omega), rdPt l 0 h1, hp, if_pos rfl, if_neg (by omega), w1' 0 (by omega)]
      · have hi1 : i - 1 < l.length := by omega
        have eP : prevL l i = some l[i - 1] := by unfold prevL; rw [if_neg h0, List.getD_eq_getElem?_getD, List.getElem?_eq_getElem hi1]; rfl
        rw [eP]
        dsimp only
        have eq : (((l[i]).f0) == (l[i - 1].f0) && (((l[i]).f1) == (l[i - 1].f1))) = eqP l[i - 1] l[i] := by
          unfold eqP; rw [Bool.eq_iff_iff]; simp; omega
        cases he : eqP l[i - 1] l[i]
        · refine Ev.step (fun k => ?_) ih'
          simp only [impl_IsLine.l0, impl_IsPoint.f, Option.bind_some]
          rw [if_pos (by omega), if_pos (by omega), if_pos (by omega), rdPt l i h1, hp, if_pos rfl, if_pos (by omega), w1m i (by omega) (by omega), if_pos (by omega), if_pos (by omega), rdPt l (i - 1) hi1, eq, he, w1' i (by omega)]
          simp
        · refine Ev.step (f := fun _ => some false) (fun k => ?_) (Ev.now _)
          simp only [impl_IsLine.l0, impl_IsPoint.f, Option.bind_some]
          rw [if_pos (by omega), if_pos (by omega), if_pos (by omega), rdPt l i h1, hp, if_pos rfl, if_pos (by omega), w1m i (by omega) (by omega), if_pos (by omega), if_pos (by omega), rdPt l (i - 1) hi1, eq, he]
          simp
theorem isLine_i (l : List S82) (hl : l.length < 9223372036854775807) : Ev (fun k => impl_IsLine.f k l) (lnB l) := by
  unfold impl_IsLine.f lnB
  have dead : Ev (fun k => impl_IsLine.j0 k l true) false := Ev.step (f := fun _ => some false) (fun k => by simp [impl_IsLine.j0]) (Ev.now _)
  by_cases h2 : (l.length : Int) < 2
  · simp only [if_pos h2]
    have : inR (l.length : Int) 2 10 = false := by unfold inR; simp; omega
    rw [this]; exact dead
  · simp only [if_neg h2]
    by_cases h10 : (l.length : Int) > 10
    · have : inR (l.length : Int) 2 10 = false := by unfold inR; simp; omega
      rw [this, decide_eq_true h10]; exact dead
    · have : inR (l.length : Int) 2 10 = true := by unfold inR; simp; omega
      rw [this, decide_eq_false h10]
      exact Ev.step (fun k => by simp [impl_IsLine.j0]) (isLine_il l hl l.length 0 (by omega))
theorem rdSg (l : List S85) (i : Nat) (h : i < l.length) : rd_T85 l (i : Int) = l.getD i z85 := by
  unfold rd_T85
  rw [Int.toNat_natCast]
def howL (p q : S85) : Int := howS p.f0.f0 p.f0.f1 p.f1.f0 p.f1.f1 q.f0.f0 q.f0.f1 q.f1.f0 q.f1.f1
def segL (p : S85) : Bool := isSeg p.f0.f0 p.f0.f1 p.f1.f0 p.f1.f1
def wantR (n i k : Nat) : Int := if k + 1 = i ∨ (k = 0 ∧ i + 1 = n) then 1 else 0
def inRow (s : List S85) (i : Nat) (k : Nat) : Bool := decide (howL (s.getD i z85) (s.getD k z85) = wantR s.length i k)
def ringS (s : List S85) (i d : Nat) : Bool := (List.range' i d).all fun i => segL (s.getD i z85) && (List.range' 0 i).all (inRow s i)
/-- The segments around. -/
def arR (l : List S82) : List S85 := (List.range l.length).map fun i => (⟨l.getD i z82, l.getD ((i + 1) % l.length) z82⟩ : S85)
def rgB (l : List S82) : Bool := inR (l.length : Int) 3 10 && ringS (arR l) 0 l.length
theorem arR_len (l : List S82) : (arR l).length = l.length := by simp [arR]
theorem arR_take (l : List S82) (i : Nat) (h : i < l.length) : (arR l).take (i + 1) = (arR l).take i ++ [(⟨l.getD i z82, l.getD ((i + 1) % l.length) z82⟩ : S85)] := by
  rw [List.take_succ_eq_append_getElem (by rw [arR_len]; exact h)]
  simp [arR]
theorem tmod_nat (a n : Nat) : Int.tmod (a : Int) (n : Int) = ((a % n : Nat) : Int) := by rw [Int.ofNat_tmod]
theorem rdPd (l : List S82) (i : Nat) : rd_T82 l (i : Int) = l.getD i z82 := by
  unfold rd_T82
  rw [Int.toNat_natCast]
theorem around_sl (l : List S82) (hl : l.length < 1000) (d : Nat) : ∀ i : Nat, i + d = l.length → Ev (fun k => spec_l7Segments.l0 k l ((arR l).take i) (i : Int)) (arR l) := by
  induction d with
  | zero =>
    intro i hi
    rw [List.take_of_length_le (by rw [arR_len]; omega)]
    refine Ev.step (f := fun _ => some _) (fun k => ?_) (Ev.now _)
    simp only [spec_l7Segments.l0]
    rw [if_neg (by omega)]
  | succ d ih =>
    intro i hi
    have h1 : i < l.length := by omega
    have hm : (i + 1) % l.length < l.length := Nat.mod_lt _ (by omega)
    refine Ev.step (fun k => ?_) (ih (i + 1) (by omega))
    have hlen : ((arR l).take i).length < 4398046511104 := by rw [List.length_take, arR_len]; omega
    simp only [spec_l7Segments.l0]
    rw [if_pos (by omega), if_pos (by omega), if_neg (by omega), w1' i (by omega), tmod_nat, if_pos (by omega), if_pos (by omega), if_pos hlen, rdPd, rdPd, arR_take l i h1]
theorem around_s (l : List S82) (hl : l.length < 1000) : Ev (fun k => spec_l7Segments.f k l) (arR l) := by
  unfold spec_l7Segments.f
  exact around_sl l hl l.length 0 (by omega)
theorem around_il (l : List S82) (hl : l.length < 1000) (d : Nat) : ∀ i : Nat, i + d = l.length → Ev (fun k => impl_around.l0 k l ((arR l).take i) l (l.length : Int) (i : Int)) (arR l) := by
  induction d with
  | zero =>
    intro i hi
    rw [List.take_of_length_le (by rw [arR_len]; omega)]
    refine Ev.step (f := fun _ => some _) (fun k => ?_) (Ev.now _)
    simp only [impl_around.l0]
    rw [if_neg (by omega)]
  | succ d ih =>
    intro i hi
    have h1 : i < l.length := by omega
    have hm : (i + 1) % l.length < l.length := Nat.mod_lt _ (by omega)
    refine Ev.step (fun k => ?_) (ih (i + 1) (by omega))
    have hlen : ((arR l).take i).length < 4398046511104 := by rw [List.length_take, arR_len]; omega
    simp only [impl_around.l0]
    rw [if_pos (by omega), if_pos (by omega), if_pos (by omega), if_neg (by omega), w1' i (by omega), tmod_nat, if_pos (by omega), if_pos (by omega), if_pos hlen, rdPd, rdPd, arR_take l i h1]
theorem around_i (l : List S82) (hl : l.length < 1000) : Ev (fun k => impl_around.f k l) (arR l) := by
  unfold impl_around.f
  exact around_il l hl l.length 0 (by omega)
theorem ring_s1 (s : List S85) (hs : s.length < 1000) (i : Nat) (hi : i < s.length) (rest : Bool) (hr : Ev (fun k => spec_IsRing.l0 k s ((i + 1 : Nat) : Int)) rest) (d : Nat) :
    ∀ k : Nat, k + d = i → Ev (fun n => spec_IsRing.l1 n s (i : Int) (k : Int)) ((List.range' k d).all (inRow s i) && rest) := by
  induction d with
  | zero =>
    intro k hk
    refine Ev.step (fun n => ?_) hr
    simp only [spec_IsRing.l1]
    rw [if_neg (by omega), w1' i (by omega)]
  | succ d ih =>
    intro k hk
    have hk1 : k < s.length := by omega
    rw [List.range'_succ, List.all_cons]
    have e2 : Ev (fun n => (spec_HowMeet.f (s.getD i z85).f0.f0 (s.getD i z85).f0.f1 (s.getD i z85).f1.f0 (s.getD i z85).f1.f1 (s.getD k z85).f0.f0 (s.getD k z85).f0.f1 (s.getD k z85).f1.f0 (s.getD k z85).f1.f1).bind fun t => if t = wantR s.length i k then spec_IsRing.l1 n s (i : Int) ((k + 1 : Nat) : Int) else some false) (inRow s i k && (List.range' (k + 1) d).all (inRow s i) && rest) := by
      refine Ev.bind (how_s _ _ _ _ _ _ _ _) ?_
      by_cases hw : howL (s.getD i z85) (s.getD k z85) = wantR s.length i k
      · have e : inRow s i k = true := by unfold inRow; exact decide_eq_true hw
        rw [e, Bool.true_and]
        have : Ev (fun n => spec_IsRing.l1 n s (i : Int) ((k + 1 : Nat) : Int)) ((List.range' (k + 1) d).all (inRow s i) && rest) := ih (k + 1) (by omega)
        refine Ev.congr (fun n => ?_) this
        exact if_pos hw
      · have e : inRow s i k = false := by unfold inRow; exact decide_eq_false hw
        rw [e]
        refine Ev.congr (fun n => ?_) (Ev.now _)
        exact if_neg hw
    have j : ∀ b : Bool, (if b = true then (1 : Int) else 0) = wantR s.length i k → Ev (fun n => spec_IsRing.j2 n s (i : Int) (k : Int) 0 b) (inRow s i k && (List.range' (k + 1) d).all (inRow s i) && rest) := by
      intro b hb
      refine Ev.step (fun n => ?_) e2
      simp only [spec_IsRing.j2]
      rw [← hb]
      cases b
      · rw [if_neg (by simp), if_pos (by omega), if_pos (by omega), if_pos (by omega), if_pos (by omega), rdSg s i hi, rdSg s k hk1, w1' k (by omega)]; rfl
      · rw [if_pos rfl, if_pos (by omega), if_pos (by omega), if_pos (by omega), if_pos (by omega), rdSg s i hi, rdSg s k hk1, w1' k (by omega)]; rfl
    by_cases z : k + 1 = i
    · refine Ev.step (fun n => ?_) (j true (by show (1 : Int) = _; unfold wantR; rw [if_pos (.inl z)]))
      simp only [spec_IsRing.l1]
      rw [if_pos (by omega), w1' k (by omega), if_pos (by omega)]
    · by_cases z0 : k = 0
      · refine Ev.step (fun n => ?_) (j (decide (i + 1 = s.length)) (by unfold wantR; by_cases q : i + 1 = s.length <;> simp [q, z0] <;> omega))
        simp only [spec_IsRing.l1]
        rw [if_pos (by omega), w1' k (by omega), if_neg (by omega), if_pos (by omega), w1' i (by omega)]
        congr 1
        rw [Bool.eq_iff_iff]; simp; omega
      · refine Ev.step (fun n => ?_) (j false (by show (0 : Int) = _; unfold wantR; rw [if_neg (by omega)]))
        simp only [spec_IsRing.l1]
        rw [if_pos (by omega), w1' k (by omega), if_neg (by omega), if_neg (by omega)]
theorem ring_s0 (s : List S85) (hs : s.length < 1000) (d : Nat) : ∀ i : Nat, i + d = s.length → Ev (fun n => spec_IsRing.l0 n s (i : Int)) (ringS s i d) := by
  induction d with
  | zero =>
    intro i hi
    refine Ev.step (f := fun _ => some true) (fun n => ?_) (Ev.now _)
    simp only [spec_IsRing.l0]
    rw [if_neg (by omega)]
  | succ d ih =>
    intro i hi
    have h1 : i < s.length := by omega
    unfold ringS
    rw [List.range'_succ, List.all_cons]
    cases hq : segL (s.getD i z85)
    · refine Ev.step (f := fun _ => some false) (fun n => ?_) (Ev.now _)
      simp only [spec_IsRing.l0, spec_IsSegment.f, Option.bind_some]
      rw [if_pos (by omega), if_pos (by omega), rdSg s i h1]
      unfold segL at hq
      rw [hq]; simp
    · refine Ev.step (fun n => ?_) (ring_s1 s hs i h1 _ (ih (i + 1) (by omega)) i 0 (by omega))
      simp only [spec_IsRing.l0, spec_IsSegment.f, Option.bind_some]
      rw [if_pos (by omega), if_pos (by omega), rdSg s i h1]
      unfold segL at hq
      rw [hq, if_pos rfl]; rfl
theorem isRing_s (l : List S82) (hl : l.length < 9223372036854775807) : Ev (fun k => spec_IsRing.f k l) (rgB l) := by
  unfold spec_IsRing.f rgB spec_l1In.f
  simp only [Option.bind_some]
  cases h : inR (l.length : Int) 3 10
  · simp only [Bool.false_eq_true, if_false, Bool.false_and]; exact Ev.now _
  · have hb : l.length < 1000 := by unfold inR at h; simp at h; omega
    simp only [if_true, Bool.true_and]
    refine Ev.bind (around_s l hb) ?_
    have := ring_s0 (arR l) (by rw [arR_len]; exact hb) l.length 0 (by rw [arR_len]; omega)
    exact this
theorem ring_i1 (s : List S85) (hs : s.length < 1000) (i : Nat) (hi : i < s.length) (rest : Bool) (hr : Ev (fun k => impl_IsRing.l0 k s (s.length : Int) ((i + 1 : Nat) : Int)) rest) (d : Nat) :
    ∀ k : Nat, k + d = i → Ev (fun n => impl_IsRing.l1 n s (i : Int) (s.length : Int) (i : Int) (i : Int) (k : Int)) ((List.range' k d).all (inRow s i) && rest) := by
  induction d with
  | zero =>
    intro k hk
    refine Ev.step (fun n => ?_) hr
    simp only [impl_IsRing.l1]
    rw [if_neg (by omega), w1' i (by omega)]
  | succ d ih =>
    intro k hk
    have hk1 : k < s.length := by omega
    rw [List.range'_succ, List.all_cons]
    have e2 : Ev (fun n => (impl_HowMeet.f n (s.getD i z85).f0.f0 (s.getD i z85).f0.f1 (s.getD i z85).f1.f0 (s.getD i z85).f1.f1 (s.getD k z85).f0.f0 (s.getD k z85).f0.f1 (s.getD k z85).f1.f0 (s.getD k z85).f1.f1).bind fun t => if t = wantR s.length i k then impl_IsRing.l1 n s (i : Int) (s.length : Int) (i : Int) (i : Int) ((k + 1 : Nat) : Int) else some false) (inRow s i k && (List.range' (k + 1) d).all (inRow s i) && rest) := by
      refine Ev.bind (how_i _ _ _ _ _ _ _ _) ?_
      by_cases hw : howL (s.getD i z85) (s.getD k z85) = wantR s.length i k
      · have e : inRow s i k = true := by unfold inRow; exact decide_eq_true hw
        rw [e, Bool.true_and]
        refine Ev.congr (fun n => ?_) (ih (k + 1) (by omega))
        exact if_pos hw
      · have e : inRow s i k = false := by unfold inRow; exact decide_eq_false hw
        rw [e]
        refine Ev.congr (fun n => ?_) (Ev.now _)
        exact if_neg hw
    have j : ∀ b : Bool, (if b = true then (1 : Int) else 0) = wantR s.length i k → Ev (fun n => impl_IsRing.j3 n s (i : Int) (k : Int) 0 (s.length : Int) (i : Int) (i : Int) (k : Int) b) (inRow s i k && (List.range' (k + 1) d).all (inRow s i) && rest) := by
      intro b hb
      refine Ev.step (fun n => ?_) e2
      simp only [impl_IsRing.j3]
      rw [← hb]
      cases b
      · rw [if_neg (by simp), if_pos (by omega), if_pos (by omega), if_pos (by omega), if_pos (by omega), rdSg s i hi, rdSg s k hk1, w1' k (by omega)]; rfl
      · rw [if_pos rfl, if_pos (by omega), if_pos (by omega), if_pos (by omega), if_pos (by omega), rdSg s i hi, rdSg s k hk1, w1' k (by omega)]; rfl
    have wi : wrap64 ((i : Int) - 1) = (i : Int) - 1 := by unfold wrap64; omega
    have wn : wrap64 ((s.length : Int) - 1) = (s.length : Int) - 1 := by unfold wrap64; omega
    by_cases z : k + 1 = i
    · refine Ev.step (fun n => ?_) (j true (by show (1 : Int) = _; unfold wantR; rw [if_pos (.inl z)]))
      simp only [impl_IsRing.l1]
      rw [if_pos (by omega), wi, if_pos (by omega)]
    · by_cases z0 : k = 0
      · refine Ev.step (fun n => ?_) (j (decide (i + 1 = s.length)) (by unfold wantR; by_cases q : i + 1 = s.length <;> simp [q, z0] <;> omega))
        simp only [impl_IsRing.l1]
        rw [if_pos (by omega), wi, if_neg (by omega), if_pos (by omega), wn]
        congr 1
        rw [Bool.eq_iff_iff]; simp; omega
      · refine Ev.step (fun n => ?_) (j false (by show (0 : Int) = _; unfold wantR; rw [if_neg (by omega)]))
        simp only [impl_IsRing.l1]
        rw [if_pos (by omega), wi, if_neg (by omega), if_neg (by omega)]
theorem ring_i0 (s : List S85) (hs : s.length < 1000) (d : Nat) : ∀ i : Nat, i + d = s.length → Ev (fun n => impl_IsRing.l0 n s (s.length : Int) (i : Int)) (ringS s i d) := by
  induction d with
  | zero =>
    intro i hi
    refine Ev.step (f := fun _ => some true) (fun n => ?_) (Ev.now _)
    simp only [impl_IsRing.l0]
    rw [if_neg (by omega)]
  | succ d ih =>
    intro i hi
    have h1 : i < s.length := by omega
    unfold ringS
    rw [List.range'_succ, List.all_cons]
    cases hq : segL (s.getD i z85)
    · refine Ev.step (f := fun _ => some false) (fun n => ?_) (Ev.now _)
      simp only [impl_IsRing.l0, impl_IsSegment.f, Option.bind_some]
      rw [if_pos (by omega), if_pos (by omega), if_pos (by omega), rdSg s i h1]
      unfold segL at hq
      rw [hq]; simp
    · refine Ev.step (fun n => ?_) (ring_i1 s hs i h1 _ (ih (i + 1) (by omega)) i 0 (by omega))
      simp only [impl_IsRing.l0, impl_IsSegment.f, Option.bind_some]
      rw [if_pos (by omega), if_pos (by omega), if_pos (by omega), rdSg s i h1]
      unfold segL at hq
      rw [hq, if_pos rfl]; rfl
theorem isRing_i (l : List S82) (hl : l.length < 9223372036854775807) : Ev (fun k => impl_IsRing.f k l) (rgB l) := by
  unfold impl_IsRing.f rgB
  have dead : Ev (fun k => impl_IsRing.j0 k l true) false := Ev.step (f := fun _ => some false) (fun k => by simp [impl_IsRing.j0]) (Ev.now _)
  by_cases h2 : (l.length : Int) < 3
  · simp only [if_pos h2]
    have : inR (l.length : Int) 3 10 = false := by unfold inR; simp; omega
    rw [this]; exact dead
  · simp only [if_neg h2]
    by_cases h10 : (l.length : Int) > 10
    · have : inR (l.length : Int) 3 10 = false := by unfold inR; simp; omega
      rw [this, decide_eq_true h10]; exact dead
    · have : inR (l.length : Int) 3 10 = true := by unfold inR; simp; omega
      rw [this, decide_eq_false h10]
      have hb : l.length < 1000 := by omega
      refine Ev.step (f := fun k => (impl_around.f k l).bind fun t => impl_IsRing.l0 k t (t.length : Int) 0) (fun k => by simp [impl_IsRing.j0]) (Ev.bind (around_i l hb) ?_)
      exact ring_i0 (arR l) (by rw [arR_len]; exact hb) l.length 0 (by rw [arR_len]; omega)
def nmB (s : ByteArray) : Bool := (List.range' 0 s.size).all (fun (i : Nat) => decide (97 ≤ bt s (i : Int)) && decide (bt s (i : Int) ≤ 122)) && inR (s.size : Int) 1 8
theorem nm_loop_s (s : ByteArray) (hs : s.size ≤ 9223372036854775807) (d : Nat) : ∀ i : Nat, i + d = s.size → Ev (fun k => spec_IsName.l0 k s (i : Int)) ((List.range' i d).all (fun (i : Nat) => decide (97 ≤ bt s (i : Int)) && decide (bt s (i : Int) ≤ 122)) && inR (s.size : Int) 1 8) := by
  induction d with
  | zero =>
    intro i hi
    refine Ev.step (f := fun _ => some (inR (s.size : Int) 1 8)) (fun k => ?_) (Ev.now _)
    simp only [spec_IsName.l0, spec_l1In.f]
    rw [if_neg (by omega)]; rfl
  | succ d ih =>
    intro i hi
    rw [List.range'_succ, List.all_cons]
    by_cases h1 : bt s (i : Int) < 97
    · rw [decide_eq_false (show ¬ 97 ≤ bt s (i : Int) by omega)]
      refine Ev.step (f := fun _ => some false) (fun k => ?_) (Ev.now _)
      simp only [spec_IsName.l0]
      rw [if_pos (by omega), if_pos (by omega), if_pos h1]
    · by_cases h2 : bt s (i : Int) > 122
      · rw [decide_eq_true (show 97 ≤ bt s (i : Int) by omega), decide_eq_false (show ¬ bt s (i : Int) ≤ 122 by omega)]
        refine Ev.step (f := fun _ => some false) (fun k => ?_) (Ev.now _)
        simp only [spec_IsName.l0]
        rw [if_pos (by omega), if_pos (by omega), if_neg h1, if_pos h2]
      · rw [decide_eq_true (show 97 ≤ bt s (i : Int) by omega), decide_eq_true (show bt s (i : Int) ≤ 122 by omega)]
        refine Ev.step (fun k => ?_) (ih (i + 1) (by omega))
        simp only [spec_IsName.l0]
        rw [if_pos (by omega), if_pos (by omega), if_neg h1, if_neg h2, w1' i (by omega)]
theorem nm_s (s : ByteArray) (hs : s.size ≤ 9223372036854775807) : Ev (fun k => spec_IsName.f k s) (nmB s) := nm_loop_s s hs s.size 0 (by omega)
theorem nm_loop_i (s : ByteArray) (hs : s.size ≤ 9223372036854775807) (d : Nat) : ∀ i : Nat, i + d = s.size → Ev (fun k => impl_IsName.l0 k s (s.size : Int) (i : Int)) ((List.range' i d).all (fun (i : Nat) => decide (97 ≤ bt s (i : Int)) && decide (bt s (i : Int) ≤ 122)) && inR (s.size : Int) 1 8) := by
  induction d with
  | zero =>
    intro i hi
    refine Ev.step (f := fun _ => some (inR (s.size : Int) 1 8)) (fun k => ?_) (Ev.now _)
    simp only [impl_IsName.l0, impl_InRange.f]
    rw [if_neg (by omega)]; rfl
  | succ d ih =>
    intro i hi
    rw [List.range'_succ, List.all_cons]
    by_cases h1 : bt s (i : Int) < 97
    · rw [decide_eq_false (show ¬ 97 ≤ bt s (i : Int) by omega)]
      refine Ev.step (f := fun _ => some false) (fun k => ?_) (Ev.now _)
      simp only [impl_IsName.l0]
      rw [if_pos (by omega), if_pos (by omega), if_pos (by omega), if_pos h1]
    · by_cases h2 : bt s (i : Int) > 122
      · rw [decide_eq_true (show 97 ≤ bt s (i : Int) by omega), decide_eq_false (show ¬ bt s (i : Int) ≤ 122 by omega)]
        refine Ev.step (f := fun _ => some false) (fun k => ?_) (Ev.now _)
        simp only [impl_IsName.l0]
        rw [if_pos (by omega), if_pos (by omega), if_pos (by omega), if_neg h1, if_pos h2]
      · rw [decide_eq_true (show 97 ≤ bt s (i : Int) by omega), decide_eq_true (show bt s (i : Int) ≤ 122 by omega)]
        refine Ev.step (fun k => ?_) (ih (i + 1) (by omega))
        simp only [impl_IsName.l0]
        rw [if_pos (by omega), if_pos (by omega), if_pos (by omega), if_neg h1, if_neg h2, w1' i (by omega)]
theorem nm_i (s : ByteArray) (hs : s.size ≤ 9223372036854775807) : Ev (fun k => impl_IsName.f k s) (nmB s) := nm_loop_i s hs s.size 0 (by omega)
theorem lnB_len {l : List S82} (h : lnB l = true) : 2 ≤ l.length ∧ l.length ≤ 10 := by
  unfold lnB inR at h; simp at h; omega
theorem rgB_len {l : List S82} (h : rgB l = true) : 3 ≤ l.length ∧ l.length ≤ 10 := by
  unfold rgB inR at h; simp at h; omega
/-- The segments of a line, one behind the other. -/
def sgR (l : List S82) : List S85 := (List.range (l.length - 1)).map fun i => (⟨l.getD i z82, l.getD (i + 1) z82⟩ : S85)
def sgL (l : List S82) : List S85 := if lnB l then sgR l else []
theorem sgR_len (l : List S82) : (sgR l).length = l.length - 1 := by simp [sgR]
theorem sgR_take (l : List S82) (i : Nat) (h : i + 1 < l.length) : (sgR l).take (i + 1) = (sgR l).take i ++ [(⟨l.getD i z82, l.getD (i + 1) z82⟩ : S85)] := by
  rw [List.take_succ_eq_append_getElem (by rw [sgR_len]; omega)]
  simp [sgR]
theorem seg_sl (l : List S82) (hl : lnB l = true) (d : Nat) : ∀ i : Nat, i + 1 + d = l.length → Ev (fun k => spec_SegmentsOf.l0 k l ((sgR l).take i) ((i + 1 : Nat) : Int)) (sgR l) := by
  have hb := lnB_len hl
  induction d with
  | zero =>
    intro i hi
    rw [List.take_of_length_le (by rw [sgR_len]; omega)]
    refine Ev.step (f := fun _ => some _) (fun k => ?_) (Ev.now _)
    simp only [spec_SegmentsOf.l0]
    rw [if_neg (by omega)]
  | succ d ih =>
    intro i hi
    have hlen : ((sgR l).take i).length < 4398046511104 := by rw [List.length_take, sgR_len]; omega
    have w : wrap64 (((i + 1 : Nat) : Int) - 1) = (i : Int) := by unfold wrap64; omega
    refine Ev.step (f := fun k => (spec_IsLine.f k l).bind fun t => if t = true then spec_SegmentsOf.l0 k l ((sgR l).take (i + 1)) ((i + 1 + 1 : Nat) : Int) else some ((sgR l).take i)) (fun k => ?_) (Ev.bind (isLine_s l (by omega)) ?_)
    · simp only [spec_SegmentsOf.l0]
      rw [if_pos (by omega), w, if_pos (by omega), if_pos (by omega), if_pos (by omega), if_pos hlen, rdPd, rdPd, sgR_take l i (by omega), w1' (i + 1) (by omega)]
    · rw [hl]
      simp only [if_true]
      exact ih (i + 1) (by omega)
theorem seg_s (l : List S82) (hl : l.length < 9223372036854775807) : Ev (fun k => spec_SegmentsOf.f k l) (sgL l) := by
  unfold spec_SegmentsOf.f sgL
  cases h : lnB l
  · by_cases h1 : (1 : Int) < (l.length : Int)
    · refine Ev.step (f := fun k => (spec_IsLine.f k l).bind fun t => if t = true then spec_SegmentsOf.l0 (k + 1) l [] 1 else some []) (fun k => ?_) (Ev.bind (isLine_s l hl) ?_)
      · simp only [spec_SegmentsOf.l0]
        rw [if_pos h1]
        cases hh : spec_IsLine.f k l with
        | none => rfl
        | some b => cases b <;> simp [h1]
      · rw [h]; simp only [Bool.false_eq_true, if_false]; exact Ev.now _
    · refine Ev.step (f := fun _ => some []) (fun k => ?_) (Ev.now _)
      simp only [spec_SegmentsOf.l0]
      rw [if_neg h1]
  · have hb := lnB_len h
    exact seg_sl l h (l.length - 1) 0 (by omega)
theorem seg_il (l : List S82) (hl : lnB l = true) (d : Nat) : ∀ i : Nat, i + 1 + d = l.length → Ev (fun k => impl_SegmentsOf.l0 k l ((sgR l).take i) ((i + 1 : Nat) : Int)) (sgR l) := by
  have hb := lnB_len hl
  induction d with
  | zero =>
    intro i hi
    rw [List.take_of_length_le (by rw [sgR_len]; omega)]
    refine Ev.step (f := fun _ => some _) (fun k => ?_) (Ev.now _)
    simp only [impl_SegmentsOf.l0]
    rw [if_neg (by omega)]
  | succ d ih =>
    intro i hi
    have hlen : ((sgR l).take i).length < 4398046511104 := by rw [List.length_take, sgR_len]; omega
    have w : wrap64 (((i + 1 : Nat) : Int) - 1) = (i : Int) := by unfold wrap64; omega
    refine Ev.step (fun k => ?_) (ih (i + 1) (by omega))
    simp only [impl_SegmentsOf.l0]
    rw [if_pos (by omega), w, if_pos (by omega), if_pos (by omega), if_pos (by omega), if_pos hlen, rdPd, rdPd, sgR_take l i (by omega), w1' (i + 1) (by omega)]
theorem seg_i (l : List S82) (hl : l.length < 9223372036854775807) : Ev (fun k => impl_SegmentsOf.f k l) (sgL l) := by
  unfold impl_SegmentsOf.f sgL
  simp only [Option.bind_some]
  refine Ev.bind (isLine_i l hl) ?_
  cases h : lnB l
  · simp only [Bool.false_eq_true, if_false]; exact Ev.now _
  · have hb := lnB_len h
    simp only [if_true]
    exact seg_il l h (l.length - 1) 0 (by omega)
def wantS (i k : Nat) : Int := if k + 1 = i then 1 else 0
def inRow2 (s : List S85) (i : Nat) (k : Nat) : Bool := decide (howL (s.getD i z85) (s.getD k z85) = wantS i k)
def simS (s : List S85) (i d : Nat) : Bool := (List.range' i d).all fun i => (List.range' 0 i).all (inRow2 s i)
def smB (l : List S82) : Bool := lnB l && simS (sgL l) 0 (sgL l).length
theorem sim_s1 (l : List S82) (s : List S85) (hs : s.length < 1000) (i : Nat) (hi : i < s.length) (rest : Bool) (hr : Ev (fun k => spec_IsSimple.l0 k l s ((i + 1 : Nat) : Int)) rest) (d : Nat) :
    ∀ k : Nat, k + d = i → Ev (fun n => spec_IsSimple.l1 n l s (i : Int) (k : Int)) ((List.range' k d).all (inRow2 s i) && rest) := by
  induction d with
  | zero =>
    intro k hk
    refine Ev.step (fun n => ?_) hr
    simp only [spec_IsSimple.l1]
    rw [if_neg (by omega), w1' i (by omega)]
  | succ d ih =>
    intro k hk
    have hk1 : k < s.length := by omega
    rw [List.range'_succ, List.all_cons]
    have e2 : Ev (fun n => (spec_HowMeet.f (s.getD i z85).f0.f0 (s.getD i z85).f0.f1 (s.getD i z85).f1.f0 (s.getD i z85).f1.f1 (s.getD k z85).f0.f0 (s.getD k z85).f0.f1 (s.getD k z85).f1.f0 (s.getD k z85).f1.f1).bind fun t => if t = wantS i k then spec_IsSimple.l1 n l s (i : Int) ((k + 1 : Nat) : Int) else some false) (inRow2 s i k && (List.range' (k + 1) d).all (inRow2 s i) && rest) := by
      refine Ev.bind (how_s _ _ _ _ _ _ _ _) ?_
      by_cases hw : howL (s.getD i z85) (s.getD k z85) = wantS i k
      · have e : inRow2 s i k = true := by unfold inRow2; exact decide_eq_true hw
        rw [e, Bool.true_and]
        refine Ev.congr (fun n => ?_) (ih (k + 1) (by omega))
        exact if_pos hw
      · have e : inRow2 s i k = false := by unfold inRow2; exact decide_eq_false hw
        rw [e]
        refine Ev.congr (fun n => ?_) (Ev.now _)
        exact if_neg hw
    refine Ev.step (fun n => ?_) e2
    simp only [spec_IsSimple.l1]
    by_cases z : k + 1 = i
    · have hw : wantS i k = 1 := by unfold wantS; rw [if_pos z]
      rw [hw, if_pos (by omega), w1' k (by omega), if_pos (by omega), if_pos (by omega), if_pos (by omega), if_pos (by omega), if_pos (by omega), rdSg s i hi, rdSg s k hk1]
    · have hw : wantS i k = 0 := by unfold wantS; rw [if_neg z]
      rw [hw, if_pos (by omega), w1' k (by omega), if_neg (by omega), if_pos (by omega), if_pos (by omega), if_pos (by omega), if_pos (by omega), rdSg s i hi, rdSg s k hk1]
theorem sim_s0 (l : List S82) (hl : l.length < 9223372036854775807) (s : List S85) (hs : s.length < 1000) (d : Nat) : ∀ i : Nat, i + d = s.length → Ev (fun n => spec_IsSimple.l0 n l s (i : Int)) (simS s i d && lnB l) := by
  induction d with
  | zero =>
    intro i hi
    refine Ev.step (f := fun k => (spec_IsLine.f k l).bind fun t => some t) (fun n => ?_) (Ev.bind (isLine_s l hl) (Ev.now _))
    simp only [spec_IsSimple.l0]
    rw [if_neg (by omega)]
  | succ d ih =>
    intro i hi
    have h1 : i < s.length := by omega
    unfold simS
    rw [List.range'_succ, List.all_cons, Bool.and_assoc]
    refine Ev.step (fun n => ?_) (sim_s1 l s hs i h1 _ (ih (i + 1) (by omega)) i 0 (by omega))
    simp only [spec_IsSimple.l0]
    rw [if_pos (by omega)]; rfl
theorem sgL_len (l : List S82) : (sgL l).length < 1000 := by
  unfold sgL
  cases h : lnB l
  · simp
  · have := lnB_len h; simp [sgR_len]; omega
theorem isSimple_s (l : List S82) (hl : l.length < 9223372036854775807) : Ev (fun k => spec_IsSimple.f k l) (smB l) := by
  unfold spec_IsSimple.f smB
  refine Ev.bind (seg_s l hl) ?_
  rw [Bool.and_comm]
  exact sim_s0 l hl (sgL l) (sgL_len l) (sgL l).length 0 (by omega)
theorem sim_i1 (s : List S85) (hs : s.length < 1000) (i : Nat) (hi : i < s.length) (rest : Bool) (hr : Ev (fun k => impl_IsSimple.l0 k s (s.length : Int) ((i + 1 : Nat) : Int)) rest) (d : Nat) :
    ∀ k : Nat, k + d = i → Ev (fun n => impl_IsSimple.l1 n s (i : Int) (s.length : Int) (i : Int) (i : Int) (k : Int)) ((List.range' k d).all (inRow2 s i) && rest) := by
  induction d with
  | zero =>
    intro k hk
    refine Ev.step (fun n => ?_) hr
    simp only [impl_IsSimple.l1]
    rw [if_neg (by omega), w1' i (by omega)]
  | succ d ih =>
    intro k hk
    have hk1 : k < s.length := by omega
    rw [List.range'_succ, List.all_cons]
    have e2 : Ev (fun n => (impl_HowMeet.f n (s.getD i z85).f0.f0 (s.getD i z85).f0.f1 (s.getD i z85).f1.f0 (s.getD i z85).f1.f1 (s.getD k z85).f0.f0 (s.getD k z85).f0.f1 (s.getD k z85).f1.f0 (s.getD k z85).f1.f1).bind fun t => if t = wantS i k then impl_IsSimple.l1 n s (i : Int) (s.length : Int) (i : Int) (i : Int) ((k + 1 : Nat) : Int) else some false) (inRow2 s i k && (List.range' (k + 1) d).all (inRow2 s i) && rest) := by
      refine Ev.bind (how_i _ _ _ _ _ _ _ _) ?_
      by_cases hw : howL (s.getD i z85) (s.getD k z85) = wantS i k
      · have e : inRow2 s i k = true := by unfold inRow2; exact decide_eq_true hw
        rw [e, Bool.true_and]
        refine Ev.congr (fun n => ?_) (ih (k + 1) (by omega))
        exact if_pos hw
      · have e : inRow2 s i k = false := by unfold inRow2; exact decide_eq_false hw
        rw [e]
        refine Ev.congr (fun n => ?_) (Ev.now _)
        exact if_neg hw
    have wi : wrap64 ((i : Int) - 1) = (i : Int) - 1 := by unfold wrap64; omega
    refine Ev.step (fun n => ?_) e2
    simp only [impl_IsSimple.l1]
    by_cases z : k + 1 = i
    · have hw : wantS i k = 1 := by unfold wantS; rw [if_pos z]
      rw [hw, if_pos (by omega), wi, if_pos (by omega), if_pos (by omega), if_pos (by omega), if_pos (by omega), if_pos (by omega), rdSg s i hi, rdSg s k hk1, w1' k (by omega)]
    · have hw : wantS i k = 0 := by unfold wantS; rw [if_neg z]
      rw [hw, if_pos (by omega), wi, if_neg (by omega), if_pos (by omega), if_pos (by omega), if_pos (by omega), if_pos (by omega), rdSg s i hi, rdSg s k hk1, w1' k (by omega)]
theorem sim_i0 (s : List S85) (hs : s.length < 1000) (d : Nat) : ∀ i : Nat, i + d = s.length → Ev (fun n => impl_IsSimple.l0 n s (s.length : Int) (i : Int)) (simS s i d) := by
  induction d with
  | zero =>
    intro i hi
    refine Ev.step (f := fun _ => some true) (fun n => ?_) (Ev.now _)
    simp only [impl_IsSimple.l0]
    rw [if_neg (by omega)]
  | succ d ih =>
    intro i hi
    have h1 : i < s.length := by omega
    unfold simS
    rw [List.range'_succ, List.all_cons]
    refine Ev.step (fun n => ?_) (sim_i1 s hs i h1 _ (ih (i + 1) (by omega)) i 0 (by omega))
    simp only [impl_IsSimple.l0]
    rw [if_pos (by omega)]; rfl
theorem isSimple_i (l : List S82) (hl : l.length < 9223372036854775807) : Ev (fun k => impl_IsSimple.f k l) (smB l) := by
  unfold impl_IsSimple.f smB
  refine Ev.bind (isLine_i l hl) ?_
  cases h : lnB l
  · simp only [Bool.false_eq_true, if_false, Bool.false_and]; exact Ev.now _
  · simp only [if_true, Bool.true_and]
    refine Ev.bind (seg_i l hl) ?_
    exact sim_i0 (sgL l) (sgL_len l) (sgL l).length 0 (by omega)
def kdB (kd : Int) (l : List S82) : Bool := if kd = 1 then decide (l.length = 1) && isPt (l.getD 0 z82).f0 (l.getD 0 z82).f1 else if kd = 2 then smB l else if kd = 3 then rgB l else false
def ftB (a b c : Int) (s : ByteArray) (l : List S82) : Bool := inR a 1 99 && (inR c 0 9 && ((decide (s.toList = ([] : List UInt8)) || nmB s) && kdB b l))
theorem rdP0 (l : List S82) : rd_T82 l 0 = l.getD 0 z82 := rfl
theorem ft_js (a b c : Int) (s : ByteArray) (l : List S82) (hl : l.length < 9223372036854775807) (q : Bool) : Ev (fun k => spec_IsFeature.j0 k q a b c s l) (!q && kdB b l) := by
  cases q
  · unfold kdB
    by_cases h1 : b = 1
    · refine Ev.step (f := fun _ => some (decide (l.length = 1) && isPt (l.getD 0 z82).f0 (l.getD 0 z82).f1)) (fun k => ?_) (by simp only [if_pos h1]; exact Ev.now _)
      simp only [spec_IsFeature.j0, Bool.false_eq_true, if_false, if_pos h1, spec_IsPoint.f, Option.bind_some, rdP0]
      by_cases h : (l.length : Int) = 1
      · rw [if_pos h, if_pos (by omega), decide_eq_true (show l.length = 1 by omega)]; rfl
      · rw [if_neg h, decide_eq_false (show ¬ l.length = 1 by omega)]; rfl
    · by_cases h2 : b = 2
      · simp only [if_neg h1, if_pos h2]
        refine Ev.step (f := fun k => (spec_IsSimple.f k l).bind fun t => some t) (fun k => ?_) (Ev.bind (isSimple_s l hl) (Ev.now _))
        simp only [spec_IsFeature.j0, Bool.false_eq_true, if_false, if_neg h1, if_pos h2]
      · by_cases h3 : b = 3
        · simp only [if_neg h1, if_neg h2, if_pos h3]
          refine Ev.step (f := fun k => (spec_IsRing.f k l).bind fun t => some t) (fun k => ?_) (Ev.bind (isRing_s l hl) (Ev.now _))
          simp only [spec_IsFeature.j0, Bool.false_eq_true, if_false, if_neg h1, if_neg h2, if_pos h3]
        · simp only [if_neg h1, if_neg h2, if_neg h3]
          refine Ev.step (f := fun _ => some false) (fun k => ?_) (Ev.now _)
          simp only [spec_IsFeature.j0, Bool.false_eq_true, if_false, if_neg h1, if_neg h2, if_neg h3]
  · refine Ev.step (f := fun _ => some false) (fun k => ?_) (Ev.now _)
    simp [spec_IsFeature.j0]
theorem ft_s (a b c : Int) (s : ByteArray) (hs : s.size ≤ 9223372036854775807) (l : List S82) (hl : l.length < 9223372036854775807) : Ev (fun k => spec_IsFeature.f k a b c s l) (ftB a b c s l) := by
  unfold spec_IsFeature.f ftB spec_l1In.f
  simp only [Option.bind_some]
  cases inR a 1 99
  · simp only [Bool.false_eq_true, if_false]; exact ft_js a b c s l hl true
  · cases inR c 0 9
    · simp only [if_true, Bool.false_eq_true, if_false]; exact ft_js a b c s l hl true
    · simp only [if_true, Bool.true_and]
      by_cases he : s.toList = ([] : List UInt8)
      · simp only [if_pos he, decide_eq_true he, Bool.true_or]; exact ft_js a b c s l hl false
      · simp only [if_neg he, decide_eq_false he, Bool.false_or]
        refine Ev.bind (nm_s s hs) ?_
        have := ft_js a b c s l hl (!nmB s)
        rw [Bool.not_not] at this
        exact this
theorem ft_ji (a b c : Int) (s : ByteArray) (l : List S82) (hl : l.length < 9223372036854775807) (q : Bool) : Ev (fun k => impl_IsFeature.j0 k q a b c s l) (!q && kdB b l) := by
  cases q
  · unfold kdB
    by_cases h1 : b = 1
    · refine Ev.step (f := fun _ => some (decide (l.length = 1) && isPt (l.getD 0 z82).f0 (l.getD 0 z82).f1)) (fun k => ?_) (by simp only [if_pos h1]; exact Ev.now _)
      simp only [impl_IsFeature.j0, Bool.false_eq_true, if_false, if_pos h1, impl_IsPoint.f, Option.bind_some, rdP0]
      by_cases h : (l.length : Int) = 1
      · rw [if_pos h, if_pos (by omega), decide_eq_true (show l.length = 1 by omega)]; rfl
      · rw [if_neg h, decide_eq_false (show ¬ l.length = 1 by omega)]; rfl
    · by_cases h2 : b = 2
      · simp only [if_neg h1, if_pos h2]
        refine Ev.step (f := fun k => (impl_IsSimple.f k l).bind fun t => some t) (fun k => ?_) (Ev.bind (isSimple_i l hl) (Ev.now _))
        simp only [impl_IsFeature.j0, Bool.false_eq_true, if_false, if_neg h1, if_pos h2]
      · by_cases h3 : b = 3
        · simp only [if_neg h1, if_neg h2, if_pos h3]
          refine Ev.step (f := fun k => (impl_IsRing.f k l).bind fun t => some t) (fun k => ?_) (Ev.bind (isRing_i l hl) (Ev.now _))
          simp only [impl_IsFeature.j0, Bool.false_eq_true, if_false, if_neg h1, if_neg h2, if_pos h3]
        · simp only [if_neg h1, if_neg h2, if_neg h3]
          refine Ev.step (f := fun _ => some false) (fun k => ?_) (Ev.now _)
          simp only [impl_IsFeature.j0, Bool.false_eq_true, if_false, if_neg h1, if_neg h2, if_neg h3]
  · refine Ev.step (f := fun _ => some false) (fun k => ?_) (Ev.now _)
    simp [impl_IsFeature.j0]
theorem ft_i (a b c : Int) (s : ByteArray) (hs : s.size ≤ 9223372036854775807) (l : List S82) (hl : l.length < 9223372036854775807) : Ev (fun k => impl_IsFeature.f k a b c s l) (ftB a b c s l) := by
  unfold impl_IsFeature.f ftB impl_InRange.f
  simp only [Option.bind_some]
  cases inR a 1 99
  · simp only [Bool.false_eq_true, if_false]; exact ft_ji a b c s l hl true
  · cases inR c 0 9
    · simp only [if_true, Bool.false_eq_true, if_false]; exact ft_ji a b c s l hl true
    · simp only [if_true, Bool.true_and]
      by_cases he : s.toList = ([] : List UInt8)
      · simp only [if_pos he, decide_eq_true he, Bool.true_or]; exact ft_ji a b c s l hl false
      · simp only [if_neg he, decide_eq_false he, Bool.false_or]
        refine Ev.bind (nm_i s hs) ?_
        have := ft_ji a b c s l hl (!nmB s)
        rw [Bool.not_not] at this
        exact this
def prB (a b c : Int) (s : ByteArray) (l : List S82) : List S85 := if ftB a b c s l then (if b = 2 then sgL l else if b = 3 then (if rgB l then arR l else []) else []) else []
theorem pr_s (a b c : Int) (s : ByteArray) (hs : s.size ≤ 9223372036854775807) (l : List S82) (hl : l.length < 9223372036854775807) : Ev (fun k => spec_PartsOf.f k a b c s l) (prB a b c s l) := by
  unfold spec_PartsOf.f prB
  refine Ev.bind (ft_s a b c s hs l hl) ?_
  cases ftB a b c s l
  · simp only [Bool.false_eq_true, if_false]; exact Ev.now _
  · simp only [if_true]
    by_cases h2 : b = 2
    · simp only [if_pos h2]; exact Ev.bind (seg_s l hl) (Ev.now _)
    · by_cases h3 : b = 3
      · simp only [if_neg h2, if_pos h3]
        refine Ev.bind (a := if rgB l then arR l else []) ?_ (Ev.now _)
        unfold spec_RingSegments.f
        refine Ev.bind (isRing_s l hl) ?_
        cases h : rgB l
        · simp only [Bool.false_eq_true, if_false]; exact Ev.now _
        · simp only [if_true]
          have := rgB_len h
          exact Ev.bind (around_s l (by omega)) (Ev.now _)
      · simp only [if_neg h2, if_neg h3]; exact Ev.now _
theorem pr_i (a b c : Int) (s : ByteArray) (hs : s.size ≤ 9223372036854775807) (l : List S82) (hl : l.length < 9223372036854775807) : Ev (fun k => impl_PartsOf.f k a b c s l) (prB a b c s l) := by
  unfold impl_PartsOf.f prB
  refine Ev.bind (ft_i a b c s hs l hl) ?_
  cases ftB a b c s l
  · simp only [Bool.false_eq_true, if_false]; exact Ev.now _
  · simp only [if_true]
    by_cases h2 : b = 2
    · simp only [if_pos h2]; exact Ev.bind (seg_i l hl) (Ev.now _)
    · by_cases h3 : b = 3
      · simp only [if_neg h2, if_pos h3]
        refine Ev.bind (a := if rgB l then arR l else []) ?_ (Ev.now _)
        unfold impl_RingSegments.f
        refine Ev.bind (isRing_i l hl) ?_
        cases h : rgB l
        · simp only [Bool.false_eq_true, if_false]; exact Ev.now _
        · simp only [if_true]
          have := rgB_len h
          exact Ev.bind (around_i l (by omega)) (Ev.now _)
      · simp only [if_neg h2, if_neg h3]; exact Ev.now _
theorem prB_len (a b c : Int) (s : ByteArray) (l : List S82) : (prB a b c s l).length < 1000 := by
  unfold prB
  split
  · split
    · exact sgL_len l
    · split
      · cases h : rgB l
        · simp
        · have := rgB_len h; simp [arR_len]; omega
      · simp
  · simp
def boxB (a b c d : Int) : Bool := isPt a b && (isPt c d && (decide (a ≤ c) && decide (b ≤ d)))
theorem box_s (a b c d : Int) : spec_IsBox.f a b c d = some (boxB a b c d) := by
  unfold spec_IsBox.f boxB spec_IsPoint.f
  simp only [Option.bind_some]
  cases isPt a b
  · rfl
  · cases isPt c d
    · rfl
    · by_cases h : a ≤ c
      · simp [h]
      · simp [h]
theorem box_i (a b c d : Int) : impl_IsBox.f a b c d = some (boxB a b c d) := by
  unfold impl_IsBox.f boxB impl_IsPoint.f
  simp only [Option.bind_some]
  cases isPt a b
  · rfl
  · cases isPt c d
    · rfl
    · by_cases h : a ≤ c
      · simp [h]
      · simp [h]
theorem isPt_bd {x y : Int} (h : isPt x y = true) : 0 ≤ x ∧ x ≤ 200 ∧ 0 ≤ y ∧ y ≤ 200 := by
  simp only [isPt, inR, Bool.and_eq_true, decide_eq_true_eq] at h
  omega
theorem box_bound {a b c d : Int} (h : boxB a b c d = true) : 0 ≤ a ∧ a ≤ 200 ∧ 0 ≤ b ∧ b ≤ 200 ∧ 0 ≤ c ∧ c ≤ 200 ∧ 0 ≤ d ∧ d ≤ 200 := by
  simp only [boxB, Bool.and_eq_true] at h
  have := isPt_bd h.1
  have := isPt_bd h.2.1
  omega
theorem mn_bound (a b : Int) (h : 0 ≤ a ∧ a ≤ 200) (h' : 0 ≤ b ∧ b ≤ 200) : 0 ≤ mn a b ∧ mn a b ≤ 200 := by unfold mn; split <;> omega
theorem mx_bound (a b : Int) (h : 0 ≤ a ∧ a ≤ 200) (h' : 0 ≤ b ∧ b ≤ 200) : 0 ≤ mx a b ∧ mx a b ≤ 200 := by unfold mx; split <;> omega
theorem wrap_mid {a : Int} (h : -1000 ≤ a) (h' : a ≤ 1000) : wrap64 a = a := by unfold wrap64; omega
theorem mn_self (a : Int) : mn a a = a := by unfold mn; split <;> omega
theorem mx_self (a : Int) : mx a a = a := by unfold mx; split <;> omega
/-- Two boxes meet. -/
def mtB (a b c d e f g h : Int) : Bool := boxB a b c d && (boxB e f g h && (decide (mx a e ≤ mn c g) && decide (mx b f ≤ mn d h)))
theorem mt_s (a b c d e f g h : Int) : spec_BoxesMeet.f a b c d e f g h = some (mtB a b c d e f g h) := by
  unfold spec_BoxesMeet.f mtB
  simp only [box_s, Option.bind_some]
  cases h1 : boxB a b c d
  · rfl
  · cases h2 : boxB e f g h
    · rfl
    · have e1 : decide (mx a e ≤ mn c g) = (decide (a ≤ g) && decide (e ≤ c)) := by
        simp only [boxB, Bool.and_eq_true, decide_eq_true_eq] at h1 h2
        rw [← Bool.decide_and, decide_eq_decide]; unfold mx mn; (repeat' split) <;> omega
      have e2 : decide (mx b f ≤ mn d h) = (decide (b ≤ h) && decide (f ≤ d)) := by
        simp only [boxB, Bool.and_eq_true, decide_eq_true_eq] at h1 h2
        rw [← Bool.decide_and, decide_eq_decide]; unfold mx mn; (repeat' split) <;> omega
      rw [e1, e2]
      by_cases q1 : a ≤ g <;> by_cases q2 : e ≤ c <;> by_cases q3 : b ≤ h <;> simp [q1, q2, q3]
theorem mt_i (a b c d e f g h : Int) : impl_BoxesMeet.f a b c d e f g h = some (mtB a b c d e f g h) := by
  unfold impl_BoxesMeet.f impl_common.f mtB
  simp only [box_i, Option.bind_some]
  cases h1 : boxB a b c d
  · rfl
  · cases h2 : boxB e f g h
    · rfl
    · have b1 := box_bound h1
      have b2 := box_bound h2
      have m1 := mn_bound c g (by omega) (by omega)
      have m2 := mx_bound a e (by omega) (by omega)
      have m3 := mn_bound d h (by omega) (by omega)
      have m4 := mx_bound b f (by omega) (by omega)
      rw [wrap_mid (a := mn c g - mx a e) (by omega) (by omega), wrap_mid (a := mn d h - mx b f) (by omega) (by omega)]
      by_cases h3 : mx a e ≤ mn c g
      · simp only [if_true, if_pos (show mn c g - mx a e ≥ 0 by omega), decide_eq_true h3, Bool.true_and]
        rw [decide_eq_decide.2 (show mn d h - mx b f ≥ 0 ↔ mx b f ≤ mn d h by omega)]
      · simp only [if_true, if_neg (show ¬ mn c g - mx a e ≥ 0 by omega), decide_eq_false h3, Bool.true_and, Bool.false_and]
/-- The box of two points. -/
def bx2 (a b c d : Int) : Int × Int × Int × Int × Bool := if isPt a b && isPt c d then (mn a c, mn b d, mx a c, mx b d, true) else (0, 0, 0, 0, false)
theorem bx2_s (a b c d : Int) : Ev (fun k => spec_BoxOf.f k [(⟨a, b⟩ : S82), ⟨c, d⟩]) (bx2 a b c d) := by
  refine ⟨3, fun k hk => ?_⟩
  obtain ⟨m, rfl⟩ : ∃ m, k = m + 3 := ⟨k - 3, by omega⟩
  have e0 : rd_T82 [(⟨a, b⟩ : S82), ⟨c, d⟩] 0 = ⟨a, b⟩ := rfl
  have e1 : rd_T82 [(⟨a, b⟩ : S82), ⟨c, d⟩] 1 = ⟨c, d⟩ := rfl
  have w0 : wrap64 1 = 1 := by unfold wrap64; omega
  have w1 : wrap64 2 = 2 := by unfold wrap64; omega
  simp only [spec_BoxOf.f, spec_BoxOf.l0, spec_IsPoint.f, spec_Min.f, spec_Max.f, List.length_cons, List.length_nil, e0, Option.bind_some, bx2]
  cases h1 : isPt a b
  · simp
  · cases h2 : isPt c d
    · simp [w0, e1, h2, mn_self, mx_self]
    · simp [w0, w1, e1, h2, mn_self, mx_self]
theorem bx2_i (a b c d : Int) : Ev (fun k => impl_BoxOf.f k [(⟨a, b⟩ : S82), ⟨c, d⟩]) (bx2 a b c d) := by
  refine ⟨3, fun k hk => ?_⟩
  obtain ⟨m, rfl⟩ : ∃ m, k = m + 3 := ⟨k - 3, by omega⟩
  have e0 : rd_T82 [(⟨a, b⟩ : S82), ⟨c, d⟩] 0 = ⟨a, b⟩ := rfl
  have e1 : rd_T82 [(⟨a, b⟩ : S82), ⟨c, d⟩] 1 = ⟨c, d⟩ := rfl
  have w0 : wrap64 1 = 1 := by unfold wrap64; omega
  have w1 : wrap64 2 = 2 := by unfold wrap64; omega
  simp only [impl_BoxOf.f, impl_BoxOf.l0, impl_IsPoint.f, List.length_cons, List.length_nil, e0, Option.bind_some, bx2]
  cases h1 : isPt a b
  · simp
  · cases h2 : isPt c d
    · simp [w0, e1, h2, mn_self, mx_self]
    · simp [w0, w1, e1, h2, mn_self, mx_self]
def cn (v p : Int) : Int := if p = v then 1 else 0
theorem cn_bd (v p : Int) : 0 ≤ cn v p ∧ cn v p ≤ 1 := by unfold cn; split <;> omega
def sdL (a b c d : Int) (p : S82) : Int := sideI a b c d p.f0 p.f1
theorem ms_step (a b c d : Int) (xs : List S82) (hx : xs.length = 4) (k : Nat) (L R : Int) (i : Nat) (hi : i < 4) (hL : 0 ≤ L ∧ L ≤ 4) (hR : 0 ≤ R ∧ R ≤ 4) :
    spec_MeetsBox.l0 (k + 1) xs L R (i : Int) a b c d = spec_MeetsBox.l0 k xs (L + cn 1 (sdL a b c d (xs.getD i z82))) (R + cn (-1) (sdL a b c d (xs.getD i z82))) ((i + 1 : Nat) : Int) a b c d := by
  have w : wrap64 ((i : Int) + 1) = ((i + 1 : Nat) : Int) := by unfold wrap64; omega
  have wL : wrap64 (L + 1) = L + 1 := by unfold wrap64; omega
  have wR : wrap64 (R + 1) = R + 1 := by unfold wrap64; omega
  have e : rd_T82 xs (i : Int) = xs.getD i z82 := by unfold rd_T82; rw [Int.toNat_natCast]
  rw [spec_MeetsBox.l0]
  rw [if_pos (by omega), if_pos (by omega), if_pos (by omega)]
  unfold spec_SideOf.f
  simp only [Option.bind_some, w, wL, wR, e]
  show _ = spec_MeetsBox.l0 k xs (L + cn 1 (sideI a b c d _ _)) (R + cn (-1) (sideI a b c d _ _)) _ _ _ _ _
  generalize sideI a b c d (xs.getD i z82).f0 (xs.getD i z82).f1 = s
  by_cases h1 : s = 1
  · subst h1; simp [cn]
  · by_cases h2 : s = -1
    · subst h2; simp [cn]
    · simp [cn, h1, h2]
theorem mi_step (a b c d : Int) (xs : List S82) (hx : xs.length = 4) (k : Nat) (L R : Int) (i : Nat) (hi : i < 4) (hL : 0 ≤ L ∧ L ≤ 4) (hR : 0 ≤ R ∧ R ≤ 4) :
    impl_MeetsBox.l0 (k + 1) L R xs 4 (i : Int) a b c d = impl_MeetsBox.l0 k (L + cn 1 (sdL a b c d (xs.getD i z82))) (R + cn (-1) (sdL a b c d (xs.getD i z82))) xs 4 ((i + 1 : Nat) : Int) a b c d := by
  have w : wrap64 ((i : Int) + 1) = ((i + 1 : Nat) : Int) := by unfold wrap64; omega
  have wL : wrap64 (L + 1) = L + 1 := by unfold wrap64; omega
  have wR : wrap64 (R + 1) = R + 1 := by unfold wrap64; omega
  have e : rd_T82 xs (i : Int) = xs.getD i z82 := by unfold rd_T82; rw [Int.toNat_natCast]
  rw [impl_MeetsBox.l0]
  rw [if_pos (by omega), if_pos (by omega), if_pos (by omega)]
  unfold impl_SideOf.f
  simp only [Option.bind_some, w, wL, wR, e]
  show _ = impl_MeetsBox.l0 k (L + cn 1 (sideI a b c d _ _)) (R + cn (-1) (sideI a b c d _ _)) _ _ _ _ _ _ _
  generalize sideI a b c d (xs.getD i z82).f0 (xs.getD i z82).f1 = s
  by_cases h1 : s = 1
  · subst h1; simp [cn]
  · by_cases h2 : s = -1
    · subst h2; simp [cn]
    · simp [cn, h1, h2]
/-- How many corners of a box lie on a side. -/
def cns (v a b c d e f g h : Int) : Int := cn v (sideI a b c d e f) + cn v (sideI a b c d e h) + cn v (sideI a b c d g h) + cn v (sideI a b c d g f)
/-- A segment meets a box. -/
def mbB (a b c d e f g h : Int) : Bool := isSeg a b c d && (boxB e f g h && (mtB (mn a c) (mn b d) (mx a c) (mx b d) e f g h && (decide (cns 1 a b c d e f g h < 4) && decide (cns (-1) a b c d e f g h < 4))))
theorem isSeg_pts {a b c d : Int} (h : isSeg a b c d = true) : isPt a b = true ∧ isPt c d = true := by
  simp only [isSeg, Bool.and_eq_true] at h
  exact h.1
theorem mb_s (a b c d e f g h : Int) : Ev (fun k => spec_MeetsBox.f k a b c d e f g h) (mbB a b c d e f g h) := by
  unfold spec_MeetsBox.f mbB
  refine Ev.bind (bx2_s a b c d) ?_
  unfold spec_IsSegment.f
  simp only [Option.bind_some]
  cases h1 : isSeg a b c d
  · refine Ev.step (f := fun _ => some false) (fun k => ?_) (Ev.now _)
    simp [spec_MeetsBox.j0]
  · obtain ⟨p1, p2⟩ := isSeg_pts h1
    simp only [bx2, p1, p2, Bool.and_self, if_true, mt_s, Option.bind_some, Bool.true_and]
    cases h2 : mtB (mn a c) (mn b d) (mx a c) (mx b d) e f g h
    · refine Ev.step (f := fun _ => some (boxB e f g h && (false && (decide (cns 1 a b c d e f g h < 4) && decide (cns (-1) a b c d e f g h < 4))))) (fun k => ?_) (Ev.now _)
      cases boxB e f g h <;> simp [spec_MeetsBox.j0]
    · have h3 : boxB e f g h = true := by simp only [mtB, Bool.and_eq_true] at h2; exact h2.2.1
      rw [h3]
      refine ⟨6, fun k hk => ?_⟩
      obtain ⟨m, rfl⟩ : ∃ m, k = m + 6 := ⟨k - 6, by omega⟩
      show spec_MeetsBox.j0 ((m + 5) + 1) _ a b c d e f g h = _
      rw [spec_MeetsBox.j0]
      simp only [Bool.not_true, Bool.false_eq_true, if_false]
      have c1 := cn_bd 1 (sideI a b c d e f); have c2 := cn_bd 1 (sideI a b c d e h); have c3 := cn_bd 1 (sideI a b c d g h); have c4 := cn_bd 1 (sideI a b c d g f)
      have d1 := cn_bd (-1) (sideI a b c d e f); have d2 := cn_bd (-1) (sideI a b c d e h); have d3 := cn_bd (-1) (sideI a b c d g h); have d4 := cn_bd (-1) (sideI a b c d g f)
      have hx : ([(⟨e, f⟩ : S82), ⟨e, h⟩, ⟨g, h⟩, ⟨g, f⟩] : List S82).length = 4 := rfl
      generalize hxs : ([(⟨e, f⟩ : S82), ⟨e, h⟩, ⟨g, h⟩, ⟨g, f⟩] : List S82) = xs at hx ⊢
      have q0 : sdL a b c d (xs.getD 0 z82) = sideI a b c d e f := by subst hxs; rfl
      have q1 : sdL a b c d (xs.getD 1 z82) = sideI a b c d e h := by subst hxs; rfl
      have q2 : sdL a b c d (xs.getD 2 z82) = sideI a b c d g h := by subst hxs; rfl
      have q3 : sdL a b c d (xs.getD 3 z82) = sideI a b c d g f := by subst hxs; rfl
      have t0 := ms_step a b c d xs hx (m + 4) 0 0 0 (by omega) (by omega) (by omega)
      rw [q0] at t0
      have t1 := ms_step a b c d xs hx (m + 3) (0 + cn 1 (sideI a b c d e f)) (0 + cn (-1) (sideI a b c d e f)) 1 (by omega) (by omega) (by omega)
      rw [q1] at t1
      have t2 := ms_step a b c d xs hx (m + 2) (0 + cn 1 (sideI a b c d e f) + cn 1 (sideI a b c d e h)) (0 + cn (-1) (sideI a b c d e f) + cn (-1) (sideI a b c d e h)) 2 (by omega) (by omega) (by omega)
      rw [q2] at t2
      have t3 := ms_step a b c d xs hx (m + 1) (0 + cn 1 (sideI a b c d e f) + cn 1 (sideI a b c d e h) + cn 1 (sideI a b c d g h)) (0 + cn (-1) (sideI a b c d e f) + cn (-1) (sideI a b c d e h) + cn (-1) (sideI a b c d g h)) 3 (by omega) (by omega) (by omega)
      rw [q3] at t3
      refine (t0.trans (t1.trans (t2.trans t3))).trans ?_
      rw [spec_MeetsBox.l0]
      rw [if_neg (by omega)]
      unfold cns
      have e1 : ∀ v : Int, 0 + cn v (sideI a b c d e f) + cn v (sideI a b c d e h) + cn v (sideI a b c d g h) + cn v (sideI a b c d g f) = cn v (sideI a b c d e f) + cn v (sideI a b c d e h) + cn v (sideI a b c d g h) + cn v (sideI a b c d g f) := fun v => by omega
      rw [e1, e1]
      by_cases h4 : cn 1 (sideI a b c d e f) + cn 1 (sideI a b c d e h) + cn 1 (sideI a b c d g h) + cn 1 (sideI a b c d g f) < 4
      · rw [if_pos h4]; simp [h4]
      · rw [if_neg h4]; simp [h4]
theorem mb_i (a b c d e f g h : Int) : Ev (fun k => impl_MeetsBox.f k a b c d e f g h) (mbB a b c d e f g h) := by
  unfold impl_MeetsBox.f mbB
  unfold impl_IsSegment.f
  simp only [Option.bind_some, box_i]
  cases h1 : isSeg a b c d
  · refine Ev.step (f := fun _ => some false) (fun k => ?_) (Ev.now _)
    simp [impl_MeetsBox.j0]
  · obtain ⟨p1, p2⟩ := isSeg_pts h1
    simp only [if_true, Bool.true_and]
    cases h3 : boxB e f g h
    · refine Ev.step (f := fun _ => some false) (fun k => ?_) (Ev.now _)
      simp [impl_MeetsBox.j0]
    · refine Ev.step (f := fun k => (impl_BoxOf.f k [(⟨a, b⟩ : S82), ⟨c, d⟩]).bind fun bt => (impl_BoxesMeet.f bt.1 bt.2.1 bt.2.2.1 bt.2.2.2.1 e f g h).bind fun t => if t = true then ((some ([(⟨e, f⟩ : S82), ⟨g, h⟩, ⟨e, h⟩, ⟨g, f⟩] : List S82)).bind fun y => impl_MeetsBox.l0 k 0 0 y (y.length : Int) 0 a b c d) else some false) (fun k => ?_) (Ev.bind (bx2_i a b c d) ?_)
      · rw [impl_MeetsBox.j0]; simp only [Bool.not_true, Bool.false_eq_true, if_false]
      · simp only [bx2, p1, p2, Bool.and_self, if_true, mt_i, Option.bind_some, Bool.true_and]
        cases h2 : mtB (mn a c) (mn b d) (mx a c) (mx b d) e f g h
        · simp only [Bool.false_eq_true, if_false, Bool.false_and]; exact Ev.now _
        · simp only [if_true, Bool.true_and]
          refine ⟨5, fun k hk => ?_⟩
          obtain ⟨m, rfl⟩ : ∃ m, k = m + 5 := ⟨k - 5, by omega⟩
          dsimp only
          have c1 := cn_bd 1 (sideI a b c d e f); have c2 := cn_bd 1 (sideI a b c d e h); have c3 := cn_bd 1 (sideI a b c d g h); have c4 := cn_bd 1 (sideI a b c d g f)
          have d1 := cn_bd (-1) (sideI a b c d e f); have d2 := cn_bd (-1) (sideI a b c d e h); have d3 := cn_bd (-1) (sideI a b c d g h); have d4 := cn_bd (-1) (sideI a b c d g f)
          have hx : ([(⟨e, f⟩ : S82), ⟨g, h⟩, ⟨e, h⟩, ⟨g, f⟩] : List S82).length = 4 := rfl
          have hl : ((([(⟨e, f⟩ : S82), ⟨g, h⟩, ⟨e, h⟩, ⟨g, f⟩] : List S82).length : Nat) : Int) = 4 := rfl
          rw [hl]
          generalize hxs : ([(⟨e, f⟩ : S82), ⟨g, h⟩, ⟨e, h⟩, ⟨g, f⟩] : List S82) = xs at hx ⊢
          have q0 : sdL a b c d (xs.getD 0 z82) = sideI a b c d e f := by subst hxs; rfl
          have q1 : sdL a b c d (xs.getD 1 z82) = sideI a b c d g h := by subst hxs; rfl
          have q2 : sdL a b c d (xs.getD 2 z82) = sideI a b c d e h := by subst hxs; rfl
          have q3 : sdL a b c d (xs.getD 3 z82) = sideI a b c d g f := by subst hxs; rfl
          have t0 := mi_step a b c d xs hx (m + 4) 0 0 0 (by omega) (by omega) (by omega)
          rw [q0] at t0
          have t1 := mi_step a b c d xs hx (m + 3) (0 + cn 1 (sideI a b c d e f)) (0 + cn (-1) (sideI a b c d e f)) 1 (by omega) (by omega) (by omega)
          rw [q1] at t1
          have t2 := mi_step a b c d xs hx (m + 2) (0 + cn 1 (sideI a b c d e f) + cn 1 (sideI a b c d g h)) (0 + cn (-1) (sideI a b c d e f) + cn (-1) (sideI a b c d g h)) 2 (by omega) (by omega) (by omega)
          rw [q2] at t2
          have t3 := mi_step a b c d xs hx (m + 1) (0 + cn 1 (sideI a b c d e f) + cn 1 (sideI a b c d g h) + cn 1 (sideI a b c d e h)) (0 + cn (-1) (sideI a b c d e f) + cn (-1) (sideI a b c d g h) + cn (-1) (sideI a b c d e h)) 3 (by omega) (by omega) (by omega)
          rw [q3] at t3
          refine (t0.trans (t1.trans (t2.trans t3))).trans ?_
          rw [impl_MeetsBox.l0]
          rw [if_neg (by omega)]
          unfold cns
          have e1 : ∀ v : Int, 0 + cn v (sideI a b c d e f) + cn v (sideI a b c d g h) + cn v (sideI a b c d e h) + cn v (sideI a b c d g f) = cn v (sideI a b c d e f) + cn v (sideI a b c d e h) + cn v (sideI a b c d g h) + cn v (sideI a b c d g f) := fun v => by omega
          rw [e1, e1]
          by_cases h4 : cn 1 (sideI a b c d e f) + cn 1 (sideI a b c d e h) + cn 1 (sideI a b c d g h) + cn 1 (sideI a b c d g f) < 4
          · rw [if_pos h4]; simp [h4]
          · rw [if_neg h4]; simp [h4]
theorem prB_one (a c : Int) (s : ByteArray) (l : List S82) : prB a 1 c s l = [] := by
  unfold prB; split <;> rfl
theorem ft_one {a c : Int} {s : ByteArray} {l : List S82} (h : ftB a 1 c s l = true) : l.length = 1 := by
  simp only [ftB, kdB, if_true, Bool.and_eq_true, decide_eq_true_eq] at h
  exact h.2.2.2.1
def tbB (t : Int) : Int × Int × Int × Int × Bool := if inR t 0 440 then (wrap64 (Int.tmod t 21 * 10), wrap64 (wrap64 (Int.tdiv t 21) * 10), mn (wrap64 (wrap64 (Int.tmod t 21 * 10) + 10)) 200, mn (wrap64 (wrap64 (wrap64 (Int.tdiv t 21) * 10) + 10)) 200, true) else (0, 0, 0, 0, false)
theorem mn_sym (a b : Int) : mn a b = mn b a := by unfold mn; (repeat' split) <;> omega
theorem tb_s (t : Int) : spec_TileBox.f t = some (tbB t) := by
  unfold spec_TileBox.f tbB spec_l1In.f spec_Min.f
  simp only [Option.bind_some, mn_sym 200]
  cases inR t 0 440 <;> simp
theorem tb_i (t : Int) : impl_TileBox.f t = some (tbB t) := by
  unfold impl_TileBox.f tbB impl_InRange.f
  simp only [Option.bind_some]
  cases inR t 0 440 <;> simp
def ibB (a b c d x y : Int) : Bool := boxB a b c d && (inR x a c && inR y b d)
theorem ib_s (a b c d x y : Int) : spec_InBox.f a b c d x y = some (ibB a b c d x y) := by
  unfold spec_InBox.f ibB spec_l1In.f
  simp only [box_s, Option.bind_some]
  cases boxB a b c d <;> cases inR x a c <;> simp
theorem ib_i (a b c d x y : Int) : impl_InBox.f a b c d x y = some (ibB a b c d x y) := by
  unfold impl_InBox.f ibB impl_InRange.f
  simp only [box_i, Option.bind_some]
  cases boxB a b c d <;> cases inR x a c <;> simp
/-- The pieces of the segments that meet a box. -/
def fpB (id : Int) (sg : List S85) (e f g h : Int) (i d : Nat) : List S110 :=
  ((List.range' i d).filter fun j => mbB (sg.getD j z85).f0.f0 (sg.getD j z85).f0.f1 (sg.getD j z85).f1.f0 (sg.getD j z85).f1.f1 e f g h).map fun (j : Nat) => (⟨id, (j : Int)⟩ : S110)
def pcB (a b c : Int) (s : ByteArray) (l : List S82) (e f g h : Int) : List S110 :=
  if b = 1 then (if ibB e f g h (l.getD 0 z82).f0 (l.getD 0 z82).f1 then [(⟨a, 0⟩ : S110)] else []) else fpB a (prB a b c s l) e f g h 0 (prB a b c s l).length
theorem fpB_step (id : Int) (sg : List S85) (e f g h : Int) (i d : Nat) : fpB id sg e f g h i (d + 1) = (if mbB (sg.getD i z85).f0.f0 (sg.getD i z85).f0.f1 (sg.getD i z85).f1.f0 (sg.getD i z85).f1.f1 e f g h then [(⟨id, (i : Int)⟩ : S110)] else []) ++ fpB id sg e f g h (i + 1) d := by
  unfold fpB
  rw [List.range'_succ, List.filter_cons]
  split <;> simp
theorem fp_s (a b c : Int) (s : ByteArray) (l : List S82) (sg : List S85) (hs : sg.length < 1000) (e f g h : Int) (d : Nat) : ∀ (i : Nat) (o : List S110), i + d = sg.length → o.length ≤ i →
    Ev (fun k => spec_l20Pieces.l0 k sg o (i : Int) a b c s l e f g h) (o ++ fpB a sg e f g h i d) := by
  induction d with
  | zero =>
    intro i o hi ho
    refine Ev.step (f := fun _ => some o) (fun k => ?_) (by simp only [fpB, List.range'_zero, List.filter_nil, List.map_nil, List.append_nil]; exact Ev.now _)
    simp only [spec_l20Pieces.l0]
    rw [if_neg (by omega)]
  | succ d ih =>
    intro i o hi ho
    have h1 : i < sg.length := by omega
    rw [fpB_step, ← List.append_assoc]
    refine Ev.step (f := fun k => (spec_MeetsBox.f k (sg.getD i z85).f0.f0 (sg.getD i z85).f0.f1 (sg.getD i z85).f1.f0 (sg.getD i z85).f1.f1 e f g h).bind fun t => if t = true then spec_l20Pieces.l0 k sg (o ++ [(⟨a, (i : Int)⟩ : S110)]) ((i + 1 : Nat) : Int) a b c s l e f g h else spec_l20Pieces.l0 k sg o ((i + 1 : Nat) : Int) a b c s l e f g h) (fun k => ?_) (Ev.bind (mb_s _ _ _ _ _ _ _ _) ?_)
    · simp only [spec_l20Pieces.l0]
      rw [if_pos (by omega), if_pos (by omega), rdSg sg i h1, w1' i (by omega), if_pos (show o.length < 8796093022208 by omega)]
    · cases mbB (sg.getD i z85).f0.f0 (sg.getD i z85).f0.f1 (sg.getD i z85).f1.f0 (sg.getD i z85).f1.f1 e f g h
      · simp only [Bool.false_eq_true, if_false, List.append_nil]; exact ih (i + 1) o (by omega) (by omega)
      · simp only [if_true]; exact ih (i + 1) _ (by omega) (by simp; omega)
theorem pc_s (a b c : Int) (s : ByteArray) (l : List S82) (h1 : b = 1 → l.length = 1) (e f g h : Int) : Ev (fun k => spec_l20Pieces.f k a b c s l (prB a b c s l) e f g h) (pcB a b c s l e f g h) := by
  unfold spec_l20Pieces.f pcB
  simp only [Option.bind_some]
  have hp := prB_len a b c s l
  have go : Ev (fun k => spec_l20Pieces.j0 k (prB a b c s l) [] false a b c s l e f g h) (fpB a (prB a b c s l) e f g h 0 (prB a b c s l).length) := by
    refine Ev.step (fun k => ?_) (fp_s a b c s l (prB a b c s l) hp e f g h (prB a b c s l).length 0 [] (by omega) (by simp))
    simp [spec_l20Pieces.j0]
  by_cases hb : b = 1
  · simp only [if_pos hb]
    have := h1 hb
    simp only [if_pos (show (0 : Int) < (l.length : Int) by omega), ib_s, rdP0, Option.bind_some]
    cases ibB e f g h (l.getD 0 z82).f0 (l.getD 0 z82).f1
    · subst hb
      rw [prB_one] at go ⊢
      simp only [Bool.false_eq_true, if_false]; exact go
    · refine Ev.step (f := fun _ => some _) (fun k => ?_) (Ev.now _)
      simp [spec_l20Pieces.j0]
  · simp only [if_neg hb]; exact go
theorem fp_i (a b c : Int) (s : ByteArray) (l : List S82) (sg : List S85) (hs : sg.length < 1000) (e f g h : Int) (d : Nat) : ∀ (i : Nat) (o : List S110), i + d = sg.length → o.length ≤ i + 1 →
    Ev (fun k => impl_piecesOf.l0 k false o sg (sg.length : Int) (i : Int) a b c s l e f g h) (o ++ fpB a sg e f g h i d) := by
  induction d with
  | zero =>
    intro i o hi ho
    refine Ev.step (f := fun _ => some o) (fun k => ?_) (by simp only [fpB, List.range'_zero, List.filter_nil, List.map_nil, List.append_nil]; exact Ev.now _)
    simp only [impl_piecesOf.l0]
    rw [if_neg (by omega)]
  | succ d ih =>
    intro i o hi ho
    have h1 : i < sg.length := by omega
    rw [fpB_step, ← List.append_assoc]
    refine Ev.step (f := fun k => (impl_MeetsBox.f k (sg.getD i z85).f0.f0 (sg.getD i z85).f0.f1 (sg.getD i z85).f1.f0 (sg.getD i z85).f1.f1 e f g h).bind fun t => if t = true then impl_piecesOf.l0 k false (o ++ [(⟨a, (i : Int)⟩ : S110)]) sg (sg.length : Int) ((i + 1 : Nat) : Int) a b c s l e f g h else impl_piecesOf.l0 k false o sg (sg.length : Int) ((i + 1 : Nat) : Int) a b c s l e f g h) (fun k => ?_) (Ev.bind (mb_i _ _ _ _ _ _ _ _) ?_)
    · simp only [impl_piecesOf.l0]
      rw [if_pos (by omega), if_pos (by omega), if_pos (by omega), if_neg (by simp), rdSg sg i h1, w1' i (by omega), if_pos (show o.length < 8796093022208 by omega)]
    · cases mbB (sg.getD i z85).f0.f0 (sg.getD i z85).f0.f1 (sg.getD i z85).f1.f0 (sg.getD i z85).f1.f1 e f g h
      · simp only [Bool.false_eq_true, if_false, List.append_nil]; exact ih (i + 1) o (by omega) (by omega)
      · simp only [if_true]; exact ih (i + 1) _ (by omega) (by simp; omega)
theorem pc_i (a b c : Int) (s : ByteArray) (hs : s.size ≤ 9223372036854775807) (l : List S82) (hl : l.length < 9223372036854775807) (h1 : b = 1 → l.length = 1) (e f g h : Int) : Ev (fun k => impl_piecesOf.f k a b c s l e f g h false) (pcB a b c s l e f g h) := by
  unfold impl_piecesOf.f pcB
  simp only [Option.bind_some]
  have hp := prB_len a b c s l
  have go : ∀ o : List S110, o.length ≤ 1 → Ev (fun k => impl_piecesOf.j1 k false o a b c s l e f g h) (o ++ fpB a (prB a b c s l) e f g h 0 (prB a b c s l).length) := by
    intro o ho
    refine Ev.step (f := fun k => (impl_PartsOf.f k a b c s l).bind fun t => impl_piecesOf.l0 k false o t (t.length : Int) 0 a b c s l e f g h) (fun k => by rw [impl_piecesOf.j1]) (Ev.bind (pr_i a b c s hs l hl) ?_)
    exact fp_i a b c s l (prB a b c s l) hp e f g h (prB a b c s l).length 0 o (by omega) (by omega)
  have go0 : Ev (fun k => impl_piecesOf.j0 k false [] false a b c s l e f g h) (fpB a (prB a b c s l) e f g h 0 (prB a b c s l).length) := by
    refine Ev.step (fun k => ?_) (go [] (by simp))
    simp [impl_piecesOf.j0]
  by_cases hb : b = 1
  · simp only [if_pos hb]
    have := h1 hb
    simp only [Bool.false_eq_true, if_false, if_pos (show (0 : Int) < (l.length : Int) by omega), ib_i, rdP0, Option.bind_some]
    subst hb
    rw [prB_one] at go go0
    cases ibB e f g h (l.getD 0 z82).f0 (l.getD 0 z82).f1
    · simp only [Bool.false_eq_true, if_false]; exact go0
    · simp only [if_true]
      refine Ev.step (fun k => ?_) (go [(⟨a, 0⟩ : S110)] (by simp))
      simp [impl_piecesOf.j0]
  · simp only [if_neg hb]; exact go0
def ttB (a b c : Int) (s : ByteArray) (l : List S82) (i d : Nat) : List Int := ((List.range' i d).filter fun (t : Nat) => decide (0 < (pcB a b c s l (tbB (t : Int)).1 (tbB (t : Int)).2.1 (tbB (t : Int)).2.2.1 (tbB (t : Int)).2.2.2.1).length)).map fun (t : Nat) => (t : Int)
theorem ttB_step (a b c : Int) (s : ByteArray) (l : List S82) (i d : Nat) : ttB a b c s l i (d + 1) = (if 0 < (pcB a b c s l (tbB (i : Int)).1 (tbB (i : Int)).2.1 (tbB (i : Int)).2.2.1 (tbB (i : Int)).2.2.2.1).length then [(i : Int)] else []) ++ ttB a b c s l (i + 1) d := by
  unfold ttB
  rw [List.range'_succ, List.filter_cons]
  simp only [decide_eq_true_eq]
  split <;> simp
theorem tt_sl (a b c : Int) (s : ByteArray) (l : List S82) (h1 : b = 1 → l.length = 1) (d : Nat) : ∀ (i : Nat) (o : List Int), i + d = 441 → o.length ≤ i →
    Ev (fun k => spec_TouchedTiles.l0 k o (prB a b c s l) (i : Int) a b c s l) (o ++ ttB a b c s l i d) := by
  induction d with
  | zero =>
    intro i o hi ho
    refine Ev.step (f := fun _ => some o) (fun k => ?_) (by simp only [ttB, List.range'_zero, List.filter_nil, List.map_nil, List.append_nil]; exact Ev.now _)
    simp only [spec_TouchedTiles.l0]
    rw [if_neg (by omega)]
  | succ d ih =>
    intro i o hi ho
    rw [ttB_step, ← List.append_assoc]
    refine Ev.step (f := fun k => (spec_l20Pieces.f k a b c s l (prB a b c s l) (tbB (i : Int)).1 (tbB (i : Int)).2.1 (tbB (i : Int)).2.2.1 (tbB (i : Int)).2.2.2.1).bind fun t => if (t.length : Int) > 0 then spec_TouchedTiles.l0 k (o ++ [(i : Int)]) (prB a b c s l) ((i + 1 : Nat) : Int) a b c s l else spec_TouchedTiles.l0 k o (prB a b c s l) ((i + 1 : Nat) : Int) a b c s l) (fun k => ?_) (Ev.bind (pc_s a b c s l h1 _ _ _ _) ?_)
    · simp only [spec_TouchedTiles.l0, tb_s, Option.bind_some]
      rw [if_pos (by omega), w1' i (by omega), if_pos (show o.length < 17592186044416 by omega)]
    · by_cases hc : 0 < (pcB a b c s l (tbB (i : Int)).1 (tbB (i : Int)).2.1 (tbB (i : Int)).2.2.1 (tbB (i : Int)).2.2.2.1).length
      · rw [if_pos hc]
        simp only [if_pos (show ((pcB a b c s l (tbB (i : Int)).1 (tbB (i : Int)).2.1 (tbB (i : Int)).2.2.1 (tbB (i : Int)).2.2.2.1).length : Int) > 0 by omega)]
        exact ih (i + 1) _ (by omega) (by simp; omega)
      · rw [if_neg hc, List.append_nil]
        simp only [if_neg (show ¬ ((pcB a b c s l (tbB (i : Int)).1 (tbB (i : Int)).2.1 (tbB (i : Int)).2.2.1 (tbB (i : Int)).2.2.2.1).length : Int) > 0 by omega)]
        exact ih (i + 1) o (by omega) (by omega)
theorem tt_il (a b c : Int) (s : ByteArray) (hs : s.size ≤ 9223372036854775807) (l : List S82) (hl : l.length < 9223372036854775807) (h1 : b = 1 → l.length = 1) (d : Nat) : ∀ (i : Nat) (o : List Int), i + d = 441 → o.length ≤ i →
    Ev (fun k => impl_TouchedTiles.l0 k o (i : Int) a b c s l) (o ++ ttB a b c s l i d) := by
  induction d with
  | zero =>
    intro i o hi ho
    refine Ev.step (f := fun _ => some o) (fun k => ?_) (by simp only [ttB, List.range'_zero, List.filter_nil, List.map_nil, List.append_nil]; exact Ev.now _)
    simp only [impl_TouchedTiles.l0]
    rw [if_neg (by omega)]
  | succ d ih =>
    intro i o hi ho
    rw [ttB_step, ← List.append_assoc]
    refine Ev.step (f := fun k => (impl_piecesOf.f k a b c s l (tbB (i : Int)).1 (tbB (i : Int)).2.1 (tbB (i : Int)).2.2.1 (tbB (i : Int)).2.2.2.1 false).bind fun t => if (t.length : Int) > 0 then impl_TouchedTiles.l0 k (o ++ [(i : Int)]) ((i + 1 : Nat) : Int) a b c s l else impl_TouchedTiles.l0 k o ((i + 1 : Nat) : Int) a b c s l) (fun k => ?_) (Ev.bind (pc_i a b c s hs l hl h1 _ _ _ _) ?_)
    · simp only [impl_TouchedTiles.l0, tb_i, Option.bind_some]
      rw [if_pos (by omega), w1' i (by omega), if_pos (show o.length < 17592186044416 by omega)]
    · by_cases hc : 0 < (pcB a b c s l (tbB (i : Int)).1 (tbB (i : Int)).2.1 (tbB (i : Int)).2.2.1 (tbB (i : Int)).2.2.2.1).length
      · rw [if_pos hc]
        simp only [if_pos (show ((pcB a b c s l (tbB (i : Int)).1 (tbB (i : Int)).2.1 (tbB (i : Int)).2.2.1 (tbB (i : Int)).2.2.2.1).length : Int) > 0 by omega)]
        exact ih (i + 1) _ (by omega) (by simp; omega)
      · rw [if_neg hc, List.append_nil]
        simp only [if_neg (show ¬ ((pcB a b c s l (tbB (i : Int)).1 (tbB (i : Int)).2.1 (tbB (i : Int)).2.2.1 (tbB (i : Int)).2.2.2.1).length : Int) > 0 by omega)]
        exact ih (i + 1) o (by omega) (by omega)
theorem ft_len {a b c : Int} {s : ByteArray} {l : List S82} (h : ftB a b c s l = true) : b = 1 → l.length = 1 := by
  intro hb; subst hb; exact ft_one h
/-- The tiles that a feature touches. -/
def tlsB (a b c : Int) (s : ByteArray) (l : List S82) : List Int := if ftB a b c s l then ttB a b c s l 0 441 else []
theorem tt_s (a b c : Int) (s : ByteArray) (hs : s.size ≤ 9223372036854775807) (l : List S82) (hl : l.length < 9223372036854775807) : Ev (fun k => spec_TouchedTiles.f k a b c s l) (tlsB a b c s l) := by
  unfold spec_TouchedTiles.f tlsB
  simp only [Option.bind_some]
  refine Ev.bind (ft_s a b c s hs l hl) ?_
  cases hf : ftB a b c s l
  · simp only [Bool.false_eq_true, if_false]; exact Ev.now _
  · simp only [if_true]
    exact Ev.bind (pr_s a b c s hs l hl) (tt_sl a b c s l (ft_len hf) 441 0 [] (by omega) (by simp))
theorem tt_i (a b c : Int) (s : ByteArray) (hs : s.size ≤ 9223372036854775807) (l : List S82) (hl : l.length < 9223372036854775807) : Ev (fun k => impl_TouchedTiles.f k a b c s l) (tlsB a b c s l) := by
  unfold impl_TouchedTiles.f tlsB
  simp only [Option.bind_some]
  refine Ev.bind (ft_i a b c s hs l hl) ?_
  cases hf : ftB a b c s l
  · simp only [Bool.false_eq_true, if_false]; exact Ev.now _
  · simp only [if_true]
    exact tt_il a b c s hs l hl (ft_len hf) 441 0 [] (by omega) (by simp)
theorem tlsB_len (a b c : Int) (s : ByteArray) (l : List S82) : (tlsB a b c s l).length ≤ 441 := by
  unfold tlsB ttB
  split
  · rw [List.length_map]; exact Nat.le_trans (List.length_filter_le _ _) (by simp)
  · simp
theorem rdp_at (l : List S118) (i : Nat) (h : i < l.length) : rd_T118 l (i : Int) = l[i] := by
  unfold rd_T118
  rw [Int.toNat_natCast, List.getD_eq_getElem?_getD, List.getElem?_eq_getElem h]
  rfl
theorem rdP_at (l : List S82) (i : Nat) (h : i < l.length) : rd_T82 l (i : Int) = l[i] := by
  unfold rd_T82
  rw [Int.toNat_natCast, List.getD_eq_getElem?_getD, List.getElem?_eq_getElem h]
  rfl
def convP (x : S118) : S82 := ⟨x.f0, x.f1⟩
theorem toPoints_l (l : List S118) (hb : l.length < 9223372036854775807) (d : Nat) : ∀ i : Nat, i + d = l.length → Ev (fun k => laws_toPointS.l0 k l ((l.map convP).take i ++ List.replicate d z82) (i : Int)) (l.map convP) := by
  induction d with
  | zero =>
    intro i hi
    refine Ev.step (f := fun _ => some (l.map convP)) (fun k => ?_) (Ev.now _)
    simp only [laws_toPointS.l0]
    rw [if_neg (by omega), List.take_of_length_le (by simp; omega)]
    simp
  | succ d ih =>
    intro i hi
    have h1 : i < l.length := by omega
    refine Ev.step (fun k => ?_) (ih (i + 1) (by omega))
    simp only [laws_toPointS.l0, laws_toPoint.f, Option.bind_some]
    rw [if_pos (by omega), if_pos (by omega), if_pos (by simp; omega), rdp_at l i h1, w1 i (by omega)]
    congr 1
    have hm : i < (l.map convP).length := by simpa using h1
    rw [Int.toNat_natCast, List.set_append_right _ _ (by simp; omega), List.take_succ_eq_append_getElem hm, List.replicate_succ]
    simp only [List.length_take, List.length_map, Nat.min_eq_left (show i ≤ l.length by omega), Nat.sub_self, List.set_cons_zero, List.append_assoc, List.singleton_append, List.getElem_map, convP]
theorem toPoints (l : List S118) (hb : l.length ≤ 1048576) : Ev (fun k => laws_toPointS.f k l) (l.map convP) := by
  unfold laws_toPointS.f
  simp only [if_pos (show (0 : Int) ≤ (l.length : Int) by omega), Int.toNat_natCast, if_pos (show l.length ≤ 17592186044416 by omega)]
  have := toPoints_l l (by omega) l.length 0 (by omega)
  simpa using this
theorem eqPoints_l (l : List S82) (hb : l.length < 9223372036854775807) (d : Nat) : ∀ i : Nat, i + d = l.length → Ev (fun k => laws_eqPointS.l0 k l l (i : Int)) true := by
  induction d with
  | zero =>
    intro i hi
    refine Ev.step (f := fun _ => some true) (fun k => ?_) (Ev.now _)
    simp only [laws_eqPointS.l0]
    rw [if_neg (by omega)]
  | succ d ih =>
    intro i hi
    have h1 : i < l.length := by omega
    refine Ev.step (fun k => ?_) (ih (i + 1) (by omega))
    simp only [laws_eqPointS.l0, laws_eqPoint.f]
    rw [if_pos (by omega), if_pos (by omega), if_pos (by omega), w1 i (by omega)]
    simp
theorem eqPoints (l : List S82) (hb : l.length < 9223372036854775807) : Ev (fun k => laws_eqPointS.f k l l) true := by
  unfold laws_eqPointS.f
  simp only [if_true]
  exact eqPoints_l l hb l.length 0 (by omega)
theorem toFeature1 (a b c : Int) (s : ByteArray) (l : List S118) (hl : l.length ≤ 1048576) : Ev (fun k => laws_toFeature.f k a b c s l) (a, b, c, s, l.map convP) := by
  unfold laws_toFeature.f
  exact Ev.bind (toPoints l hl) (Ev.now _)
theorem eqFeature1 (a b c : Int) (s : ByteArray) (l : List S82) (hl : l.length < 9223372036854775807) : Ev (fun k => laws_eqFeature.f k a b c s l a b c s l) true := by
  unfold laws_eqFeature.f
  simp only [if_true]
  refine Ev.bind (eqPoints l hl) ?_
  simp only [if_true]
  exact Ev.now _
theorem szFeature1 (a b c : Int) (s : ByteArray) (hs : s.size ≤ 9223372036854775807) (l : List S118) (hl : l.length ≤ 9223372036854775807) (n : Int) (h0 : 0 ≤ n) (h1 : n ≤ 1048576) : ∃ r, laws_szFeature.f a b c s l n = some r ∧ (¬ r < 0 → l.length ≤ 1048576 ∧ s.size ≤ 1048576 ∧ 0 ≤ r ∧ r ≤ 1048576) := by
  unfold laws_szFeature.f laws_szPointS.f
  have w : wrap64 (n - (s.size : Int)) = n - (s.size : Int) := by unfold wrap64; omega
  rw [w]
  by_cases hc : n - (s.size : Int) < 0
  · rw [if_pos hc]; exact ⟨_, rfl, fun h => by omega⟩
  · have w2 : wrap64 (n - (s.size : Int) - (l.length : Int)) = n - (s.size : Int) - (l.length : Int) := by unfold wrap64; omega
    rw [if_neg hc, w2]
    by_cases hc2 : n - (s.size : Int) - (l.length : Int) < 0
    · rw [if_pos hc2]; exact ⟨-1, rfl, fun h => by omega⟩
    · rw [if_neg hc2]; exact ⟨n - (s.size : Int) - (l.length : Int), by simp only [Option.bind_some]; rw [if_neg hc2], fun h => by omega⟩
theorem markPts_l (d : Nat) : ∀ (i : Nat) (l : List S82) (v : Int), i + d = l.length → l.length ≤ 1048576 → 1 ≤ v → v + 2 * (d : Int) ≤ 4611686018427387904 → ∃ M : List S82, Ev (fun k => laws_markPointS.l0 k l v (i : Int)) (v + 2 * (d : Int), M) ∧ M.length = l.length := by
  induction d with
  | zero =>
    intro i l v hi hl h1 h2
    refine ⟨l, Ev.step (f := fun _ => some (v + 2 * ((0 : Nat) : Int), l)) (fun k => ?_) (Ev.now _), rfl⟩
    simp only [laws_markPointS.l0]
    rw [if_neg (by omega)]
    simp
  | succ d ih =>
    intro i l v hi hl h1 h2
    have w1 : wrap64 (v + 1) = v + 1 := by unfold wrap64; omega
    have w2 : wrap64 (v + 1 + 1) = v + 2 := by unfold wrap64; omega
    have w3 : wrap64 ((i : Int) + 1) = ((i + 1 : Nat) : Int) := by unfold wrap64; omega
    obtain ⟨M, hM, hl2⟩ := ih (i + 1) ((l.set i (⟨v, (rd_T82 l (i : Int)).f1⟩ : S82)).set i (⟨(rd_T82 (l.set i (⟨v, (rd_T82 l (i : Int)).f1⟩ : S82)) (i : Int)).f0, v + 1⟩ : S82)) (v + 2) (by simp; omega) (by simp; omega) (by omega) (by omega)
    refine ⟨M, ?_, by rw [hl2]; simp⟩
    have e : v + 2 * ((d + 1 : Nat) : Int) = v + 2 + 2 * (d : Int) := by omega
    rw [e]
    refine Ev.step (fun k => ?_) hM
    simp only [laws_markPointS.l0]
    rw [if_pos (by omega), if_pos (by omega), w1, w2, w3, Int.toNat_natCast]
    rfl
theorem markPts (l : List S82) (v : Int) (hl : l.length ≤ 1048576) (h1 : 1 ≤ v) (h2 : v + 2 * (l.length : Int) ≤ 4611686018427387904) : ∃ M : List S82, Ev (fun k => laws_markPointS.f k l v) (v + 2 * (l.length : Int), M) ∧ M.length = l.length := markPts_l l.length 0 l v (by omega) hl h1 h2
theorem eqInts_l (a b : List Int) (hl : a.length = b.length) (hb : a.length < 9223372036854775807) (d : Nat) : ∀ i : Nat, i + d = a.length → Ev (fun k => laws_eqIntS.l0 k a b (i : Int)) (decide (a.drop i = b.drop i)) := by
  induction d with
  | zero =>
    intro i hi
    refine Ev.step (f := fun _ => some (decide (a.drop i = b.drop i))) (fun k => ?_) (Ev.now _)
    simp only [laws_eqIntS.l0]
    rw [if_neg (by omega), List.drop_of_length_le (by omega), List.drop_of_length_le (by omega)]
    simp
  | succ d ih =>
    intro i hi
    have h1 : i < a.length := by omega
    have h2 : i < b.length := by omega
    have ea := List.drop_eq_getElem_cons h1
    have eb := List.drop_eq_getElem_cons h2
    by_cases he : a[i] = b[i]
    · have := ih (i + 1) (by omega)
      have e : decide (a.drop i = b.drop i) = decide (a.drop (i + 1) = b.drop (i + 1)) := decide_eq_decide.2 (by rw [ea, eb, List.cons.injEq]; exact ⟨fun h => h.2, fun h => ⟨he, h⟩⟩)
      rw [e]
      refine Ev.step (fun k => ?_) this
      simp only [laws_eqIntS.l0]
      rw [if_pos (by omega), if_pos (by omega), if_pos (by omega), rd_at a i h1, rd_at b i h2, if_pos he, w1 i (by omega)]
    · have e : decide (a.drop i = b.drop i) = false := decide_eq_false (by rw [ea, eb, List.cons.injEq]; exact fun h => he h.1)
      rw [e]
      refine Ev.step (f := fun _ => some false) (fun k => ?_) (Ev.now _)
      simp only [laws_eqIntS.l0]
      rw [if_pos (by omega), if_pos (by omega), if_pos (by omega), rd_at a i h1, rd_at b i h2, if_neg he]
theorem eqInts (a b : List Int) (hb : a.length < 9223372036854775807) : Ev (fun k => laws_eqIntS.f k a b) (decide (a = b)) := by
  unfold laws_eqIntS.f
  by_cases hl : a.length = b.length
  · simp only [if_pos (show (a.length : Int) = (b.length : Int) by omega)]
    have := eqInts_l a b hl hb a.length 0 (by omega)
    simpa using this
  · simp only [if_neg (show ¬ (a.length : Int) = (b.length : Int) by omega)]
    have e : decide (a = b) = false := by simp; intro h; exact hl (by rw [h])
    rw [e]
    exact Ev.now _
def marks (v : Int) (n : Nat) : List Int := (List.range n).map fun (j : Nat) => v + (j : Int)
theorem marks_zero (v : Int) : marks v 0 = [] := rfl
theorem marks_succ (v : Int) (n : Nat) : marks v (n + 1) = v :: marks (v + 1) n := by
  unfold marks
  rw [List.range_succ_eq_map]
  simp only [List.map_cons, List.map_map, List.cons.injEq]
  refine ⟨by simp, List.map_congr_left fun j _ => ?_⟩
  simp only [Function.comp]
  omega
theorem wrapv (v : Int) (h0 : 0 ≤ v) (h : v < 9223372036854775807) : wrap64 (v + 1) = v + 1 := by unfold wrap64; omega
theorem markInts_l (suf : List Int) : ∀ (pre : List Int) (v : Int), 0 ≤ v → pre.length + suf.length < 4611686018427387904 → v + (suf.length : Int) < 4611686018427387904 →
    Ev (fun k => laws_markIntS.l0 k (pre ++ suf) v (pre.length : Int)) (v + (suf.length : Int), pre ++ marks v suf.length) := by
  induction suf with
  | nil =>
    intro pre v h0 h1 h2
    refine Ev.step (f := fun _ => some (v + (([] : List Int).length : Int), pre ++ marks v 0)) (fun k => ?_) (Ev.now _)
    simp only [laws_markIntS.l0]
    rw [if_neg (by simp)]
    simp [marks_zero]
  | cons x suf ih =>
    intro pre v h0 h1 h2
    simp only [List.length_cons] at h1 h2
    have := ih (pre ++ [v]) (v + 1) (by omega) (by simp; omega) (by omega)
    have e : (v + 1 + (suf.length : Int), (pre ++ [v]) ++ marks (v + 1) suf.length) = (v + ((x :: suf).length : Int), pre ++ marks v (x :: suf).length) := by
      simp only [List.length_cons, marks_succ, List.append_assoc, List.singleton_append, Prod.mk.injEq, and_true]
      omega
    rw [e] at this
    refine Ev.step (fun k => ?_) this
    simp only [laws_markIntS.l0]
    rw [if_pos (by simp; omega), if_pos (by omega), wrapv v h0 (by omega), w1 pre.length (by omega)]
    congr 1
    · rw [Int.toNat_natCast, List.set_append_right _ _ (Nat.le_refl _), Nat.sub_self]
      simp
    · simp
theorem markInts (l : List Int) (h : l.length < 2305843009213693952) : Ev (fun k => laws_markIntS.f k l 1) (1 + (l.length : Int), marks 1 l.length) := by
  have := markInts_l l [] 1 (by omega) (by simp; omega) (by omega)
  simpa [laws_markIntS.f] using this
theorem heldInts_l (n : Nat) : ∀ (pre : List Int) (v : Int), 0 ≤ v → pre.length + n < 4611686018427387904 → v + (n : Int) < 4611686018427387904 →
    Ev (fun k => laws_heldIntS.l0 k (pre ++ marks v n) v (pre.length : Int)) (v + (n : Int)) := by
  induction n with
  | zero =>
    intro pre v h0 h1 h2
    refine Ev.step (f := fun _ => some (v + ((0 : Nat) : Int))) (fun k => ?_) (Ev.now _)
    simp only [laws_heldIntS.l0]
    rw [if_neg (by simp [marks_zero])]
    simp
  | succ n ih =>
    intro pre v h0 h1 h2
    have := ih (pre ++ [v]) (v + 1) (by omega) (by simp; omega) (by omega)
    have e : (pre ++ [v]) ++ marks (v + 1) n = pre ++ marks v (n + 1) := by rw [marks_succ]; simp
    have e2 : v + 1 + (n : Int) = v + ((n + 1 : Nat) : Int) := by omega
    rw [e, e2] at this
    refine Ev.step (fun k => ?_) this
    simp only [laws_heldIntS.l0]
    have hlen : (pre ++ marks v (n + 1)).length = pre.length + (n + 1) := by simp [marks]
    rw [if_pos (by rw [hlen]; omega), if_pos (by omega), rd_at _ pre.length (by rw [hlen]; omega)]
    rw [if_pos (by simp [marks_succ]), wrapv v h0 (by omega), w1 pre.length (by omega)]
    congr 1
    simp
theorem heldInts (n : Nat) (h : n < 2305843009213693952) : Ev (fun k => laws_heldIntS.f k (marks 1 n) 1) (1 + (n : Int)) := by
  have := heldInts_l n [] 1 (by omega) (by simp; omega) (by omega)
  simpa [laws_heldIntS.f] using this
theorem main : ∀ (a0_0 : Int) (a0_1 : Int) (a0_2 : Int) (a0_3 : ByteArray) (l0_4 : List (S118)), (Lit.int .i64 a0_0).wf = true → (Lit.int .i64 a0_1).wf = true → (Lit.int .i64 a0_2).wf = true → a0_3.size ≤ 9223372036854775807 → (l0_4.length ≤ 9223372036854775807 ∧ ∀ x ∈ l0_4, ((Lit.int .i64 x.f0).wf = true ∧ (Lit.int .i64 x.f1).wf = true)) → ∃ k, laws_FnExactTouchedTiles.f k a0_0 a0_1 a0_2 a0_3 l0_4 = some true := by
  intro a b c s l _ _ _ hs hl
  refine Ev.rounds (r := true) ?_
  unfold laws_FnExactTouchedTiles.f
  obtain ⟨r, hr, hb⟩ := szFeature1 a b c s hs l hl.1 1048576 (by omega) (by omega)
  rw [hr]
  simp only [Option.bind_some]
  by_cases hc : r < 0
  · simp only [if_pos hc]; exact Ev.now _
  · simp only [if_neg hc]
    obtain ⟨h1, h2, _⟩ := hb hc
    have hm' : (l.map convP).length ≤ 1048576 := by simpa using h1
    have hm : (l.map convP).length < 9223372036854775807 := by omega
    have t := toFeature1 a b c s l h1
    generalize l.map convP = L at t hm hm'
    have f1 := tt_s a b c s hs L hm
    have f2 := tt_i a b c s hs L hm
    have hv := tlsB_len a b c s L
    generalize tlsB a b c s L = v at f1 f2 hv
    have eq := eqInts v v (by omega)
    have em := markInts v (by omega)
    have eh := heldInts v.length (by omega)
    simp only [decide_true] at eq
    obtain ⟨M, hM, _⟩ := markPts L 1 hm' (by omega) (by omega)
    refine Ev.bind t (Ev.bind f1 (Ev.bind t (Ev.bind f2 (Ev.bind eq ?_))))
    simp only [if_true]
    refine Ev.bind t (Ev.bind (eqFeature1 a b c s L hm) ?_)
    simp only [if_true]
    refine Ev.bind (show Ev (fun k => laws_markFeature.f k a b c s L 1) (1 + 2 * (L.length : Int), M) from by unfold laws_markFeature.f; exact Ev.bind hM (Ev.now _)) ?_
    simp only [if_neg (show ¬ (1 + 2 * (L.length : Int) < 0) by omega)]
    refine Ev.bind eq ?_
    refine Ev.step (f := fun k => (laws_markIntS.f k v 1).bind fun b' => (laws_heldIntS.f k b'.2 1).bind fun t' => if t' < 0 then some false else if t' = b'.1 then ((laws_toFeature.f k a b c s l).bind fun q => ((impl_TouchedTiles.f k q.1 q.2.1 q.2.2.1 q.2.2.2.1 q.2.2.2.2).bind fun t200 => ((laws_eqIntS.f k t200 v).bind fun t203 => (if t203 = true then ((laws_heldIntS.f k b'.2 1).bind fun t204 => (if t204 < 0 then (some false) else (if t204 = b'.1 then (some true) else (some false)))) else (some false))))) else some false) (fun k => by simp [laws_FnExactTouchedTiles.j0]) (Ev.bind em (Ev.bind eh ?_))
    simp only [if_neg (show ¬ (1 + (v.length : Int) < 0) by omega), if_true]
    refine Ev.bind t (Ev.bind f2 (Ev.bind eq ?_))
    simp only [if_true]
    refine Ev.bind eh ?_
    simp only [if_neg (show ¬ (1 + (v.length : Int) < 0) by omega), if_true]
    exact Ev.now _
end Go.Proofs.Ytdfehjfmihokpaa.Pure.FnExactTouchedTiles

namespace Go.Proofs.Ytdfehjfmihokpaa.fnExactTouchedTiles
open Go.ChangeShapes Go.WideShapes Go.ChangeAt Go.RowKit
open Go.ChangeMaps (open_string shut_string)
open Go.Proofs.YtdfehjfmihokpaaOpen Go.Proofs.Ytdfehjfmihokpaa.PFnExactTouchedTiles Go.Proofs.YtdfehjfmihokpaaW.PrintWords
set_option linter.unusedVariables false
set_option linter.unusedSimpArgs false
theorem own : ownKnob Try.prog.godebug = none := by kernel_rfl
theorem laidOut : laidOutB Try.prog = true := by kernel_rfl
theorem o3 : Opens Try.prog 3 (Kd.int .i64) (fun n => (Lit.int .i64 n).wf = true) := opens_int Try.underlying3
theorem o9 : Opens Try.prog 9 Kd.string (fun s => s.size ≤ 9223372036854775807) := opens_string Try.underlying9
theorem o118 : Opens Try.prog 118 k118 (fun x => ((Lit.int .i64 x.f0).wf = true ∧ (Lit.int .i64 x.f1).wf = true)) := opens_struct Try.underlying118 (opensFs_cons o3 (by kernel_rfl) (by kernel_rfl) (opensFs_one o3 (by kernel_rfl) (by kernel_rfl))) (by kernel_rfl) (fun x : S118 => (x.f0, x.f1)) (fun p => ⟨p.1, p.2⟩) (fun _ => rfl)
theorem o22 : Opens Try.prog 22 (Kd.slice 118 k118) (fun l => l.length ≤ 9223372036854775807 ∧ ∀ x ∈ l, ((Lit.int .i64 x.f0).wf = true ∧ (Lit.int .i64 x.f1).wf = true)) := opens_slice Try.underlying22 o118 (by kernel_rfl) 118
theorem o24 : Opens Try.prog 24 (Kd.iso (Kd.pair (Kd.int .i64) (Kd.pair (Kd.int .i64) (Kd.pair (Kd.int .i64) (Kd.pair Kd.string (Kd.slice 118 k118))))) (fun x => x)) (fun x => ((Lit.int .i64 x.1).wf = true ∧ (Lit.int .i64 x.2.1).wf = true ∧ (Lit.int .i64 x.2.2.1).wf = true ∧ x.2.2.2.1.size ≤ 9223372036854775807 ∧ (x.2.2.2.2.length ≤ 9223372036854775807 ∧ ∀ y ∈ x.2.2.2.2, ((Lit.int .i64 y.f0).wf = true ∧ (Lit.int .i64 y.f1).wf = true)))) := opens_struct Try.underlying24 (opensFs_cons o3 (by kernel_rfl) (by kernel_rfl) (opensFs_cons o3 (by kernel_rfl) (by kernel_rfl) (opensFs_cons o3 (by kernel_rfl) (by kernel_rfl) (opensFs_cons o9 (by kernel_rfl) (by kernel_rfl) (opensFs_one o22 (by kernel_rfl) (by kernel_rfl)))))) (by kernel_rfl) (fun x => x) (fun x => x) (fun _ => rfl)
theorem okTypes : ∀ t ∈ [24], Try.prog.readableRec t = true ∧ t < Try.prog.types.size := by
  intro t ht; simp only [List.mem_cons, List.not_mem_nil, or_false] at ht; rcases ht with rfl <;> exact ⟨by kernel_rfl, of_decide_eq_true (by kernel_rfl)⟩
set_option maxRecDepth 100000 in
theorem lifted (os : Os) (started : os.Started) (H : Type) (enc : TypeId × Value → H) :
    ReturnsInHanded {} Try.checked os 8 .any (Rows.fnExactTouchedTilesSpec.pre6 enc Try.prog Try.f8 Rows.fnExactTouchedTilesRow.domain false) (Rows.fnExactTouchedTilesSpec.post enc Try.prog Try.f8 false true false false) := by
  refine returnsInHanded_of_change_sized (C := Try.checked) own started (by kernel_rfl) Try.func8
    (ChangeSpec.witness6 (enc := enc) (C := Try.checked) false ⟨#[], #[.agg #[.int .i64 0, .int .i64 0, .int .i64 0, .string ⟨#[]⟩, .slice none 0 0]], []⟩ 8 (by kernel_rfl) (by kernel_rfl) (by kernel_rfl) (by kernel_rfl)) ?_
  intro W base args ds gs before hval0 hW hcnd hsz0 _
  have hval : ∀ (j : Nat) t v, Try.f8.params[j]? = some t → args[j]? = some v → Value.okWide Try.prog W .any base t v := hval0
  have hW' := hW
  obtain ⟨p, q, hA0, hV, rfl, hfz, hnd⟩ := hW
  have hA : DataW.TrodAll enc Try.prog W 0 (fun _ => true) true Try.f8.params.toList args.toList ds p := hA0
  rw [Try.params8] at hA hval
  have hAk := hA
  obtain ⟨v0, vs0, d0, ds0, p0, q0, hargs0, rfl, rfl, h0, r0⟩ := trodAll_cons hA
  obtain ⟨rfl, rfl, rfl⟩ := trodAll_nil r0
  obtain rfl : args = #[v0] := by cases args; simp_all
  obtain ⟨rfl, rfl⟩ := trodVars_none hV
  obtain ⟨n0, hn0⟩ := h0
  obtain ⟨x0, hK0, w0⟩ := o24 _ _ _ _ _ _ hn0
  obtain ⟨cs0, rfl⟩ := agg_of Try.underlying24 (hval 0 24 v0 rfl rfl)
  obtain ⟨a0_0, a0_1, a0_2, a0_3, l0_4⟩ := x0
  obtain ⟨b0_0, b0_1, b0_2, b0_3, b0_4⟩ := w0
  have hcs0 := hK0
  generalize hcell0 : (Value.agg cs0).cells.toList = lst0 at hcs0
  obtain ⟨_, _, rfl, rfl, ⟨_, _, rfl, rfl, ⟨_, _, rfl, rfl, ⟨_, _, rfl, rfl, ⟨A0_4, c0_4, rfl, hc0_4, hr0_4⟩⟩⟩⟩⟩ := hcs0
  obtain rfl : cs0 = #[.int .i64 a0_0, .int .i64 a0_1, .int .i64 a0_2, .string a0_3, .slice A0_4 l0_4.length c0_4] := by cases cs0; simpa [Value.cells] using hcell0
  obtain ⟨k, hk⟩ := Pure.FnExactTouchedTiles.main a0_0 a0_1 a0_2 a0_3 l0_4 b0_0 b0_1 b0_2 b0_3 b0_4
  refine (PFnExactTouchedTiles.laws_FnExactTouchedTiles.calls k a0_0 a0_1 a0_2 a0_3 _ _ l0_4 true W hr0_4 hc0_4 hk).mono fun e W' ⟨he, bel0⟩ => ?_
  subst he
  have bel : Below W.heap.size W W' := bel0
  have hst := args_stay laidOut bel okTypes (fun x hx => hW'.lt x (by first | (simp at hx; done) | simpa using hx)) hAk
  exact ⟨_, rfl, _, _, _, [], _, [], hW', trodAll_mk1 (shut_bool Try.underlying4 _), hst, rfl, bel.frame _, fun h => by cases h⟩
theorem over : Rows.fnExactTouchedTilesRow.holds Try.pinned (OpenSpec.ofChange Rows.fnExactTouchedTilesSpec) :=
  OpenClaim.holds_of_wide 8 Try.f8 rfl rfl rfl rfl rfl rfl rfl ⟨rfl, rfl, rfl, rfl, rfl⟩ rfl rfl rfl rfl rfl (by kernel_rfl) Try.func8 (Facts.joined (by kernel_rfl))
    (of_decide_eq_true (by kernel_rfl)) (by unfold Func.isWrapper; first | (rw [if_pos (by decide +kernel)]; kernel_rfl) | (rw [if_neg (by decide +kernel)]; exact ⟨rfl, rfl⟩))
    (fun os started H enc _ => lifted os started H enc)
end Go.Proofs.Ytdfehjfmihokpaa.fnExactTouchedTiles
namespace Go.Proofs.Ytdfehjfmihokpaa
/-- The row, under a short name, for the claim. -/
theorem fnExactTouchedTiles_holds : Rows.FnExactTouchedTilesSaid := fnExactTouchedTiles.over
end Go.Proofs.Ytdfehjfmihokpaa
