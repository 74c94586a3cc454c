/- What a row asks of the program as a whole and what the kernel finds hard at one go: the words of the order of starting, read from the front only. -/
import Derived.Test.YtkebhlkbnnlegaaRows
import Derived.JoinedOf
import Derived.WalkKit
import Derived.ProofKit
namespace Go.Proofs.Ytkebhlkbnnlegaa.Facts
set_option maxRecDepth 100000
theorem words_app : ∀ (w r : List Char), (∀ c ∈ w, c ≠ ' ') → wordsSigns (w ++ ' ' :: r) = w :: wordsSigns r
  | [], r, _ => rfl
  | c :: w, r, h => by
    have ih := words_app w r (fun x hx => h x (List.mem_cons_of_mem _ hx))
    have hc : c ≠ ' ' := h c List.mem_cons_self
    rw [List.cons_append, wordsSigns.eq_def]
    split
    · rename_i e; cases e
    · rename_i e; injection e with e1 e2; exact absurd e1 hc
    · rename_i e; injection e with e1 e2; subst e1; subst e2; rw [ih]
theorem order : ∃ s : List Char, (∀ c ∈ s, c ≠ ' ') ∧ isSumSigns s = true ∧ ∃ r, Try.prog.initOrder.toList = "harness".toList ++ ' ' :: (s ++ ' ' :: ("cut".toList ++ ' ' :: r)) := by
  refine ⟨['6', 'd', '0', '7', '7', '5', 'c', '8', '7', '2', '3', 'c', 'd', '6', '8', 'c', 'e', '7', 'a', '4', 'd', '0', '6', 'c', 'd', '7', '0', '0', 'e', '8', 'e', '6', '2', '9', '7', '5', '4', '3', 'c', '8', '7', '6', 'c', '6', '1', '9', '7', '6', 'e', '0', '7', '7', '3', '9', '5', 'a', '8', 'c', '9', '3', '7', '1', 'a', '8'], by decide, by decide, ['a', 't', ' ', 'l', 'o', 'o', 'p', '.', 'e', 'x', 'a', 'm', 'p', 'l', 'e', '/', 'g', '0', '3', '0', '0', '5', '/', 'l', 'a', 'w', 's', '.', 'F', 'n', 'E', 'x', 'a', 'c', 't', 'D', 'r', 'o', 'p', 'F', 'r', 'o', 'm', ' ', 'l', 'o', 'o', 'p', '.', 'e', 'x', 'a', 'm', 'p', 'l', 'e', '/', 'g', '0', '3', '0', '0', '5', '/', 'l', 'a', 'w', 's', '.', 'F', 'n', 'E', 'x', 'a', 'c', 't', 'C', 'a', 'n', 'S', 'h', 'r', 'i', 'n', 'k', ' ', 'l', 'o', 'o', 'p', '.', 'e', 'x', 'a', 'm', 'p', 'l', 'e', '/', 'g', '0', '3', '0', '0', '5', '/', 'l', 'a', 'w', 's', '.', 'F', 'n', 'E', 'x', 'a', 'c', 't', 'S', 'h', 'r', 'i', 'n', 'k', 'F', 'e', 'a', 't', 'u', 'r', 'e', ' ', 'l', 'o', 'o', 'p', '.', 'e', 'x', 'a', 'm', 'p', 'l', 'e', '/', 'g', '0', '3', '0', '0', '5', '/', 'l', 'a', 'w', 's', '.', 'F', 'n', 'E', 'x', 'a', 'c', 't', 'S', 'h', 'r', 'i', 'n', 'k', 'A', 'l', 'l', ' ', 'l', 'o', 'o', 'p', '.', 'e', 'x', 'a', 'm', 'p', 'l', 'e', '/', 'g', '0', '3', '0', '0', '5', '/', 'l', 'a', 'w', 's', '.', 'F', 'n', 'S', 'h', 'r', 'u', 'n', 'k'], ?_⟩
  have e : Try.prog.initOrder = String.ofList (['h', 'a', 'r', 'n', 'e', 's', 's'] ++ ' ' :: (['6', 'd', '0', '7', '7', '5', 'c', '8', '7', '2', '3', 'c', 'd', '6', '8', 'c', 'e', '7', 'a', '4', 'd', '0', '6', 'c', 'd', '7', '0', '0', 'e', '8', 'e', '6', '2', '9', '7', '5', '4', '3', 'c', '8', '7', '6', 'c', '6', '1', '9', '7', '6', 'e', '0', '7', '7', '3', '9', '5', 'a', '8', 'c', '9', '3', '7', '1', 'a', '8'] ++ ' ' :: (['c', 'u', 't'] ++ ' ' :: ['a', 't', ' ', 'l', 'o', 'o', 'p', '.', 'e', 'x', 'a', 'm', 'p', 'l', 'e', '/', 'g', '0', '3', '0', '0', '5', '/', 'l', 'a', 'w', 's', '.', 'F', 'n', 'E', 'x', 'a', 'c', 't', 'D', 'r', 'o', 'p', 'F', 'r', 'o', 'm', ' ', 'l', 'o', 'o', 'p', '.', 'e', 'x', 'a', 'm', 'p', 'l', 'e', '/', 'g', '0', '3', '0', '0', '5', '/', 'l', 'a', 'w', 's', '.', 'F', 'n', 'E', 'x', 'a', 'c', 't', 'C', 'a', 'n', 'S', 'h', 'r', 'i', 'n', 'k', ' ', 'l', 'o', 'o', 'p', '.', 'e', 'x', 'a', 'm', 'p', 'l', 'e', '/', 'g', '0', '3', '0', '0', '5', '/', 'l', 'a', 'w', 's', '.', 'F', 'n', 'E', 'x', 'a', 'c', 't', 'S', 'h', 'r', 'i', 'n', 'k', 'F', 'e', 'a', 't', 'u', 'r', 'e', ' ', 'l', 'o', 'o', 'p', '.', 'e', 'x', 'a', 'm', 'p', 'l', 'e', '/', 'g', '0', '3', '0', '0', '5', '/', 'l', 'a', 'w', 's', '.', 'F', 'n', 'E', 'x', 'a', 'c', 't', 'S', 'h', 'r', 'i', 'n', 'k', 'A', 'l', 'l', ' ', 'l', 'o', 'o', 'p', '.', 'e', 'x', 'a', 'm', 'p', 'l', 'e', '/', 'g', '0', '3', '0', '0', '5', '/', 'l', 'a', 'w', 's', '.', 'F', 'n', 'S', 'h', 'r', 'u', 'n', 'k']))) := by kernel_rfl
  rw [e, String.toList_ofList]; rfl
theorem words : ∃ r, behindMainWord (wordsSigns Try.prog.initOrder.toList) = "cut".toList :: r := by
  obtain ⟨s, h1, h2, r, h⟩ := order
  refine ⟨wordsSigns r, ?_⟩
  rw [h, words_app _ _ (by decide), words_app _ _ h1, words_app _ _ (by decide)]
  exact if_pos (by rw [h2]; rfl)
theorem fa (r : List (List Char)) : ((("cut".toList == "gc".toList || "cut".toList == "spec".toList) && (r.isEmpty || r.head? == some "stop".toList)) : Bool) = false := by kernel_rfl
theorem fb (r : List (List Char)) : ("cut".toList == "carried".toList && r.take 2 == ["gc".toList, "cut".toList] && !Try.prog.laysLater && !Try.prog.bearsReflect) = false := by kernel_rfl
theorem fc (r : List (List Char)) : stripLifts liftWords ("cut".toList :: r) = ([], "cut".toList :: r) := by kernel_rfl
theorem fd : Try.prog.laysLater = false := by kernel_rfl
theorem fe : Try.prog.bearsReflect = false := by kernel_rfl
theorem ff : Try.prog.doorFits [] = true := by kernel_rfl
theorem mayEnter' : Try.prog.mayEnter = true := by
  obtain ⟨r, h⟩ := words
  rw [Program.mayEnter.eq_1]
  generalize behindMainWord (wordsSigns Try.prog.initOrder.toList) = z at *
  subst h
  dsimp only
  rw [fa, fb, fc, fd, fe, ff]
  rfl
theorem head' : Try.prog.headLifts = [] := by
  obtain ⟨r, h⟩ := words
  rw [Program.headLifts.eq_1]
  generalize behindMainWord (wordsSigns Try.prog.initOrder.toList) = z at *
  subst h
  rw [fc]
  rfl
theorem lifts' : Try.prog.liftsFinal = false := by
  obtain ⟨r, h⟩ := words
  rw [Program.liftsFinal.eq_1, head']
  generalize behindMainWord (wordsSigns Try.prog.initOrder.toList) = z at *
  subst h
  rfl
theorem make' : Try.prog.make = some .cut := by
  obtain ⟨r, h⟩ := words
  rw [Program.make.eq_1]
  generalize behindMainWord (wordsSigns Try.prog.initOrder.toList) = z at *
  subst h
  rfl
theorem mayEnter : Try.pinned.checked.prog.mayEnter = true := mayEnter'
theorem lifts : Try.pinned.checked.prog.liftsFinal = false := lifts'
theorem make : Try.pinned.checked.prog.make = some .cut := make'
theorem joined {f : FuncId} {fn : Func} {s : ChangeSpec} {c : OpenClaim}
    (h : (c.wf (OpenSpec.ofChange s) && laidOutB Try.pinned.checked.prog && mapsRowed Try.pinned.checked.prog &&
  fn.params.all (Try.pinned.checked.prog.readableRec ·) && namedTie Try.pinned.checked.prog c.named s.vars &&
  (c.stops == []) && (Try.pinned.checked.prog.stops == []) && (c.knobs == []) && (Try.pinned.checked.prog.stopKnobs == []) &&
  (c.inPlace == Try.pinned.checked.prog.inPlace f) && (c.unfollowed == Try.pinned.checked.prog.unfollowed f) && (c.recurses == Try.pinned.checked.prog.recurses f) && (c.named == Try.pinned.checked.prog.varsNamed f) &&
  (c.maps == (fn.params.toList ++ s.plain.varTypes Try.pinned.checked.prog).any (Try.pinned.checked.prog.mapsRec ·)) && (c.ifaces == (fn.params.toList ++ s.plain.varTypes Try.pinned.checked.prog).any (Try.pinned.checked.prog.ifacesRec ·)) && (c.mapsOut == Try.pinned.checked.prog.mapsAmong fn.resultTypes.toList) &&
  (c.loops == (fn.params.toList ++ s.plain.varTypes Try.pinned.checked.prog).any (Try.pinned.checked.prog.loopsFrom ·)) && (c.wideKeys == (fn.params.toList ++ s.plain.varTypes Try.pinned.checked.prog ++ fn.resultTypes.toList).any (Try.pinned.checked.prog.wideKeysFrom ·)) &&
  s.vars.all (Try.pinned.checked.prog.varReadable ·) && fn.resultTypes.all (fun t => Try.pinned.checked.prog.readableRec t && decide (t < Try.pinned.checked.prog.types.size)) && (c.ifacesOut == fn.resultTypes.toList.any (Try.pinned.checked.prog.ifacesRec ·)) && (c.loopsOut == fn.resultTypes.toList.any (Try.pinned.checked.prog.loopsFrom ·)) && (c.plainKeys == Try.pinned.checked.prog.plainKeys) && c.shortTexts.isNone && Try.pinned.checked.prog.stopsHeard && (c.lifted == false) && (some Make.cut == some c.make) && (c.kinds == (if c.domain.isEmpty then [] else fn.params.toList.map fun t => match Try.pinned.checked.prog.underlying t with | some (.int k) => some k | _ => none)) && (c.pinned == c.pinnedBy) &&
  (c.veiled == (fn.params.toList ++ s.plain.varTypes Try.pinned.checked.prog ++ fn.resultTypes.toList).any (Try.pinned.checked.prog.veiledRec ·)) && c.veiledFits Try.pinned.checked.prog fn.params.toList (fn.params.toList ++ s.plain.varTypes Try.pinned.checked.prog ++ fn.resultTypes.toList)) = true) :
    joinedFacts Try.pinned.checked.prog f fn s c = true := by
  unfold joinedFacts
  rw [mayEnter, lifts, make, Bool.and_true]
  exact h
end Go.Proofs.Ytkebhlkbnnlegaa.Facts
