/- What a row asks of the program as a whole and what the kernel finds hard at one go: the words of the order of starting, read from the front only. -/
import Derived.Test.YtkomgmgpgnjooaaGreatRows
import Derived.JoinedOf
import Derived.WalkKit
import Derived.ProofKit
namespace Go.Proofs.YtkomgmgpgnjooaaGreat.Facts
set_option maxRecDepth 100000
theorem words_app : ∀ (w r : List Char), (∀ c ∈ w, c ≠ ' ') → wordsSigns (w ++ ' ' :: r) = w :: wordsSigns r
  | [], r, _ => rfl
  | c :: w, r, h => by
    have ih := words_app w r (fun x hx => h x (List.mem_cons_of_mem _ hx))
    have hc : c ≠ ' ' := h c List.mem_cons_self
    rw [List.cons_append, wordsSigns.eq_def]
    split
    · rename_i e; cases e
    · rename_i e; injection e with e1 e2; exact absurd e1 hc
    · rename_i e; injection e with e1 e2; subst e1; subst e2; rw [ih]
theorem order : ∃ s : List Char, (∀ c ∈ s, c ≠ ' ') ∧ isSumSigns s = true ∧ ∃ r, Tryz.prog.initOrder.toList = "harness".toList ++ ' ' :: (s ++ ' ' :: ("cut".toList ++ ' ' :: r)) := by
  refine ⟨['3', 'd', '1', '2', '4', '6', '7', '7', 'b', '9', '7', '4', 'e', '5', '2', '2', 'c', '5', '5', '8', '3', '7', 'd', 'f', '0', '9', '9', '6', '9', 'a', '7', 'a', '1', '3', '0', '7', 'e', '4', '7', 'e', '6', '8', 'a', '3', '0', 'f', '2', '4', 'e', 'e', '6', 'a', '9', '6', 'c', 'b', 'b', '8', '4', 'a', 'b', '2', '1', 'f'], by decide, by decide, ['a', 't', ' ', 'l', 'o', 'o', 'p', '.', 'e', 'x', 'a', 'm', 'p', 'l', 'e', '/', 'g', '0', '3', '0', '0', '5', '/', 'l', 'a', 'w', 's', '.', 'F', 'n', 'E', 'x', 'a', 'c', 't', 'J', 'o', 'i', 'n', 'T', 'i', 'l', 'e', 's', ' ', 'l', 'o', 'o', 'p', '.', 'e', 'x', 'a', 'm', 'p', 'l', 'e', '/', 'g', '0', '3', '0', '0', '5', '/', 'l', 'a', 'w', 's', '.', 'F', 'n', 'E', 'x', 'a', 'c', 't', 'P', 'l', 'a', 'c', 'e', 'N', 'a', 'm', 'e', 's', ' ', 'l', 'o', 'o', 'p', '.', 'e', 'x', 'a', 'm', 'p', 'l', 'e', '/', 'g', '0', '3', '0', '0', '5', '/', 'l', 'a', 'w', 's', '.', 'F', 'n', 'E', 'x', 'a', 'c', 't', 'U', 'n', 'p', 'l', 'a', 'c', 'e', 'd', ' ', 'l', 'o', 'o', 'p', '.', 'e', 'x', 'a', 'm', 'p', 'l', 'e', '/', 'g', '0', '3', '0', '0', '5', '/', 'l', 'a', 'w', 's', '.', 'F', 'n', 'E', 'x', 'a', 'c', 't', 'S', 'h', 'o', 'w', 'n', 'I', 'd', 's'], ?_⟩
  have e : Tryz.prog.initOrder = String.ofList (['h', 'a', 'r', 'n', 'e', 's', 's'] ++ ' ' :: (['3', 'd', '1', '2', '4', '6', '7', '7', 'b', '9', '7', '4', 'e', '5', '2', '2', 'c', '5', '5', '8', '3', '7', 'd', 'f', '0', '9', '9', '6', '9', 'a', '7', 'a', '1', '3', '0', '7', 'e', '4', '7', 'e', '6', '8', 'a', '3', '0', 'f', '2', '4', 'e', 'e', '6', 'a', '9', '6', 'c', 'b', 'b', '8', '4', 'a', 'b', '2', '1', 'f'] ++ ' ' :: (['c', 'u', 't'] ++ ' ' :: ['a', 't', ' ', 'l', 'o', 'o', 'p', '.', 'e', 'x', 'a', 'm', 'p', 'l', 'e', '/', 'g', '0', '3', '0', '0', '5', '/', 'l', 'a', 'w', 's', '.', 'F', 'n', 'E', 'x', 'a', 'c', 't', 'J', 'o', 'i', 'n', 'T', 'i', 'l', 'e', 's', ' ', 'l', 'o', 'o', 'p', '.', 'e', 'x', 'a', 'm', 'p', 'l', 'e', '/', 'g', '0', '3', '0', '0', '5', '/', 'l', 'a', 'w', 's', '.', 'F', 'n', 'E', 'x', 'a', 'c', 't', 'P', 'l', 'a', 'c', 'e', 'N', 'a', 'm', 'e', 's', ' ', 'l', 'o', 'o', 'p', '.', 'e', 'x', 'a', 'm', 'p', 'l', 'e', '/', 'g', '0', '3', '0', '0', '5', '/', 'l', 'a', 'w', 's', '.', 'F', 'n', 'E', 'x', 'a', 'c', 't', 'U', 'n', 'p', 'l', 'a', 'c', 'e', 'd', ' ', 'l', 'o', 'o', 'p', '.', 'e', 'x', 'a', 'm', 'p', 'l', 'e', '/', 'g', '0', '3', '0', '0', '5', '/', 'l', 'a', 'w', 's', '.', 'F', 'n', 'E', 'x', 'a', 'c', 't', 'S', 'h', 'o', 'w', 'n', 'I', 'd', 's']))) := by kernel_rfl
  rw [e, String.toList_ofList]; rfl
theorem words : ∃ r, behindMainWord (wordsSigns Tryz.prog.initOrder.toList) = "cut".toList :: r := by
  obtain ⟨s, h1, h2, r, h⟩ := order
  refine ⟨wordsSigns r, ?_⟩
  rw [h, words_app _ _ (by decide), words_app _ _ h1, words_app _ _ (by decide)]
  exact if_pos (by rw [h2]; rfl)
theorem fa (r : List (List Char)) : ((("cut".toList == "gc".toList || "cut".toList == "spec".toList) && (r.isEmpty || r.head? == some "stop".toList)) : Bool) = false := by kernel_rfl
theorem fb (r : List (List Char)) : ("cut".toList == "carried".toList && r.take 2 == ["gc".toList, "cut".toList] && !Tryz.prog.laysLater && !Tryz.prog.bearsReflect) = false := by kernel_rfl
theorem fc (r : List (List Char)) : stripLifts liftWords ("cut".toList :: r) = ([], "cut".toList :: r) := by kernel_rfl
theorem fd : Tryz.prog.laysLater = false := by kernel_rfl
theorem fe : Tryz.prog.bearsReflect = false := by kernel_rfl
theorem ff : Tryz.prog.doorFits [] = true := by kernel_rfl
theorem mayEnter' : Tryz.prog.mayEnter = true := by
  obtain ⟨r, h⟩ := words
  rw [Program.mayEnter.eq_1]
  generalize behindMainWord (wordsSigns Tryz.prog.initOrder.toList) = z at *
  subst h
  dsimp only
  rw [fa, fb, fc, fd, fe, ff]
  rfl
theorem head' : Tryz.prog.headLifts = [] := by
  obtain ⟨r, h⟩ := words
  rw [Program.headLifts.eq_1]
  generalize behindMainWord (wordsSigns Tryz.prog.initOrder.toList) = z at *
  subst h
  rw [fc]
  rfl
theorem lifts' : Tryz.prog.liftsFinal = false := by
  obtain ⟨r, h⟩ := words
  rw [Program.liftsFinal.eq_1, head']
  generalize behindMainWord (wordsSigns Tryz.prog.initOrder.toList) = z at *
  subst h
  rfl
theorem make' : Tryz.prog.make = some .cut := by
  obtain ⟨r, h⟩ := words
  rw [Program.make.eq_1]
  generalize behindMainWord (wordsSigns Tryz.prog.initOrder.toList) = z at *
  subst h
  rfl
theorem mayEnter : Tryz.pinned.checked.prog.mayEnter = true := mayEnter'
theorem lifts : Tryz.pinned.checked.prog.liftsFinal = false := lifts'
theorem make : Tryz.pinned.checked.prog.make = some .cut := make'
theorem joined {f : FuncId} {fn : Func} {s : ChangeSpec} {c : OpenClaim}
    (h : (c.wf (OpenSpec.ofChange s) && laidOutB Tryz.pinned.checked.prog && mapsRowed Tryz.pinned.checked.prog &&
  fn.params.all (Tryz.pinned.checked.prog.readableRec ·) && namedTie Tryz.pinned.checked.prog c.named s.vars &&
  (c.stops == []) && (Tryz.pinned.checked.prog.stops == []) && (c.knobs == []) && (Tryz.pinned.checked.prog.stopKnobs == []) &&
  (c.inPlace == Tryz.pinned.checked.prog.inPlace f) && (c.unfollowed == Tryz.pinned.checked.prog.unfollowed f) && (c.recurses == Tryz.pinned.checked.prog.recurses f) && (c.named == Tryz.pinned.checked.prog.varsNamed f) &&
  (c.maps == (fn.params.toList ++ s.plain.varTypes Tryz.pinned.checked.prog).any (Tryz.pinned.checked.prog.mapsRec ·)) && (c.ifaces == (fn.params.toList ++ s.plain.varTypes Tryz.pinned.checked.prog).any (Tryz.pinned.checked.prog.ifacesRec ·)) && (c.mapsOut == Tryz.pinned.checked.prog.mapsAmong fn.resultTypes.toList) &&
  (c.loops == (fn.params.toList ++ s.plain.varTypes Tryz.pinned.checked.prog).any (Tryz.pinned.checked.prog.loopsFrom ·)) && (c.wideKeys == (fn.params.toList ++ s.plain.varTypes Tryz.pinned.checked.prog ++ fn.resultTypes.toList).any (Tryz.pinned.checked.prog.wideKeysFrom ·)) &&
  s.vars.all (Tryz.pinned.checked.prog.varReadable ·) && fn.resultTypes.all (fun t => Tryz.pinned.checked.prog.readableRec t && decide (t < Tryz.pinned.checked.prog.types.size)) && (c.ifacesOut == fn.resultTypes.toList.any (Tryz.pinned.checked.prog.ifacesRec ·)) && (c.loopsOut == fn.resultTypes.toList.any (Tryz.pinned.checked.prog.loopsFrom ·)) && (c.plainKeys == Tryz.pinned.checked.prog.plainKeys) && c.shortTexts.isNone && Tryz.pinned.checked.prog.stopsHeard && (c.lifted == false) && (some Make.cut == some c.make) && (c.kinds == (if c.domain.isEmpty then [] else fn.params.toList.map fun t => match Tryz.pinned.checked.prog.underlying t with | some (.int k) => some k | _ => none)) && (c.pinned == c.pinnedBy) &&
  (c.veiled == (fn.params.toList ++ s.plain.varTypes Tryz.pinned.checked.prog ++ fn.resultTypes.toList).any (Tryz.pinned.checked.prog.veiledRec ·)) && c.veiledFits Tryz.pinned.checked.prog fn.params.toList (fn.params.toList ++ s.plain.varTypes Tryz.pinned.checked.prog ++ fn.resultTypes.toList)) = true) :
    joinedFacts Tryz.pinned.checked.prog f fn s c = true := by
  unfold joinedFacts
  rw [mayEnter, lifts, make, Bool.and_true]
  exact h
end Go.Proofs.YtkomgmgpgnjooaaGreat.Facts
