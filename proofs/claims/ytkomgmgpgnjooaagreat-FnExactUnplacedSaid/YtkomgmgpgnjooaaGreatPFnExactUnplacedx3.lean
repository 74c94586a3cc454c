-- Written by a program of this session's (evlaw.py).
import Derived.Test.YtkomgmgpgnjooaaGreatPFnExactUnplacedx2
namespace Go.Proofs.YtkomgmgpgnjooaaGreat.PFnExactUnplaced
open Go.RowKit Go.Proofs.YtkomgmgpgnjooaaGreatW.PrintWords Go.Proofs.YtkomgmgpgnjooaaGreatW.PrintLast Go.Proofs.YtkomgmgpgnjooaaGreatW.PrintMore Go.Proofs.YtkomgmgpgnjooaaGreatGeo Go.Proofs.YtkomgmgpgnjooaaGreatHand Go.Proofs.YtkomgmgpgnjooaaGreatMeet Go.Proofs.YtkomgmgpgnjooaaGreatQuiet Go.Proofs.YtkomgmgpgnjooaaGreatZ
open Go Go.Proofs.YtkomgmgpgnjooaaGreatEv
attribute [local go_sem] max2_int min2_int max_two min_two max_three min_three max_four min_four   -- for this text's walks alone
set_option linter.unusedVariables false
set_option linter.unusedSimpArgs false



set_option linter.unusedSimpArgs false

attribute [local go_sem high] eqA75
set_option linter.unusedVariables false
set_option linter.unusedSimpArgs false
set_option maxRecDepth 100000
noncomputable section
theorem spec_IsRing.br (n : Nat) : (∀ K, n ≤ K → ∀ (x4 : Int) (x3 : List S133) t, spec_IsRing.l0 n x3 x4 = some t → spec_IsRing.p5 K x4 x3 = some (spec_IsRing.toH t)) ∧ (∀ K, n ≤ K → ∀ (x4 : Int) (x5 : Int) (x3 : List S133) t, spec_IsRing.l1 n x3 x4 x5 = some t → spec_IsRing.p10 K x4 x5 x3 = some (spec_IsRing.toH t)) := by
  induction n using Nat.strongRecOn with
  | _ n ih =>
  refine ⟨fun K hK x4 x3 t h => ?_, fun K hK x4 x5 x3 t h => ?_⟩
  all_goals (rcases n with _ | k)
  all_goals (try (exact nos h))
  all_goals (obtain ⟨K, rfl⟩ : ∃ q, K = q + 1 := ⟨K - 1, by omega⟩)
  all_goals (first | rw [spec_IsRing.e5] | rw [spec_IsRing.e10])
  all_goals (simp only [spec_IsRing.l0, spec_IsRing.l1] at h)
  repeat' (with_reducible first
   | exact nos h
   | (cases some_inj h; exact spec_IsRing.rt _)
   | exact (ih _ (by omega)).1 _ (by omega) _ _ _ h
   | exact (ih _ (by omega)).2 _ (by omega) _ _ _ _ h
   | ((have q : spec_IsRing.j2 k _ _ _ _ _ = some _ := h; clear q); rcases k with _ | k <;> simp only [spec_IsRing.j2, reduceCtorEq] at h)
   | (simp only [Option.bind_some] at h)
   | (refine ite_by h ?_ ?_ <;> (intro hc h; (try simp only [nrm] at hc)))
   | refine itT ?_
   | refine itF ?_
   | (refine bind_by h (fun t ht h => ?_); (first | refine (spec_l1In.ap_of (spec_l1In.go ht _)).trans ?_ | refine (spec_l7Segments.ap_of (spec_l7Segments.go ht _ (by omega))).trans ?_ | refine (spec_IsSegment.ap_of (spec_IsSegment.go ht _)).trans ?_ | refine (spec_HowMeet.ap_of (spec_HowMeet.go ht _)).trans ?_); (try dsimp only at h ⊢))
   | (simp only [nr2] at h ⊢)
   | (exfalso; omega))
theorem spec_IsRing.go {k : Nat} {l0 : List S75} {t} (h : spec_IsRing.f k l0 = some t) (K : Nat) (hK : k ≤ K) : spec_IsRing.run K (l0, ()) = some (spec_IsRing.toH t) := by
  rw [spec_IsRing.ef]
  (try dsimp only)
  unfold spec_IsRing.f at h
  repeat' (with_reducible first
   | exact nos h
   | (cases some_inj h; exact spec_IsRing.rt _)
   | exact (spec_IsRing.br _).1 _ (by omega) _ _ _ h
   | exact (spec_IsRing.br _).2 _ (by omega) _ _ _ _ h
   | ((have q : spec_IsRing.j2 k _ _ _ _ _ = some _ := h; clear q); rcases k with _ | k <;> simp only [spec_IsRing.j2, reduceCtorEq] at h)
   | (simp only [Option.bind_some] at h)
   | (refine ite_by h ?_ ?_ <;> (intro hc h; (try simp only [nrm] at hc)))
   | refine itT ?_
   | refine itF ?_
   | (refine bind_by h (fun t ht h => ?_); (first | refine (spec_l1In.ap_of (spec_l1In.go ht _)).trans ?_ | refine (spec_l7Segments.ap_of (spec_l7Segments.go ht _ (by omega))).trans ?_ | refine (spec_IsSegment.ap_of (spec_IsSegment.go ht _)).trans ?_ | refine (spec_HowMeet.ap_of (spec_HowMeet.go ht _)).trans ?_); (try dsimp only at h ⊢))
   | (simp only [nr2] at h ⊢)
   | (exfalso; omega))
def spec_IsLine.Fs : List (Spc env) := [spec_IsPoint.spec, spec_l1In.spec]
def spec_IsLine.fin : St eΓ → Option (HL eΓ [.b]) := finR env Tryz.f167.results.toList [.b]
def spec_IsLine.cut : Nat → Option (List (Lv SC)) := lk [(2, [⟨0, none, false⟩, ⟨3, none, false⟩])]
def spec_IsLine.ret (r0 : Bool) : Option (HL eΓ [.b]) := some (r0, ())
def spec_IsLine.p2 (k : Nat) (x3 : Int) (x0 : List S75) : Option (HL eΓ [.b]) := evM env spec_IsLine.Fs Tryz.f167.ntmps spec_IsLine.fin spec_IsLine.cut k [.code (sub_ [1, 0, 1, 0, 0, 0, 0] (bodyOf Tryz.f167)), .code (sub_ [1, 0, 1, 0, 0, 0, 1] (bodyOf Tryz.f167)), .code (sub_ [1, 0, 1, 0, 0, 1] (bodyOf Tryz.f167)), .lp (sub_ [1, 0, 1, 0, 0] (bodyOf Tryz.f167)), .blk 0, .code (sub_ [1, 1] (bodyOf Tryz.f167))] (mkSt [(0, .c (.sl 0)), (3, .c (.v (.int .i64 x3)))] [.row .ro 75 (.st .s75) x0])
theorem spec_IsLine.e2 (k : Nat) (x3 : Int) (x0 : List S75) : spec_IsLine.p2 (k + 1) x3 x0 = if x3 < (x0.length : Int) then (if 0 ≤ x3 then (if x3 < (x0.length : Int) then (spec_IsPoint.ap k (⟨(rd_T75 x0 x3).f0, (rd_T75 x0 x3).f1⟩ : S75) fun r1 => if (!r1) = true then (spec_IsLine.ret false) else (if x3 > 0 then (if 0 ≤ (wrap64 (x3 - 1)) then (if (wrap64 (x3 - 1)) < (x0.length : Int) then (if 0 ≤ x3 then (if x3 < (x0.length : Int) then (if ((rd_T75 x0 (wrap64 (x3 - 1))).f0) = ((rd_T75 x0 x3).f0) ∧ (((rd_T75 x0 (wrap64 (x3 - 1))).f1) = ((rd_T75 x0 x3).f1) ∧ True) then (spec_IsLine.ret false) else (spec_IsLine.p2 k (wrap64 (x3 + 1)) x0)) else none) else none) else none) else none) else (spec_IsLine.p2 k (wrap64 (x3 + 1)) x0))) else none) else none) else (spec_l1In.ap k (x0.length : Int) 2 10 fun r2 => spec_IsLine.ret r2) := by kernel_rfl
def spec_IsLine.run (k : Nat) (h : HL eΓ [.l 75 (.st .s75)]) : Option (HL eΓ [.b]) := evF env spec_IsLine.Fs Tryz.f167 spec_IsLine.cut [.l 75 (.st .s75)] [.b] k h
theorem spec_IsLine.ef (k : Nat) (h0 : List S75) : spec_IsLine.run k (h0, ()) = spec_IsLine.p2 k 0 h0 := by kernel_rfl
def spec_IsLine.toH (t : Bool) : HL eΓ [.b] := (t, ())
def spec_IsLine.spec : Spc env := ⟨167, [.l 75 (.st .s75)], [.b], spec_IsLine.run⟩
def spec_IsLine.ap {R : Type} (k : Nat) (h0 : List S75) (K : Bool → Option R) : Option R := (spec_IsLine.run k (h0, ())).bind fun r => K (r.1 : Bool)
theorem spec_IsLine.ap_of {R : Type} {k : Nat} {h0 : List S75} {r0 : Bool} {K : Bool → Option R} (h : spec_IsLine.run k (h0, ()) = some (r0, ())) : spec_IsLine.ap k h0 K = K r0 := by unfold spec_IsLine.ap; rw [h]; rfl
theorem spec_IsLine.snd : Snd env spec_IsLine.spec := evF_snd env_ok (sndC spec_IsPoint.snd (sndC spec_l1In.snd (sndN)))
attribute [local irreducible] spec_IsLine.run
theorem spec_IsLine.rt (a0 : Bool) : spec_IsLine.ret a0 = some (spec_IsLine.toH (a0)) := rfl
theorem spec_IsLine.br (n : Nat) : (∀ K, n ≤ K → ∀ (x3 : Int) (x0 : List S75) t, spec_IsLine.l0 n x0 x3 = some t → spec_IsLine.p2 K x3 x0 = some (spec_IsLine.toH t)) := by
  induction n using Nat.strongRecOn with
  | _ n ih =>
  intro K hK x3 x0 t h
  all_goals (rcases n with _ | k)
  all_goals (try (exact nos h))
  all_goals (obtain ⟨K, rfl⟩ : ∃ q, K = q + 1 := ⟨K - 1, by omega⟩)
  all_goals (first | rw [spec_IsLine.e2])
  all_goals (simp only [spec_IsLine.l0] at h)
  repeat' (with_reducible first
   | exact nos h
   | (cases some_inj h; exact spec_IsLine.rt _)
   | exact (ih _ (by omega)) _ (by omega) _ _ _ h
   | (simp only [Option.bind_some] at h)
   | (refine ite_by h ?_ ?_ <;> (intro hc h; (try simp only [nrm] at hc)))
   | refine itT ?_
   | refine itF ?_
   | (refine bind_by h (fun t ht h => ?_); (first | refine (spec_IsPoint.ap_of (spec_IsPoint.go ht _)).trans ?_ | refine (spec_l1In.ap_of (spec_l1In.go ht _)).trans ?_); (try dsimp only at h ⊢))
   | (simp only [nr2] at h ⊢)
   | (exfalso; omega))
theorem spec_IsLine.go {k : Nat} {l0 : List S75} {t} (h : spec_IsLine.f k l0 = some t) (K : Nat) (hK : k ≤ K) : spec_IsLine.run K (l0, ()) = some (spec_IsLine.toH t) := by
  rw [spec_IsLine.ef]
  (try dsimp only)
  unfold spec_IsLine.f at h
  repeat' (with_reducible first
   | exact nos h
   | (cases some_inj h; exact spec_IsLine.rt _)
   | exact (spec_IsLine.br _) _ (by omega) _ _ _ h
   | (simp only [Option.bind_some] at h)
   | (refine ite_by h ?_ ?_ <;> (intro hc h; (try simp only [nrm] at hc)))
   | refine itT ?_
   | refine itF ?_
   | (refine bind_by h (fun t ht h => ?_); (first | refine (spec_IsPoint.ap_of (spec_IsPoint.go ht _)).trans ?_ | refine (spec_l1In.ap_of (spec_l1In.go ht _)).trans ?_); (try dsimp only at h ⊢))
   | (simp only [nr2] at h ⊢)
   | (exfalso; omega))
def spec_SegmentsOf.Fs : List (Spc env) := [spec_IsLine.spec]
def spec_SegmentsOf.fin : St eΓ → Option (HL eΓ [.l 133 (.st .s133)]) := finR env Tryz.f120.results.toList [.l 133 (.st .s133)]
def spec_SegmentsOf.cut : Nat → Option (List (Lv SC)) := lk [(3, [⟨0, none, false⟩, ⟨3, none, false⟩, ⟨4, none, false⟩])]
def spec_SegmentsOf.ret (r0 : List S133) : Option (HL eΓ [.l 133 (.st .s133)]) := some (r0, ())
def spec_SegmentsOf.p3 (k : Nat) (x4 : Int) (x0 : List S75) (x3 : List S133) : Option (HL eΓ [.l 133 (.st .s133)]) := evM env spec_SegmentsOf.Fs Tryz.f120.ntmps spec_SegmentsOf.fin spec_SegmentsOf.cut k [.code (sub_ [1, 1, 0, 1, 0, 0, 0, 0] (bodyOf Tryz.f120)), .code (sub_ [1, 1, 0, 1, 0, 0, 0, 1] (bodyOf Tryz.f120)), .code (sub_ [1, 1, 0, 1, 0, 0, 1] (bodyOf Tryz.f120)), .lp (sub_ [1, 1, 0, 1, 0, 0] (bodyOf Tryz.f120)), .blk 0, .code (sub_ [1, 1, 1] (bodyOf Tryz.f120))] (mkSt [(0, .c (.sl 0)), (3, .c (.sl 1)), (4, .c (.v (.int .i64 x4)))] [.row .ro 75 (.st .s75) x0, .row .own 133 (.st .s133) x3])
theorem spec_SegmentsOf.e3 (k : Nat) (x4 : Int) (x0 : List S75) (x3 : List S133) : spec_SegmentsOf.p3 (k + 1) x4 x0 x3 = if x4 < (x0.length : Int) then (spec_IsLine.ap k x0 fun r1 => if r1 = true then (if 0 ≤ (wrap64 (x4 - 1)) then (if (wrap64 (x4 - 1)) < (x0.length : Int) then (if 0 ≤ x4 then (if x4 < (x0.length : Int) then (if (x3.length + 1) * 32 ≤ 140737488355328 then (spec_SegmentsOf.p3 k (wrap64 (x4 + 1)) x0 (x3 ++ [(⟨(⟨(rd_T75 x0 (wrap64 (x4 - 1))).f0, (rd_T75 x0 (wrap64 (x4 - 1))).f1⟩ : S75), (⟨(rd_T75 x0 x4).f0, (rd_T75 x0 x4).f1⟩ : S75)⟩ : S133)])) else none) else none) else none) else none) else none) else (spec_SegmentsOf.ret x3)) else (spec_SegmentsOf.ret x3) := by kernel_rfl
def spec_SegmentsOf.run (k : Nat) (h : HL eΓ [.l 75 (.st .s75)]) : Option (HL eΓ [.l 133 (.st .s133)]) := evF env spec_SegmentsOf.Fs Tryz.f120 spec_SegmentsOf.cut [.l 75 (.st .s75)] [.l 133 (.st .s133)] k h
theorem spec_SegmentsOf.ef (k : Nat) (h0 : List S75) : spec_SegmentsOf.run k (h0, ()) = spec_SegmentsOf.p3 k 1 h0 ([] : List S133) := by kernel_rfl
def spec_SegmentsOf.toH (t : (List (S133))) : HL eΓ [.l 133 (.st .s133)] := (t, ())
def spec_SegmentsOf.spec : Spc env := ⟨120, [.l 75 (.st .s75)], [.l 133 (.st .s133)], spec_SegmentsOf.run⟩
def spec_SegmentsOf.ap {R : Type} (k : Nat) (h0 : List S75) (K : (List S133) → Option R) : Option R := (spec_SegmentsOf.run k (h0, ())).bind fun r => K (r.1 : List S133)
theorem spec_SegmentsOf.ap_of {R : Type} {k : Nat} {h0 : List S75} {r0 : List S133} {K : (List S133) → Option R} (h : spec_SegmentsOf.run k (h0, ()) = some (r0, ())) : spec_SegmentsOf.ap k h0 K = K r0 := by unfold spec_SegmentsOf.ap; rw [h]; rfl
theorem spec_SegmentsOf.snd : Snd env spec_SegmentsOf.spec := evF_snd env_ok (sndC spec_IsLine.snd (sndN))
attribute [local irreducible] spec_SegmentsOf.run
theorem spec_SegmentsOf.rt (a0 : List S133) : spec_SegmentsOf.ret a0 = some (spec_SegmentsOf.toH (a0)) := rfl
theorem spec_SegmentsOf.br (n : Nat) : (∀ K, n ≤ K → ∀ (x4 : Int) (x0 : List S75) (x3 : List S133) t, spec_SegmentsOf.l0 n x0 x3 x4 = some t → spec_SegmentsOf.p3 K x4 x0 x3 = some (spec_SegmentsOf.toH t)) := by
  induction n using Nat.strongRecOn with
  | _ n ih =>
  intro K hK x4 x0 x3 t h
  all_goals (rcases n with _ | k)
  all_goals (try (exact nos h))
  all_goals (obtain ⟨K, rfl⟩ : ∃ q, K = q + 1 := ⟨K - 1, by omega⟩)
  all_goals (first | rw [spec_SegmentsOf.e3])
  all_goals (simp only [spec_SegmentsOf.l0] at h)
  repeat' (with_reducible first
   | exact nos h
   | (cases some_inj h; exact spec_SegmentsOf.rt _)
   | exact (ih _ (by omega)) _ (by omega) _ _ _ _ h
   | (simp only [Option.bind_some] at h)
   | (refine ite_by h ?_ ?_ <;> (intro hc h; (try simp only [nrm] at hc)))
   | refine itT ?_
   | refine itF ?_
   | (refine bind_by h (fun t ht h => ?_); refine (spec_IsLine.ap_of (spec_IsLine.go ht _ (by omega))).trans ?_; (try dsimp only at h ⊢))
   | (simp only [nr2] at h ⊢)
   | (exfalso; omega))
theorem spec_SegmentsOf.go {k : Nat} {l0 : List S75} {t} (h : spec_SegmentsOf.f k l0 = some t) (K : Nat) (hK : k ≤ K) : spec_SegmentsOf.run K (l0, ()) = some (spec_SegmentsOf.toH t) := by
  rw [spec_SegmentsOf.ef]
  (try dsimp only)
  unfold spec_SegmentsOf.f at h
  repeat' (with_reducible first
   | exact nos h
   | (cases some_inj h; exact spec_SegmentsOf.rt _)
   | exact (spec_SegmentsOf.br _) _ (by omega) _ _ _ _ h
   | (simp only [Option.bind_some] at h)
   | (refine ite_by h ?_ ?_ <;> (intro hc h; (try simp only [nrm] at hc)))
   | refine itT ?_
   | refine itF ?_
   | (refine bind_by h (fun t ht h => ?_); refine (spec_IsLine.ap_of (spec_IsLine.go ht _ (by omega))).trans ?_; (try dsimp only at h ⊢))
   | (simp only [nr2] at h ⊢)
   | (exfalso; omega))
def spec_IsSimple.Fs : List (Spc env) := [spec_SegmentsOf.spec, spec_IsLine.spec, spec_HowMeet.spec]
def spec_IsSimple.fin : St eΓ → Option (HL eΓ [.b]) := finR env Tryz.f150.results.toList [.b]
def spec_IsSimple.cut : Nat → Option (List (Lv SC)) := lk [(3, [⟨0, none, false⟩, ⟨3, none, false⟩, ⟨4, none, false⟩]), (6, [⟨0, none, false⟩, ⟨3, none, false⟩, ⟨4, none, false⟩, ⟨5, none, false⟩])]
def spec_IsSimple.ret (r0 : Bool) : Option (HL eΓ [.b]) := some (r0, ())
def spec_IsSimple.p3 (k : Nat) (x4 : Int) (x0 : List S75) (x3 : List S133) : Option (HL eΓ [.b]) := evM env spec_IsSimple.Fs Tryz.f150.ntmps spec_IsSimple.fin spec_IsSimple.cut k [.code (sub_ [1, 1, 0, 1, 0, 0, 0, 0] (bodyOf Tryz.f150)), .code (sub_ [1, 1, 0, 1, 0, 0, 0, 1] (bodyOf Tryz.f150)), .code (sub_ [1, 1, 0, 1, 0, 0, 1] (bodyOf Tryz.f150)), .lp (sub_ [1, 1, 0, 1, 0, 0] (bodyOf Tryz.f150)), .blk 0, .code (sub_ [1, 1, 1] (bodyOf Tryz.f150))] (mkSt [(0, .c (.sl 0)), (3, .c (.sl 1)), (4, .c (.v (.int .i64 x4)))] [.row .ro 75 (.st .s75) x0, .row .own 133 (.st .s133) x3])
def spec_IsSimple.p6 (k : Nat) (x4 : Int) (x5 : Int) (x0 : List S75) (x3 : List S133) : Option (HL eΓ [.b]) := evM env spec_IsSimple.Fs Tryz.f150.ntmps spec_IsSimple.fin spec_IsSimple.cut k [.code (sub_ [1, 1, 0, 1, 0, 0, 1, 0, 0, 1, 0, 0, 0, 0] (bodyOf Tryz.f150)), .code (sub_ [1, 1, 0, 1, 0, 0, 1, 0, 0, 1, 0, 0, 0, 1] (bodyOf Tryz.f150)), .code (sub_ [1, 1, 0, 1, 0, 0, 1, 0, 0, 1, 0, 0, 1] (bodyOf Tryz.f150)), .lp (sub_ [1, 1, 0, 1, 0, 0, 1, 0, 0, 1, 0, 0] (bodyOf Tryz.f150)), .blk 2, .blk 1, .code (sub_ [1, 1, 0, 1, 0, 0, 1, 1] (bodyOf Tryz.f150)), .lp (sub_ [1, 1, 0, 1, 0, 0] (bodyOf Tryz.f150)), .blk 0, .code (sub_ [1, 1, 1] (bodyOf Tryz.f150))] (mkSt [(0, .c (.sl 0)), (3, .c (.sl 1)), (4, .c (.v (.int .i64 x4))), (5, .c (.v (.int .i64 x5)))] [.row .ro 75 (.st .s75) x0, .row .own 133 (.st .s133) x3])
theorem spec_IsSimple.e3 (k : Nat) (x4 : Int) (x0 : List S75) (x3 : List S133) : spec_IsSimple.p3 (k + 1) x4 x0 x3 = if x4 < (x3.length : Int) then (spec_IsSimple.p6 k x4 0 x0 x3) else (spec_IsLine.ap k x0 fun r1 => spec_IsSimple.ret r1) := by kernel_rfl
theorem spec_IsSimple.e6 (k : Nat) (x4 : Int) (x5 : Int) (x0 : List S75) (x3 : List S133) : spec_IsSimple.p6 (k + 1) x4 x5 x0 x3 = if x5 < x4 then (if (wrap64 (x5 + 1)) = x4 then (if 0 ≤ x4 then (if x4 < (x3.length : Int) then (if 0 ≤ x5 then (if x5 < (x3.length : Int) then (spec_HowMeet.ap k (⟨(⟨(rd_T133 x3 x4).f0.f0, (rd_T133 x3 x4).f0.f1⟩ : S75), (⟨(rd_T133 x3 x4).f1.f0, (rd_T133 x3 x4).f1.f1⟩ : S75)⟩ : S133) (⟨(⟨(rd_T133 x3 x5).f0.f0, (rd_T133 x3 x5).f0.f1⟩ : S75), (⟨(rd_T133 x3 x5).f1.f0, (rd_T133 x3 x5).f1.f1⟩ : S75)⟩ : S133) fun r1 => if ¬ r1 = 1 then (spec_IsSimple.ret false) else (spec_IsSimple.p6 k x4 (wrap64 (x5 + 1)) x0 x3)) else none) else none) else none) else none) else (if 0 ≤ x4 then (if x4 < (x3.length : Int) then (if 0 ≤ x5 then (if x5 < (x3.length : Int) then (spec_HowMeet.ap k (⟨(⟨(rd_T133 x3 x4).f0.f0, (rd_T133 x3 x4).f0.f1⟩ : S75), (⟨(rd_T133 x3 x4).f1.f0, (rd_T133 x3 x4).f1.f1⟩ : S75)⟩ : S133) (⟨(⟨(rd_T133 x3 x5).f0.f0, (rd_T133 x3 x5).f0.f1⟩ : S75), (⟨(rd_T133 x3 x5).f1.f0, (rd_T133 x3 x5).f1.f1⟩ : S75)⟩ : S133) fun r2 => if ¬ r2 = 0 then (spec_IsSimple.ret false) else (spec_IsSimple.p6 k x4 (wrap64 (x5 + 1)) x0 x3)) else none) else none) else none) else none)) else (spec_IsSimple.p3 k (wrap64 (x4 + 1)) x0 x3) := by kernel_rfl
def spec_IsSimple.run (k : Nat) (h : HL eΓ [.l 75 (.st .s75)]) : Option (HL eΓ [.b]) := evF env spec_IsSimple.Fs Tryz.f150 spec_IsSimple.cut [.l 75 (.st .s75)] [.b] k h
theorem spec_IsSimple.ef (k : Nat) (h0 : List S75) : spec_IsSimple.run k (h0, ()) = spec_SegmentsOf.ap k h0 fun r1 => spec_IsSimple.p3 k 0 h0 r1 := by kernel_rfl
def spec_IsSimple.toH (t : Bool) : HL eΓ [.b] := (t, ())
def spec_IsSimple.spec : Spc env := ⟨150, [.l 75 (.st .s75)], [.b], spec_IsSimple.run⟩
def spec_IsSimple.ap {R : Type} (k : Nat) (h0 : List S75) (K : Bool → Option R) : Option R := (spec_IsSimple.run k (h0, ())).bind fun r => K (r.1 : Bool)
theorem spec_IsSimple.ap_of {R : Type} {k : Nat} {h0 : List S75} {r0 : Bool} {K : Bool → Option R} (h : spec_IsSimple.run k (h0, ()) = some (r0, ())) : spec_IsSimple.ap k h0 K = K r0 := by unfold spec_IsSimple.ap; rw [h]; rfl
theorem spec_IsSimple.snd : Snd env spec_IsSimple.spec := evF_snd env_ok (sndC spec_SegmentsOf.snd (sndC spec_IsLine.snd (sndC spec_HowMeet.snd (sndN))))
attribute [local irreducible] spec_IsSimple.run
theorem spec_IsSimple.rt (a0 : Bool) : spec_IsSimple.ret a0 = some (spec_IsSimple.toH (a0)) := rfl
theorem spec_IsSimple.br (n : Nat) : (∀ K, n ≤ K → ∀ (x4 : Int) (x0 : List S75) (x3 : List S133) t, spec_IsSimple.l0 n x0 x3 x4 = some t → spec_IsSimple.p3 K x4 x0 x3 = some (spec_IsSimple.toH t)) ∧ (∀ K, n ≤ K → ∀ (x4 : Int) (x5 : Int) (x0 : List S75) (x3 : List S133) t, spec_IsSimple.l1 n x0 x3 x4 x5 = some t → spec_IsSimple.p6 K x4 x5 x0 x3 = some (spec_IsSimple.toH t)) := by
  induction n using Nat.strongRecOn with
  | _ n ih =>
  refine ⟨fun K hK x4 x0 x3 t h => ?_, fun K hK x4 x5 x0 x3 t h => ?_⟩
  all_goals (rcases n with _ | k)
  all_goals (try (exact nos h))
  all_goals (obtain ⟨K, rfl⟩ : ∃ q, K = q + 1 := ⟨K - 1, by omega⟩)
  all_goals (first | rw [spec_IsSimple.e3] | rw [spec_IsSimple.e6])
  all_goals (simp only [spec_IsSimple.l0, spec_IsSimple.l1] at h)
  repeat' (with_reducible first
   | exact nos h
   | (cases some_inj h; exact spec_IsSimple.rt _)
   | exact (ih _ (by omega)).1 _ (by omega) _ _ _ _ h
   | exact (ih _ (by omega)).2 _ (by omega) _ _ _ _ _ h
   | (simp only [Option.bind_some] at h)
   | (refine ite_by h ?_ ?_ <;> (intro hc h; (try simp only [nrm] at hc)))
   | refine itT ?_
   | refine itF ?_
   | (refine bind_by h (fun t ht h => ?_); (first | refine (spec_SegmentsOf.ap_of (spec_SegmentsOf.go ht _ (by omega))).trans ?_ | refine (spec_IsLine.ap_of (spec_IsLine.go ht _ (by omega))).trans ?_ | refine (spec_HowMeet.ap_of (spec_HowMeet.go ht _)).trans ?_); (try dsimp only at h ⊢))
   | (simp only [nr2] at h ⊢)
   | (exfalso; omega))
theorem spec_IsSimple.go {k : Nat} {l0 : List S75} {t} (h : spec_IsSimple.f k l0 = some t) (K : Nat) (hK : k ≤ K) : spec_IsSimple.run K (l0, ()) = some (spec_IsSimple.toH t) := by
  rw [spec_IsSimple.ef]
  (try dsimp only)
  unfold spec_IsSimple.f at h
  repeat' (with_reducible first
   | exact nos h
   | (cases some_inj h; exact spec_IsSimple.rt _)
   | exact (spec_IsSimple.br _).1 _ (by omega) _ _ _ _ h
   | exact (spec_IsSimple.br _).2 _ (by omega) _ _ _ _ _ h
   | (simp only [Option.bind_some] at h)
   | (refine ite_by h ?_ ?_ <;> (intro hc h; (try simp only [nrm] at hc)))
   | refine itT ?_
   | refine itF ?_
   | (refine bind_by h (fun t ht h => ?_); (first | refine (spec_SegmentsOf.ap_of (spec_SegmentsOf.go ht _ (by omega))).trans ?_ | refine (spec_IsLine.ap_of (spec_IsLine.go ht _ (by omega))).trans ?_ | refine (spec_HowMeet.ap_of (spec_HowMeet.go ht _)).trans ?_); (try dsimp only at h ⊢))
   | (simp only [nr2] at h ⊢)
   | (exfalso; omega))
def spec_IsFeature.Fs : List (Spc env) := [spec_l1In.spec, spec_IsName.spec, spec_IsPoint.spec, spec_IsSimple.spec, spec_IsRing.spec]
def spec_IsFeature.cut : Nat → Option (List (Lv SC)) := lk []
def spec_IsFeature.ret (r0 : Bool) : Option (HL eΓ [.b]) := some (r0, ())
def spec_IsFeature.run (k : Nat) (h : HL eΓ [.st .s59]) : Option (HL eΓ [.b]) := evF env spec_IsFeature.Fs Tryz.f110 spec_IsFeature.cut [.st .s59] [.b] k h
theorem spec_IsFeature.ef (k : Nat) (h0 : S59) : spec_IsFeature.run k (h0, ()) = spec_l1In.ap k h0.f0 1 99 fun r1 => if (!r1) = true then (spec_IsFeature.ret false) else (spec_l1In.ap k h0.f2 0 9 fun r2 => if (!r2) = true then (spec_IsFeature.ret false) else (if ¬ h0.f3.toList = [] then (spec_IsName.ap k h0.f3 fun r3 => if (!r3) = true then (spec_IsFeature.ret false) else (if h0.f1 = 1 then (if (h0.f4.length : Int) = 1 then (if 0 < (h0.f4.length : Int) then (spec_IsPoint.ap k (⟨(rd_T75 h0.f4 0).f0, (rd_T75 h0.f4 0).f1⟩ : S75) fun r4 => spec_IsFeature.ret r4) else none) else (spec_IsFeature.ret false)) else (if h0.f1 = 2 then (spec_IsSimple.ap k h0.f4 fun r5 => spec_IsFeature.ret r5) else (if h0.f1 = 3 then (spec_IsRing.ap k h0.f4 fun r6 => spec_IsFeature.ret r6) else (spec_IsFeature.ret false))))) else (if h0.f1 = 1 then (if (h0.f4.length : Int) = 1 then (if 0 < (h0.f4.length : Int) then (spec_IsPoint.ap k (⟨(rd_T75 h0.f4 0).f0, (rd_T75 h0.f4 0).f1⟩ : S75) fun r7 => spec_IsFeature.ret r7) else none) else (spec_IsFeature.ret false)) else (if h0.f1 = 2 then (spec_IsSimple.ap k h0.f4 fun r8 => spec_IsFeature.ret r8) else (if h0.f1 = 3 then (spec_IsRing.ap k h0.f4 fun r9 => spec_IsFeature.ret r9) else (spec_IsFeature.ret false)))))) := by kernel_rfl
def spec_IsFeature.toH (t : Bool) : HL eΓ [.b] := (t, ())
def spec_IsFeature.spec : Spc env := ⟨110, [.st .s59], [.b], spec_IsFeature.run⟩
def spec_IsFeature.ap {R : Type} (k : Nat) (h0 : S59) (K : Bool → Option R) : Option R := (spec_IsFeature.run k (h0, ())).bind fun r => K (r.1 : Bool)
theorem spec_IsFeature.ap_of {R : Type} {k : Nat} {h0 : S59} {r0 : Bool} {K : Bool → Option R} (h : spec_IsFeature.run k (h0, ()) = some (r0, ())) : spec_IsFeature.ap k h0 K = K r0 := by unfold spec_IsFeature.ap; rw [h]; rfl
theorem spec_IsFeature.snd : Snd env spec_IsFeature.spec := evF_snd env_ok (sndC spec_l1In.snd (sndC spec_IsName.snd (sndC spec_IsPoint.snd (sndC spec_IsSimple.snd (sndC spec_IsRing.snd (sndN))))))
attribute [local irreducible] spec_IsFeature.run
theorem spec_IsFeature.rt (a0 : Bool) : spec_IsFeature.ret a0 = some (spec_IsFeature.toH (a0)) := rfl
theorem spec_IsFeature.go {k : Nat} {a0_0 : Int} {a0_1 : Int} {a0_2 : Int} {a0_3 : ByteArray} {l0_4 : List S75} {t} (h : spec_IsFeature.f k a0_0 a0_1 a0_2 a0_3 l0_4 = some t) (K : Nat) (hK : k ≤ K) : spec_IsFeature.run K ((⟨a0_0, a0_1, a0_2, a0_3, l0_4⟩ : S59), ()) = some (spec_IsFeature.toH t) := by
  rw [spec_IsFeature.ef]
  (try dsimp only)
  unfold spec_IsFeature.f at h
  repeat' (with_reducible first
   | exact nos h
   | (cases some_inj h; exact spec_IsFeature.rt _)
   | ((have q : spec_IsFeature.j0 k _ _ _ _ _ _ = some _ := h; clear q); rcases k with _ | k <;> simp only [spec_IsFeature.j0, reduceCtorEq] at h)
   | (simp only [Option.bind_some] at h)
   | (refine ite_by h ?_ ?_ <;> (intro hc h; (try simp only [nrm] at hc)))
   | refine itT ?_
   | refine itF ?_
   | (refine bind_by h (fun t ht h => ?_); (first | refine (spec_l1In.ap_of (spec_l1In.go ht _)).trans ?_ | refine (spec_IsName.ap_of (spec_IsName.go ht _ (by omega))).trans ?_ | refine (spec_IsPoint.ap_of (spec_IsPoint.go ht _)).trans ?_ | refine (spec_IsSimple.ap_of (spec_IsSimple.go ht _ (by omega))).trans ?_ | refine (spec_IsRing.ap_of (spec_IsRing.go ht _ (by omega))).trans ?_); (try dsimp only at h ⊢))
   | (simp only [nr2] at h ⊢)
   | (exfalso; omega))
def spec_IsSource.Fs : List (Spc env) := [spec_IsFeature.spec]
def spec_IsSource.fin : St eΓ → Option (HL eΓ [.b]) := finR env Tryz.f61.results.toList [.b]
def spec_IsSource.cut : Nat → Option (List (Lv SC)) := lk [(2, [⟨0, none, false⟩, ⟨3, none, false⟩])]
def spec_IsSource.ret (r0 : Bool) : Option (HL eΓ [.b]) := some (r0, ())
def spec_IsSource.p2 (k : Nat) (x3 : Int) (x0 : List S59) : Option (HL eΓ [.b]) := evM env spec_IsSource.Fs Tryz.f61.ntmps spec_IsSource.fin spec_IsSource.cut k [.code (sub_ [1, 0, 1, 0, 0, 0, 0] (bodyOf Tryz.f61)), .code (sub_ [1, 0, 1, 0, 0, 0, 1] (bodyOf Tryz.f61)), .code (sub_ [1, 0, 1, 0, 0, 1] (bodyOf Tryz.f61)), .lp (sub_ [1, 0, 1, 0, 0] (bodyOf Tryz.f61)), .blk 0, .code (sub_ [1, 1] (bodyOf Tryz.f61))] (mkSt [(0, .c (.sl 0)), (3, .c (.v (.int .i64 x3)))] [.row .ro 59 (.st .s59) x0])
theorem spec_IsSource.e2 (k : Nat) (x3 : Int) (x0 : List S59) : spec_IsSource.p2 (k + 1) x3 x0 = if x3 < (x0.length : Int) then (if 0 ≤ x3 then (if x3 < (x0.length : Int) then (spec_IsFeature.ap k (⟨(rd_T59 x0 x3).f0, (rd_T59 x0 x3).f1, (rd_T59 x0 x3).f2, (rd_T59 x0 x3).f3, (rd_T59 x0 x3).f4⟩ : S59) fun r1 => if (!r1) = true then (spec_IsSource.ret false) else (if x3 > 0 then (if 0 ≤ (wrap64 (x3 - 1)) then (if (wrap64 (x3 - 1)) < (x0.length : Int) then (if 0 ≤ x3 then (if x3 < (x0.length : Int) then (if ((rd_T59 x0 (wrap64 (x3 - 1))).f0) ≥ ((rd_T59 x0 x3).f0) then (spec_IsSource.ret false) else (spec_IsSource.p2 k (wrap64 (x3 + 1)) x0)) else none) else none) else none) else none) else (spec_IsSource.p2 k (wrap64 (x3 + 1)) x0))) else none) else none) else (spec_IsSource.ret (decide ((x0.length : Int) ≤ 16))) := by kernel_rfl
def spec_IsSource.run (k : Nat) (h : HL eΓ [.l 59 (.st .s59)]) : Option (HL eΓ [.b]) := evF env spec_IsSource.Fs Tryz.f61 spec_IsSource.cut [.l 59 (.st .s59)] [.b] k h
theorem spec_IsSource.ef (k : Nat) (h0 : List S59) : spec_IsSource.run k (h0, ()) = spec_IsSource.p2 k 0 h0 := by kernel_rfl
def spec_IsSource.toH (t : Bool) : HL eΓ [.b] := (t, ())
def spec_IsSource.spec : Spc env := ⟨61, [.l 59 (.st .s59)], [.b], spec_IsSource.run⟩
def spec_IsSource.ap {R : Type} (k : Nat) (h0 : List S59) (K : Bool → Option R) : Option R := (spec_IsSource.run k (h0, ())).bind fun r => K (r.1 : Bool)
theorem spec_IsSource.ap_of {R : Type} {k : Nat} {h0 : List S59} {r0 : Bool} {K : Bool → Option R} (h : spec_IsSource.run k (h0, ()) = some (r0, ())) : spec_IsSource.ap k h0 K = K r0 := by unfold spec_IsSource.ap; rw [h]; rfl
theorem spec_IsSource.snd : Snd env spec_IsSource.spec := evF_snd env_ok (sndC spec_IsFeature.snd (sndN))
attribute [local irreducible] spec_IsSource.run
theorem spec_IsSource.rt (a0 : Bool) : spec_IsSource.ret a0 = some (spec_IsSource.toH (a0)) := rfl
theorem spec_IsSource.br (n : Nat) : (∀ K, n ≤ K → ∀ (x3 : Int) (x0 : List S59) t, spec_IsSource.l0 n x0 x3 = some t → spec_IsSource.p2 K x3 x0 = some (spec_IsSource.toH t)) := by
  induction n using Nat.strongRecOn with
  | _ n ih =>
  intro K hK x3 x0 t h
  all_goals (rcases n with _ | k)
  all_goals (try (exact nos h))
  all_goals (obtain ⟨K, rfl⟩ : ∃ q, K = q + 1 := ⟨K - 1, by omega⟩)
  all_goals (first | rw [spec_IsSource.e2])
  all_goals (simp only [spec_IsSource.l0] at h)
  repeat' (with_reducible first
   | exact nos h
   | (cases some_inj h; exact spec_IsSource.rt _)
   | exact (ih _ (by omega)) _ (by omega) _ _ _ h
   | (simp only [Option.bind_some] at h)
   | (refine ite_by h ?_ ?_ <;> (intro hc h; (try simp only [nrm] at hc)))
   | refine itT ?_
   | refine itF ?_
   | (refine bind_by h (fun t ht h => ?_); refine (spec_IsFeature.ap_of (spec_IsFeature.go ht _ (by omega))).trans ?_; (try dsimp only at h ⊢))
   | (simp only [nr2] at h ⊢)
   | (exfalso; omega))
theorem spec_IsSource.go {k : Nat} {l0 : List S59} {t} (h : spec_IsSource.f k l0 = some t) (K : Nat) (hK : k ≤ K) : spec_IsSource.run K (l0, ()) = some (spec_IsSource.toH t) := by
  rw [spec_IsSource.ef]
  (try dsimp only)
  unfold spec_IsSource.f at h
  repeat' (with_reducible first
   | exact nos h
   | (cases some_inj h; exact spec_IsSource.rt _)
   | exact (spec_IsSource.br _) _ (by omega) _ _ _ h
   | (simp only [Option.bind_some] at h)
   | (refine ite_by h ?_ ?_ <;> (intro hc h; (try simp only [nrm] at hc)))
   | refine itT ?_
   | refine itF ?_
   | (refine bind_by h (fun t ht h => ?_); refine (spec_IsFeature.ap_of (spec_IsFeature.go ht _ (by omega))).trans ?_; (try dsimp only at h ⊢))
   | (simp only [nr2] at h ⊢)
   | (exfalso; omega))
def spec_RingMiddle.Fs : List (Spc env) := [spec_IsRing.spec]
def spec_RingMiddle.fin : St eΓ → Option (HL eΓ [.st .s75, .b]) := finR env Tryz.f85.results.toList [.st .s75, .b]
def spec_RingMiddle.cut : Nat → Option (List (Lv SC)) := lk [(5, [⟨0, none, false⟩, ⟨2, none, false⟩, ⟨4, none, false⟩, ⟨5, none, false⟩])]
def spec_RingMiddle.ret (r0 : S75) (r1 : Bool) : Option (HL eΓ [.st .s75, .b]) := some (r0, r1, ())
def spec_RingMiddle.p5 (k : Nat) (x5 : Int) (x0 : List S75) (b1_0 : Int) (b1_1 : Int) (b2_0 : Int) (b2_1 : Int) : Option (HL eΓ [.st .s75, .b]) := evM env spec_RingMiddle.Fs Tryz.f85.ntmps spec_RingMiddle.fin spec_RingMiddle.cut k [.code (sub_ [1, 1, 1, 0, 1, 0, 0, 0, 0] (bodyOf Tryz.f85)), .code (sub_ [1, 1, 1, 0, 1, 0, 0, 0, 1] (bodyOf Tryz.f85)), .code (sub_ [1, 1, 1, 0, 1, 0, 0, 1] (bodyOf Tryz.f85)), .lp (sub_ [1, 1, 1, 0, 1, 0, 0] (bodyOf Tryz.f85)), .blk 0, .code (sub_ [1, 1, 1, 1] (bodyOf Tryz.f85))] (mkSt [(0, .c (.sl 0)), (2, .c (.ptr 1 0)), (4, .c (.ptr 2 0)), (5, .c (.v (.int .i64 x5)))] [.row .ro 75 (.st .s75) x0, .box 75 [.v (.int .i64 b1_0), .v (.int .i64 b1_1)], .box 75 [.v (.int .i64 b2_0), .v (.int .i64 b2_1)]])
theorem spec_RingMiddle.e5 (k : Nat) (x5 : Int) (x0 : List S75) (b1_0 : Int) (b1_1 : Int) (b2_0 : Int) (b2_1 : Int) : spec_RingMiddle.p5 (k + 1) x5 x0 b1_0 b1_1 b2_0 b2_1 = if x5 < (x0.length : Int) then (if 0 ≤ x5 then (if x5 < (x0.length : Int) then (if 0 ≤ x5 then (if x5 < (x0.length : Int) then (spec_RingMiddle.p5 k (wrap64 (x5 + 1)) x0 b1_0 b1_1 (wrap64 (b2_0 + ((rd_T75 x0 x5).f0))) (wrap64 (b2_1 + ((rd_T75 x0 x5).f1)))) else none) else none) else none) else none) else (if (x0.length : Int) = 0 then none else (if (x0.length : Int) = 0 then none else (spec_RingMiddle.ret (⟨wrap64 (tq b2_0 (x0.length : Int)), wrap64 (tq b2_1 (x0.length : Int))⟩ : S75) true))) := by kernel_rfl
def spec_RingMiddle.run (k : Nat) (h : HL eΓ [.l 75 (.st .s75)]) : Option (HL eΓ [.st .s75, .b]) := evF env spec_RingMiddle.Fs Tryz.f85 spec_RingMiddle.cut [.l 75 (.st .s75)] [.st .s75, .b] k h
theorem spec_RingMiddle.ef (k : Nat) (h0 : List S75) : spec_RingMiddle.run k (h0, ()) = spec_IsRing.ap k h0 fun r1 => if (!r1) = true then (spec_RingMiddle.ret (⟨0, 0⟩ : S75) false) else (spec_RingMiddle.p5 k 0 h0 0 0 0 0) := by kernel_rfl
def spec_RingMiddle.toH (t : Int × Int × Bool) : HL eΓ [.st .s75, .b] := ((⟨t.1, t.2.1⟩ : S75), t.2.2, ())
def spec_RingMiddle.spec : Spc env := ⟨85, [.l 75 (.st .s75)], [.st .s75, .b], spec_RingMiddle.run⟩
def spec_RingMiddle.ap {R : Type} (k : Nat) (h0 : List S75) (K : S75 → Bool → Option R) : Option R := (spec_RingMiddle.run k (h0, ())).bind fun r => K (r.1 : S75) (r.2.1 : Bool)
theorem spec_RingMiddle.ap_of {R : Type} {k : Nat} {h0 : List S75} {r0 : S75} {r1 : Bool} {K : S75 → Bool → Option R} (h : spec_RingMiddle.run k (h0, ()) = some (r0, r1, ())) : spec_RingMiddle.ap k h0 K = K r0 r1 := by unfold spec_RingMiddle.ap; rw [h]; rfl
theorem spec_RingMiddle.snd : Snd env spec_RingMiddle.spec := evF_snd env_ok (sndC spec_IsRing.snd (sndN))
attribute [local irreducible] spec_RingMiddle.run
theorem spec_RingMiddle.rt (a0 : Int) (a1 : Int) (a2 : Bool) : spec_RingMiddle.ret (⟨a0, a1⟩ : S75) a2 = some (spec_RingMiddle.toH (a0, a1, a2)) := rfl
theorem spec_RingMiddle.br (n : Nat) : (∀ K, n ≤ K → ∀ (x5 : Int) (x0 : List S75) (b1_0 : Int) (b1_1 : Int) (b2_0 : Int) (b2_1 : Int) t, spec_RingMiddle.l0 n x0 x5 b2_0 b2_1 = some t → spec_RingMiddle.p5 K x5 x0 b1_0 b1_1 b2_0 b2_1 = some (spec_RingMiddle.toH t)) := by
  induction n using Nat.strongRecOn with
  | _ n ih =>
  intro K hK x5 x0 b1_0 b1_1 b2_0 b2_1 t h
  all_goals (rcases n with _ | k)
  all_goals (try (exact nos h))
  all_goals (obtain ⟨K, rfl⟩ : ∃ q, K = q + 1 := ⟨K - 1, by omega⟩)
  all_goals (first | rw [spec_RingMiddle.e5])
  all_goals (try simp only [tq_nat])
  all_goals (try simp only [tq_eq])
  all_goals (simp only [spec_RingMiddle.l0] at h)
  repeat' (with_reducible first
   | exact nos h
   | (cases some_inj h; exact spec_RingMiddle.rt _ _ _)
   | exact (ih _ (by omega)) _ (by omega) _ _ _ _ _ _ _ h
   | (simp only [Option.bind_some] at h)
   | (refine ite_by h ?_ ?_ <;> (intro hc h; (try simp only [nrm] at hc)))
   | refine itT ?_
   | refine itF ?_
   | (refine bind_by h (fun t ht h => ?_); refine (spec_IsRing.ap_of (spec_IsRing.go ht _ (by omega))).trans ?_; (try dsimp only at h ⊢))
   | (simp only [nr2] at h ⊢)
   | (exfalso; omega))
theorem spec_RingMiddle.go {k : Nat} {l0 : List S75} {t} (h : spec_RingMiddle.f k l0 = some t) (K : Nat) (hK : k ≤ K) : spec_RingMiddle.run K (l0, ()) = some (spec_RingMiddle.toH t) := by
  rw [spec_RingMiddle.ef]
  (try dsimp only)
  (try simp only [tq_nat])
  (try simp only [tq_eq])
  unfold spec_RingMiddle.f at h
  repeat' (with_reducible first
   | exact nos h
   | (cases some_inj h; exact spec_RingMiddle.rt _ _ _)
   | exact (spec_RingMiddle.br _) _ (by omega) _ _ _ _ _ _ _ h
   | (simp only [Option.bind_some] at h)
   | (refine ite_by h ?_ ?_ <;> (intro hc h; (try simp only [nrm] at hc)))
   | refine itT ?_
   | refine itF ?_
   | (refine bind_by h (fun t ht h => ?_); refine (spec_IsRing.ap_of (spec_IsRing.go ht _ (by omega))).trans ?_; (try dsimp only at h ⊢))
   | (simp only [nr2] at h ⊢)
   | (exfalso; omega))
def spec_AnchorsOf.Fs : List (Spc env) := [spec_IsSource.spec, spec_RingMiddle.spec]
def spec_AnchorsOf.fin : St eΓ → Option (HL eΓ [.l 77 (.st .s77)]) := finR env Tryz.f45.results.toList [.l 77 (.st .s77)]
def spec_AnchorsOf.cut : Nat → Option (List (Lv SC)) := lk [(3, [⟨0, none, false⟩, ⟨3, none, false⟩, ⟨4, none, false⟩])]
def spec_AnchorsOf.ret (r0 : List S77) : Option (HL eΓ [.l 77 (.st .s77)]) := some (r0, ())
def spec_AnchorsOf.p3 (k : Nat) (x4 : Int) (x0 : List S59) (x3 : List S77) : Option (HL eΓ [.l 77 (.st .s77)]) := evM env spec_AnchorsOf.Fs Tryz.f45.ntmps spec_AnchorsOf.fin spec_AnchorsOf.cut k [.code (sub_ [1, 1, 0, 1, 0, 0, 0, 0] (bodyOf Tryz.f45)), .code (sub_ [1, 1, 0, 1, 0, 0, 0, 1] (bodyOf Tryz.f45)), .code (sub_ [1, 1, 0, 1, 0, 0, 1] (bodyOf Tryz.f45)), .lp (sub_ [1, 1, 0, 1, 0, 0] (bodyOf Tryz.f45)), .blk 0, .code (sub_ [1, 1, 1] (bodyOf Tryz.f45))] (mkSt [(0, .c (.sl 0)), (3, .c (.sl 1)), (4, .c (.v (.int .i64 x4)))] [.row .ro 59 (.st .s59) x0, .row .own 77 (.st .s77) x3])
theorem spec_AnchorsOf.e3 (k : Nat) (x4 : Int) (x0 : List S59) (x3 : List S77) : spec_AnchorsOf.p3 (k + 1) x4 x0 x3 = if x4 < (x0.length : Int) then (spec_IsSource.ap k x0 fun r1 => if r1 = true then (if 0 ≤ x4 then (if x4 < (x0.length : Int) then (if ((rd_T59 x0 x4).f3).toList = [] then (spec_AnchorsOf.p3 k (wrap64 (x4 + 1)) x0 x3) else (if 0 ≤ (wrap64 (tq (((rd_T59 x0 x4).f4).length : Int) 2)) then (if (wrap64 (tq (((rd_T59 x0 x4).f4).length : Int) 2)) < (((rd_T59 x0 x4).f4).length : Int) then (if ((rd_T59 x0 x4).f1) = 3 then (spec_RingMiddle.ap k ((rd_T59 x0 x4).f4) fun r2_0 r2_1 => if (x3.length + 1) * 32 ≤ 140737488355328 then (spec_AnchorsOf.p3 k (wrap64 (x4 + 1)) x0 (x3 ++ [(⟨(rd_T59 x0 x4).f0, (⟨r2_0.f0, r2_0.f1⟩ : S75), (rd_T59 x0 x4).f2⟩ : S77)])) else none) else (if (x3.length + 1) * 32 ≤ 140737488355328 then (spec_AnchorsOf.p3 k (wrap64 (x4 + 1)) x0 (x3 ++ [(⟨(rd_T59 x0 x4).f0, (⟨(rd_T75 ((rd_T59 x0 x4).f4) (wrap64 (tq (((rd_T59 x0 x4).f4).length : Int) 2))).f0, (rd_T75 ((rd_T59 x0 x4).f4) (wrap64 (tq (((rd_T59 x0 x4).f4).length : Int) 2))).f1⟩ : S75), (rd_T59 x0 x4).f2⟩ : S77)])) else none)) else none) else none)) else none) else none) else (spec_AnchorsOf.ret x3)) else (spec_AnchorsOf.ret x3) := by kernel_rfl
def spec_AnchorsOf.run (k : Nat) (h : HL eΓ [.l 59 (.st .s59)]) : Option (HL eΓ [.l 77 (.st .s77)]) := evF env spec_AnchorsOf.Fs Tryz.f45 spec_AnchorsOf.cut [.l 59 (.st .s59)] [.l 77 (.st .s77)] k h
theorem spec_AnchorsOf.ef (k : Nat) (h0 : List S59) : spec_AnchorsOf.run k (h0, ()) = spec_AnchorsOf.p3 k 0 h0 ([] : List S77) := by kernel_rfl
def spec_AnchorsOf.toH (t : (List (S77))) : HL eΓ [.l 77 (.st .s77)] := (t, ())
def spec_AnchorsOf.spec : Spc env := ⟨45, [.l 59 (.st .s59)], [.l 77 (.st .s77)], spec_AnchorsOf.run⟩
theorem spec_AnchorsOf.snd : Snd env spec_AnchorsOf.spec := evF_snd env_ok (sndC spec_IsSource.snd (sndC spec_RingMiddle.snd (sndN)))
attribute [local irreducible] spec_AnchorsOf.run
theorem spec_AnchorsOf.rt (a0 : List S77) : spec_AnchorsOf.ret a0 = some (spec_AnchorsOf.toH (a0)) := rfl
theorem spec_AnchorsOf.br (n : Nat) : (∀ K, n ≤ K → ∀ (x4 : Int) (x0 : List S59) (x3 : List S77) t, spec_AnchorsOf.l0 n x0 x3 x4 = some t → spec_AnchorsOf.p3 K x4 x0 x3 = some (spec_AnchorsOf.toH t)) := by
  induction n using Nat.strongRecOn with
  | _ n ih =>
  intro K hK x4 x0 x3 t h
  all_goals (rcases n with _ | k)
  all_goals (try (exact nos h))
  all_goals (obtain ⟨K, rfl⟩ : ∃ q, K = q + 1 := ⟨K - 1, by omega⟩)
  all_goals (first | rw [spec_AnchorsOf.e3])
  all_goals (try simp only [tq_nat])
  all_goals (try simp only [tq_eq])
  all_goals (simp only [spec_AnchorsOf.l0] at h)
  repeat' (with_reducible first
   | exact nos h
   | (cases some_inj h; exact spec_AnchorsOf.rt _)
   | exact (ih _ (by omega)) _ (by omega) _ _ _ _ h
   | ((have q : spec_AnchorsOf.j1 k _ _ _ _ = some _ := h; clear q); rcases k with _ | k <;> simp only [spec_AnchorsOf.j1, reduceCtorEq] at h)
   | (simp only [Option.bind_some] at h)
   | (refine ite_by h ?_ ?_ <;> (intro hc h; (try simp only [nrm] at hc)))
   | refine itT ?_
   | refine itF ?_
   | (refine bind_by h (fun t ht h => ?_); (first | refine (spec_IsSource.ap_of (spec_IsSource.go ht _ (by omega))).trans ?_ | refine (spec_RingMiddle.ap_of (spec_RingMiddle.go ht _ (by omega))).trans ?_); (try dsimp only at h ⊢))
   | (simp only [nr2] at h ⊢)
   | (exfalso; omega))
theorem spec_AnchorsOf.go {k : Nat} {l0 : List S59} {t} (h : spec_AnchorsOf.f k l0 = some t) (K : Nat) (hK : k ≤ K) : spec_AnchorsOf.run K (l0, ()) = some (spec_AnchorsOf.toH t) := by
  rw [spec_AnchorsOf.ef]
  (try dsimp only)
  (try simp only [tq_nat])
  (try simp only [tq_eq])
  unfold spec_AnchorsOf.f at h
  repeat' (with_reducible first
   | exact nos h
   | (cases some_inj h; exact spec_AnchorsOf.rt _)
   | exact (spec_AnchorsOf.br _) _ (by omega) _ _ _ _ h
   | ((have q : spec_AnchorsOf.j1 k _ _ _ _ = some _ := h; clear q); rcases k with _ | k <;> simp only [spec_AnchorsOf.j1, reduceCtorEq] at h)
   | (simp only [Option.bind_some] at h)
   | (refine ite_by h ?_ ?_ <;> (intro hc h; (try simp only [nrm] at hc)))
   | refine itT ?_
   | refine itF ?_
   | (refine bind_by h (fun t ht h => ?_); (first | refine (spec_IsSource.ap_of (spec_IsSource.go ht _ (by omega))).trans ?_ | refine (spec_RingMiddle.ap_of (spec_RingMiddle.go ht _ (by omega))).trans ?_); (try dsimp only at h ⊢))
   | (simp only [nr2] at h ⊢)
   | (exfalso; omega))
theorem spec_AnchorsOf.calls (k : Nat) (A0 : Option Addr) (c0 : Nat) (l0 : List (S59)) (r : List (S77)) (w : World) (hr0 : Kd.C k59 w A0 l0.length l0) (hc0 : l0.length ≤ c0) (h : spec_AnchorsOf.f k l0 = some r) :
  Calls Tryz.prog 45 #[.slice A0 l0.length c0] w fun e w' => ∃ v0_ : Value, e = .returned (v0_) ∧ Kd.R k77 77 w' w.heap.size (fun _ => True) v0_ r ∧ Below w.heap.size w w' := by
  refine (spec_AnchorsOf.snd.calls _ _ _ (spec_AnchorsOf.go h k (Nat.le_refl k)) w [.slice A0 l0.length c0] ⟨⟨_, _, rfl, hc0, hr0⟩, trivial⟩).mono ?_
  rintro e w' ⟨v, rfl, hB, vs, oks, rfl, hR, _⟩
  obtain ⟨x0_, vs, o0_, oks, rfl, rfl, m0_, hR⟩ := rmsC hR
  obtain rfl := rmsN hR
  obtain ⟨x0_v, x0_e, x0_R⟩ := m0_
  obtain rfl := List.singleton_inj.1 x0_e
  exact ⟨_, rfl, Kd.R_mono x0_R (fun _ _ => trivial), hB⟩
def spec_NameWidth.Fs : List (Spc env) := [spec_IsName.spec]
def spec_NameWidth.cut : Nat → Option (List (Lv SC)) := lk []
def spec_NameWidth.ret (r0 : Int) : Option (HL eΓ [.i .i64]) := some (r0, ())
def spec_NameWidth.run (k : Nat) (h : HL eΓ [.s]) : Option (HL eΓ [.i .i64]) := evF env spec_NameWidth.Fs Tryz.f91 spec_NameWidth.cut [.s] [.i .i64] k h
theorem spec_NameWidth.ef (k : Nat) (h0 : ByteArray) : spec_NameWidth.run k (h0, ()) = spec_IsName.ap k h0 fun r1 => if (!r1) = true then (spec_NameWidth.ret 0) else (spec_NameWidth.ret (wrap64 (2 * (h0.size : Int)))) := by kernel_rfl
def spec_NameWidth.toH (t : Int) : HL eΓ [.i .i64] := (t, ())
def spec_NameWidth.spec : Spc env := ⟨91, [.s], [.i .i64], spec_NameWidth.run⟩
def spec_NameWidth.ap {R : Type} (k : Nat) (h0 : ByteArray) (K : Int → Option R) : Option R := (spec_NameWidth.run k (h0, ())).bind fun r => K (r.1 : Int)
theorem spec_NameWidth.ap_of {R : Type} {k : Nat} {h0 : ByteArray} {r0 : Int} {K : Int → Option R} (h : spec_NameWidth.run k (h0, ()) = some (r0, ())) : spec_NameWidth.ap k h0 K = K r0 := by unfold spec_NameWidth.ap; rw [h]; rfl
theorem spec_NameWidth.snd : Snd env spec_NameWidth.spec := evF_snd env_ok (sndC spec_IsName.snd (sndN))
attribute [local irreducible] spec_NameWidth.run
theorem spec_NameWidth.rt (a0 : Int) : spec_NameWidth.ret a0 = some (spec_NameWidth.toH (a0)) := rfl
theorem spec_NameWidth.go {k : Nat} {a0 : ByteArray} {t} (h : spec_NameWidth.f k a0 = some t) (K : Nat) (hK : k ≤ K) : spec_NameWidth.run K (a0, ()) = some (spec_NameWidth.toH t) := by
  rw [spec_NameWidth.ef]
  (try dsimp only)
  unfold spec_NameWidth.f at h
  repeat' (with_reducible first
   | exact nos h
   | (cases some_inj h; exact spec_NameWidth.rt _)
   | (simp only [Option.bind_some] at h)
   | (refine ite_by h ?_ ?_ <;> (intro hc h; (try simp only [nrm] at hc)))
   | refine itT ?_
   | refine itF ?_
   | (refine bind_by h (fun t ht h => ?_); refine (spec_IsName.ap_of (spec_IsName.go ht _ (by omega))).trans ?_; (try dsimp only at h ⊢))
   | (simp only [nr2] at h ⊢)
   | (exfalso; omega))
def spec_IsBox.Fs : List (Spc env) := [spec_IsPoint.spec]
def spec_IsBox.cut : Nat → Option (List (Lv SC)) := lk []
def spec_IsBox.ret (r0 : Bool) : Option (HL eΓ [.b]) := some (r0, ())
def spec_IsBox.run (k : Nat) (h : HL eΓ [.st .s80]) : Option (HL eΓ [.b]) := evF env spec_IsBox.Fs Tryz.f92 spec_IsBox.cut [.st .s80] [.b] k h
theorem spec_IsBox.ef (k : Nat) (h0 : S80) : spec_IsBox.run k (h0, ()) = spec_IsPoint.ap k (⟨h0.f0.f0, h0.f0.f1⟩ : S75) fun r1 => if r1 = true then (spec_IsPoint.ap k (⟨h0.f1.f0, h0.f1.f1⟩ : S75) fun r2 => if r2 = true then (if h0.f0.f0 ≤ h0.f1.f0 then (spec_IsBox.ret (decide (h0.f0.f1 ≤ h0.f1.f1))) else (spec_IsBox.ret false)) else (spec_IsBox.ret false)) else (spec_IsBox.ret false) := by kernel_rfl
def spec_IsBox.toH (t : Bool) : HL eΓ [.b] := (t, ())
def spec_IsBox.spec : Spc env := ⟨92, [.st .s80], [.b], spec_IsBox.run⟩
def spec_IsBox.ap {R : Type} (k : Nat) (h0 : S80) (K : Bool → Option R) : Option R := (spec_IsBox.run k (h0, ())).bind fun r => K (r.1 : Bool)
theorem spec_IsBox.ap_of {R : Type} {k : Nat} {h0 : S80} {r0 : Bool} {K : Bool → Option R} (h : spec_IsBox.run k (h0, ()) = some (r0, ())) : spec_IsBox.ap k h0 K = K r0 := by unfold spec_IsBox.ap; rw [h]; rfl
theorem spec_IsBox.snd : Snd env spec_IsBox.spec := evF_snd env_ok (sndC spec_IsPoint.snd (sndN))
attribute [local irreducible] spec_IsBox.run
theorem spec_IsBox.rt (a0 : Bool) : spec_IsBox.ret a0 = some (spec_IsBox.toH (a0)) := rfl
theorem spec_IsBox.go {a0_0 : Int} {a0_1 : Int} {a0_2 : Int} {a0_3 : Int} {t} (h : spec_IsBox.f a0_0 a0_1 a0_2 a0_3 = some t) (K : Nat) : spec_IsBox.run K ((⟨(⟨a0_0, a0_1⟩ : S75), (⟨a0_2, a0_3⟩ : S75)⟩ : S80), ()) = some (spec_IsBox.toH t) := by
  rw [spec_IsBox.ef]
  (try dsimp only)
  unfold spec_IsBox.f at h
  repeat' (with_reducible first
   | exact nos h
   | (cases some_inj h; exact spec_IsBox.rt _)
   | (simp only [Option.bind_some] at h)
   | (refine ite_by h ?_ ?_ <;> (intro hc h; (try simp only [nrm] at hc)))
   | refine itT ?_
   | refine itF ?_
   | (refine bind_by h (fun t ht h => ?_); refine (spec_IsPoint.ap_of (spec_IsPoint.go ht _)).trans ?_; (try dsimp only at h ⊢))
   | (simp only [nr2] at h ⊢)
   | (exfalso; omega))
def spec_LabelBox.Fs : List (Spc env) := [spec_IsPoint.spec, spec_IsName.spec, spec_l1In.spec, spec_NameWidth.spec, spec_IsBox.spec]
def spec_LabelBox.cut : Nat → Option (List (Lv SC)) := lk []
def spec_LabelBox.ret (r0 : S80) (r1 : Bool) : Option (HL eΓ [.st .s80, .b]) := some (r0, r1, ())
def spec_LabelBox.run (k : Nat) (h : HL eΓ [.st .s75, .s, .i .i64]) : Option (HL eΓ [.st .s80, .b]) := evF env spec_LabelBox.Fs Tryz.f48 spec_LabelBox.cut [.st .s75, .s, .i .i64] [.st .s80, .b] k h
theorem spec_LabelBox.ef (k : Nat) (h0 : S75) (h1 : ByteArray) (h2 : Int) : spec_LabelBox.run k (h0, h1, h2, ()) = spec_IsPoint.ap k (⟨h0.f0, h0.f1⟩ : S75) fun r1 => if (!r1) = true then (spec_LabelBox.ret (⟨(⟨0, 0⟩ : S75), (⟨0, 0⟩ : S75)⟩ : S80) false) else (spec_IsName.ap k h1 fun r2 => if (!r2) = true then (spec_LabelBox.ret (⟨(⟨0, 0⟩ : S75), (⟨0, 0⟩ : S75)⟩ : S80) false) else (spec_l1In.ap k h2 0 3 fun r3 => if (!r3) = true then (spec_LabelBox.ret (⟨(⟨0, 0⟩ : S75), (⟨0, 0⟩ : S75)⟩ : S80) false) else (spec_NameWidth.ap k h1 fun r4 => if (Int.tmod h2 2) = 1 then (spec_NameWidth.ap k h1 fun r5 => if h2 ≥ 2 then (spec_IsBox.ap k (⟨(⟨wrap64 (h0.f0 - r5), wrap64 (h0.f1 - 3)⟩ : S75), (⟨h0.f0, h0.f1⟩ : S75)⟩ : S80) fun r6 => if (!r6) = true then (spec_LabelBox.ret (⟨(⟨0, 0⟩ : S75), (⟨0, 0⟩ : S75)⟩ : S80) false) else (spec_LabelBox.ret (⟨(⟨wrap64 (h0.f0 - r5), wrap64 (h0.f1 - 3)⟩ : S75), (⟨h0.f0, h0.f1⟩ : S75)⟩ : S80) true)) else (spec_IsBox.ap k (⟨(⟨wrap64 (h0.f0 - r5), h0.f1⟩ : S75), (⟨h0.f0, wrap64 (h0.f1 + 3)⟩ : S75)⟩ : S80) fun r7 => if (!r7) = true then (spec_LabelBox.ret (⟨(⟨0, 0⟩ : S75), (⟨0, 0⟩ : S75)⟩ : S80) false) else (spec_LabelBox.ret (⟨(⟨wrap64 (h0.f0 - r5), h0.f1⟩ : S75), (⟨h0.f0, wrap64 (h0.f1 + 3)⟩ : S75)⟩ : S80) true))) else (if h2 ≥ 2 then (spec_IsBox.ap k (⟨(⟨h0.f0, wrap64 (h0.f1 - 3)⟩ : S75), (⟨wrap64 (h0.f0 + r4), h0.f1⟩ : S75)⟩ : S80) fun r8 => if (!r8) = true then (spec_LabelBox.ret (⟨(⟨0, 0⟩ : S75), (⟨0, 0⟩ : S75)⟩ : S80) false) else (spec_LabelBox.ret (⟨(⟨h0.f0, wrap64 (h0.f1 - 3)⟩ : S75), (⟨wrap64 (h0.f0 + r4), h0.f1⟩ : S75)⟩ : S80) true)) else (spec_IsBox.ap k (⟨(⟨h0.f0, h0.f1⟩ : S75), (⟨wrap64 (h0.f0 + r4), wrap64 (h0.f1 + 3)⟩ : S75)⟩ : S80) fun r9 => if (!r9) = true then (spec_LabelBox.ret (⟨(⟨0, 0⟩ : S75), (⟨0, 0⟩ : S75)⟩ : S80) false) else (spec_LabelBox.ret (⟨(⟨h0.f0, h0.f1⟩ : S75), (⟨wrap64 (h0.f0 + r4), wrap64 (h0.f1 + 3)⟩ : S75)⟩ : S80) true)))))) := by kernel_rfl
def spec_LabelBox.toH (t : Int × Int × Int × Int × Bool) : HL eΓ [.st .s80, .b] := ((⟨(⟨t.1, t.2.1⟩ : S75), (⟨t.2.2.1, t.2.2.2.1⟩ : S75)⟩ : S80), t.2.2.2.2, ())
def spec_LabelBox.spec : Spc env := ⟨48, [.st .s75, .s, .i .i64], [.st .s80, .b], spec_LabelBox.run⟩
def spec_LabelBox.ap {R : Type} (k : Nat) (h0 : S75) (h1 : ByteArray) (h2 : Int) (K : S80 → Bool → Option R) : Option R := (spec_LabelBox.run k (h0, h1, h2, ())).bind fun r => K (r.1 : S80) (r.2.1 : Bool)
theorem spec_LabelBox.ap_of {R : Type} {k : Nat} {h0 : S75} {h1 : ByteArray} {h2 : Int} {r0 : S80} {r1 : Bool} {K : S80 → Bool → Option R} (h : spec_LabelBox.run k (h0, h1, h2, ()) = some (r0, r1, ())) : spec_LabelBox.ap k h0 h1 h2 K = K r0 r1 := by unfold spec_LabelBox.ap; rw [h]; rfl
theorem spec_LabelBox.snd : Snd env spec_LabelBox.spec := evF_snd env_ok (sndC spec_IsPoint.snd (sndC spec_IsName.snd (sndC spec_l1In.snd (sndC spec_NameWidth.snd (sndC spec_IsBox.snd (sndN))))))
attribute [local irreducible] spec_LabelBox.run
theorem spec_LabelBox.rt (a0 : Int) (a1 : Int) (a2 : Int) (a3 : Int) (a4 : Bool) : spec_LabelBox.ret (⟨(⟨a0, a1⟩ : S75), (⟨a2, a3⟩ : S75)⟩ : S80) a4 = some (spec_LabelBox.toH (a0, a1, a2, a3, a4)) := rfl
theorem spec_LabelBox.go {k : Nat} {a0_0 : Int} {a0_1 : Int} {a1 : ByteArray} {a2 : Int} {t} (h : spec_LabelBox.f k a0_0 a0_1 a1 a2 = some t) (K : Nat) (hK : k ≤ K) : spec_LabelBox.run K ((⟨a0_0, a0_1⟩ : S75), a1, a2, ()) = some (spec_LabelBox.toH t) := by
  rw [spec_LabelBox.ef]
  (try dsimp only)
  unfold spec_LabelBox.f at h
  repeat' (with_reducible first
   | exact nos h
   | (cases some_inj h; exact spec_LabelBox.rt _ _ _ _ _)
   | ((have q : spec_LabelBox.j0 k _ _ _ _ _ = some _ := h; clear q); rcases k with _ | k <;> simp only [spec_LabelBox.j0, reduceCtorEq] at h)
   | ((have q : spec_LabelBox.j1 k _ _ _ _ _ _ _ = some _ := h; clear q); rcases k with _ | k <;> simp only [spec_LabelBox.j1, reduceCtorEq] at h)
   | (simp only [Option.bind_some] at h)
   | (refine ite_by h ?_ ?_ <;> (intro hc h; (try simp only [nrm] at hc)))
   | refine itT ?_
   | refine itF ?_
   | (refine bind_by h (fun t ht h => ?_); (first | refine (spec_IsPoint.ap_of (spec_IsPoint.go ht _)).trans ?_ | refine (spec_IsName.ap_of (spec_IsName.go ht _ (by omega))).trans ?_ | refine (spec_l1In.ap_of (spec_l1In.go ht _)).trans ?_ | refine (spec_NameWidth.ap_of (spec_NameWidth.go ht _ (by omega))).trans ?_ | refine (spec_IsBox.ap_of (spec_IsBox.go ht _)).trans ?_); (try dsimp only at h ⊢))
   | (simp only [nr2] at h ⊢)
   | (exfalso; omega))
theorem spec_LabelBox.calls (k : Nat) (a0_0 : Int) (a0_1 : Int) (a1 : ByteArray) (a2 : Int) (r1 : Int) (r2 : Int) (r3 : Int) (r4 : Int) (r5 : Bool) (w : World) (h : spec_LabelBox.f k a0_0 a0_1 a1 a2 = some (r1, r2, r3, r4, r5)) :
  Calls Tryz.prog 48 #[.agg #[.int .i64 a0_0, .int .i64 a0_1], .string a1, .int .i64 a2] w fun e w' => e = .returned (.tuple #[.agg #[.int .i64 r1, .int .i64 r2, .int .i64 r3, .int .i64 r4], .bool r5]) ∧ Below w.heap.size w w' := by
  refine (spec_LabelBox.snd.calls _ _ _ (spec_LabelBox.go h k (Nat.le_refl k)) w [.agg #[.int .i64 a0_0, .int .i64 a0_1], .string a1, .int .i64 a2] ⟨⟨_, rfl, (H75.K _ _ _).2 ⟨rfl, rfl, trivial⟩⟩, rfl, rfl, trivial⟩).mono ?_
  rintro e w' ⟨v, rfl, hB, vs, oks, rfl, hR, _⟩
  obtain ⟨x0_, vs, o0_, oks, rfl, rfl, m0_, hR⟩ := rmsC hR
  obtain ⟨x1_, vs, o1_, oks, rfl, rfl, m1_, hR⟩ := rmsC hR
  obtain rfl := rmsN hR
  obtain ⟨y0, rfl, m0_⟩ := m0_
  have m0_ := (H80.M _ _ _ _ _).1 m0_
  match e0 : y0.toList, m0_ with
  | [d0_0, d0_1, d0_2, d0_3], ⟨n0_0, n0_1, n0_2, n0_3, _⟩ =>
  obtain rfl : y0 = #[d0_0, d0_1, d0_2, d0_3] := by rw [← Array.toArray_toList (xs := y0), e0]
  obtain rfl := List.singleton_inj.1 (show [d0_0] = [Value.int .i64 r1] from n0_0)
  obtain rfl := List.singleton_inj.1 (show [d0_1] = [Value.int .i64 r2] from n0_1)
  obtain rfl := List.singleton_inj.1 (show [d0_2] = [Value.int .i64 r3] from n0_2)
  obtain rfl := List.singleton_inj.1 (show [d0_3] = [Value.int .i64 r4] from n0_3)
  obtain rfl := List.singleton_inj.1 (show [x1_] = [Value.bool r5] from m1_)
  exact ⟨rfl, hB⟩
def spec_CornersFor.Fs : List (Spc env) := [spec_LabelBox.spec]
def spec_CornersFor.fin : St eΓ → Option (HL eΓ [.l 3 (.i .i64)]) := finR env Tryz.f86.results.toList [.l 3 (.i .i64)]
def spec_CornersFor.cut : Nat → Option (List (Lv SC)) := lk [(3, [⟨1, none, false⟩, ⟨2, none, false⟩, ⟨5, none, false⟩, ⟨6, none, false⟩])]
def spec_CornersFor.ret (r0 : List Int) : Option (HL eΓ [.l 3 (.i .i64)]) := some (r0, ())
def spec_CornersFor.p3 (k : Nat) (x1 : ByteArray) (x6 : Int) (b0_0 : Int) (b0_1 : Int) (x5 : List Int) : Option (HL eΓ [.l 3 (.i .i64)]) := evM env spec_CornersFor.Fs Tryz.f86.ntmps spec_CornersFor.fin spec_CornersFor.cut k [.code (sub_ [1, 1, 0, 1, 0, 0, 0, 0] (bodyOf Tryz.f86)), .code (sub_ [1, 1, 0, 1, 0, 0, 0, 1] (bodyOf Tryz.f86)), .code (sub_ [1, 1, 0, 1, 0, 0, 1] (bodyOf Tryz.f86)), .lp (sub_ [1, 1, 0, 1, 0, 0] (bodyOf Tryz.f86)), .blk 0, .code (sub_ [1, 1, 1] (bodyOf Tryz.f86))] (mkSt [(1, .c (.v (.string x1))), (2, .c (.ptr 0 0)), (5, .c (.sl 1)), (6, .c (.v (.int .i64 x6)))] [.box 75 [.v (.int .i64 b0_0), .v (.int .i64 b0_1)], .row .own 3 (.i .i64) x5])
theorem spec_CornersFor.e3 (k : Nat) (x1 : ByteArray) (x6 : Int) (b0_0 : Int) (b0_1 : Int) (x5 : List Int) : spec_CornersFor.p3 (k + 1) x1 x6 b0_0 b0_1 x5 = if x6 < 4 then (spec_LabelBox.ap k (⟨b0_0, b0_1⟩ : S75) x1 x6 fun r1_0 r1_1 => if r1_1 = true then (if (x5.length + 1) * 8 ≤ 140737488355328 then (spec_CornersFor.p3 k x1 (wrap64 (x6 + 1)) b0_0 b0_1 (x5 ++ [x6])) else none) else (spec_CornersFor.p3 k x1 (wrap64 (x6 + 1)) b0_0 b0_1 x5)) else (spec_CornersFor.ret x5) := by kernel_rfl
def spec_CornersFor.run (k : Nat) (h : HL eΓ [.st .s75, .s]) : Option (HL eΓ [.l 3 (.i .i64)]) := evF env spec_CornersFor.Fs Tryz.f86 spec_CornersFor.cut [.st .s75, .s] [.l 3 (.i .i64)] k h
theorem spec_CornersFor.ef (k : Nat) (h0 : S75) (h1 : ByteArray) : spec_CornersFor.run k (h0, h1, ()) = spec_CornersFor.p3 k h1 0 h0.f0 h0.f1 ([] : List Int) := by kernel_rfl
def spec_CornersFor.toH (t : List Int) : HL eΓ [.l 3 (.i .i64)] := (t, ())
def spec_CornersFor.spec : Spc env := ⟨86, [.st .s75, .s], [.l 3 (.i .i64)], spec_CornersFor.run⟩
theorem spec_CornersFor.snd : Snd env spec_CornersFor.spec := evF_snd env_ok (sndC spec_LabelBox.snd (sndN))
attribute [local irreducible] spec_CornersFor.run
theorem spec_CornersFor.rt (a0 : List Int) : spec_CornersFor.ret a0 = some (spec_CornersFor.toH (a0)) := rfl
theorem spec_CornersFor.br (n : Nat) : (∀ K, n ≤ K → ∀ (x1 : ByteArray) (x6 : Int) (b0_0 : Int) (b0_1 : Int) (x5 : List Int) t, spec_CornersFor.l0 n x1 x5 x6 b0_0 b0_1 = some t → spec_CornersFor.p3 K x1 x6 b0_0 b0_1 x5 = some (spec_CornersFor.toH t)) := by
  induction n using Nat.strongRecOn with
  | _ n ih =>
  intro K hK x1 x6 b0_0 b0_1 x5 t h
  all_goals (rcases n with _ | k)
  all_goals (try (exact nos h))
  all_goals (obtain ⟨K, rfl⟩ : ∃ q, K = q + 1 := ⟨K - 1, by omega⟩)
  all_goals (first | rw [spec_CornersFor.e3])
  all_goals (simp only [spec_CornersFor.l0] at h)
  repeat' (with_reducible first
   | exact nos h
   | (cases some_inj h; exact spec_CornersFor.rt _)
   | exact (ih _ (by omega)) _ (by omega) _ _ _ _ _ _ h
   | (simp only [Option.bind_some] at h)
   | (refine ite_by h ?_ ?_ <;> (intro hc h; (try simp only [nrm] at hc)))
   | refine itT ?_
   | refine itF ?_
   | (refine bind_by h (fun t ht h => ?_); refine (spec_LabelBox.ap_of (spec_LabelBox.go ht _ (by omega))).trans ?_; (try dsimp only at h ⊢))
   | (simp only [nr2, Int.zero_sub] at h ⊢)
   | (exfalso; omega))
theorem spec_CornersFor.go {k : Nat} {a0_0 : Int} {a0_1 : Int} {a1 : ByteArray} {t} (h : spec_CornersFor.f k a0_0 a0_1 a1 = some t) (K : Nat) (hK : k ≤ K) : spec_CornersFor.run K ((⟨a0_0, a0_1⟩ : S75), a1, ()) = some (spec_CornersFor.toH t) := by
  rw [spec_CornersFor.ef]
  (try dsimp only)
  unfold spec_CornersFor.f at h
  repeat' (with_reducible first
   | exact nos h
   | (cases some_inj h; exact spec_CornersFor.rt _)
   | exact (spec_CornersFor.br _) _ (by omega) _ _ _ _ _ _ h
   | (simp only [Option.bind_some] at h)
   | (refine ite_by h ?_ ?_ <;> (intro hc h; (try simp only [nrm] at hc)))
   | refine itT ?_
   | refine itF ?_
   | (refine bind_by h (fun t ht h => ?_); refine (spec_LabelBox.ap_of (spec_LabelBox.go ht _ (by omega))).trans ?_; (try dsimp only at h ⊢))
   | (simp only [nr2, Int.zero_sub] at h ⊢)
   | (exfalso; omega))
theorem spec_CornersFor.calls (k : Nat) (a0_0 : Int) (a0_1 : Int) (a1 : ByteArray) (r : List Int) (w : World) (h : spec_CornersFor.f k a0_0 a0_1 a1 = some r) :
  Calls Tryz.prog 86 #[.agg #[.int .i64 a0_0, .int .i64 a0_1], .string a1] w fun e w' => ∃ v0_ : Value, e = .returned (v0_) ∧ Kd.R (Kd.int .i64) 3 w' w.heap.size (fun _ => True) v0_ r ∧ Below w.heap.size w w' := by
  refine (spec_CornersFor.snd.calls _ _ _ (spec_CornersFor.go h k (Nat.le_refl k)) w [.agg #[.int .i64 a0_0, .int .i64 a0_1], .string a1] ⟨⟨_, rfl, (H75.K _ _ _).2 ⟨rfl, rfl, trivial⟩⟩, rfl, trivial⟩).mono ?_
  rintro e w' ⟨v, rfl, hB, vs, oks, rfl, hR, _⟩
  obtain ⟨x0_, vs, o0_, oks, rfl, rfl, m0_, hR⟩ := rmsC hR
  obtain rfl := rmsN hR
  obtain ⟨x0_v, x0_e, x0_R⟩ := m0_
  obtain rfl := List.singleton_inj.1 x0_e
  exact ⟨_, rfl, Kd.R_mono x0_R (fun _ _ => trivial), hB⟩
def spec_BoxesOverlap.Fs : List (Spc env) := [spec_IsBox.spec, spec_Max.spec, spec_Min.spec]
def spec_BoxesOverlap.cut : Nat → Option (List (Lv SC)) := lk []
def spec_BoxesOverlap.ret (r0 : Bool) : Option (HL eΓ [.b]) := some (r0, ())
def spec_BoxesOverlap.run (k : Nat) (h : HL eΓ [.st .s80, .st .s80]) : Option (HL eΓ [.b]) := evF env spec_BoxesOverlap.Fs Tryz.f87 spec_BoxesOverlap.cut [.st .s80, .st .s80] [.b] k h
theorem spec_BoxesOverlap.ef (k : Nat) (h0 : S80) (h1 : S80) : spec_BoxesOverlap.run k (h0, h1, ()) = spec_IsBox.ap k (⟨(⟨h0.f0.f0, h0.f0.f1⟩ : S75), (⟨h0.f1.f0, h0.f1.f1⟩ : S75)⟩ : S80) fun r1 => if r1 = true then (spec_IsBox.ap k (⟨(⟨h1.f0.f0, h1.f0.f1⟩ : S75), (⟨h1.f1.f0, h1.f1.f1⟩ : S75)⟩ : S80) fun r2 => if r2 = true then (spec_Max.ap k h0.f0.f0 h1.f0.f0 fun r3 => spec_Min.ap k h0.f1.f0 h1.f1.f0 fun r4 => if r3 < r4 then (spec_Max.ap k h0.f0.f1 h1.f0.f1 fun r5 => spec_Min.ap k h0.f1.f1 h1.f1.f1 fun r6 => spec_BoxesOverlap.ret (decide (r5 < r6))) else (spec_BoxesOverlap.ret false)) else (spec_BoxesOverlap.ret false)) else (spec_BoxesOverlap.ret false) := by kernel_rfl
def spec_BoxesOverlap.toH (t : Bool) : HL eΓ [.b] := (t, ())
def spec_BoxesOverlap.spec : Spc env := ⟨87, [.st .s80, .st .s80], [.b], spec_BoxesOverlap.run⟩
theorem spec_BoxesOverlap.snd : Snd env spec_BoxesOverlap.spec := evF_snd env_ok (sndC spec_IsBox.snd (sndC spec_Max.snd (sndC spec_Min.snd (sndN))))
attribute [local irreducible] spec_BoxesOverlap.run
theorem spec_BoxesOverlap.rt (a0 : Bool) : spec_BoxesOverlap.ret a0 = some (spec_BoxesOverlap.toH (a0)) := rfl
theorem spec_BoxesOverlap.go {a0_0 : Int} {a0_1 : Int} {a0_2 : Int} {a0_3 : Int} {a1_0 : Int} {a1_1 : Int} {a1_2 : Int} {a1_3 : Int} {t} (h : spec_BoxesOverlap.f a0_0 a0_1 a0_2 a0_3 a1_0 a1_1 a1_2 a1_3 = some t) (K : Nat) : spec_BoxesOverlap.run K ((⟨(⟨a0_0, a0_1⟩ : S75), (⟨a0_2, a0_3⟩ : S75)⟩ : S80), (⟨(⟨a1_0, a1_1⟩ : S75), (⟨a1_2, a1_3⟩ : S75)⟩ : S80), ()) = some (spec_BoxesOverlap.toH t) := by
  rw [spec_BoxesOverlap.ef]
  (try dsimp only)
  unfold spec_BoxesOverlap.f at h
  repeat' (with_reducible first
   | exact nos h
   | (cases some_inj h; exact spec_BoxesOverlap.rt _)
   | (simp only [Option.bind_some] at h)
   | (refine ite_by h ?_ ?_ <;> (intro hc h; (try simp only [nrm] at hc)))
   | refine itT ?_
   | refine itF ?_
   | (refine bind_by h (fun t ht h => ?_); (first | refine (spec_IsBox.ap_of (spec_IsBox.go ht _)).trans ?_ | refine (spec_Max.ap_of (spec_Max.go ht _)).trans ?_ | refine (spec_Min.ap_of (spec_Min.go ht _)).trans ?_); (try dsimp only at h ⊢))
   | (simp only [nr2] at h ⊢)
   | (exfalso; omega))
theorem spec_BoxesOverlap.calls (a0_0 : Int) (a0_1 : Int) (a0_2 : Int) (a0_3 : Int) (a1_0 : Int) (a1_1 : Int) (a1_2 : Int) (a1_3 : Int) (r : Bool) (w : World) (h : spec_BoxesOverlap.f a0_0 a0_1 a0_2 a0_3 a1_0 a1_1 a1_2 a1_3 = some r) :
  Calls Tryz.prog 87 #[.agg #[.int .i64 a0_0, .int .i64 a0_1, .int .i64 a0_2, .int .i64 a0_3], .agg #[.int .i64 a1_0, .int .i64 a1_1, .int .i64 a1_2, .int .i64 a1_3]] w fun e w' => e = .returned (.bool r) ∧ Below w.heap.size w w' := by
  refine (spec_BoxesOverlap.snd.calls _ _ _ (spec_BoxesOverlap.go h 0) w [.agg #[.int .i64 a0_0, .int .i64 a0_1, .int .i64 a0_2, .int .i64 a0_3], .agg #[.int .i64 a1_0, .int .i64 a1_1, .int .i64 a1_2, .int .i64 a1_3]] ⟨⟨_, rfl, (H80.K _ _ _).2 ⟨rfl, rfl, rfl, rfl, trivial⟩⟩, ⟨_, rfl, (H80.K _ _ _).2 ⟨rfl, rfl, rfl, rfl, trivial⟩⟩, trivial⟩).mono ?_
  rintro e w' ⟨v, rfl, hB, vs, oks, rfl, hR, _⟩
  obtain ⟨x0_, vs, o0_, oks, rfl, rfl, m0_, hR⟩ := rmsC hR
  obtain rfl := rmsN hR
  obtain rfl := List.singleton_inj.1 (show [x0_] = [Value.bool r] from m0_)
  exact ⟨rfl, hB⟩
set_option maxHeartbeats 8000000 in
set_option maxRecDepth 100000 in
theorem spec_FreeCorner.calls (k : Nat) (a0_0 : Int) (a0_1 : Int) (a1 : ByteArray) (A2 : Option Addr) (c2 : Nat) (l2 : List (S80)) (r : Int) (w : World) (hr2 : Kd.C k80 w A2 l2.length l2) (hc2 : l2.length ≤ c2) (h : spec_FreeCorner.f k a0_0 a0_1 a1 l2 = some r) :
  Calls Tryz.prog 47 #[.agg #[.int .i64 a0_0, .int .i64 a0_1], .string a1, .slice A2 l2.length c2] w fun e w' => e = .returned (.int .i64 r) ∧ Below w.heap.size w w' := by
 have hu75 := Tryz.underlying75; have hu80 := Tryz.underlying80; have HR2 := Aside0.mk hr2; have HC2 := Aside0.mk hc2; clear hr2 hc2; have HB := Aside0.mk (Below.refl w.heap.size w); have H : ((spec_CornersFor.f k a0_0 a0_1 a1).bind fun t292 => (spec_FreeCorner.l0 k a1 l2 t292 0 a0_0 a0_1)) = some r := h; clear h; replace H := Option.bind_eq_some_iff.mp H; obtain ⟨t292, A40, H⟩ := H; have A4 := Aside0.mk A40; clear A40; have H' := Aside0.mk H; clear H
 go_enter Tryz.func47, Tryz.ntmps47; go_wp2_with (first | ((with_reducible refine gt (some 3) rfl ?_); refine bx #[.int .i64 a0_0, .int .i64 a0_1] 75 ?_; intro gb291 hg w5 hbox hb; have BK291 := Aside0.mk (hbox); have GW291 := Aside0.mk (gez HB hg); have GE291 := Aside0.mk (gez HB hg); replace HB := Aside0.mk (below_step bz hb); clear hb hbox hg; obtain ⟨hcz6_0, hcz6_1, hfz6_0, hfz6_1⟩ := cells2 BK291) | ((with_reducible refine gt (some 15) rfl ?_); refine gc Tryz.func86 (spec_CornersFor.calls k a0_0 a0_1 a1 t292 _ A4.out) ?_; rintro e w7 ⟨v293, rfl, ho0, hb⟩; refine ⟨_, rfl, ?_⟩; have HO294 := Aside0.mk (Kd.R_lower ho0 (below_size bzs)); replace BK291 := Aside0.mk (bbz BK291 hb); replace HB := Aside0.mk (below_step bzs hb); (try clear hb); (try clear ho0)))
 go_loopg [8] k (fun kq v8 w' => ∃ (x8_1 : Int), v8 = .int .i64 x8_1 ∧ Aside0 (spec_FreeCorner.l0 kq a1 l2 t292 x8_1 a0_0 a0_1 = some r) ∧ Aside0 (kq ≤ k) ∧ Aside0 (Kd.R (Kd.int .i64) 3 w' w.heap.size (fun _ => True) v293 t292) ∧ Aside0 (w'.heap[gb291]? = some (.cells #[.int .i64 a0_0, .int .i64 a0_1] 75 (0, 0))) ∧ Aside0 (Below w.heap.size w w'))
 case atStart => exact ⟨(0), rz, H', ⟨Nat.le_refl _⟩, ⟨hr HO294.out⟩, ⟨kz BK291⟩, ⟨bzs⟩⟩
 case round =>
  clear H'; (try clear c2); (try clear p2); (try clear c4); (try clear hcz6_0); (try clear hcz6_1); (try clear hfz6_0); (try clear hfz6_1); obtain ⟨x8_1, rfl, HA, HK1, HO_7, BK291, HB⟩ := hrel
  cases gk with
  | zero => exact absurd HA.out (by simp [spec_FreeCorner.l0])
  | succ k1 =>
   have H := HA.out; clear HA; simp only [spec_FreeCorner.l0] at H
   by_cases c8 : x8_1 < (t292.length : Int)
   ·rw [if_pos c8] at H; have c8b0 := decide_eq_true c8; clear c8
    by_cases c9 : 0 ≤ x8_1
    ·rw [if_pos c9] at H; have c9b0 := decide_eq_true c9; clear c9; replace H := Option.bind_eq_some_iff.mp H; obtain ⟨⟨t296, t297, t298, t299, t300⟩, A100, H⟩ := H; replace H : (spec_FreeCorner.l1 k1 a1 l2 t292 x8_1 true 0 a0_0 a0_1 t296 t297 t298 t299) = some r := H; have A10 := Aside0.mk A100; clear A100; have H' := Aside0.mk H; clear H; obtain ⟨Ao11, co11, eo11⟩ := Kd.R_slice HO_7.out; subst eo11; (try go_wp2); replace HO_7 := Aside0.mk (Kd.R_drew HO_7.out); replace BK291 := Aside0.mk (blk_drew BK291.out); replace HB := Aside0.mk (below_drew1 HB.out); have p295 : 0 ≤ (x8_1 : Int) := of_decide_eq_true az; have q295 : x8_1 < (t292.length : Int) := of_decide_eq_true az; obtain ⟨ad295, e295, hx295_0⟩ := Kd.at_int (Kd.R_reads' HO_7.out).2.2 x8_1 p295 q295
     cases e295
     replace p295 := eq_true p295; replace q295 := eq_true q295; refine start_ (n := 13) (S := fun w' => w'.cell? ⟨gb291, 0, none⟩ = some (.int .i64 a0_0) ∧ w'.cell? ⟨gb291, 1, none⟩ = some (.int .i64 a0_1) ∧ w'.cell? (ad295.add (x8_1).toNat) = some (.int .i64 (rd t292 x8_1))) (ds := []) #[F,F,F,F,F,F,F,F,F,F,F,F,F] (by kernel_rfl) rfl rfl ⟨bc BK291 0, bc BK291 1, hx295_0⟩ (fun hHeld => ?_); refine with_tabW spec_FreeCorner.tab5 spec_FreeCorner.bits5 (fun HT_ HW_ => ?_); generalize wr.drew = w12 at HO_7 BK291 HB hx295_0 hHeld ⊢; refine pz HT_ 1 24 ?_; refine pz HT_ 2 25 ?_; refine pz HT_ 3 26 ?_; refine pz HT_ 4 27 ?_; refine tz3 HT_ HW_ hHeld 0 23 ?_; refine tz3 HT_ HW_ hHeld 5 28 ?_; refine join_ (σ := Nat) 2 #[T,T,T,T,T,T,T,T,T,T,T,F,F] (fun s_ => [(29, .tuple #[.agg #[.int .i64 t296, .int .i64 t297, .int .i64 t298, .int .i64 t299], .bool t300]), (9, .pointer (some ⟨s_, 0, none⟩)), (22, .tuple #[.agg #[.int .i64 t296, .int .i64 t297, .int .i64 t298, .int .i64 t299], .bool t300]), (30, .agg #[.int .i64 t296, .int .i64 t297, .int .i64 t298, .int .i64 t299]), (31, .bool t300)]) (fun s_ w' => (w'.cell? ⟨gb291, 0, none⟩ = some (.int .i64 a0_0) ∧ w'.cell? ⟨gb291, 1, none⟩ = some (.int .i64 a0_1) ∧ w'.cell? (ad295.add (x8_1).toNat) = some (.int .i64 (rd t292 x8_1))) ∧ (Kd.R (Kd.int .i64) 3 w' w.heap.size (fun _ => True) (.slice (some ad295) t292.length co11) t292) ∧ (w'.heap[gb291]? = some (.cells #[.int .i64 a0_0, .int .i64 a0_1] 75 (0, 0))) ∧ (w'.heap[s_]? = some (.cells #[.int .i64 0, .int .i64 0, .int .i64 0, .int .i64 0] 80 (0, 0))) ∧ (w.heap.size ≤ s_) ∧ (w.heap.size ≤ s_) ∧ (gb291 ≠ s_) ∧ (s_ ≠ gb291) ∧ (Below w.heap.size w w')) ?_ ?_
     rotate_left
     ·intro hCont; refine two_ (i := 6) (j := 10) (Ni := some 29) (Nj := some 9) #[T,T,T,T,T,T,T,F,F,F,F,F,F] #[T,T,T,T,T,T,F,F,F,F,T,F,F] rfl rfl rfl rfl (two_of HT_.out (by kernel_rfl)) (by decide) (by decide) (fun K hK => ?_) (fun K hK => ?_)
      ·skip
       refine gz Tryz.func48 #[.agg #[.int .i64 a0_0, .int .i64 a0_1], .string a1, .int .i64 (rd t292 x8_1)] ?_
       with_reducible refine (spec_LabelBox.calls k1 a0_0 a0_1 a1 (rd t292 x8_1) t296 t297 t298 t299 t300 _ A10.out).mono ?_
       rintro e w13 ⟨rfl, hb⟩; have HS2_ := yz hb hHeld.2.2; refine ⟨_, rfl, ?_⟩; replace HO_7 := Aside0.mk (rbz HO_7 hb); replace BK291 := Aside0.mk (bbz BK291 hb); replace HB := Aside0.mk (below_step bzs hb); (try clear hb); (try clear hb2); (try clear hk); (try clear hi); refine hK.out _ _ ⟨bc BK291 0, bc BK291 1, HS2_⟩ (fun hHeld => ?_); clear hK K; refine nz 29 ?_; refine pz HT_ 7 22 ?_; refine pz HT_ 8 30 ?_; refine pz HT_ 9 31 ?_; refine oz HT_ 10 (some 9) (fun K hK => ?_); refine box_step ?hg (N := 9) ?hd (cs := #[.int .i64 0, .int .i64 0, .int .i64 0, .int .i64 0]) (t := 80) ?hr ?_; (case hd => rfl); (case hg => rfl); (case hr => first | (go_simp; done) | (go_simp; rfl)); intro gb301 hg w14 hbox hb; have HS2_ := yz hb hHeld.2.2; replace HO_7 := Aside0.mk (rbz HO_7 hb); have BK301 := Aside0.mk (hbox); have GW301 := Aside0.mk (gez HB hg); have GE301 := Aside0.mk (gez HB hg); replace HB := Aside0.mk (below_step bzs hb); have NB291_301 := Aside0.mk ((by rw [hg]; exact Nat.ne_of_lt (blk_lt (g := gb291) (o := .cells #[.int .i64 a0_0, .int .i64 a0_1] 75 (0, 0)) (kz BK291)) : gb291 ≠ gb301)); have NB301_291 := Aside0.mk ((by rw [hg]; exact Nat.ne_of_gt (blk_lt (g := gb291) (o := .cells #[.int .i64 a0_0, .int .i64 a0_1] 75 (0, 0)) (kz BK291)) : gb301 ≠ gb291)); replace BK291 := Aside0.mk (bbz BK291 hb); clear hb hbox hg; refine hK.out _ _ ⟨bc BK291 0, bc BK291 1, HS2_⟩ (fun hHeld => ?_); clear hK K; refine nz 9 ?_
       exact norm_ (by simp only [putAll, Act.put, List.setIfInBounds_toArray, List.set_cons_zero, List.set_cons_succ]) (hCont (gb301) _ ⟨hHeld, (hr HO_7.out), (kz BK291), (kz BK301), GW301.out, GE301.out, NB291_301.out, NB301_291.out, bzs⟩)
      ·skip
       refine box_step ?hg (N := 9) ?hd (cs := #[.int .i64 0, .int .i64 0, .int .i64 0, .int .i64 0]) (t := 80) ?hr ?_; (case hd => rfl); (case hg => rfl); (case hr => first | (go_simp; done) | (go_simp; rfl)); intro gb301 hg w13 hbox hb; have HS2_ := yz hb hHeld.2.2; replace HO_7 := Aside0.mk (rbz HO_7 hb); have BK301 := Aside0.mk (hbox); have GW301 := Aside0.mk (gez HB hg); have GE301 := Aside0.mk (gez HB hg); replace HB := Aside0.mk (below_step bzs hb); have NB291_301 := Aside0.mk ((by rw [hg]; exact Nat.ne_of_lt (blk_lt (g := gb291) (o := .cells #[.int .i64 a0_0, .int .i64 a0_1] 75 (0, 0)) (kz BK291)) : gb291 ≠ gb301)); have NB301_291 := Aside0.mk ((by rw [hg]; exact Nat.ne_of_gt (blk_lt (g := gb291) (o := .cells #[.int .i64 a0_0, .int .i64 a0_1] 75 (0, 0)) (kz BK291)) : gb301 ≠ gb291)); replace BK291 := Aside0.mk (bbz BK291 hb); clear hb hbox hg; refine hK.out _ _ ⟨bc BK291 0, bc BK291 1, HS2_⟩ (fun hHeld => ?_); clear hK K; refine nz 9 ?_; refine oz HT_ 6 (some 29) (fun K hK => ?_); refine gz Tryz.func48 #[.agg #[.int .i64 a0_0, .int .i64 a0_1], .string a1, .int .i64 (rd t292 x8_1)] ?_
       with_reducible refine (spec_LabelBox.calls k1 a0_0 a0_1 a1 (rd t292 x8_1) t296 t297 t298 t299 t300 _ A10.out).mono ?_
       rintro e w14 ⟨rfl, hb⟩; have HS2_ := yz hb hHeld.2.2; refine ⟨_, rfl, ?_⟩; replace HO_7 := Aside0.mk (rbz HO_7 hb); replace BK291 := Aside0.mk (bbz BK291 hb); replace BK301 := Aside0.mk (bbz BK301 hb); replace HB := Aside0.mk (below_step bzs hb); (try clear hb); (try clear hb2); (try clear hk); (try clear hi); refine hK.out _ _ ⟨bc BK291 0, bc BK291 1, HS2_⟩ (fun hHeld => ?_); clear hK K; refine nz 29 ?_; refine pz HT_ 7 22 ?_; refine pz HT_ 8 30 ?_; refine pz HT_ 9 31 ?_
       exact norm_ (by simp only [putAll, Act.put, List.setIfInBounds_toArray, List.set_cons_zero, List.set_cons_succ]) (hCont (gb301) _ ⟨hHeld, (hr HO_7.out), (kz BK291), (kz BK301), GW301.out, GE301.out, NB291_301.out, NB301_291.out, bzs⟩)
     rintro gb301 w15 ⟨hS_, h0_, h1_, h2_, h3_, h4_, h5_, h6_, h7_⟩; have n0_ : Aside0 (Kd.R (Kd.int .i64) 3 w15 w.heap.size (fun _ => True) (.slice (some ad295) t292.length co11) t292) := ⟨h0_⟩
     have n1_ : Aside0 (w15.heap[gb291]? = some (.cells #[.int .i64 a0_0, .int .i64 a0_1] 75 (0, 0))) := ⟨h1_⟩
     have n2_ : Aside0 (w15.heap[gb301]? = some (.cells #[.int .i64 0, .int .i64 0, .int .i64 0, .int .i64 0] 80 (0, 0))) := ⟨h2_⟩
     have n3_ : Aside0 (w.heap.size ≤ gb301) := ⟨h3_⟩
     have n4_ : Aside0 (w.heap.size ≤ gb301) := ⟨h4_⟩
     have n5_ : Aside0 (gb291 ≠ gb301) := ⟨h5_⟩
     have n6_ : Aside0 (gb301 ≠ gb291) := ⟨h6_⟩
     have n7_ : Aside0 (Below w.heap.size w w15) := ⟨h7_⟩
     clear HO_7; clear BK291; clear HB; clear h0_ h1_ h2_ h3_ h4_ h5_ h6_ h7_; have HO_7 := n0_; have BK291 := n1_; have BK301 := n2_; have GW301 := n3_; have GE301 := n4_; have NB291_301 := n5_; have NB301_291 := n6_; have HB := n7_; clear n0_ n1_ n2_ n3_ n4_ n5_ n6_ n7_; have hHeld : w15.cell? ⟨gb291, 0, none⟩ = some (.int .i64 a0_0) ∧ w15.cell? ⟨gb291, 1, none⟩ = some (.int .i64 a0_1) ∧ w15.cell? (ad295.add (x8_1).toNat) = some (.int .i64 (rd t292 x8_1)) := hS_; refine norm_ (a' := ?_) ?_ ?_; rotate_left
     ·simp only [putAll, Act.put, List.setIfInBounds_toArray, List.set_cons_zero, List.set_cons_succ]
      rfl
     refine oz HT_ 11 none (fun K hK => ?_); have hs16 : w15.cell? ⟨gb301, 0, none⟩ = some (.int .i64 0) := bc BK301 0; have hfs16 := blk_frozen BK301.out 0; have hns16_0 := NB291_301.out; have hms16_0 := NB301_291.out; have hs17 : w15.cell? ⟨gb301, 1, none⟩ = some (.int .i64 0) := bc BK301 1; have hfs17 := blk_frozen BK301.out 1; have hns17_0 := NB291_301.out; have hms17_0 := NB301_291.out; have hs18 : w15.cell? ⟨gb301, 2, none⟩ = some (.int .i64 0) := bc BK301 2; have hfs18 := blk_frozen BK301.out 2; have hns18_0 := NB291_301.out; have hms18_0 := NB301_291.out; have hs19 : w15.cell? ⟨gb301, 3, none⟩ = some (.int .i64 0) := bc BK301 3; have hfs19 := blk_frozen BK301.out 3; have hns19_0 := NB291_301.out; have hms19_0 := NB301_291.out; refine skip_ (w1 := ?_) (by rfl) rfl ?_ ?_; rotate_left
     ·go_simp
      rfl
     refine hK.out _ _ ⟨((cell_far (p := ⟨gb301, _, none⟩) NB291_301.out _).trans (((cell_far (p := ⟨gb301, _, none⟩) NB291_301.out _).trans (((cell_far (p := ⟨gb301, _, none⟩) NB291_301.out _).trans (((cell_far (p := ⟨gb301, _, none⟩) NB291_301.out _).trans (hHeld.1)))))))), ((cell_far (p := ⟨gb301, _, none⟩) NB291_301.out _).trans (((cell_far (p := ⟨gb301, _, none⟩) NB291_301.out _).trans (((cell_far (p := ⟨gb301, _, none⟩) NB291_301.out _).trans (((cell_far (p := ⟨gb301, _, none⟩) NB291_301.out _).trans (hHeld.2.1)))))))), ((cell_far (p := ⟨gb301, _, none⟩) (by first | exact Kd.own_blk (Kd.R_ne HO_7.out BK301.out (by decide)) | (rw [add_block]; exact Kd.own_blk (Kd.R_ne HO_7.out BK301.out (by decide))) | (show (Addr.add _ _).block ≠ _; rw [add_block]; exact Kd.own_blk (Kd.R_ne HO_7.out BK301.out (by decide))) | (dsimp only; exact Kd.own_blk (Kd.R_ne HO_7.out BK301.out (by decide)))) _).trans (((cell_far (p := ⟨gb301, _, none⟩) (by first | exact Kd.own_blk (Kd.R_ne HO_7.out BK301.out (by decide)) | (rw [add_block]; exact Kd.own_blk (Kd.R_ne HO_7.out BK301.out (by decide))) | (show (Addr.add _ _).block ≠ _; rw [add_block]; exact Kd.own_blk (Kd.R_ne HO_7.out BK301.out (by decide))) | (dsimp only; exact Kd.own_blk (Kd.R_ne HO_7.out BK301.out (by decide)))) _).trans (((cell_far (p := ⟨gb301, _, none⟩) (by first | exact Kd.own_blk (Kd.R_ne HO_7.out BK301.out (by decide)) | (rw [add_block]; exact Kd.own_blk (Kd.R_ne HO_7.out BK301.out (by decide))) | (show (Addr.add _ _).block ≠ _; rw [add_block]; exact Kd.own_blk (Kd.R_ne HO_7.out BK301.out (by decide))) | (dsimp only; exact Kd.own_blk (Kd.R_ne HO_7.out BK301.out (by decide)))) _).trans (((cell_far (p := ⟨gb301, _, none⟩) (by first | exact Kd.own_blk (Kd.R_ne HO_7.out BK301.out (by decide)) | (rw [add_block]; exact Kd.own_blk (Kd.R_ne HO_7.out BK301.out (by decide))) | (show (Addr.add _ _).block ≠ _; rw [add_block]; exact Kd.own_blk (Kd.R_ne HO_7.out BK301.out (by decide))) | (dsimp only; exact Kd.own_blk (Kd.R_ne HO_7.out BK301.out (by decide)))) _).trans (hHeld.2.2))))))))⟩ (fun hHeld => ?_)
     clear hK K; refine pz HT_ 12 10 ?_; refine dz HT_ ?_; (try go_wp2)
     go_loopg [11, 12] k1 (fun kq v11 v12 w' => ∃ (x11_2 : Bool) (x12_2 : Int), v11 = .bool x11_2 ∧ v12 = .int .i64 x12_2 ∧ Aside0 (spec_FreeCorner.l1 kq a1 l2 t292 x8_1 x11_2 x12_2 a0_0 a0_1 t296 t297 t298 t299 = some r) ∧ Aside0 (kq ≤ k1) ∧ Aside0 (Kd.R (Kd.int .i64) 3 w' w.heap.size (fun _ => True) (.slice (some ad295) t292.length co11) t292) ∧ Aside0 (w'.heap[gb291]? = some (.cells #[.int .i64 a0_0, .int .i64 a0_1] 75 (0, 0))) ∧ Aside0 (w'.heap[gb301]? = some (.cells #[.int .i64 t296, .int .i64 t297, .int .i64 t298, .int .i64 t299] 80 (0, 0))) ∧ Aside0 (Below w.heap.size w w'))
     case atStart => exact ⟨(true), (0), rz, rz, H', ⟨Nat.le_refl _⟩, ⟨hr (Kd.R_mono (Kd.R_far (p := ⟨gb301, 3, none⟩) (Kd.R_far (p := ⟨gb301, 2, none⟩) (Kd.R_far (p := ⟨gb301, 1, none⟩) (Kd.R_far (p := ⟨gb301, 0, none⟩) (Kd.R_types HO_7.out BK301.out (by decide)) (fun _ hk => hk.2) (.int .i64 t296)) (fun _ hk => hk.2) (.int .i64 t297)) (fun _ hk => hk.2) (.int .i64 t298)) (fun _ hk => hk.2) (.int .i64 t299)) (fun _ hk => trivial))⟩, ⟨kz BK291⟩, ⟨by (with_reducible repeat (first | refine blk_drewN ?_ _ | refine blk_drew ?_ | refine blk_alloc ?_ _)); refine blk_put (cs := #[.int .i64 t296, .int .i64 t297, .int .i64 t298, .int .i64 0]) ?_ 3 _ rfl; (with_reducible repeat (first | refine blk_drewN ?_ _ | refine blk_drew ?_ | refine blk_alloc ?_ _)); refine blk_put (cs := #[.int .i64 t296, .int .i64 t297, .int .i64 0, .int .i64 0]) ?_ 2 _ rfl; (with_reducible repeat (first | refine blk_drewN ?_ _ | refine blk_drew ?_ | refine blk_alloc ?_ _)); refine blk_put (cs := #[.int .i64 t296, .int .i64 0, .int .i64 0, .int .i64 0]) ?_ 1 _ rfl; (with_reducible repeat (first | refine blk_drewN ?_ _ | refine blk_drew ?_ | refine blk_alloc ?_ _)); refine blk_put (cs := #[.int .i64 0, .int .i64 0, .int .i64 0, .int .i64 0]) ?_ 0 _ rfl; (with_reducible repeat (first | refine blk_drewN ?_ _ | refine blk_drew ?_ | refine blk_alloc ?_ _)); exact BK301.out⟩, ⟨bzs⟩⟩
     case round =>
      clear H'; (try clear c2); (try clear p2); (try clear q2); (try clear hx2); (try clear c4); (try clear c8); (try clear c8b0); (try clear c9); (try clear c9b0); (try clear hcz6_0); (try clear hcz6_1); (try clear hfz6_0); (try clear hfz6_1); (try clear hx295_0); (try clear p2); (try clear p295); (try clear q295); obtain ⟨x11_2, x12_2, rfl, rfl, HA, HK2, HO_7, BK291, BK301, HB⟩ := hrel
      cases gk with
      | zero => exact absurd HA.out (by simp [spec_FreeCorner.l1])
      | succ k2 =>
       have H := HA.out; clear HA; simp only [spec_FreeCorner.l1] at H
       by_cases c20 : x12_2 < (l2.length : Int)
       ·rw [if_pos c20] at H; have c20b0 := decide_eq_true c20; clear c20
        by_cases c21 : x11_2 = true
        ·subst c21; replace H := ift H
         by_cases c22 : 0 ≤ x12_2
         ·rw [if_pos c22] at H; have c22b0 := decide_eq_true c22; clear c22; replace H := Option.bind_eq_some_iff.mp H; obtain ⟨t303, A230, H⟩ := H; have A23 := Aside0.mk A230; clear A230; have H' := Aside0.mk H; clear H; (try go_wp2); replace HO_7 := Aside0.mk (Kd.R_drew HO_7.out); replace BK291 := Aside0.mk (blk_drew BK291.out); replace BK301 := Aside0.mk (blk_drew BK301.out); replace HB := Aside0.mk (below_drew1 HB.out); have p302 : 0 ≤ (x12_2 : Int) := of_decide_eq_true az; have q302 : x12_2 < (l2.length : Int) := of_decide_eq_true az; obtain ⟨ad302, e302, hx302_0, hx302_1, hx302_2, hx302_3⟩ := at_T80 HR2.out x12_2 p302 q302; have hw302_3 := hx302_3; have hw302_2 := hx302_2; have hw302_1 := hx302_1; have hw302_0 := hx302_0
          cases e302
          replace hx302_0 := xz HB hx302_0; replace hx302_1 := xz HB hx302_1; replace hx302_2 := xz HB hx302_2; replace hx302_3 := xz HB hx302_3; replace p302 := eq_true p302; replace q302 := eq_true q302; refine start_ (n := 11) (S := fun w' => w'.cell? ⟨gb301, 0, none⟩ = some (.int .i64 t296) ∧ w'.cell? ⟨gb301, 1, none⟩ = some (.int .i64 t297) ∧ w'.cell? ⟨gb301, 2, none⟩ = some (.int .i64 t298) ∧ w'.cell? ⟨gb301, 3, none⟩ = some (.int .i64 t299) ∧ w'.cell? (ad302.add ((x12_2).toNat * 4)) = some (.int .i64 ((rd_T80 l2 x12_2).f0.f0)) ∧ w'.cell? ⟨(ad302.add ((x12_2).toNat * 4)).block, (ad302.add ((x12_2).toNat * 4)).off + 1, none⟩ = some (.int .i64 ((rd_T80 l2 x12_2).f0.f1)) ∧ w'.cell? ⟨(ad302.add ((x12_2).toNat * 4)).block, (ad302.add ((x12_2).toNat * 4)).off + 2, none⟩ = some (.int .i64 ((rd_T80 l2 x12_2).f1.f0)) ∧ w'.cell? ⟨(ad302.add ((x12_2).toNat * 4)).block, (ad302.add ((x12_2).toNat * 4)).off + 3, none⟩ = some (.int .i64 ((rd_T80 l2 x12_2).f1.f1))) (ds := []) #[F,F,F,F,F,F,F,F,F,F,F] (by kernel_rfl) rfl rfl ⟨bc BK301 0, bc BK301 1, bc BK301 2, bc BK301 3, (xz HB hw302_0 :), (xz HB hw302_1 :), (xz HB hw302_2 :), (xz HB hw302_3 :)⟩ (fun hHeld => ?_); refine with_tabW spec_FreeCorner.tab10 spec_FreeCorner.bits10 (fun HT_ HW_ => ?_); generalize wr.drew = w24 at HO_7 BK291 BK301 HB hx302_0 hx302_1 hx302_2 hx302_3 hHeld ⊢; refine pz HT_ 0 38 ?_; refine pz HT_ 1 39 ?_; refine pz HT_ 3 41 ?_; refine pz HT_ 4 42 ?_; refine pz HT_ 5 43 ?_; refine tz8 HT_ HW_ hHeld 2 40 ?_; refine tz8 HT_ HW_ hHeld 6 44 ?_
          refine oz HT_ 7 (some 45) (fun K hK => ?_); refine gz Tryz.func87 #[.agg #[.int .i64 t296, .int .i64 t297, .int .i64 t298, .int .i64 t299], .agg #[.int .i64 ((rd_T80 l2 x12_2).f0.f0), .int .i64 ((rd_T80 l2 x12_2).f0.f1), .int .i64 ((rd_T80 l2 x12_2).f1.f0), .int .i64 ((rd_T80 l2 x12_2).f1.f1)]] ?_
          with_reducible refine (spec_BoxesOverlap.calls t296 t297 t298 t299 ((rd_T80 l2 x12_2).f0.f0) ((rd_T80 l2 x12_2).f0.f1) ((rd_T80 l2 x12_2).f1.f0) ((rd_T80 l2 x12_2).f1.f1) t303 _ A23.out).mono ?_
          rintro e w25 ⟨rfl, hb⟩; refine ⟨_, rfl, ?_⟩; replace HO_7 := Aside0.mk (rbz HO_7 hb); replace BK291 := Aside0.mk (bbz BK291 hb); replace BK301 := Aside0.mk (bbz BK301 hb); replace HB := Aside0.mk (below_step bzs hb); (try clear hb); (try clear hb2); (try clear hk); (try clear hi); refine hK.out _ _ ⟨bc BK301 0, bc BK301 1, bc BK301 2, bc BK301 3, (xz HB hw302_0 :), (xz HB hw302_1 :), (xz HB hw302_2 :), (xz HB hw302_3 :)⟩ (fun hHeld => ?_); clear hK K; refine nz 45 ?_; refine pz HT_ 8 46 ?_; refine pz HT_ 9 47 ?_; refine pz HT_ 10 11 ?_; refine dz HT_ ?_; (try go_wp2)
          go_roundg k2
          case measure => have := HK1.out; have := HK2.out; omega
          case rel => exact ⟨(!t303), (wrap64 (x12_2 + 1)), rz, rz, H', ⟨by have := HK1.out; have := HK2.out; omega⟩, ⟨hr HO_7.out⟩, ⟨kz BK291⟩, ⟨kz BK301⟩, ⟨bzs⟩⟩
         ·rw [if_neg c22] at H
          exact absurd H (by simp)
        ·replace c21 := Bool.eq_false_iff.mpr c21; subst c21; replace H := iff_ H; have H' := Aside0.mk H; clear H; (try go_wp2); replace HO_7 := Aside0.mk (Kd.R_drew HO_7.out); replace BK291 := Aside0.mk (blk_drew BK291.out); replace BK301 := Aside0.mk (blk_drew BK301.out); replace HB := Aside0.mk (below_drew1 HB.out); refine start_ (n := 11) (S := fun w' => True) (ds := []) #[F,F,F,F,F,F,F,F,F,F,F] (by kernel_rfl) rfl rfl trivial (fun hHeld => ?_); refine with_tabW spec_FreeCorner.tab10 spec_FreeCorner.bits10 (fun HT_ HW_ => ?_); generalize wr.drew = w26 at HO_7 BK291 BK301 HB hHeld ⊢; refine pz HT_ 0 38 ?_; refine pz HT_ 1 39 ?_; refine uz HT_ 2 40 ?_; refine uz HT_ 3 41 ?_; refine uz HT_ 4 42 ?_; refine uz HT_ 5 43 ?_; refine uz HT_ 6 44 ?_; refine uz HT_ 7 45 ?_; refine uz HT_ 8 46 ?_; refine pz HT_ 9 47 ?_; refine pz HT_ 10 11 ?_; refine dz HT_ ?_; (try go_wp2)
         go_roundg k2
         case measure => have := HK1.out; have := HK2.out; omega
         case rel => exact ⟨(false), (wrap64 (x12_2 + 1)), rz, rz, H', ⟨by have := HK1.out; have := HK2.out; omega⟩, ⟨hr HO_7.out⟩, ⟨kz BK291⟩, ⟨kz BK301⟩, ⟨bzs⟩⟩
       ·rw [if_neg c20] at H; have c20b0 := decide_eq_false c20; clear c20
        by_cases c27 : x11_2 = true
        ·subst c27; replace H := ift H
         by_cases c28 : 0 ≤ x8_1
         ·rw [if_pos c28] at H; have c28b0 := decide_eq_true c28; clear c28
          by_cases c29 : x8_1 < (t292.length : Int)
          ·rw [if_pos c29] at H; have c29b0 := decide_eq_true c29; clear c29; obtain rfl := Option.some.inj H; have p304 : 0 ≤ (x8_1 : Int) := of_decide_eq_true az; have q304 : x8_1 < (t292.length : Int) := of_decide_eq_true az; obtain ⟨ad304, e304, hx304_0⟩ := Kd.at_int (Kd.R_reads' HO_7.out).2.2 x8_1 p304 q304; obtain rfl : ad295 = ad304 := (by injection e304)
           replace p304 := eq_true p304; replace q304 := eq_true q304; go_wp2; go_ret
           exact ⟨ez, bzs⟩
          ·rw [if_neg c29] at H
           exact absurd H (by simp)
         ·rw [if_neg c28] at H
          exact absurd H (by simp)
        ·replace c27 := Bool.eq_false_iff.mpr c27; subst c27; replace H := iff_ H; have H' := Aside0.mk H; clear H; go_wp2
         go_roundg k2
         case measure => have := HK1.out; have := HK2.out; omega
         case rel => exact ⟨(wrap64 (x8_1 + 1)), rz, H', ⟨by have := HK1.out; have := HK2.out; omega⟩, ⟨hr HO_7.out⟩, ⟨kz BK291⟩, ⟨bzs⟩⟩
    ·rw [if_neg c9] at H
     exact absurd H (by simp)
   ·rw [if_neg c8] at H; have c8b0 := decide_eq_false c8; clear c8; obtain rfl := Option.some.inj H; obtain ⟨Ao30, co30, eo30⟩ := Kd.R_slice HO_7.out; subst eo30; go_wp2; go_ret
    exact ⟨ez, bzs⟩
set_option maxHeartbeats 8000000 in
set_option maxRecDepth 100000 in
theorem spec_PlaceNames.calls (k : Nat) (A0 : Option Addr) (c0 : Nat) (l0 : List S59) (r : List S84) (w : World) (hr0 : Kd.C k59 w A0 l0.length l0) (hc0 : l0.length ≤ c0) (h : spec_PlaceNames.f k l0 = some r) :
    Calls Tryz.prog 19 #[.slice A0 l0.length c0] w fun e w' => ∃ v0_ : Value, e = .returned (v0_) ∧ Kd.R k84 84 w' w.heap.size (fun _ => True) v0_ r ∧ Below w.heap.size w w' := by
  unfold spec_PlaceNames.f at h
  obtain ⟨an, h1, h⟩ := Option.bind_eq_some_iff.mp h
  obtain ⟨od, h2, h⟩ := Option.bind_eq_some_iff.mp h
  by_cases hlt : od.length < 1000000
  rotate_left
  · rw [if_neg hlt] at h; cases h
  rw [if_pos hlt] at h
  have HR0 := Aside0.mk hr0
  have HC0 := Aside0.mk hc0
  have A1 := Aside0.mk h1
  have A2 := Aside0.mk h2
  have LMo := Aside0.mk hlt
  have HX := Aside0.mk (show pnS k l0 (od.drop 0) [] [] = some r from h)
  have HB := Aside0.mk (Below.refl w.heap.size w)
  clear hr0 hc0 h h1 h2 hlt
  go_enter Tryz.func19, Tryz.ntmps19
  go_upto_block 0 with (first | ((with_reducible refine gate_dst (N := 12) rfl ?_); (try (refine gate_guard (by rfl) ?_; dsimp only)); refine Kd.R_lit k84 _ 84 ?hg (N := 12) ?hd (xs := ([] : List S84)) (inner := []) (ok := fun _ => True) (okp := fun _ => True) ?hr ?hp (fun _ hk => hk) trivial (Below.refl _ _) (Nat.le_refl _) (by simp) ?_; (case hd => rfl); (case hg => rfl); (case hr => first | (go_simp; done) | (go_simp; rfl)); (case hp => exact (Reps.none _ _)); intro vN wN ho hb hg_ hnew_; clear hg_ hnew_; have q_ := Aside0.mk (Kd.R_lower ho (below_size HB.out)); have q_HB := Aside0.mk (below_step HB.out hb); clear HB; have HB := q_HB; clear q_HB; have HO := q_; clear q_ ho hb) | (go_at_call 45; refine (spec_AnchorsOf.calls k A0 c0 l0 an _ (Kd.C_below HR0.out HB.out) HC0.out A1.out).mono ?_; rintro _ wN ⟨vN, rfl, ho, hb⟩; have q_ := Aside0.mk (Kd.R_lower ho (below_size HB.out)); have q_HB := Aside0.mk (below_step HB.out hb); have q_HO := Aside0.mk (Kd.R_below HO.out hb); clear HB HO; have HB := q_HB; have HO := q_HO; clear q_HB q_HO; have HA := q_; clear q_ ho hb; obtain ⟨Aa, ca, ea⟩ := Kd.R_slice HA.out; subst ea) | (go_at_call 44; refine (spec_l14Kept.calls Aa ca an 0 od _ (Kd.R_reads' HA.out).2.2 (Kd.R_reads' HA.out).2.1 A2.out).mono ?_; rintro _ wN ⟨vN, rfl, ho, hb⟩; have q_ := Aside0.mk (Kd.R_lower ho (below_size HB.out)); have q_HB := Aside0.mk (below_step HB.out hb); have q_HO := Aside0.mk (Kd.R_below HO.out hb); clear HB HO; have HB := q_HB; have HO := q_HO; clear q_HB q_HO; have HD := q_; clear q_ ho hb HA; obtain ⟨Ad, cd, ed⟩ := Kd.R_slice HD.out; subst ed) | ((with_reducible refine gate_dst (N := 16) rfl ?_); (try (refine gate_guard (by rfl) ?_; dsimp only)); refine Kd.R_lit k80 _ 80 ?hg (N := 16) ?hd (xs := ([] : List S80)) (inner := []) (ok := fun _ => True) (okp := fun _ => True) ?hr ?hp (fun _ hk => hk) trivial (Below.refl _ _) (Nat.le_refl _) (by simp) ?_; (case hd => rfl); (case hg => rfl); (case hr => first | (go_simp; done) | (go_simp; rfl)); (case hp => exact (Reps.none _ _)); intro vN wN ho hb hg_ hnew_; clear hg_ hnew_; have q_ := Aside0.mk (Kd.R_lower ho (below_size HB.out)); have q_HB := Aside0.mk (below_step HB.out hb); have q_HO := Aside0.mk (Kd.R_below HO.out hb); have q_HD := Aside0.mk (Kd.R_below HD.out hb); clear HB HO HD; have HB := q_HB; have HO := q_HO; have HD := q_HD; clear q_HB q_HO q_HD; have HT := q_; clear q_ ho hb))
  go_wp2_with fail
  go_loopg [3, 5, 6] od.length (fun gg s3 s5 s6 wr => ∃ (i : Nat) (out : List S84) (tk : List S80), s6 = .int .i64 (i : Int) ∧ i ≤ od.length ∧ od.length - i ≤ gg ∧ Aside0 (pnS k l0 (od.drop i) out tk = some r) ∧ Aside0 (Kd.R k84 84 wr w.heap.size (fun _ => True) s3 out) ∧ Aside0 (Kd.R k80 80 wr w.heap.size (fun _ => True) s5 tk) ∧ Aside0 (Kd.R k77 77 wr w.heap.size (fun _ => True) (.slice Ad od.length cd) od) ∧ Aside0 (Below w.heap.size w wr))
  case atStart => exact ⟨0, [], [], rfl, Nat.zero_le _, by omega, HX, HO, HT, HD, HB⟩
  case round =>
      clear HX HO HT HD HB
      obtain ⟨i, out, tk, rfl, hi, hg, HX, HO, HT, HD, HB⟩ := hrel
      by_cases hlt : i < od.length
      · have q1 : (i : Int) < (od.length : Int) := by omega
        have q0 : 0 ≤ (i : Int) := by omega
        have m1 : od.length - (i + 1) < od.length - i := by omega
        have e0 : wrap64 ((i : Int) + 1) = ((i + 1 : Nat) : Int) := pn_add i (by have := LMo.out; omega)
        have hX := HX.out
        rw [pnS_drop hlt] at hX
        obtain ⟨ad, rfl, hx0, hx1, hx2, hx3⟩ := at_T77 (Kd.R_reads' HD.out).2.2 (i : Int) q0 q1
        clear hx0 hx1 hx2 hx3
        have hxf : ∀ W, Kd.C k77 W (some ad) od.length od → W.cell? (ad.add (i * 4)) = some (.int .i64 (od.getD i z77).f0) ∧ W.cell? ⟨(ad.add (i * 4)).block, (ad.add (i * 4)).off + 1, none⟩ = some (.int .i64 (od.getD i z77).f1.f0) ∧ W.cell? ⟨(ad.add (i * 4)).block, (ad.add (i * 4)).off + 2, none⟩ = some (.int .i64 (od.getD i z77).f1.f1) ∧ W.cell? ⟨(ad.add (i * 4)).block, (ad.add (i * 4)).off + 3, none⟩ = some (.int .i64 (od.getD i z77).f2) := fun W h => by
          obtain ⟨ad', e', h0, h1, h2, h3⟩ := at_T77 h (i : Int) q0 q1
          obtain rfl := Option.some.inj e'
          unfold rd_T77 at h0 h1 h2 h3
          rw [Int.toNat_natCast] at h0 h1 h2 h3
          exact ⟨h0, h1, h2, h3⟩
        generalize od.getD i z77 = x at hX hxf
        obtain ⟨x0, ⟨x1, x2⟩, x3⟩ := x
        dsimp only at hX hxf
        have HXF := Aside0.mk hxf
        clear hxf
        obtain ⟨fi, hf1, hX⟩ := Option.bind_eq_some_iff.mp hX
        by_cases hfi : 0 ≤ fi ∧ fi < (l0.length : Int)
        rotate_left
        · rw [if_neg hfi] at hX; cases hX
        rw [if_pos hfi] at hX
        obtain ⟨af, A4_, c4_, rfl, _, _, _, hnm, _⟩ := at_T59 HR0.out fi hfi.1 hfi.2
        unfold rd_T59 at hnm
        generalize (l0.getD fi.toNat z59).f3 = nm at hX hnm
        obtain ⟨c, hf2, hX⟩ := Option.bind_eq_some_iff.mp hX
        have HF1 := Aside0.mk hf1
        have HF2 := Aside0.mk hf2
        have HNF : Aside0 (∀ W, Below w.heap.size w W → W.cell? ⟨(af.add (fi.toNat * 5)).block, (af.add (fi.toNat * 5)).off + 3, none⟩ = some (.string nm)) := ⟨fun W h => (h.cell (World.block_lt_of_cell? w _ hnm)).trans hnm⟩
        have M1 := Aside0.mk m1
        have E0 := Aside0.mk e0
        have HFI := Aside0.mk hfi
        clear hf1 hf2 hnm HX m1 e0 hfi
        have q2 := eq_true hlt
        replace q1 := eq_true q1
        replace q0 := eq_true q0
        obtain ⟨Ao, co, rfl⟩ := Kd.R_slice HO.out
        obtain ⟨At, ct, rfl⟩ := Kd.R_slice HT.out
        by_cases hc : c < 0
        · rw [if_pos hc] at hX
          have HX2 := Aside0.mk hX
          have d1 := eq_true hc
          clear hX hc
          obtain ⟨p0, p1, p2, p3⟩ := HXF.out _ (Kd.R_reads' HD.out).2.2
          have pn := HNF.out _ HB.out
          have g0 := eq_true HFI.out.1
          have g1 := eq_true HFI.out.2
          go_wp2_with (first | (go_at_call 46; refine (spec_FindFeature.calls k _ _ l0 x0 fi _ (Kd.C_below HR0.out HB.out) HC0.out HF1.out).mono ?_; rintro _ wN ⟨rfl, hd⟩; have hb := hd.below; clear hd; have q_HB := Aside0.mk (below_step HB.out hb); have q_HO := Aside0.mk (Kd.R_below HO.out hb); have q_HT := Aside0.mk (Kd.R_below HT.out hb); have q_HD := Aside0.mk (Kd.R_below HD.out hb); clear HB HO HT HD; have HB := q_HB; have HO := q_HO; have HT := q_HT; have HD := q_HD; clear q_HB q_HO q_HT q_HD; clear hb p0 p1 p2 p3 pn; obtain ⟨p0, p1, p2, p3⟩ := HXF.out _ (Kd.R_reads' HD.out).2.2; have pn := HNF.out _ HB.out) | (go_at_call 47; refine (spec_FreeCorner.calls k x1 x2 nm At ct tk c _ (Kd.R_reads' HT.out).2.2 (Kd.R_reads' HT.out).2.1 HF2.out).mono ?_; rintro _ wN ⟨rfl, hb⟩; have q_HB := Aside0.mk (below_step HB.out hb); have q_HO := Aside0.mk (Kd.R_below HO.out hb); have q_HT := Aside0.mk (Kd.R_below HT.out hb); have q_HD := Aside0.mk (Kd.R_below HD.out hb); clear HB HO HT HD; have HB := q_HB; have HO := q_HO; have HT := q_HT; have HD := q_HD; clear q_HB q_HO q_HT q_HD; clear hb p0 p1 p2 p3 pn; obtain ⟨p0, p1, p2, p3⟩ := HXF.out _ (Kd.R_reads' HD.out).2.2; have pn := HNF.out _ HB.out))
          have e0 := E0.out
          go_roundg (od.length - (i + 1))
          case measure => exact Nat.lt_of_lt_of_le M1.out hg
          case rel => exact ⟨i + 1, out, tk, by first | rfl | rw [e0], hlt, Nat.le_refl _, HX2, HO, HT, HD, HB⟩
        · rw [if_neg hc] at hX
          obtain ⟨⟨b1, b2, b3, b4, b5⟩, hf3, hX⟩ := Option.bind_eq_some_iff.mp hX
          dsimp only at hX
          by_cases hL : out.length < 1000000 ∧ tk.length < 1000000
          rotate_left
          · rw [if_neg hL] at hX; cases hX
          rw [if_pos hL] at hX
          have HX2 := Aside0.mk hX
          have HF3 := Aside0.mk hf3
          have HLN := Aside0.mk hL
          have d1 := eq_false hc
          clear hX hc hL hf3
          obtain ⟨p0, p1, p2, p3⟩ := HXF.out _ (Kd.R_reads' HD.out).2.2
          have pn := HNF.out _ HB.out
          have g0 := eq_true HFI.out.1
          have g1 := eq_true HFI.out.2
          go_upto_region 11 with (first | (go_at_call 46; refine (spec_FindFeature.calls k _ _ l0 x0 fi _ (Kd.C_below HR0.out HB.out) HC0.out HF1.out).mono ?_; rintro _ wN ⟨rfl, hd⟩; have hb := hd.below; clear hd; have q_HB := Aside0.mk (below_step HB.out hb); have q_HO := Aside0.mk (Kd.R_below HO.out hb); have q_HT := Aside0.mk (Kd.R_below HT.out hb); have q_HD := Aside0.mk (Kd.R_below HD.out hb); clear HB HO HT HD; have HB := q_HB; have HO := q_HO; have HT := q_HT; have HD := q_HD; clear q_HB q_HO q_HT q_HD; clear hb p0 p1 p2 p3 pn; obtain ⟨p0, p1, p2, p3⟩ := HXF.out _ (Kd.R_reads' HD.out).2.2; have pn := HNF.out _ HB.out) | (go_at_call 47; refine (spec_FreeCorner.calls k x1 x2 nm At ct tk c _ (Kd.R_reads' HT.out).2.2 (Kd.R_reads' HT.out).2.1 HF2.out).mono ?_; rintro _ wN ⟨rfl, hb⟩; have q_HB := Aside0.mk (below_step HB.out hb); have q_HO := Aside0.mk (Kd.R_below HO.out hb); have q_HT := Aside0.mk (Kd.R_below HT.out hb); have q_HD := Aside0.mk (Kd.R_below HD.out hb); clear HB HO HT HD; have HB := q_HB; have HO := q_HO; have HT := q_HT; have HD := q_HD; clear q_HB q_HO q_HT q_HD; clear hb p0 p1 p2 p3 pn; obtain ⟨p0, p1, p2, p3⟩ := HXF.out _ (Kd.R_reads' HD.out).2.2; have pn := HNF.out _ HB.out) | (go_at_call 48; refine (spec_LabelBox.calls k x1 x2 nm c b1 b2 b3 b4 b5 _ HF3.out).mono ?_; rintro _ wN ⟨rfl, hb⟩; have q_HB := Aside0.mk (below_step HB.out hb); have q_HO := Aside0.mk (Kd.R_below HO.out hb); have q_HT := Aside0.mk (Kd.R_below HT.out hb); have q_HD := Aside0.mk (Kd.R_below HD.out hb); clear HB HO HT HD; have HB := q_HB; have HO := q_HO; have HT := q_HT; have HD := q_HD; clear q_HB q_HO q_HT q_HD; clear hb p0 p1 p2 p3 pn; obtain ⟨p0, p1, p2, p3⟩ := HXF.out _ (Kd.R_reads' HD.out).2.2; have pn := HNF.out _ HB.out) | ((with_reducible refine gate_dst (N := 9) rfl ?_); refine box_event ?hg (N := 9) ?hd (cs := #[.int .i64 0, .int .i64 0, .int .i64 0, .int .i64 0]) (t := 80) ?hr ?_; (case hd => rfl); (case hg => rfl); (case hr => first | (go_simp; done) | (go_simp; rfl)); intro gb hgb w3 hbox hb3; have HBX := Aside0.mk hbox; have HB3 := Aside0.mk hb3; have HG3 := Aside0.mk (Nat.le_of_eq hgb.symm); have NE := Aside0.mk (Kd.fresh' (Kd.R_lt HT.out) gb HG3.out); have z0 : w3.cell? ⟨gb, 0, none⟩ = some (.int .i64 0) := (blk_cell hbox 0).trans rfl; have z1 : w3.cell? ⟨gb, 1, none⟩ = some (.int .i64 0) := (blk_cell hbox 1).trans rfl; have z2 : w3.cell? ⟨gb, 2, none⟩ = some (.int .i64 0) := (blk_cell hbox 2).trans rfl; have z3 : w3.cell? ⟨gb, 3, none⟩ = some (.int .i64 0) := (blk_cell hbox 3).trans rfl; have fr0 : w3.frozen? ⟨gb, 0, none⟩ = false := blk_frozen hbox 0; have fr1 : w3.frozen? ⟨gb, 1, none⟩ = false := blk_frozen hbox 1; have fr2 : w3.frozen? ⟨gb, 2, none⟩ = false := blk_frozen hbox 2; have fr3 : w3.frozen? ⟨gb, 3, none⟩ = false := blk_frozen hbox 3; clear hbox hb3 hgb p0 p1 p2 p3 pn))
          have B4 := box4 HBX.out HB3.out HG3.out (.int .i64 b1) (.int .i64 b2) (.int .i64 b3) (.int .i64 b4)
          dsimp only at B4
          clear z0 z1 z2 z3 fr0 fr1 fr2 fr3 HBX HB3 HG3 g0 g1
          generalize (((w3.setCell ⟨gb, 0, none⟩ (.int .i64 b1)).setCell ⟨gb, 1, none⟩ (.int .i64 b2)).setCell ⟨gb, 2, none⟩ (.int .i64 b3)).setCell ⟨gb, 3, none⟩ (.int .i64 b4) = W4 at B4 ⊢
          obtain ⟨hb, k0, k1, k2, k3⟩ := B4
          have q_HB := Aside0.mk (below_step HB.out hb); have q_HO := Aside0.mk (Kd.R_below HO.out hb); have q_HT := Aside0.mk (Kd.R_below HT.out hb); have q_HD := Aside0.mk (Kd.R_below HD.out hb); clear HB HO HT HD; have HB := q_HB; have HO := q_HO; have HT := q_HT; have HD := q_HD; clear q_HB q_HO q_HT q_HD
          have HBC := Aside0.mk (And.intro k0 (And.intro k1 (And.intro k2 k3)))
          clear hb
          go_upto_block 2 with (first | ((with_reducible refine gate_dst (N := 57) rfl ?_); (try (refine gate_guard (by rfl) ?_; dsimp only)); refine Kd.R_lit k80 _ 80 ?hg (N := 57) ?hd (xs := ([(⟨⟨b1, b2⟩, ⟨b3, b4⟩⟩ : S80)] : List S80)) (inner := [.int .i64 b1, .int .i64 b2, .int .i64 b3, .int .i64 b4]) (ok := fun _ => True) (okp := fun _ => True) ?hr ?hp (fun _ hk => hk) trivial (Below.refl _ _) (Nat.le_refl _) (by simp) ?_; (case hd => rfl); (case hg => rfl); (case hr => first | (go_simp; done) | (go_simp; rfl)); (case hp => exact (Reps.c4 (show Kd.M k80 _ _ _ (⟨⟨b1, b2⟩, ⟨b3, b4⟩⟩ : S80) [.int .i64 b1, .int .i64 b2, .int .i64 b3, .int .i64 b4] from k80_mkM _ _ _ _) (Reps.none _ _))); intro vN wN ho hb hg_ hnew_; clear hg_ hnew_; have q_HB := Aside0.mk (below_step HB.out hb); have q_HO := Aside0.mk (Kd.R_below HO.out hb); have q_HT := Aside0.mk (Kd.R_below HT.out hb); have q_HD := Aside0.mk (Kd.R_below HD.out hb); clear HB HO HT HD; have HB := q_HB; have HO := q_HO; have HT := q_HT; have HD := q_HD; clear q_HB q_HO q_HT q_HD; have q_ : Aside0 (wN.cell? ⟨gb, 0, none⟩ = some (.int .i64 b1) ∧ wN.cell? ⟨gb, 1, none⟩ = some (.int .i64 b2) ∧ wN.cell? ⟨gb, 2, none⟩ = some (.int .i64 b3) ∧ wN.cell? ⟨gb, 3, none⟩ = some (.int .i64 b4)) := ⟨⟨(hb.cell (World.block_lt_of_cell? _ _ k0)).trans k0, (hb.cell (World.block_lt_of_cell? _ _ k1)).trans k1, (hb.cell (World.block_lt_of_cell? _ _ k2)).trans k2, (hb.cell (World.block_lt_of_cell? _ _ k3)).trans k3⟩⟩; clear k0 k1 k2 k3 HBC; have HBC := q_; clear q_; have HN := Aside0.mk ho; clear ho hb; obtain ⟨An, cn, en⟩ := Kd.R_slice HN.out; subst en) | ((with_reducible refine gate_builtin (b := .append) (xs := #[.tmp 55, .tmp 57]) rfl ?_); (try (refine gate_guard (by rfl) ?_; dsimp only)); at_builtin; refine Kd.R_append_rows k80 (w0 := w) w.heap.size rfl (.tmp 55) (.tmp 57) 73 80 (.agg #[(.int .i64 0), (.int .i64 0), (.int .i64 0), (.int .i64 0)]) 32 rfl Tryz.underlying73 infoX_Box rfl (by decide) (by omega) (.slice At tk.length ct) tk [(⟨⟨b1, b2⟩, ⟨b3, b4⟩⟩ : S80)] _ _ _ (fun _ => True) (fun _ => False) rfl rfl HT.out (Kd.R_reads' HN.out).2.2 (fun _ _ h => h) (fun _ h => h.elim) (fun _ _ => trivial) HB.out (below_size HB.out) (by have := HLN.out.2; simp; omega) ?_; intro vA wA ho hb hg hat; have q_HO := Aside0.mk (Kd.R_mono (Kd.R_after (ok := fun _ => True) (Kd.R_apartR HO.out HT.out (by decide)) hg hat) (fun _ _ => trivial)); have q_HD := Aside0.mk (Kd.R_mono (Kd.R_after (ok := fun _ => True) (Kd.R_apartR HD.out HT.out (by decide)) hg hat) (fun _ _ => trivial)); have q_HBC : Aside0 (wA.cell? ⟨gb, 0, none⟩ = some (.int .i64 b1) ∧ wA.cell? ⟨gb, 1, none⟩ = some (.int .i64 b2) ∧ wA.cell? ⟨gb, 2, none⟩ = some (.int .i64 b3) ∧ wA.cell? ⟨gb, 3, none⟩ = some (.int .i64 b4)) := ⟨⟨cell_grown hg HBC.out.1 NE.out, cell_grown hg HBC.out.2.1 NE.out, cell_grown hg HBC.out.2.2.1 NE.out, cell_grown hg HBC.out.2.2.2 NE.out⟩⟩; have q_HB := Aside0.mk hb; have q_HT := Aside0.mk ho; clear HT HB HN HO HD HBC ho hb hg hat; have HO := q_HO; have HD := q_HD; have HBC := q_HBC; have HB := q_HB; have HT := q_HT; clear q_HO q_HD q_HBC q_HB q_HT))
          generalize htk : tk ++ [(⟨⟨b1, b2⟩, ⟨b3, b4⟩⟩ : S80)] = tk2 at HT
          have HTK := Aside0.mk htk
          obtain ⟨Au, cu, eu⟩ := Kd.R_slice HT.out
          subst eu
          clear NE htk
          go_cut [11] (fun s11 wq => ∃ p : Nat, s11 = .int .i64 (p : Int) ∧ Aside0 (p = posB out x0 out.length) ∧ Aside0 (wq.cell? ⟨gb, 0, none⟩ = some (.int .i64 b1) ∧ wq.cell? ⟨gb, 1, none⟩ = some (.int .i64 b2) ∧ wq.cell? ⟨gb, 2, none⟩ = some (.int .i64 b3) ∧ wq.cell? ⟨gb, 3, none⟩ = some (.int .i64 b4)) ∧ Aside0 (Kd.R k84 84 wq w.heap.size (fun _ => True) (.slice Ao out.length co) out) ∧ Aside0 (Kd.R k80 80 wq w.heap.size (fun _ => True) (.slice Au tk2.length cu) tk2) ∧ Aside0 (Kd.R k77 77 wq w.heap.size (fun _ => True) (.slice (some ad) od.length cd) od) ∧ Aside0 (Below w.heap.size w wq))
          case first =>
            go_wp2_with fail
            go_loopg [11] out.length (fun gh s11 wq => ∃ j : Nat, s11 = .int .i64 (j : Int) ∧ j ≤ out.length ∧ j ≤ gh ∧ Aside0 (posB out x0 j = posB out x0 out.length) ∧ Aside0 (wq.cell? ⟨gb, 0, none⟩ = some (.int .i64 b1) ∧ wq.cell? ⟨gb, 1, none⟩ = some (.int .i64 b2) ∧ wq.cell? ⟨gb, 2, none⟩ = some (.int .i64 b3) ∧ wq.cell? ⟨gb, 3, none⟩ = some (.int .i64 b4)) ∧ Aside0 (Kd.R k84 84 wq w.heap.size (fun _ => True) (.slice Ao out.length co) out) ∧ Aside0 (Kd.R k80 80 wq w.heap.size (fun _ => True) (.slice Au tk2.length cu) tk2) ∧ Aside0 (Kd.R k77 77 wq w.heap.size (fun _ => True) (.slice (some ad) od.length cd) od) ∧ Aside0 (Below w.heap.size w wq))
            case atStart => exact ⟨out.length, rfl, Nat.le_refl _, Nat.le_refl _, ⟨rfl⟩, HBC, HO, HT, HD, HB⟩
            case round =>
              clear HBC HO HT HD HB
              obtain ⟨j, rfl, hj, hgj, HP, HBC, HO, HT, HD, HB⟩ := hrel
              have hX0 := fun (d : Nat) (os : Array Obj) => pncell (HXF.out _ (Kd.R_reads' HD.out).2.2).1 d os
              rcases Nat.eq_zero_or_pos j with rfl | hpos
              · have z1 : ((0 : Int) < ((0 : Nat) : Int)) = False := eq_false (by omega)
                go_wp2_with fail
                refine wq_region (by kernel_rfl) (by kernel_rfl) ?_
                iterate 16 (refine wq_step (fun K hK => ?_); go_simp; (first | (refine hK _ ?_; clear hK K) | (apply Exists.intro; refine ⟨fun _ => ?_, hK _ ?_⟩; (first | rfl | (go_simp; done) | (go_simp; rfl)); clear hK K)))
                refine wq_nil ?_
                intro w1 hb
                obtain ⟨k0, k1, k2, k3⟩ := HBC.out
                have q_ : Aside0 (w1.cell? ⟨gb, 0, none⟩ = some (.int .i64 b1) ∧ w1.cell? ⟨gb, 1, none⟩ = some (.int .i64 b2) ∧ w1.cell? ⟨gb, 2, none⟩ = some (.int .i64 b3) ∧ w1.cell? ⟨gb, 3, none⟩ = some (.int .i64 b4)) := ⟨⟨(hb.cell (World.block_lt_of_cell? _ _ k0)).trans k0, (hb.cell (World.block_lt_of_cell? _ _ k1)).trans k1, (hb.cell (World.block_lt_of_cell? _ _ k2)).trans k2, (hb.cell (World.block_lt_of_cell? _ _ k3)).trans k3⟩⟩
                clear k0 k1 k2 k3 HBC
                have HBC := q_
                clear q_
                have q_HB := Aside0.mk (below_step HB.out hb); have q_HO := Aside0.mk (Kd.R_below HO.out hb); have q_HT := Aside0.mk (Kd.R_below HT.out hb); have q_HD := Aside0.mk (Kd.R_below HD.out hb); clear HB HO HT HD; have HB := q_HB; have HO := q_HO; have HT := q_HT; have HD := q_HD; clear q_HB q_HO q_HT q_HD
                clear hb
                go_wp2_with fail
                go_meet
                case rel => exact ⟨0, by first | rfl | (simp; done), HP, HBC, HO, HT, HD, HB⟩
              · have hk9 : j ≤ 9223372036854775807 := by have := HLN.out.1; omega
                have e1 : wrap64 ((j : Int) - 1) = ((j - 1 : Nat) : Int) := pn_sub j hpos hk9
                have e2 : IntKind.i64.wrap ((j : Int) - 1) = ((j - 1 : Nat) : Int) := (i64_w _).trans e1
                have z1 : ((0 : Int) < (j : Int)) = True := eq_true (by omega)
                have z2 : (0 ≤ ((j - 1 : Nat) : Int)) = True := eq_true (by omega)
                have z3 : (((j - 1 : Nat) : Int) < (out.length : Int)) = True := eq_true (by omega)
                have z4 : (0 < j) = True := eq_true hpos
                have z5 : (j - 1 < out.length) = True := eq_true (by omega)
                obtain ⟨ad2, rfl, hy0, _⟩ := at_T84 (Kd.R_reads' HO.out).2.2 ((j - 1 : Nat) : Int) (by omega) (by omega)
                unfold rd_T84 at hy0
                rw [Int.toNat_natCast] at hy0
                have hP := HP.out
                have hkk : j - 1 + 1 = j := by omega
                rw [← hkk, posB, hkk] at hP
                generalize (out.getD (j - 1) z84).f0 = y0 at hy0 hP
                have hY0 := fun (d : Nat) (os : Array Obj) => pncell hy0 d os
                have hk1 : j - 1 ≤ out.length := by omega
                have hg1 : j - 1 < j := by omega
                clear hy0 hpos hk9 hkk HP
                by_cases hab : x0 < y0
                · have HP2 := Aside0.mk ((if_pos hab).symm.trans hP)
                  have c1 := eq_true hab
                  clear hab hP
                  go_wp2_with fail
                  refine wq_region (by kernel_rfl) (by kernel_rfl) ?_
                  iterate 16 (refine wq_step (fun K hK => ?_); go_simp; (first | (refine hK _ ?_; clear hK K) | (apply Exists.intro; refine ⟨fun _ => ?_, hK _ ?_⟩; (first | rfl | (go_simp; done) | (go_simp; rfl)); clear hK K)))
                  refine wq_nil ?_
                  intro w1 hb
                  obtain ⟨k0, k1, k2, k3⟩ := HBC.out
                  have q_ : Aside0 (w1.cell? ⟨gb, 0, none⟩ = some (.int .i64 b1) ∧ w1.cell? ⟨gb, 1, none⟩ = some (.int .i64 b2) ∧ w1.cell? ⟨gb, 2, none⟩ = some (.int .i64 b3) ∧ w1.cell? ⟨gb, 3, none⟩ = some (.int .i64 b4)) := ⟨⟨(hb.cell (World.block_lt_of_cell? _ _ k0)).trans k0, (hb.cell (World.block_lt_of_cell? _ _ k1)).trans k1, (hb.cell (World.block_lt_of_cell? _ _ k2)).trans k2, (hb.cell (World.block_lt_of_cell? _ _ k3)).trans k3⟩⟩
                  clear k0 k1 k2 k3 HBC
                  have HBC := q_
                  clear q_
                  have q_HB := Aside0.mk (below_step HB.out hb); have q_HO := Aside0.mk (Kd.R_below HO.out hb); have q_HT := Aside0.mk (Kd.R_below HT.out hb); have q_HD := Aside0.mk (Kd.R_below HD.out hb); clear HB HO HT HD; have HB := q_HB; have HO := q_HO; have HT := q_HT; have HD := q_HD; clear q_HB q_HO q_HT q_HD
                  clear hb
                  go_wp2_with fail
                  go_roundg (j - 1)
                  case measure => omega
                  case rel => exact ⟨j - 1, by first | rfl | rw [e1] | rw [e2], hk1, Nat.le_refl _, HP2, HBC, HO, HT, HD, HB⟩
                · have HP2 : Aside0 (j = posB out x0 out.length) := ⟨(if_neg hab).symm.trans hP⟩
                  have c1 := eq_false hab
                  clear hab hP
                  go_wp2_with fail
                  refine wq_region (by kernel_rfl) (by kernel_rfl) ?_
                  iterate 16 (refine wq_step (fun K hK => ?_); go_simp; (first | (refine hK _ ?_; clear hK K) | (apply Exists.intro; refine ⟨fun _ => ?_, hK _ ?_⟩; (first | rfl | (go_simp; done) | (go_simp; rfl)); clear hK K)))
                  refine wq_nil ?_
                  intro w1 hb
                  obtain ⟨k0, k1, k2, k3⟩ := HBC.out
                  have q_ : Aside0 (w1.cell? ⟨gb, 0, none⟩ = some (.int .i64 b1) ∧ w1.cell? ⟨gb, 1, none⟩ = some (.int .i64 b2) ∧ w1.cell? ⟨gb, 2, none⟩ = some (.int .i64 b3) ∧ w1.cell? ⟨gb, 3, none⟩ = some (.int .i64 b4)) := ⟨⟨(hb.cell (World.block_lt_of_cell? _ _ k0)).trans k0, (hb.cell (World.block_lt_of_cell? _ _ k1)).trans k1, (hb.cell (World.block_lt_of_cell? _ _ k2)).trans k2, (hb.cell (World.block_lt_of_cell? _ _ k3)).trans k3⟩⟩
                  clear k0 k1 k2 k3 HBC
                  have HBC := q_
                  clear q_
                  have q_HB := Aside0.mk (below_step HB.out hb); have q_HO := Aside0.mk (Kd.R_below HO.out hb); have q_HT := Aside0.mk (Kd.R_below HT.out hb); have q_HD := Aside0.mk (Kd.R_below HD.out hb); clear HB HO HT HD; have HB := q_HB; have HO := q_HO; have HT := q_HT; have HD := q_HD; clear q_HB q_HO q_HT q_HD
                  clear hb
                  go_wp2_with fail
                  go_meet
                  case rel => exact ⟨j, rfl, HP2, HBC, HO, HT, HD, HB⟩
          case rest =>
            clear HBC HO HT HD HB
            obtain ⟨p, rfl, HP, HBC, HO, HT, HD, HB⟩ := hcut
            have HL := Aside0.mk (show p ≤ out.length by rw [HP.out]; exact posB_le _ _ _)
            have EP : Aside0 (putB out ⟨x0, nm, ⟨⟨b1, b2⟩, ⟨b3, b4⟩⟩⟩ = (out.take p ++ [⟨x0, nm, ⟨⟨b1, b2⟩, ⟨b3, b4⟩⟩⟩]) ++ out.drop p) := ⟨by unfold putB; dsimp only; rw [← HP.out]⟩
            have LM := Aside0.mk HLN.out.1
            go_upto_region 15 with (fail)
            have HC0_ := HC0
            have HR0_ := HR0
            have HC0 := Aside0.mk (Kd.R_reads' HO.out).2.1
            have HR0 := Aside0.mk (Kd.R_reads' HO.out).2.2
            have HBc := Aside0.mk (below_drew1 HB.out)
            have HT1 := Aside0.mk (Kd.R_drew HT.out)
            have HD1 := Aside0.mk (Kd.R_drew HD.out)
            have HS : Aside0 (wc.drew.cell? (ad.add (i * 4)) = some (.int .i64 x0) ∧ wc.drew.cell? ⟨gb, 0, none⟩ = some (.int .i64 b1) ∧ wc.drew.cell? ⟨gb, 1, none⟩ = some (.int .i64 b2) ∧ wc.drew.cell? ⟨gb, 2, none⟩ = some (.int .i64 b3) ∧ wc.drew.cell? ⟨gb, 3, none⟩ = some (.int .i64 b4)) := ⟨(HXF.out _ (Kd.R_reads' HD.out).2.2).1, HBC.out⟩
            clear HO HB HBC HP HT HD
            obtain ⟨i0, hi0, _, hsz, _⟩ := info_parts infoX_Label
            have hl := HL.out
            have d1 : (0 ≤ (p : Int)) = True := eq_true (by omega)
            have d2 : ((p : Int) ≤ (out.length : Int)) = True := eq_true (by omega)
            have hcutA := cut_to (P := Tryz.prog) 37 84 .i64 Tryz.underlying37 hi0 Ao out.length co (p : Int) (by omega) (by omega) HC0.out
            have hcutB := cut_from (P := Tryz.prog) 37 84 .i64 Tryz.underlying37 hi0 6 hsz Ao out.length co (p : Int) (by omega) (by omega)
            have hrA := Kd.C_take (m := (p : Int).toNat) (Kd.C_drew HR0.out) (by omega)
            have hrB := Kd.C_drop (m := (p : Int).toNat) (c := co) (Kd.C_drew HR0.out) (by omega) HC0.out
            obtain ⟨yA, hyA⟩ : ∃ y_ : List S84, y_ = out.take (p : Int).toNat := ⟨_, rfl⟩
            obtain ⟨yB, hyB⟩ : ∃ y_ : List S84, y_ = out.drop (p : Int).toNat := ⟨_, rfl⟩
            have hlA : yA.length = (p : Int).toNat := by rw [hyA, List.length_take]; omega
            have hlB : yB.length = out.length - (p : Int).toNat := by rw [hyB, List.length_drop]
            rw [← hyA] at hrA
            rw [← hyB] at hrB
            rw [← hlA] at hcutA
            obtain ⟨B1, hB1⟩ : ∃ A1, A1 = (if co = (p : Int).toNat then Ao else (Ao : Option Addr).map (·.add ((p : Int).toNat * 6))) := ⟨_, rfl⟩
            obtain ⟨cB, hcB⟩ : ∃ c1, c1 = co - (p : Int).toNat := ⟨_, rfl⟩
            replace hrB : Kd.C k84 wc.drew B1 yB.length yB := by rw [hB1]; exact hrB
            rw [← hlB, ← hB1, ← hcB] at hcutB
            have LA := Aside0.mk (show yA.length + 1 + yB.length < 1000002 by have := LM.out; omega)
            have YA := Aside0.mk (show yA = out.take p from hyA)
            have YB := Aside0.mk (show yB = out.drop p from hyB)
            have HA := Aside0.mk hrA
            have HB2 := Aside0.mk hrB
            clear hrA hrB hyA hyB hlA hlB hB1 hcB hi0 hsz hl
            refine start_ (n := 20) (S := fun w' => w'.cell? (ad.add (i * 4)) = some (.int .i64 x0) ∧ w'.cell? ⟨gb, 0, none⟩ = some (.int .i64 b1) ∧ w'.cell? ⟨gb, 1, none⟩ = some (.int .i64 b2) ∧ w'.cell? ⟨gb, 2, none⟩ = some (.int .i64 b3) ∧ w'.cell? ⟨gb, 3, none⟩ = some (.int .i64 b4)) (ds := []) #[false,false,false,false,false,false,false,false,false,false,false,false,false,false,false,false,false,false,false,false] (by kernel_rfl) rfl rfl HS.out (fun hHeld => ?_)
            refine with_tabW pnl.tab15 pnl.bits15 (fun HT_ HW_ => ?_)
            have SX : Aside0 (∀ w', Below wc.drew.heap.size wc.drew w' → w'.cell? (ad.add (i * 4)) = some (.int .i64 x0) ∧ w'.cell? ⟨gb, 0, none⟩ = some (.int .i64 b1) ∧ w'.cell? ⟨gb, 1, none⟩ = some (.int .i64 b2) ∧ w'.cell? ⟨gb, 2, none⟩ = some (.int .i64 b3) ∧ w'.cell? ⟨gb, 3, none⟩ = some (.int .i64 b4)) := ⟨fun w' hb => ⟨(hb.cell (World.block_lt_of_cell? _ _ hHeld.1)).trans hHeld.1, (hb.cell (World.block_lt_of_cell? _ _ hHeld.2.1)).trans hHeld.2.1, (hb.cell (World.block_lt_of_cell? _ _ hHeld.2.2.1)).trans hHeld.2.2.1, (hb.cell (World.block_lt_of_cell? _ _ hHeld.2.2.2.1)).trans hHeld.2.2.2.1, (hb.cell (World.block_lt_of_cell? _ _ hHeld.2.2.2.2)).trans hHeld.2.2.2.2⟩⟩
            generalize wc.drew = WD at HA HB2 HBc hHeld SX HS HT1 HD1 ⊢
            have HB := Aside0.mk (Below.refl WD.heap.size WD)
            refine pz HT_ 1 80 ?_
            refine pz HT_ 2 81 ?_
            refine pz HT_ 3 82 ?_
            refine pz HT_ 5 84 ?_
            refine pz HT_ 6 85 ?_
            refine pz HT_ 7 86 ?_
            refine pz HT_ 8 87 ?_
            refine tz5 HT_ HW_ hHeld 9 88 ?_
            refine pz HT_ 10 89 ?_
            refine tz5 HT_ HW_ hHeld 11 90 ?_
            refine pz HT_ 12 91 ?_
            refine pz HT_ 15 94 ?_
            refine pz HT_ 16 95 ?_
            refine pz HT_ 17 96 ?_
            refine join_ (σ := Value × Value × Value) 3 #[true,true,true,true,true,true,true,true,true,true,true,true,true,true,false,true,true,true,false,false] (fun s_ => [(79, s_.1), (83, s_.2.1), (92, s_.2.2)]) (fun s_ w' => Kd.R k84 84 w' WD.heap.size (fun k_ => some k_ ≠ (s_.2.2 : Value).ownBlock) s_.2.1 yA ∧ Kd.R k84 84 w' WD.heap.size (fun k_ => some k_ ≠ (s_.2.1 : Value).ownBlock) s_.2.2 [(⟨x0, nm, ⟨⟨b1, b2⟩, ⟨b3, b4⟩⟩⟩ : S84)] ∧ Below WD.heap.size WD w') ?_ ?_
            rotate_left
            · intro hCont
              refine two_ (i := 0) (j := 13) (Ni := some 79) (Nj := some 92) #[true,true,true,true,false,true,true,true,true,true,true,true,true,false,false,true,true,true,false,false] #[false,true,true,true,false,true,true,true,true,true,true,true,true,true,false,true,true,true,false,false] rfl rfl rfl rfl (two_of HT_.out (by kernel_rfl)) (by decide) (by decide) (fun K hK => ?_) (fun K hK => ?_)
              · refine Kd.R_lit_step k84 _ 84 ?hg (N := 79) ?hd (xs := ([] : List S84)) (inner := []) (ok := fun _ => True) (okp := fun _ => True) ?hr ?hp (fun _ hk => hk) trivial (Below.refl _ _) (Nat.le_refl _) (by simp) ?_; (case hd => rfl); (case hg => rfl); (case hr => first | (go_simp; done) | (go_simp; rfl)); (case hp => exact (Reps.none _ _)); intro v0n wN hoN hb hg_ hnew_; clear hg_ hnew_
                have H0 := Aside0.mk (Kd.R_lower hoN (below_size HB.out)); replace HB := Aside0.mk (below_step HB.out hb); clear hb hoN
                refine hK.out _ _ (SX.out _ HB.out) (fun hHeld => ?_); clear hK K
                refine nz 79 ?_
                refine two_ (i := 4) (j := 13) (Ni := some 83) (Nj := some 92) #[true,true,true,true,true,true,true,true,true,true,true,true,true,false,false,true,true,true,false,false] #[true,true,true,true,false,true,true,true,true,true,true,true,true,true,false,true,true,true,false,false] rfl rfl rfl rfl (two_of HT_.out (by kernel_rfl)) (by decide) (by decide) (fun K hK => ?_) (fun K hK => ?_)
                · refine Kd.R_append_rows_step k84 (w0 := WD) WD.heap.size (by rfl) (.tmp 79) (.tmp 82) 37 84 (.agg #[(.int .i64 0), (.string (⟨#[]⟩ : ByteArray)), (.int .i64 0), (.int .i64 0), (.int .i64 0), (.int .i64 0)]) 56 rfl Tryz.underlying37 infoX_Label rfl (by decide) (by omega) v0n [] yA _ _ _ (fun _ => True) (fun _ => False) rfl rfl H0.out (Kd.C_below HA.out HB.out) (fun _ _ h => h) (fun _ h => h.elim) (fun _ _ => trivial) HB.out (below_size HB.out) (by have := LA.out; simp; omega) ?_; intro v2n wN hoN hb hg hat
                  rw [List.nil_append] at hoN; have H2 := Aside0.mk hoN; replace HB := Aside0.mk hb; clear H0 hoN hb hg hat
                  refine hK.out _ _ (SX.out _ HB.out) (fun hHeld => ?_); clear hK K
                  refine nz 83 ?_; refine oz HT_ 13 (some 92) (fun K hK => ?_)
                  refine Kd.R_lit_step k84 _ 84 ?hg (N := 92) ?hd (xs := ([(⟨x0, nm, ⟨⟨b1, b2⟩, ⟨b3, b4⟩⟩⟩ : S84)] : List S84)) (inner := [.int .i64 x0, .string nm, .int .i64 b1, .int .i64 b2, .int .i64 b3, .int .i64 b4]) (ok := fun _ => True) (okp := fun _ => True) ?hr ?hp (fun _ hk => hk) trivial (Below.refl _ _) (Nat.le_refl _) (by simp) ?_; (case hd => rfl); (case hg => rfl); (case hr => first | (go_simp; done) | (go_simp; rfl)); (case hp => exact (Reps.c6 (show Kd.M k84 _ _ _ (⟨x0, nm, ⟨⟨b1, b2⟩, ⟨b3, b4⟩⟩⟩ : S84) [.int .i64 x0, .string nm, .int .i64 b1, .int .i64 b2, .int .i64 b3, .int .i64 b4] from k84_mkM _ _ _ _) (Reps.none _ _))); intro v1n wN hoN hb hg_ hnew_; clear hg_ hnew_
                  have H1 := Aside0.mk (Kd.R_lower (Kd.R_new' hoN (Kd.R_lt H2.out)) (below_size HB.out)); replace H2 := Aside0.mk (Kd.R_elder' H2.out (Kd.R_base hoN) hb); replace HB := Aside0.mk (below_step HB.out hb); clear hb hoN
                  refine hK.out _ _ (SX.out _ HB.out) (fun hHeld => ?_); clear hK K
                  refine nz 92 ?_
                  exact norm_ (by simp only [putAll, Act.put, List.setIfInBounds_toArray, List.set_cons_zero, List.set_cons_succ]) (hCont (v0n, v2n, v1n) _ ⟨(Kd.R_mono H2.out (fun _ hk => hk.2)), (Kd.R_mono H1.out (fun _ hk => hk.2)), HB.out⟩)
                · refine Kd.R_lit_step k84 _ 84 ?hg (N := 92) ?hd (xs := ([(⟨x0, nm, ⟨⟨b1, b2⟩, ⟨b3, b4⟩⟩⟩ : S84)] : List S84)) (inner := [.int .i64 x0, .string nm, .int .i64 b1, .int .i64 b2, .int .i64 b3, .int .i64 b4]) (ok := fun _ => True) (okp := fun _ => True) ?hr ?hp (fun _ hk => hk) trivial (Below.refl _ _) (Nat.le_refl _) (by simp) ?_; (case hd => rfl); (case hg => rfl); (case hr => first | (go_simp; done) | (go_simp; rfl)); (case hp => exact (Reps.c6 (show Kd.M k84 _ _ _ (⟨x0, nm, ⟨⟨b1, b2⟩, ⟨b3, b4⟩⟩⟩ : S84) [.int .i64 x0, .string nm, .int .i64 b1, .int .i64 b2, .int .i64 b3, .int .i64 b4] from k84_mkM _ _ _ _) (Reps.none _ _))); intro v1n wN hoN hb hg_ hnew_; clear hg_ hnew_
                  have H1 := Aside0.mk (Kd.R_lower (Kd.R_new' hoN (Kd.R_lt H0.out)) (below_size HB.out)); replace H0 := Aside0.mk (Kd.R_elder' H0.out (Kd.R_base hoN) hb); replace HB := Aside0.mk (below_step HB.out hb); clear hb hoN
                  refine hK.out _ _ (SX.out _ HB.out) (fun hHeld => ?_); clear hK K
                  refine nz 92 ?_; refine oz HT_ 4 (some 83) (fun K hK => ?_)
                  refine Kd.R_append_rows_step k84 (w0 := WD) WD.heap.size (by rfl) (.tmp 79) (.tmp 82) 37 84 (.agg #[(.int .i64 0), (.string (⟨#[]⟩ : ByteArray)), (.int .i64 0), (.int .i64 0), (.int .i64 0), (.int .i64 0)]) 56 rfl Tryz.underlying37 infoX_Label rfl (by decide) (by omega) v0n [] yA _ _ _ (fun k_ => some k_ ≠ (v1n : Value).ownBlock) (fun _ => False) rfl rfl (Kd.R_mono H0.out (fun _ hk => hk.2)) (Kd.C_below HA.out HB.out) (fun _ _ h => h) (fun _ h => h.elim) (fun k_ hk => Kd.fresh' (Kd.R_lt H1.out) k_ hk) HB.out (below_size HB.out) (by have := LA.out; simp; omega) ?_; intro v2n wN hoN hb hg hat
                  rw [List.nil_append] at hoN; have n0_ := Aside0.mk (Kd.R_after (ok := (fun _ => True)) H1.out hg hat); have H2 := Aside0.mk hoN; replace HB := Aside0.mk hb; clear H1 H0 hoN hb hg hat; have H1 := n0_; clear n0_
                  refine hK.out _ _ (SX.out _ HB.out) (fun hHeld => ?_); clear hK K
                  refine nz 83 ?_
                  exact norm_ (by simp only [putAll, Act.put, List.setIfInBounds_toArray, List.set_cons_zero, List.set_cons_succ]) (hCont (v0n, v2n, v1n) _ ⟨H2.out, (Kd.R_mono H1.out (fun _ hk => hk.2)), HB.out⟩)
              · refine Kd.R_lit_step k84 _ 84 ?hg (N := 92) ?hd (xs := ([(⟨x0, nm, ⟨⟨b1, b2⟩, ⟨b3, b4⟩⟩⟩ : S84)] : List S84)) (inner := [.int .i64 x0, .string nm, .int .i64 b1, .int .i64 b2, .int .i64 b3, .int .i64 b4]) (ok := fun _ => True) (okp := fun _ => True) ?hr ?hp (fun _ hk => hk) trivial (Below.refl _ _) (Nat.le_refl _) (by simp) ?_; (case hd => rfl); (case hg => rfl); (case hr => first | (go_simp; done) | (go_simp; rfl)); (case hp => exact (Reps.c6 (show Kd.M k84 _ _ _ (⟨x0, nm, ⟨⟨b1, b2⟩, ⟨b3, b4⟩⟩⟩ : S84) [.int .i64 x0, .string nm, .int .i64 b1, .int .i64 b2, .int .i64 b3, .int .i64 b4] from k84_mkM _ _ _ _) (Reps.none _ _))); intro v1n wN hoN hb hg_ hnew_; clear hg_ hnew_
                have H1 := Aside0.mk (Kd.R_lower hoN (below_size HB.out)); replace HB := Aside0.mk (below_step HB.out hb); clear hb hoN
                refine hK.out _ _ (SX.out _ HB.out) (fun hHeld => ?_); clear hK K
                refine nz 92 ?_; refine oz HT_ 0 (some 79) (fun K hK => ?_)
                refine Kd.R_lit_step k84 _ 84 ?hg (N := 79) ?hd (xs := ([] : List S84)) (inner := []) (ok := fun _ => True) (okp := fun _ => True) ?hr ?hp (fun _ hk => hk) trivial (Below.refl _ _) (Nat.le_refl _) (by simp) ?_; (case hd => rfl); (case hg => rfl); (case hr => first | (go_simp; done) | (go_simp; rfl)); (case hp => exact (Reps.none _ _)); intro v0n wN hoN hb hg_ hnew_; clear hg_ hnew_
                have H0 := Aside0.mk (Kd.R_lower (Kd.R_new' hoN (Kd.R_lt H1.out)) (below_size HB.out)); replace H1 := Aside0.mk (Kd.R_elder' H1.out (Kd.R_base hoN) hb); replace HB := Aside0.mk (below_step HB.out hb); clear hb hoN
                refine hK.out _ _ (SX.out _ HB.out) (fun hHeld => ?_); clear hK K
                refine nz 79 ?_; refine oz HT_ 4 (some 83) (fun K hK => ?_)
                refine Kd.R_append_rows_step k84 (w0 := WD) WD.heap.size (by rfl) (.tmp 79) (.tmp 82) 37 84 (.agg #[(.int .i64 0), (.string (⟨#[]⟩ : ByteArray)), (.int .i64 0), (.int .i64 0), (.int .i64 0), (.int .i64 0)]) 56 rfl Tryz.underlying37 infoX_Label rfl (by decide) (by omega) v0n [] yA _ _ _ (fun k_ => some k_ ≠ (v1n : Value).ownBlock) (fun _ => False) rfl rfl (Kd.R_mono H0.out (fun _ hk => hk.2)) (Kd.C_below HA.out HB.out) (fun _ _ h => h) (fun _ h => h.elim) (fun k_ hk => Kd.fresh' (Kd.R_lt H1.out) k_ hk) HB.out (below_size HB.out) (by have := LA.out; simp; omega) ?_; intro v2n wN hoN hb hg hat
                rw [List.nil_append] at hoN; have n0_ := Aside0.mk (Kd.R_after (ok := (fun _ => True)) H1.out hg hat); have H2 := Aside0.mk hoN; replace HB := Aside0.mk hb; clear H1 H0 hoN hb hg hat; have H1 := n0_; clear n0_
                refine hK.out _ _ (SX.out _ HB.out) (fun hHeld => ?_); clear hK K
                refine nz 83 ?_
                exact norm_ (by simp only [putAll, Act.put, List.setIfInBounds_toArray, List.set_cons_zero, List.set_cons_succ]) (hCont (v0n, v2n, v1n) _ ⟨H2.out, (Kd.R_mono H1.out (fun _ hk => hk.2)), HB.out⟩)
            rintro ⟨v0n, v2n, v1n⟩ wN ⟨h0_, h1_, h2_⟩
            clear HB
            have H2 := Aside0.mk h0_; have H1 := Aside0.mk h1_; have HB := Aside0.mk h2_; clear h0_ h1_ h2_; have hHeld := SX.out _ HB.out; obtain ⟨Ax, cx, ex⟩ := Kd.R_slice H1.out; subst ex
            refine norm_ (a' := ?_) ?_ ?_
            rotate_left
            · show putAll _ _ = _
              simp only [putAll, Act.put, List.setIfInBounds_toArray, List.set_cons_zero, List.set_cons_succ]
              rfl
            refine oz HT_ 14 (some 93) (fun K hK => ?_)
            refine Kd.R_append_rows_step k84 (w0 := WD) WD.heap.size (by rfl) (.tmp 83) (.tmp 92) 37 84 (.agg #[(.int .i64 0), (.string (⟨#[]⟩ : ByteArray)), (.int .i64 0), (.int .i64 0), (.int .i64 0), (.int .i64 0)]) 56 rfl Tryz.underlying37 infoX_Label rfl (by decide) (by omega) v2n yA [(⟨x0, nm, ⟨⟨b1, b2⟩, ⟨b3, b4⟩⟩⟩ : S84)] _ _ _ (fun _ => True) (fun _ => False) rfl rfl (Kd.R_mono H2.out (fun _ _ => trivial)) (Kd.R_reads' H1.out).2.2 (fun _ _ h => h) (fun _ h => h.elim) (fun _ _ => trivial) HB.out (below_size HB.out) (by have := LA.out; simp; omega) ?_; intro v3n wN hoN hb hg hat
            have H3 := Aside0.mk hoN; replace HB := Aside0.mk hb; clear H1 H2 hoN hb hg hat
            refine hK.out _ _ (SX.out _ HB.out) (fun hHeld => ?_); clear hK K
            refine nz 93 ?_; refine oz HT_ 18 (some 97) (fun K hK => ?_)
            refine Kd.R_append_rows_step k84 (w0 := WD) WD.heap.size (by rfl) (.tmp 93) (.tmp 96) 37 84 (.agg #[(.int .i64 0), (.string (⟨#[]⟩ : ByteArray)), (.int .i64 0), (.int .i64 0), (.int .i64 0), (.int .i64 0)]) 56 rfl Tryz.underlying37 infoX_Label rfl (by decide) (by omega) v3n (yA ++ [(⟨x0, nm, ⟨⟨b1, b2⟩, ⟨b3, b4⟩⟩⟩ : S84)]) yB _ _ _ (fun _ => True) (fun _ => False) rfl rfl H3.out (Kd.C_below HB2.out HB.out) (fun _ _ h => h) (fun _ h => h.elim) (fun _ _ => trivial) HB.out (below_size HB.out) (by have := LA.out; simp; omega) ?_; intro v4n wN hoN hb hg hat
            have H4 := Aside0.mk hoN; replace HB := Aside0.mk hb; clear H3 hoN hb hg hat
            refine hK.out _ _ (SX.out _ HB.out) (fun hHeld => ?_); clear hK K
            refine nz 97 ?_; refine pz HT_ 19 3 ?_; refine dz HT_ ?_
            obtain ⟨Ay, cy, ey⟩ := Kd.R_slice H4.out; subst ey
            clear HA HB2 hHeld SX HS hcutA hcutB d1 d2
            have HO4 := Aside0.mk (Kd.R_lower H4.out (below_size HBc.out)); have HB4 := Aside0.mk (below_step HBc.out HB.out)
            have HBN := HB
            clear H4 HB HBc
            have HT := Aside0.mk (Kd.R_below HT1.out HBN.out)
            have HD := Aside0.mk (Kd.R_below HD1.out HBN.out)
            clear HT1 HD1 HBN HR0 HC0
            have HR0 := HR0_
            have HC0 := HC0_
            clear HR0_ HC0_
            have e0 := E0.out
            go_wp2_with fail
            go_roundg (od.length - (i + 1))
            case measure => exact Nat.lt_of_lt_of_le M1.out hg
            case rel => exact ⟨i + 1, putB out ⟨x0, nm, ⟨⟨b1, b2⟩, ⟨b3, b4⟩⟩⟩, tk2, by first | rfl | rw [e0], hlt, Nat.le_refl _, ⟨by rw [← HTK.out]; exact HX2.out⟩, ⟨by rw [show putB out ⟨x0, nm, ⟨⟨b1, b2⟩, ⟨b3, b4⟩⟩⟩ = (yA ++ [⟨x0, nm, ⟨⟨b1, b2⟩, ⟨b3, b4⟩⟩⟩]) ++ yB by rw [YA.out, YB.out]; exact EP.out]; exact HO4.out⟩, HT, HD, HB4⟩
      · have ei : i = od.length := by omega
        subst ei
        have q1 : ((od.length : Int) < (od.length : Int)) = False := eq_false (by omega)
        have hX := HX.out
        rw [List.drop_length, pnS] at hX
        obtain rfl := Option.some.inj hX
        clear hX HX
        go_wp2_with fail
        go_ret
        exact ⟨_, rfl, HO.out, HB.out⟩
def spec_NamedIds.Fs : List (Spc env) := []
def spec_NamedIds.fin : St eΓ → Option (HL eΓ [.l 3 (.i .i64)]) := finR env Tryz.f57.results.toList [.l 3 (.i .i64)]
def spec_NamedIds.cut : Nat → Option (List (Lv SC)) := lk [(3, [⟨0, none, false⟩, ⟨3, none, false⟩, ⟨4, none, false⟩])]
def spec_NamedIds.ret (r0 : List Int) : Option (HL eΓ [.l 3 (.i .i64)]) := some (r0, ())
def spec_NamedIds.p3 (k : Nat) (x4 : Int) (x0 : List S84) (x3 : List Int) : Option (HL eΓ [.l 3 (.i .i64)]) := evM env spec_NamedIds.Fs Tryz.f57.ntmps spec_NamedIds.fin spec_NamedIds.cut k [.code (sub_ [1, 1, 0, 1, 0, 0, 0, 0] (bodyOf Tryz.f57)), .code (sub_ [1, 1, 0, 1, 0, 0, 0, 1] (bodyOf Tryz.f57)), .code (sub_ [1, 1, 0, 1, 0, 0, 1] (bodyOf Tryz.f57)), .lp (sub_ [1, 1, 0, 1, 0, 0] (bodyOf Tryz.f57)), .blk 0, .code (sub_ [1, 1, 1] (bodyOf Tryz.f57))] (mkSt [(0, .c (.sl 0)), (3, .c (.sl 1)), (4, .c (.v (.int .i64 x4)))] [.row .ro 84 (.st .s84) x0, .row .own 3 (.i .i64) x3])
theorem spec_NamedIds.e3 (k : Nat) (x4 : Int) (x0 : List S84) (x3 : List Int) : spec_NamedIds.p3 (k + 1) x4 x0 x3 = if x4 < (x0.length : Int) then (if 0 ≤ x4 then (if x4 < (x0.length : Int) then (if (x3.length + 1) * 8 ≤ 140737488355328 then (spec_NamedIds.p3 k (wrap64 (x4 + 1)) x0 (x3 ++ [(rd_T84 x0 x4).f0])) else none) else none) else none) else (spec_NamedIds.ret x3) := by kernel_rfl
def spec_NamedIds.run (k : Nat) (h : HL eΓ [.l 84 (.st .s84)]) : Option (HL eΓ [.l 3 (.i .i64)]) := evF env spec_NamedIds.Fs Tryz.f57 spec_NamedIds.cut [.l 84 (.st .s84)] [.l 3 (.i .i64)] k h
theorem spec_NamedIds.ef (k : Nat) (h0 : List S84) : spec_NamedIds.run k (h0, ()) = spec_NamedIds.p3 k 0 h0 ([] : List Int) := by kernel_rfl
def spec_NamedIds.toH (t : List Int) : HL eΓ [.l 3 (.i .i64)] := (t, ())
def spec_NamedIds.spec : Spc env := ⟨57, [.l 84 (.st .s84)], [.l 3 (.i .i64)], spec_NamedIds.run⟩
theorem spec_NamedIds.snd : Snd env spec_NamedIds.spec := evF_snd env_ok (sndN)
attribute [local irreducible] spec_NamedIds.run
theorem spec_NamedIds.rt (a0 : List Int) : spec_NamedIds.ret a0 = some (spec_NamedIds.toH (a0)) := rfl
theorem spec_NamedIds.br (n : Nat) : (∀ K, n ≤ K → ∀ (x4 : Int) (x0 : List S84) (x3 : List Int) t, spec_NamedIds.l0 n x0 x3 x4 = some t → spec_NamedIds.p3 K x4 x0 x3 = some (spec_NamedIds.toH t)) := by
  induction n using Nat.strongRecOn with
  | _ n ih =>
  intro K hK x4 x0 x3 t h
  all_goals (rcases n with _ | k)
  all_goals (try (exact nos h))
  all_goals (obtain ⟨K, rfl⟩ : ∃ q, K = q + 1 := ⟨K - 1, by omega⟩)
  all_goals (first | rw [spec_NamedIds.e3])
  all_goals (simp only [spec_NamedIds.l0] at h)
  repeat' (with_reducible first
   | exact nos h
   | (cases some_inj h; exact spec_NamedIds.rt _)
   | exact (ih _ (by omega)) _ (by omega) _ _ _ _ h
   | (simp only [Option.bind_some] at h)
   | (refine ite_by h ?_ ?_ <;> (intro hc h; (try simp only [nrm] at hc)))
   | refine itT ?_
   | refine itF ?_
   | (simp only [nr2] at h ⊢)
   | (exfalso; omega))
theorem spec_NamedIds.go {k : Nat} {l0 : List S84} {t} (h : spec_NamedIds.f k l0 = some t) (K : Nat) (hK : k ≤ K) : spec_NamedIds.run K (l0, ()) = some (spec_NamedIds.toH t) := by
  rw [spec_NamedIds.ef]
  (try dsimp only)
  unfold spec_NamedIds.f at h
  repeat' (with_reducible first
   | exact nos h
   | (cases some_inj h; exact spec_NamedIds.rt _)
   | exact (spec_NamedIds.br _) _ (by omega) _ _ _ _ h
   | (simp only [Option.bind_some] at h)
   | (refine ite_by h ?_ ?_ <;> (intro hc h; (try simp only [nrm] at hc)))
   | refine itT ?_
   | refine itF ?_
   | (simp only [nr2] at h ⊢)
   | (exfalso; omega))
theorem spec_NamedIds.calls (k : Nat) (A0 : Option Addr) (c0 : Nat) (l0 : List (S84)) (r : List Int) (w : World) (hr0 : Kd.C k84 w A0 l0.length l0) (hc0 : l0.length ≤ c0) (h : spec_NamedIds.f k l0 = some r) :
  Calls Tryz.prog 57 #[.slice A0 l0.length c0] w fun e w' => ∃ v0_ : Value, e = .returned (v0_) ∧ Kd.R (Kd.int .i64) 3 w' w.heap.size (fun _ => True) v0_ r ∧ Below w.heap.size w w' := by
  refine (spec_NamedIds.snd.calls _ _ _ (spec_NamedIds.go h k (Nat.le_refl k)) w [.slice A0 l0.length c0] ⟨⟨_, _, rfl, hc0, hr0⟩, trivial⟩).mono ?_
  rintro e w' ⟨v, rfl, hB, vs, oks, rfl, hR, _⟩
  obtain ⟨x0_, vs, o0_, oks, rfl, rfl, m0_, hR⟩ := rmsC hR
  obtain rfl := rmsN hR
  obtain ⟨x0_v, x0_e, x0_R⟩ := m0_
  obtain rfl := List.singleton_inj.1 x0_e
  exact ⟨_, rfl, Kd.R_mono x0_R (fun _ _ => trivial), hB⟩
set_option maxHeartbeats 8000000 in
set_option maxRecDepth 100000 in
theorem spec_Unplaced.calls (k : Nat) (A0 : Option Addr) (c0 : Nat) (l0 : List (S59)) (r : List Int) (w : World) (hr0 : Kd.C k59 w A0 l0.length l0) (hc0 : l0.length ≤ c0) (h : spec_Unplaced.f k l0 = some r) :
  Calls Tryz.prog 24 #[.slice A0 l0.length c0] w fun e w' => ∃ v0_ : Value, e = .returned (v0_) ∧ Kd.R (Kd.int .i64) 3 w' w.heap.size (fun _ => True) v0_ r ∧ Below w.heap.size w w' := by
 have HR0 := Aside0.mk hr0; have HC0 := Aside0.mk hc0; clear hr0 hc0; have HB := Aside0.mk (Below.refl w.heap.size w); have H : ((spec_AnchorsOf.f k l0).bind fun t316 => ((spec_PlaceNames.f k l0).bind fun t319 => ((spec_NamedIds.f k t319).bind fun t322 => (spec_Unplaced.l0 k (([] : List Int)) t316 t322 0)))) = some r := h; clear h; obtain ⟨y313, hy313⟩ : ∃ y_ : List Int, y_ = (([] : List Int)) := ⟨_, rfl⟩
 replace H : ((spec_AnchorsOf.f k l0).bind fun t316 => ((spec_PlaceNames.f k l0).bind fun t319 => ((spec_NamedIds.f k t319).bind fun t322 => (spec_Unplaced.l0 k y313 t316 t322 0)))) = some r := by first | (rw [hy313]; with_reducible exact H) | (have H2_ := (Option.bind_some _ _).symm.trans H; rw [hy313]; with_reducible exact H2_) | (have H2_ := (Option.bind_some _ _).symm.trans H; with_reducible exact H2_) | with_reducible exact H | (rw [hy313]; exact H) | exact H
 have Ny313 := Aside0.mk hy313; clear hy313; replace H := Option.bind_eq_some_iff.mp H; obtain ⟨t316, A20, H⟩ := H; have A2 := Aside0.mk A20; clear A20; replace H := Option.bind_eq_some_iff.mp H; obtain ⟨t319, A30, H⟩ := H; have A3 := Aside0.mk A30; clear A30; replace H := Option.bind_eq_some_iff.mp H; obtain ⟨t322, A40, H⟩ := H; have A4 := Aside0.mk A40; clear A40; have H' := Aside0.mk H; clear H
 go_enter Tryz.func24, Tryz.ntmps24; go_wp2_with (first | ((with_reducible refine gate_dst (N := 7) rfl ?_); refine Kd.R_lit (Kd.int .i64) _ 3 ?hg (N := 7) ?hd (xs := ([] : List Int)) (inner := []) (ok := fun _ => True) (okp := fun _ => True) ?hr ?hp (fun _ hk => hk) trivial (Below.refl _ _) (Nat.le_refl _) (by simp) ?_; (case hd => rfl); (case hg => rfl); (case hr => first | (go_simp; done) | (go_simp; rfl)); (case hp => exact (Reps.none _ _)); intro v314 w5 ho6 hb hg_ hnew_; clear hg_ hnew_; (first | rw [← Ny313.out] at ho6 | (simp only [Int.reduceToNat] at ho6; rw [← Ny313.out] at ho6)); have HO315 := Aside0.mk (Kd.R_lower ho6 (below_size bz)); replace HB := Aside0.mk (below_step bz hb); clear hb ho6) | ((with_reducible refine gt (some 9) rfl ?_); refine gc Tryz.func45 (spec_AnchorsOf.calls k _ _ l0 t316 _ cz0 HC0.out A2.out) ?_; rintro e w7 ⟨v317, rfl, ho0, hb⟩; refine ⟨_, rfl, ?_⟩; replace HO315 := Aside0.mk (rbz HO315 hb); have HO318 := Aside0.mk (Kd.R_lower ho0 (below_size bz)); replace HB := Aside0.mk (below_step bz hb); (try clear hb); (try clear ho0)) | ((with_reducible refine gt (some 11) rfl ?_); refine gc Tryz.func19 (spec_PlaceNames.calls k _ _ l0 t319 _ cz0 HC0.out A3.out) ?_; rintro e w8 ⟨v320, rfl, ho0, hb⟩; refine ⟨_, rfl, ?_⟩; replace HO315 := Aside0.mk (rbz HO315 hb); replace HO318 := Aside0.mk (rbz HO318 hb); have HO321 := Aside0.mk (Kd.R_lower ho0 (below_size bz)); replace HB := Aside0.mk (below_step bz hb); (try clear hb); (try clear ho0); obtain ⟨Ao9, co9, eo9⟩ := Kd.R_slice HO321.out; subst eo9) | ((with_reducible refine gt (some 12) rfl ?_); refine gc Tryz.func57 (spec_NamedIds.calls k _ _ t319 t322 _ (cz (Kd.R_reads' HO321.out).2.2) ((Kd.R_reads' HO321.out).2.1) A4.out) ?_; rintro e w10 ⟨v323, rfl, ho0, hb⟩; refine ⟨_, rfl, ?_⟩; replace HO318 := Aside0.mk (rbz HO318 hb); replace HO321 := Aside0.mk (rbz HO321 hb); have HO324 := Aside0.mk (Kd.R_lower (Kd.R_new' ho0 (Kd.R_lt (hr HO315.out))) (below_size bz)); replace HO315 := Aside0.mk (Kd.R_elder' (hr HO315.out) (Kd.R_base ho0) hb); replace HB := Aside0.mk (below_step bz hb); (try clear hb); (try clear ho0)))
 go_loopg [3, 6] k (fun kq v3 v6 w' => ∃ (x3_1 : List Int) (x6_1 : Int), v6 = .int .i64 x6_1 ∧ Aside0 (spec_Unplaced.l0 kq x3_1 t316 t322 x6_1 = some r) ∧ Aside0 (kq ≤ k) ∧ Aside0 (Kd.R (Kd.int .i64) 3 w' w.heap.size (fun k_ => some k_ ≠ (v323 : Value).ownBlock) v3 x3_1) ∧ Aside0 (Kd.R k77 77 w' w.heap.size (fun _ => True) v317 t316) ∧ Aside0 (Kd.R (Kd.int .i64) 3 w' w.heap.size (fun k_ => some k_ ≠ (v3 : Value).ownBlock) v323 t322) ∧ Aside0 (Below w.heap.size w w'))
 case atStart => exact ⟨(y313), (0), rz, H', ⟨Nat.le_refl _⟩, ⟨hr (Kd.R_mono HO315.out (fun _ hk => hk.2))⟩, ⟨hr HO318.out⟩, ⟨hr (Kd.R_mono HO324.out (fun _ hk => hk.2))⟩, ⟨bz⟩⟩
 case round =>
  clear H'; (try clear c1); (try clear c2); (try clear p2); (try clear c4); (try clear c5); obtain ⟨x3_1, x6_1, rfl, HA, HK1, HO_3, HO_4, HO_5, HB⟩ := hrel
  cases gk with
  | zero => exact absurd HA.out (by simp [spec_Unplaced.l0])
  | succ k1 =>
   have H := HA.out; clear HA; simp only [spec_Unplaced.l0] at H
   by_cases c11 : x6_1 < (t316.length : Int)
   ·rw [if_pos c11] at H; have c11b0 := decide_eq_true c11; clear c11
    by_cases c12 : 0 ≤ x6_1
    ·rw [if_pos c12] at H; have c12b0 := decide_eq_true c12; clear c12; replace H := Option.bind_eq_some_iff.mp H; obtain ⟨t326, A130, H⟩ := H; have A13 := Aside0.mk A130; clear A130
     by_cases c14 : t326 = true
     ·subst c14; replace H := ift H; have H' := Aside0.mk H; clear H; obtain ⟨Ao15, co15, eo15⟩ := Kd.R_slice HO_4.out; subst eo15; have p325 : 0 ≤ (x6_1 : Int) := of_decide_eq_true az; have q325 : x6_1 < (t316.length : Int) := of_decide_eq_true az; obtain ⟨ad325, e325, hx325_0, hx325_1, hx325_2, hx325_3⟩ := at_T77 (Kd.R_reads' HO_4.out).2.2 x6_1 p325 q325
      cases e325
      replace p325 := eq_true p325; replace q325 := eq_true q325; obtain ⟨Ao16, co16, eo16⟩ := Kd.R_slice HO_5.out; subst eo16; go_wp2_with (first | ((with_reducible refine gt (some 25) rfl ?_); refine gc Tryz.func58 (spec_l14Has.calls k1 _ _ t322 ((rd_T77 t316 x6_1).f0) true _ (cz (Kd.R_reads' HO_5.out).2.2) ((Kd.R_reads' HO_5.out).2.1) A13.out) ?_; rintro e w' ⟨rfl, ⟨nd, rfl⟩⟩; refine ⟨_, rfl, ?_⟩))
      go_roundg k1
      case measure => have := HK1.out; omega
      case rel => exact ⟨(x3_1), (wrap64 (x6_1 + 1)), rz, H', ⟨by have := HK1.out; omega⟩, ⟨hr HO_3.out⟩, ⟨hr HO_4.out⟩, ⟨hr HO_5.out⟩, ⟨bz⟩⟩
     ·replace c14 := Bool.eq_false_iff.mpr c14; subst c14; replace H := iff_ H
      by_cases c17 : x3_1.length < 17592186044416
      ·rw [if_pos c17] at H; have LMc17 := Aside0.mk c17; clear c17; obtain ⟨y328, hy328⟩ : ∃ y_ : List Int, y_ = (x3_1 ++ [(rd_T77 t316 x6_1).f0]) := ⟨_, rfl⟩
       replace H : (spec_Unplaced.l0 k1 y328 t316 t322 (wrap64 (x6_1 + 1))) = some r := by first | (rw [hy328]; with_reducible exact H) | (have H2_ := (Option.bind_some _ _).symm.trans H; rw [hy328]; with_reducible exact H2_) | (have H2_ := (Option.bind_some _ _).symm.trans H; with_reducible exact H2_) | with_reducible exact H | (rw [hy328]; exact H) | exact H
       have Ny328 := Aside0.mk hy328; clear hy328; have H' := Aside0.mk H; clear H; obtain ⟨Ao18, co18, eo18⟩ := Kd.R_slice HO_4.out; subst eo18; have p325 : 0 ≤ (x6_1 : Int) := of_decide_eq_true az; have q325 : x6_1 < (t316.length : Int) := of_decide_eq_true az; obtain ⟨ad325, e325, hx325_0, hx325_1, hx325_2, hx325_3⟩ := at_T77 (Kd.R_reads' HO_4.out).2.2 x6_1 p325 q325
       cases e325
       replace p325 := eq_true p325; replace q325 := eq_true q325; obtain ⟨Ao19, co19, eo19⟩ := Kd.R_slice HO_5.out; subst eo19; go_wp2_with (first | ((with_reducible refine gt (some 25) rfl ?_); refine gc Tryz.func58 (spec_l14Has.calls k1 _ _ t322 ((rd_T77 t316 x6_1).f0) false _ (cz (Kd.R_reads' HO_5.out).2.2) ((Kd.R_reads' HO_5.out).2.1) A13.out) ?_; rintro e w' ⟨rfl, ⟨nd, rfl⟩⟩; refine ⟨_, rfl, ?_⟩; have p327 : 0 ≤ (x6_1 : Int) := of_decide_eq_true az; have q327 : x6_1 < (t316.length : Int) := of_decide_eq_true az; obtain ⟨ad327, e327, hx327_0, hx327_1, hx327_2, hx327_3⟩ := at_T77 (Kd.R_reads' HO_4.out).2.2 x6_1 p327 q327; obtain rfl : ad325 = ad327 := (by injection e327); replace p327 := eq_true p327; replace q327 := eq_true q327) | ((with_reducible refine gate_builtin (b := .append) (xs := #[.tmp 27, .tmp 33]) rfl ?_); at_builtin; refine Kd.R_append (Kd.int .i64) (w0 := w) w.heap.size rfl (.tmp 27) (.tmp 33) 23 3 (.int .i64 0) 8 rfl Tryz.underlying23 info3 rfl (by decide) (by omega) u3 x3_1 ((rd_T77 t316 x6_1).f0) [.int .i64 ((rd_T77 t316 x6_1).f0)] (fun k_ => some k_ ≠ (.slice Ao19 t322.length co19 : Value).ownBlock) (fun _ => False) rfl rfl ?aP (fun _ hk => hk.elim) ?aF ?aO ?aB ?aS ?aL ?_; (case aP => exact rfl); (case aB => exact bz); (case aF => exact (fun k_ hk => Kd.fresh' (Kd.R_lt (hr HO_5.out)) k_ hk)); (case aO => exact (hr HO_3.out)); (case aS => exact (below_size bz)); (case aL => have := LMc17.out; omega); intro v329 w20 ho hb hg hat; rw [← Ny328.out] at ho; have n0_ := Aside0.mk (Kd.R_over' (hr HO_4.out) (Kd.R_typed (hr HO_3.out)) (by decide) hg); have n1_ := Aside0.mk (Kd.R_after (ok := (fun _ => True)) (Kd.R_mono (hr HO_5.out) (fun _ hk => And.intro trivial hk)) hg hat); have n2_ := Aside0.mk (hb); have n3_ := Aside0.mk (ho); clear HO_4; clear HO_5; clear HB; clear HO_3; have HO_4 := n0_; have HO_5 := n1_; have HB := n2_; have HO330 := n3_; clear n0_ n1_ n2_ n3_; clear ho hb hg hat))
       go_roundg k1
       case measure => have := HK1.out; omega
       case rel => exact ⟨(y328), (wrap64 (x6_1 + 1)), rz, H', ⟨by have := HK1.out; omega⟩, ⟨hr HO330.out⟩, ⟨hr HO_4.out⟩, ⟨hr (Kd.R_mono HO_5.out (fun _ hk => hk.2))⟩, ⟨bz⟩⟩
      ·rw [if_neg c17] at H
       exact absurd H (by simp)
    ·rw [if_neg c12] at H
     exact absurd H (by simp)
   ·rw [if_neg c11] at H; have c11b0 := decide_eq_false c11; clear c11; obtain rfl := Option.some.inj H; obtain ⟨Ao21, co21, eo21⟩ := Kd.R_slice HO_4.out; subst eo21; go_wp2; go_ret
    exact ⟨_, ez, hr (Kd.R_mono HO_3.out (fun _ hk => trivial)), bz⟩
def impl_InRange.toH (t : Bool) : HL eΓ [.b] := (t, ())
def impl_InRange.run (k : Nat) (h : HL eΓ [.i .i64, .i .i64, .i .i64]) : Option (HL eΓ [.b]) := (impl_InRange.f (h.1 : Int) (h.2.1 : Int) (h.2.2.1 : Int)).map impl_InRange.toH
def impl_InRange.spec : Spc env := ⟨104, [.i .i64, .i .i64, .i .i64], [.b], impl_InRange.run⟩
def impl_InRange.ap {R : Type} (k : Nat) (h0 : Int) (h1 : Int) (h2 : Int) (K : Bool → Option R) : Option R := (impl_InRange.run k (h0, h1, h2, ())).bind fun r => K (r.1 : Bool)
theorem impl_InRange.ap_of {R : Type} {k : Nat} {h0 : Int} {h1 : Int} {h2 : Int} {r0 : Bool} {K : Bool → Option R} (h : impl_InRange.run k (h0, h1, h2, ()) = some (r0, ())) : impl_InRange.ap k h0 h1 h2 K = K r0 := by unfold impl_InRange.ap; rw [h]; rfl
theorem impl_InRange.go {a0 : Int} {a1 : Int} {a2 : Int} {t} (h : impl_InRange.f a0 a1 a2 = some t) (K : Nat) : impl_InRange.run K (a0, a1, a2, ()) = some (impl_InRange.toH t) := by
  show Option.map _ (impl_InRange.f a0 a1 a2) = _
  rw [h]; rfl
theorem impl_InRange.snd : Snd env impl_InRange.spec := ⟨⟨Tryz.f104, by kernel_rfl, by kernel_rfl, by kernel_rfl⟩, fun k h r he w us hA => by
  obtain ⟨t, ht, rfl⟩ := Option.map_eq_some_iff.1 (show (impl_InRange.f (h.1 : Int) (h.2.1 : Int) (h.2.2.1 : Int)).map impl_InRange.toH = some r from he)
  match us, hA with
  | [u0, u1, u2], ⟨q0, q1, q2, _⟩ =>
  obtain rfl := List.singleton_inj.1 (show [u0] = [Value.int .i64 (h.1 : Int)] from q0)
  obtain rfl := List.singleton_inj.1 (show [u1] = [Value.int .i64 (h.2.1 : Int)] from q1)
  obtain rfl := List.singleton_inj.1 (show [u2] = [Value.int .i64 (h.2.2.1 : Int)] from q2)
  refine (impl_InRange.calls (w := w) (h := ht) ).mono ?_
  rintro e w' ⟨he, hw⟩
  exact ⟨_, he, (by obtain ⟨_, rfl⟩ := hw; exact Below.refl _ _), [.bool t], [fun _ => False], rfl, ⟨rfl, trivial⟩, by simp [DJ]⟩⟩
def impl_IsPoint.toH (t : Bool) : HL eΓ [.b] := (t, ())
def impl_IsPoint.run (k : Nat) (h : HL eΓ [.st .s75]) : Option (HL eΓ [.b]) := (impl_IsPoint.f ((h.1 : S75).f0) ((h.1 : S75).f1)).map impl_IsPoint.toH
def impl_IsPoint.spec : Spc env := ⟨102, [.st .s75], [.b], impl_IsPoint.run⟩
def impl_IsPoint.ap {R : Type} (k : Nat) (h0 : S75) (K : Bool → Option R) : Option R := (impl_IsPoint.run k (h0, ())).bind fun r => K (r.1 : Bool)
theorem impl_IsPoint.ap_of {R : Type} {k : Nat} {h0 : S75} {r0 : Bool} {K : Bool → Option R} (h : impl_IsPoint.run k (h0, ()) = some (r0, ())) : impl_IsPoint.ap k h0 K = K r0 := by unfold impl_IsPoint.ap; rw [h]; rfl
theorem impl_IsPoint.go {a0_0 : Int} {a0_1 : Int} {t} (h : impl_IsPoint.f a0_0 a0_1 = some t) (K : Nat) : impl_IsPoint.run K ((⟨a0_0, a0_1⟩ : S75), ()) = some (impl_IsPoint.toH t) := by
  show Option.map _ (impl_IsPoint.f a0_0 a0_1) = _
  rw [h]; rfl
theorem impl_IsPoint.snd : Snd env impl_IsPoint.spec := ⟨⟨Tryz.f102, by kernel_rfl, by kernel_rfl, by kernel_rfl⟩, fun k h r he w us hA => by
  obtain ⟨t, ht, rfl⟩ := Option.map_eq_some_iff.1 (show (impl_IsPoint.f ((h.1 : S75).f0) ((h.1 : S75).f1)).map impl_IsPoint.toH = some r from he)
  match us, hA with
  | [u0], ⟨q0, _⟩ =>
  obtain ⟨v0, rfl, q0⟩ := q0
  have q0 := (H75.K _ _ _).1 q0
  match e0 : v0.toList, q0 with
  | [c0_0, c0_1], ⟨p0_0, p0_1, _⟩ =>
  obtain rfl : v0 = #[c0_0, c0_1] := by rw [← Array.toArray_toList (xs := v0), e0]
  obtain rfl := List.singleton_inj.1 (show [c0_0] = [Value.int .i64 ((h.1 : S75).f0)] from p0_0)
  obtain rfl := List.singleton_inj.1 (show [c0_1] = [Value.int .i64 ((h.1 : S75).f1)] from p0_1)
  refine (impl_IsPoint.calls (w := w) (h := ht) ).mono ?_
  rintro e w' ⟨he, hw⟩
  exact ⟨_, he, hw, [.bool t], [fun _ => False], rfl, ⟨rfl, trivial⟩, by simp [DJ]⟩⟩
def impl_IsName.Fs : List (Spc env) := [impl_InRange.spec]
def impl_IsName.fin : St eΓ → Option (HL eΓ [.b]) := finR env Tryz.f103.results.toList [.b]
def impl_IsName.cut : Nat → Option (List (Lv SC)) := lk [(2, [⟨0, none, false⟩, ⟨5, none, false⟩, ⟨6, none, false⟩])]
def impl_IsName.ret (r0 : Bool) : Option (HL eΓ [.b]) := some (r0, ())
def impl_IsName.p2 (k : Nat) (x0 : ByteArray) (x5 : Int) (x6 : Int) : Option (HL eΓ [.b]) := evM env impl_IsName.Fs Tryz.f103.ntmps impl_IsName.fin impl_IsName.cut k [.code (sub_ [1, 0, 1, 0, 0, 0] (bodyOf Tryz.f103)), .code (sub_ [1, 0, 1, 0, 0, 1] (bodyOf Tryz.f103)), .lp (sub_ [1, 0, 1, 0, 0] (bodyOf Tryz.f103)), .blk 0, .code (sub_ [1, 1] (bodyOf Tryz.f103))] (mkSt [(0, .c (.v (.string x0))), (5, .c (.v (.int .i64 x5))), (6, .c (.v (.int .i64 x6)))] [])
theorem impl_IsName.e2 (k : Nat) (x0 : ByteArray) (x5 : Int) (x6 : Int) : impl_IsName.p2 (k + 1) x0 x5 x6 = if x6 < x5 then (if 0 ≤ x6 then (if x6 < (x0.size : Int) then (if (bt x0 x6) < 97 then (impl_IsName.ret false) else (if 0 ≤ x6 then (if x6 < (x0.size : Int) then (if (bt x0 x6) > 122 then (impl_IsName.ret false) else (impl_IsName.p2 k x0 x5 (wrap64 (x6 + 1)))) else none) else none)) else none) else none) else (impl_InRange.ap k (x0.size : Int) 1 8 fun r1 => impl_IsName.ret r1) := by kernel_rfl
def impl_IsName.run (k : Nat) (h : HL eΓ [.s]) : Option (HL eΓ [.b]) := evF env impl_IsName.Fs Tryz.f103 impl_IsName.cut [.s] [.b] k h
theorem impl_IsName.ef (k : Nat) (h0 : ByteArray) : impl_IsName.run k (h0, ()) = impl_IsName.p2 k h0 (h0.size : Int) 0 := by kernel_rfl
def impl_IsName.toH (t : Bool) : HL eΓ [.b] := (t, ())
def impl_IsName.spec : Spc env := ⟨103, [.s], [.b], impl_IsName.run⟩
def impl_IsName.ap {R : Type} (k : Nat) (h0 : ByteArray) (K : Bool → Option R) : Option R := (impl_IsName.run k (h0, ())).bind fun r => K (r.1 : Bool)
theorem impl_IsName.ap_of {R : Type} {k : Nat} {h0 : ByteArray} {r0 : Bool} {K : Bool → Option R} (h : impl_IsName.run k (h0, ()) = some (r0, ())) : impl_IsName.ap k h0 K = K r0 := by unfold impl_IsName.ap; rw [h]; rfl
theorem impl_IsName.snd : Snd env impl_IsName.spec := evF_snd env_ok (sndC impl_InRange.snd (sndN))
attribute [local irreducible] impl_IsName.run
theorem impl_IsName.rt (a0 : Bool) : impl_IsName.ret a0 = some (impl_IsName.toH (a0)) := rfl
theorem impl_IsName.br (n : Nat) : (∀ K, n ≤ K → ∀ (x0 : ByteArray) (x5 : Int) (x6 : Int) t, impl_IsName.l0 n x0 x5 x6 = some t → impl_IsName.p2 K x0 x5 x6 = some (impl_IsName.toH t)) := by
  induction n using Nat.strongRecOn with
  | _ n ih =>
  intro K hK x0 x5 x6 t h
  all_goals (rcases n with _ | k)
  all_goals (try (exact nos h))
  all_goals (obtain ⟨K, rfl⟩ : ∃ q, K = q + 1 := ⟨K - 1, by omega⟩)
  all_goals (first | rw [impl_IsName.e2])
  all_goals (simp only [impl_IsName.l0] at h)
  repeat' (with_reducible first
   | exact nos h
   | (cases some_inj h; exact impl_IsName.rt _)
   | exact (ih _ (by omega)) _ (by omega) _ _ _ _ h
   | (simp only [Option.bind_some] at h)
   | (refine ite_by h ?_ ?_ <;> (intro hc h; (try simp only [nrm] at hc)))
   | refine itT ?_
   | refine itF ?_
   | (refine bind_by h (fun t ht h => ?_); refine (impl_InRange.ap_of (impl_InRange.go ht _)).trans ?_; (try dsimp only at h ⊢))
   | (simp only [nr2] at h ⊢)
   | (exfalso; omega))
theorem impl_IsName.go {k : Nat} {a0 : ByteArray} {t} (h : impl_IsName.f k a0 = some t) (K : Nat) (hK : k ≤ K) : impl_IsName.run K (a0, ()) = some (impl_IsName.toH t) := by
  rw [impl_IsName.ef]
  (try dsimp only)
  unfold impl_IsName.f at h
  repeat' (with_reducible first
   | exact nos h
   | (cases some_inj h; exact impl_IsName.rt _)
   | exact (impl_IsName.br _) _ (by omega) _ _ _ _ h
   | (simp only [Option.bind_some] at h)
   | (refine ite_by h ?_ ?_ <;> (intro hc h; (try simp only [nrm] at hc)))
   | refine itT ?_
   | refine itF ?_
   | (refine bind_by h (fun t ht h => ?_); refine (impl_InRange.ap_of (impl_InRange.go ht _)).trans ?_; (try dsimp only at h ⊢))
   | (simp only [nr2] at h ⊢)
   | (exfalso; omega))
def impl_IsSegment.toH (t : Bool) : HL eΓ [.b] := (t, ())
def impl_IsSegment.run (k : Nat) (h : HL eΓ [.st .s133]) : Option (HL eΓ [.b]) := (impl_IsSegment.f ((h.1 : S133).f0.f0) ((h.1 : S133).f0.f1) ((h.1 : S133).f1.f0) ((h.1 : S133).f1.f1)).map impl_IsSegment.toH
def impl_IsSegment.spec : Spc env := ⟨171, [.st .s133], [.b], impl_IsSegment.run⟩
def impl_IsSegment.ap {R : Type} (k : Nat) (h0 : S133) (K : Bool → Option R) : Option R := (impl_IsSegment.run k (h0, ())).bind fun r => K (r.1 : Bool)
theorem impl_IsSegment.ap_of {R : Type} {k : Nat} {h0 : S133} {r0 : Bool} {K : Bool → Option R} (h : impl_IsSegment.run k (h0, ()) = some (r0, ())) : impl_IsSegment.ap k h0 K = K r0 := by unfold impl_IsSegment.ap; rw [h]; rfl
theorem impl_IsSegment.go {a0_0 : Int} {a0_1 : Int} {a0_2 : Int} {a0_3 : Int} {t} (h : impl_IsSegment.f a0_0 a0_1 a0_2 a0_3 = some t) (K : Nat) : impl_IsSegment.run K ((⟨(⟨a0_0, a0_1⟩ : S75), (⟨a0_2, a0_3⟩ : S75)⟩ : S133), ()) = some (impl_IsSegment.toH t) := by
  show Option.map _ (impl_IsSegment.f a0_0 a0_1 a0_2 a0_3) = _
  rw [h]; rfl
theorem impl_IsSegment.snd : Snd env impl_IsSegment.spec := ⟨⟨Tryz.f171, by kernel_rfl, by kernel_rfl, by kernel_rfl⟩, fun k h r he w us hA => by
  obtain ⟨t, ht, rfl⟩ := Option.map_eq_some_iff.1 (show (impl_IsSegment.f ((h.1 : S133).f0.f0) ((h.1 : S133).f0.f1) ((h.1 : S133).f1.f0) ((h.1 : S133).f1.f1)).map impl_IsSegment.toH = some r from he)
  match us, hA with
  | [u0], ⟨q0, _⟩ =>
  obtain ⟨v0, rfl, q0⟩ := q0
  have q0 := (H133.K _ _ _).1 q0
  match e0 : v0.toList, q0 with
  | [c0_0, c0_1, c0_2, c0_3], ⟨p0_0, p0_1, p0_2, p0_3, _⟩ =>
  obtain rfl : v0 = #[c0_0, c0_1, c0_2, c0_3] := by rw [← Array.toArray_toList (xs := v0), e0]
  obtain rfl := List.singleton_inj.1 (show [c0_0] = [Value.int .i64 ((h.1 : S133).f0.f0)] from p0_0)
  obtain rfl := List.singleton_inj.1 (show [c0_1] = [Value.int .i64 ((h.1 : S133).f0.f1)] from p0_1)
  obtain rfl := List.singleton_inj.1 (show [c0_2] = [Value.int .i64 ((h.1 : S133).f1.f0)] from p0_2)
  obtain rfl := List.singleton_inj.1 (show [c0_3] = [Value.int .i64 ((h.1 : S133).f1.f1)] from p0_3)
  refine (impl_IsSegment.calls (w := w) (h := ht) ).mono ?_
  rintro e w' ⟨he, hw⟩
  exact ⟨_, he, hw, [.bool t], [fun _ => False], rfl, ⟨rfl, trivial⟩, by simp [DJ]⟩⟩
def impl_around.Fs : List (Spc env) := []
def impl_around.fin : St eΓ → Option (HL eΓ [.l 133 (.st .s133)]) := finR env Tryz.f183.results.toList [.l 133 (.st .s133)]
def impl_around.cut : Nat → Option (List (Lv SC)) := lk [(3, [⟨0, none, false⟩, ⟨3, none, false⟩, ⟨7, none, false⟩, ⟨8, none, false⟩, ⟨9, none, false⟩])]
def impl_around.ret (r0 : List S133) : Option (HL eΓ [.l 133 (.st .s133)]) := some (r0, ())
def impl_around.p3 (k : Nat) (x8 : Int) (x9 : Int) (x0 : List S75) (x3 : List S133) : Option (HL eΓ [.l 133 (.st .s133)]) := evM env impl_around.Fs Tryz.f183.ntmps impl_around.fin impl_around.cut k [.code (sub_ [1, 1, 0, 1, 0, 0, 0] (bodyOf Tryz.f183)), .code (sub_ [1, 1, 0, 1, 0, 0, 1] (bodyOf Tryz.f183)), .lp (sub_ [1, 1, 0, 1, 0, 0] (bodyOf Tryz.f183)), .blk 0, .code (sub_ [1, 1, 1] (bodyOf Tryz.f183))] (mkSt [(0, .c (.sl 0)), (3, .c (.sl 1)), (7, .c (.sl 0)), (8, .c (.v (.int .i64 x8))), (9, .c (.v (.int .i64 x9)))] [.row .ro 75 (.st .s75) x0, .row .own 133 (.st .s133) x3])
theorem impl_around.e3 (k : Nat) (x8 : Int) (x9 : Int) (x0 : List S75) (x3 : List S133) : impl_around.p3 (k + 1) x8 x9 x0 x3 = if x9 < x8 then (if 0 ≤ x9 then (if x9 < (x0.length : Int) then (if (x0.length : Int) = 0 then none else (if 0 ≤ (Int.tmod (wrap64 (x9 + 1)) (x0.length : Int)) then (if (Int.tmod (wrap64 (x9 + 1)) (x0.length : Int)) < (x0.length : Int) then (if (x3.length + 1) * 32 ≤ 140737488355328 then (impl_around.p3 k x8 (wrap64 (x9 + 1)) x0 (x3 ++ [(⟨(⟨(rd_T75 x0 x9).f0, (rd_T75 x0 x9).f1⟩ : S75), (⟨(rd_T75 x0 (Int.tmod (wrap64 (x9 + 1)) (x0.length : Int))).f0, (rd_T75 x0 (Int.tmod (wrap64 (x9 + 1)) (x0.length : Int))).f1⟩ : S75)⟩ : S133)])) else none) else none) else none)) else none) else none) else (impl_around.ret x3) := by kernel_rfl
def impl_around.run (k : Nat) (h : HL eΓ [.l 75 (.st .s75)]) : Option (HL eΓ [.l 133 (.st .s133)]) := evF env impl_around.Fs Tryz.f183 impl_around.cut [.l 75 (.st .s75)] [.l 133 (.st .s133)] k h
theorem impl_around.ef (k : Nat) (h0 : List S75) : impl_around.run k (h0, ()) = impl_around.p3 k (h0.length : Int) 0 h0 ([] : List S133) := by kernel_rfl
def impl_around.toH (t : (List (S133))) : HL eΓ [.l 133 (.st .s133)] := (t, ())
def impl_around.spec : Spc env := ⟨183, [.l 75 (.st .s75)], [.l 133 (.st .s133)], impl_around.run⟩
def impl_around.ap {R : Type} (k : Nat) (h0 : List S75) (K : (List S133) → Option R) : Option R := (impl_around.run k (h0, ())).bind fun r => K (r.1 : List S133)
theorem impl_around.ap_of {R : Type} {k : Nat} {h0 : List S75} {r0 : List S133} {K : (List S133) → Option R} (h : impl_around.run k (h0, ()) = some (r0, ())) : impl_around.ap k h0 K = K r0 := by unfold impl_around.ap; rw [h]; rfl
theorem impl_around.snd : Snd env impl_around.spec := evF_snd env_ok (sndN)
attribute [local irreducible] impl_around.run
theorem impl_around.rt (a0 : List S133) : impl_around.ret a0 = some (impl_around.toH (a0)) := rfl
theorem impl_around.br (n : Nat) : (∀ K, n ≤ K → ∀ (x8 : Int) (x9 : Int) (x0 : List S75) (x3 : List S133) t, impl_around.l0 n x0 x3 x0 x8 x9 = some t → impl_around.p3 K x8 x9 x0 x3 = some (impl_around.toH t)) := by
  induction n using Nat.strongRecOn with
  | _ n ih =>
  intro K hK x8 x9 x0 x3 t h
  all_goals (rcases n with _ | k)
  all_goals (try (exact nos h))
  all_goals (obtain ⟨K, rfl⟩ : ∃ q, K = q + 1 := ⟨K - 1, by omega⟩)
  all_goals (first | rw [impl_around.e3])
  all_goals (simp only [impl_around.l0] at h)
  repeat' (with_reducible first
   | exact nos h
   | (cases some_inj h; exact impl_around.rt _)
   | exact (ih _ (by omega)) _ (by omega) _ _ _ _ _ h
   | (simp only [Option.bind_some] at h)
   | (refine ite_by h ?_ ?_ <;> (intro hc h; (try simp only [nrm] at hc)))
   | refine itT ?_
   | refine itF ?_
   | (simp only [nr2] at h ⊢)
   | (exfalso; omega))
theorem impl_around.go {k : Nat} {l0 : List S75} {t} (h : impl_around.f k l0 = some t) (K : Nat) (hK : k ≤ K) : impl_around.run K (l0, ()) = some (impl_around.toH t) := by
  rw [impl_around.ef]
  (try dsimp only)
  unfold impl_around.f at h
  repeat' (with_reducible first
   | exact nos h
   | (cases some_inj h; exact impl_around.rt _)
   | exact (impl_around.br _) _ (by omega) _ _ _ _ _ h
   | (simp only [Option.bind_some] at h)
   | (refine ite_by h ?_ ?_ <;> (intro hc h; (try simp only [nrm] at hc)))
   | refine itT ?_
   | refine itF ?_
   | (simp only [nr2] at h ⊢)
   | (exfalso; omega))
def impl_SideOf.toH (t : Int) : HL eΓ [.i .i64] := (t, ())
def impl_SideOf.run (k : Nat) (h : HL eΓ [.st .s75, .st .s75, .st .s75]) : Option (HL eΓ [.i .i64]) := (impl_SideOf.f ((h.1 : S75).f0) ((h.1 : S75).f1) ((h.2.1 : S75).f0) ((h.2.1 : S75).f1) ((h.2.2.1 : S75).f0) ((h.2.2.1 : S75).f1)).map impl_SideOf.toH
def impl_SideOf.spec : Spc env := ⟨174, [.st .s75, .st .s75, .st .s75], [.i .i64], impl_SideOf.run⟩
def impl_SideOf.ap {R : Type} (k : Nat) (h0 : S75) (h1 : S75) (h2 : S75) (K : Int → Option R) : Option R := (impl_SideOf.run k (h0, h1, h2, ())).bind fun r => K (r.1 : Int)
theorem impl_SideOf.ap_of {R : Type} {k : Nat} {h0 : S75} {h1 : S75} {h2 : S75} {r0 : Int} {K : Int → Option R} (h : impl_SideOf.run k (h0, h1, h2, ()) = some (r0, ())) : impl_SideOf.ap k h0 h1 h2 K = K r0 := by unfold impl_SideOf.ap; rw [h]; rfl
theorem impl_SideOf.go {a0_0 : Int} {a0_1 : Int} {a1_0 : Int} {a1_1 : Int} {a2_0 : Int} {a2_1 : Int} {t} (h : impl_SideOf.f a0_0 a0_1 a1_0 a1_1 a2_0 a2_1 = some t) (K : Nat) : impl_SideOf.run K ((⟨a0_0, a0_1⟩ : S75), (⟨a1_0, a1_1⟩ : S75), (⟨a2_0, a2_1⟩ : S75), ()) = some (impl_SideOf.toH t) := by
  show Option.map _ (impl_SideOf.f a0_0 a0_1 a1_0 a1_1 a2_0 a2_1) = _
  rw [h]; rfl
end
end Go.Proofs.YtkomgmgpgnjooaaGreat.PFnExactUnplaced
