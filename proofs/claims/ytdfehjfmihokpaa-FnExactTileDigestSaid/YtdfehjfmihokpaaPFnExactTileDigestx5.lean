-- Written by a program of this session's (evlaw.py).
import Derived.Test.YtdfehjfmihokpaaPFnExactTileDigestx4
namespace Go.Proofs.Ytdfehjfmihokpaa.PFnExactTileDigest
open Go.RowKit Go.Proofs.YtdfehjfmihokpaaW.PrintWords Go.Proofs.YtdfehjfmihokpaaW.PrintLast Go.Proofs.YtdfehjfmihokpaaW.PrintMore Go.Proofs.YtdfehjfmihokpaaGeo Go.Proofs.YtdfehjfmihokpaaHand Go.Proofs.YtdfehjfmihokpaaMeet Go.Proofs.YtdfehjfmihokpaaQuiet Go.Proofs.YtdfehjfmihokpaaZ Go.Proofs.YtdfehjfmihokpaaTwo
open Go Go.Proofs.YtdfehjfmihokpaaEv
attribute [local go_sem] max2_int min2_int max_two min_two max_three min_three max_four min_four   -- for this text's walks alone
set_option linter.unusedVariables false
set_option linter.unusedSimpArgs false



set_option linter.unusedSimpArgs false

attribute [local go_sem high] eqA82
set_option linter.unusedVariables false
set_option linter.unusedSimpArgs false
set_option maxRecDepth 100000
noncomputable section
theorem impl_piecesOf.e5 (k : Nat) (x2 : Bool) (x33 : Int) (x34 : Int) (b0_0 : Int) (b0_1 : Int) (b0_2 : Int) (b0_3 : ByteArray) (b1_0 : Int) (b1_1 : Int) (b1_2 : Int) (b1_3 : Int) (x7 : List S110) (x32 : List S85) (b4 : List S82) : impl_piecesOf.p5 (k + 1) x2 x33 x34 b0_0 b0_1 b0_2 b0_3 b1_0 b1_1 b1_2 b1_3 x7 x32 b4 = if x34 < x33 then (if 0 ≤ x34 then (if x34 < (x32.length : Int) then (if x2 = true then (if (x7.length + 1) * 16 ≤ 140737488355328 then (impl_piecesOf.p5 k x2 x33 (wrap64 (x34 + 1)) b0_0 b0_1 b0_2 b0_3 b1_0 b1_1 b1_2 b1_3 (x7 ++ [(⟨b0_0, x34⟩ : S110)]) x32 b4) else none) else (impl_MeetsBox.ap k (⟨(⟨(rd_T85 x32 x34).f0.f0, (rd_T85 x32 x34).f0.f1⟩ : S82), (⟨(rd_T85 x32 x34).f1.f0, (rd_T85 x32 x34).f1.f1⟩ : S82)⟩ : S85) (⟨(⟨b1_0, b1_1⟩ : S82), (⟨b1_2, b1_3⟩ : S82)⟩ : S98) fun r1 => if r1 = true then (if (x7.length + 1) * 16 ≤ 140737488355328 then (impl_piecesOf.p5 k x2 x33 (wrap64 (x34 + 1)) b0_0 b0_1 b0_2 b0_3 b1_0 b1_1 b1_2 b1_3 (x7 ++ [(⟨b0_0, x34⟩ : S110)]) x32 b4) else none) else (impl_piecesOf.p5 k x2 x33 (wrap64 (x34 + 1)) b0_0 b0_1 b0_2 b0_3 b1_0 b1_1 b1_2 b1_3 x7 x32 b4))) else none) else none) else (impl_piecesOf.ret x7) := by kernel_rfl
def impl_piecesOf.run (k : Nat) (h : HL eΓ [.st .s29, .st .s98, .b]) : Option (HL eΓ [.l 110 (.st .s110)]) := evF env impl_piecesOf.Fs Try.f99 impl_piecesOf.cut [.st .s29, .st .s98, .b] [.l 110 (.st .s110)] k h
theorem impl_piecesOf.ef (k : Nat) (h0 : S29) (h1 : S98) (h2 : Bool) : impl_piecesOf.run k (h0, h1, h2, ()) = if h0.f1 = 1 then (if h2 = true then (impl_PartsOf.ap k (⟨h0.f0, h0.f1, h0.f2, h0.f3, h0.f4⟩ : S29) fun r1 => impl_piecesOf.p5 k h2 (r1.length : Int) 0 h0.f0 h0.f1 h0.f2 h0.f3 h1.f0.f0 h1.f0.f1 h1.f1.f0 h1.f1.f1 ([(⟨h0.f0, 0⟩ : S110)] : List S110) r1 h0.f4) else (if 0 < (h0.f4.length : Int) then (impl_InBox.ap k (⟨(⟨h1.f0.f0, h1.f0.f1⟩ : S82), (⟨h1.f1.f0, h1.f1.f1⟩ : S82)⟩ : S98) (⟨(rd_T82 h0.f4 0).f0, (rd_T82 h0.f4 0).f1⟩ : S82) fun r2 => if r2 = true then (impl_PartsOf.ap k (⟨h0.f0, h0.f1, h0.f2, h0.f3, h0.f4⟩ : S29) fun r3 => impl_piecesOf.p5 k h2 (r3.length : Int) 0 h0.f0 h0.f1 h0.f2 h0.f3 h1.f0.f0 h1.f0.f1 h1.f1.f0 h1.f1.f1 ([(⟨h0.f0, 0⟩ : S110)] : List S110) r3 h0.f4) else (impl_PartsOf.ap k (⟨h0.f0, h0.f1, h0.f2, h0.f3, h0.f4⟩ : S29) fun r4 => impl_piecesOf.p5 k h2 (r4.length : Int) 0 h0.f0 h0.f1 h0.f2 h0.f3 h1.f0.f0 h1.f0.f1 h1.f1.f0 h1.f1.f1 ([] : List S110) r4 h0.f4)) else none)) else (impl_PartsOf.ap k (⟨h0.f0, h0.f1, h0.f2, h0.f3, h0.f4⟩ : S29) fun r5 => impl_piecesOf.p5 k h2 (r5.length : Int) 0 h0.f0 h0.f1 h0.f2 h0.f3 h1.f0.f0 h1.f0.f1 h1.f1.f0 h1.f1.f1 ([] : List S110) r5 h0.f4) := by kernel_rfl
def impl_piecesOf.toH (t : (List (S110))) : HL eΓ [.l 110 (.st .s110)] := (t, ())
def impl_piecesOf.spec : Spc env := ⟨99, [.st .s29, .st .s98, .b], [.l 110 (.st .s110)], impl_piecesOf.run⟩
def impl_piecesOf.ap {R : Type} (k : Nat) (h0 : S29) (h1 : S98) (h2 : Bool) (K : (List S110) → Option R) : Option R := (impl_piecesOf.run k (h0, h1, h2, ())).bind fun r => K (r.1 : List S110)
theorem impl_piecesOf.ap_of {R : Type} {k : Nat} {h0 : S29} {h1 : S98} {h2 : Bool} {r0 : List S110} {K : (List S110) → Option R} (h : impl_piecesOf.run k (h0, h1, h2, ()) = some (r0, ())) : impl_piecesOf.ap k h0 h1 h2 K = K r0 := by unfold impl_piecesOf.ap; rw [h]; rfl
theorem impl_piecesOf.snd : Snd env impl_piecesOf.spec := evF_snd env_ok (sndC impl_PartsOf.snd (sndC impl_InBox.snd (sndC impl_MeetsBox.snd (sndN)))) (by kernel_rfl) (by kernel_rfl) (by kernel_rfl)
attribute [local irreducible] impl_piecesOf.run
theorem impl_piecesOf.rt (a0 : List S110) : impl_piecesOf.ret a0 = some (impl_piecesOf.toH (a0)) := rfl
theorem impl_piecesOf.br (n : Nat) : (∀ K, n ≤ K → ∀ (x2 : Bool) (x33 : Int) (x34 : Int) (b0_0 : Int) (b0_1 : Int) (b0_2 : Int) (b0_3 : ByteArray) (b1_0 : Int) (b1_1 : Int) (b1_2 : Int) (b1_3 : Int) (x7 : List S110) (x32 : List S85) (b4 : List S82) t, impl_piecesOf.l0 n x2 x7 x32 x33 x34 b0_0 b0_1 b0_2 b0_3 b4 b1_0 b1_1 b1_2 b1_3 = some t → impl_piecesOf.p5 K x2 x33 x34 b0_0 b0_1 b0_2 b0_3 b1_0 b1_1 b1_2 b1_3 x7 x32 b4 = some (impl_piecesOf.toH t)) := by
  induction n using Nat.strongRecOn with
  | _ n ih =>
  intro K hK x2 x33 x34 b0_0 b0_1 b0_2 b0_3 b1_0 b1_1 b1_2 b1_3 x7 x32 b4 t h
  all_goals (rcases n with _ | k)
  all_goals (try (exact nos h))
  all_goals (obtain ⟨K, rfl⟩ : ∃ q, K = q + 1 := ⟨K - 1, by omega⟩)
  all_goals (first | rw [impl_piecesOf.e5])
  all_goals (simp only [impl_piecesOf.l0] at h)
  repeat' (with_reducible first
   | exact nos h
   | (cases some_inj h; exact impl_piecesOf.rt _)
   | exact (ih _ (by omega)) _ (by omega) _ _ _ _ _ _ _ _ _ _ _ _ _ _ _ h
   | ((have q : impl_piecesOf.j0 k _ _ _ _ _ _ _ _ _ _ _ _ = some _ := h; clear q); rcases k with _ | k <;> simp only [impl_piecesOf.j0, reduceCtorEq] at h)
   | ((have q : impl_piecesOf.j1 k _ _ _ _ _ _ _ _ _ _ _ = some _ := h; clear q); rcases k with _ | k <;> simp only [impl_piecesOf.j1, reduceCtorEq] at h)
   | (simp only [Option.bind_some] at h)
   | (refine ite_by h (fun hc h => ?_) (fun hc h => ?_) <;> (try simp only [nrm] at hc))
   | refine itT ?_ (by first | assumption | omega | (simp only [nrm]; first | done | assumption | omega) | (simp only [nln] at hc ⊢; omega))
   | refine itF ?_ (by first | assumption | omega | (simp only [nrm]; first | done | assumption | omega) | (simp only [nln] at hc ⊢; omega))
   | (refine bind_by h (fun t ht h => ?_); (first | refine (impl_PartsOf.ap_of (impl_PartsOf.go ht _ (by omega))).trans ?_ | refine (impl_InBox.ap_of (impl_InBox.go ht _)).trans ?_ | refine (impl_MeetsBox.ap_of (impl_MeetsBox.go ht _ (by omega))).trans ?_); (try dsimp only at h ⊢))
   | (simp only [decide_not, Bool.decide_and, decide_true, Bool.and_true, Bool.not_and, beqI] at h ⊢)
   | (exfalso; omega))
theorem impl_piecesOf.go {k : Nat} {a0_0 : Int} {a0_1 : Int} {a0_2 : Int} {a0_3 : ByteArray} {l0_4 : List S82} {a1_0 : Int} {a1_1 : Int} {a1_2 : Int} {a1_3 : Int} {a2 : Bool} {t} (h : impl_piecesOf.f k a0_0 a0_1 a0_2 a0_3 l0_4 a1_0 a1_1 a1_2 a1_3 a2 = some t) (K : Nat) (hK : k ≤ K) : impl_piecesOf.run K ((⟨a0_0, a0_1, a0_2, a0_3, l0_4⟩ : S29), (⟨(⟨a1_0, a1_1⟩ : S82), (⟨a1_2, a1_3⟩ : S82)⟩ : S98), a2, ()) = some (impl_piecesOf.toH t) := by
  rw [impl_piecesOf.ef]
  (try dsimp only)
  unfold impl_piecesOf.f at h
  repeat' (with_reducible first
   | exact nos h
   | (cases some_inj h; exact impl_piecesOf.rt _)
   | exact (impl_piecesOf.br _) _ (by omega) _ _ _ _ _ _ _ _ _ _ _ _ _ _ _ h
   | ((have q : impl_piecesOf.j0 k _ _ _ _ _ _ _ _ _ _ _ _ = some _ := h; clear q); rcases k with _ | k <;> simp only [impl_piecesOf.j0, reduceCtorEq] at h)
   | ((have q : impl_piecesOf.j1 k _ _ _ _ _ _ _ _ _ _ _ = some _ := h; clear q); rcases k with _ | k <;> simp only [impl_piecesOf.j1, reduceCtorEq] at h)
   | (simp only [Option.bind_some] at h)
   | (refine ite_by h (fun hc h => ?_) (fun hc h => ?_) <;> (try simp only [nrm] at hc))
   | refine itT ?_ (by first | assumption | omega | (simp only [nrm]; first | done | assumption | omega) | (simp only [nln] at hc ⊢; omega))
   | refine itF ?_ (by first | assumption | omega | (simp only [nrm]; first | done | assumption | omega) | (simp only [nln] at hc ⊢; omega))
   | (refine bind_by h (fun t ht h => ?_); (first | refine (impl_PartsOf.ap_of (impl_PartsOf.go ht _ (by omega))).trans ?_ | refine (impl_InBox.ap_of (impl_InBox.go ht _)).trans ?_ | refine (impl_MeetsBox.ap_of (impl_MeetsBox.go ht _ (by omega))).trans ?_); (try dsimp only at h ⊢))
   | (simp only [decide_not, Bool.decide_and, decide_true, Bool.and_true, Bool.not_and, beqI] at h ⊢)
   | (exfalso; omega))
def impl_PiecesIn.Fs : List (Spc env) := [impl_TileBox.spec, impl_IsSource.spec, impl_piecesOf.spec]
def impl_PiecesIn.fin : St eΓ → Option (HL eΓ [.l 110 (.st .s110)]) := finR env Try.f53.results.toList [.l 110 (.st .s110)]
def impl_PiecesIn.cut : Nat → Option (List (Lv SC)) := lk [(6, [⟨5, none, false⟩, ⟨6, none, false⟩, ⟨24, none, false⟩, ⟨25, none, false⟩, ⟨26, none, false⟩])]
def impl_PiecesIn.ret (r0 : List S110) : Option (HL eΓ [.l 110 (.st .s110)]) := some (r0, ())
def impl_PiecesIn.p6 (k : Nat) (x25 : Int) (x26 : Int) (x5 : List S110) (b1_0 : Int) (b1_1 : Int) (b1_2 : Int) (b1_3 : Int) (x24 : List S29) : Option (HL eΓ [.l 110 (.st .s110)]) := evM env impl_PiecesIn.Fs Try.f53.ntmps impl_PiecesIn.fin impl_PiecesIn.cut k [.code (sub_ [1, 1, 1, 1, 0, 1, 0, 0, 0] (bodyOf Try.f53)), .code (sub_ [1, 1, 1, 1, 0, 1, 0, 0, 1] (bodyOf Try.f53)), .lp (sub_ [1, 1, 1, 1, 0, 1, 0, 0] (bodyOf Try.f53)), .blk 0, .code (sub_ [1, 1, 1, 1, 1] (bodyOf Try.f53))] (mkSt [(5, .c (.sl 0)), (6, .c (.ptr 1 0)), (24, .c (.sl 2)), (25, .c (.v (.int .i64 x25))), (26, .c (.v (.int .i64 x26)))] [.row .own 110 (.st .s110) x5, .box 98 [.v (.int .i64 b1_0), .v (.int .i64 b1_1), .v (.int .i64 b1_2), .v (.int .i64 b1_3)], .row .ro 29 (.st .s29) x24])
theorem impl_PiecesIn.e6 (k : Nat) (x25 : Int) (x26 : Int) (x5 : List S110) (b1_0 : Int) (b1_1 : Int) (b1_2 : Int) (b1_3 : Int) (x24 : List S29) : impl_PiecesIn.p6 (k + 1) x25 x26 x5 b1_0 b1_1 b1_2 b1_3 x24 = if x26 < x25 then (if 0 ≤ x26 then (if x26 < (x24.length : Int) then (impl_piecesOf.ap k (⟨(rd_T29 x24 x26).f0, (rd_T29 x24 x26).f1, (rd_T29 x24 x26).f2, (rd_T29 x24 x26).f3, (rd_T29 x24 x26).f4⟩ : S29) (⟨(⟨b1_0, b1_1⟩ : S82), (⟨b1_2, b1_3⟩ : S82)⟩ : S98) false fun r1 => if (x5.length + r1.length) * 16 ≤ 140737488355328 then (impl_PiecesIn.p6 k x25 (wrap64 (x26 + 1)) (x5 ++ r1) b1_0 b1_1 b1_2 b1_3 x24) else none) else none) else none) else (impl_PiecesIn.ret x5) := by kernel_rfl
def impl_PiecesIn.run (k : Nat) (h : HL eΓ [.l 29 (.st .s29), .i .i64]) : Option (HL eΓ [.l 110 (.st .s110)]) := evF env impl_PiecesIn.Fs Try.f53 impl_PiecesIn.cut [.l 29 (.st .s29), .i .i64] [.l 110 (.st .s110)] k h
theorem impl_PiecesIn.ef (k : Nat) (h0 : List S29) (h1 : Int) : impl_PiecesIn.run k (h0, h1, ()) = impl_TileBox.ap k h1 fun r1_0 r1_1 => if (!r1_1) = true then (impl_PiecesIn.ret ([] : List S110)) else (impl_IsSource.ap k h0 fun r2 => if (!r2) = true then (impl_PiecesIn.ret ([] : List S110)) else (impl_PiecesIn.p6 k (h0.length : Int) 0 ([] : List S110) r1_0.f0.f0 r1_0.f0.f1 r1_0.f1.f0 r1_0.f1.f1 h0)) := by kernel_rfl
def impl_PiecesIn.toH (t : (List (S110))) : HL eΓ [.l 110 (.st .s110)] := (t, ())
def impl_PiecesIn.spec : Spc env := ⟨53, [.l 29 (.st .s29), .i .i64], [.l 110 (.st .s110)], impl_PiecesIn.run⟩
def impl_PiecesIn.ap {R : Type} (k : Nat) (h0 : List S29) (h1 : Int) (K : (List S110) → Option R) : Option R := (impl_PiecesIn.run k (h0, h1, ())).bind fun r => K (r.1 : List S110)
theorem impl_PiecesIn.ap_of {R : Type} {k : Nat} {h0 : List S29} {h1 : Int} {r0 : List S110} {K : (List S110) → Option R} (h : impl_PiecesIn.run k (h0, h1, ()) = some (r0, ())) : impl_PiecesIn.ap k h0 h1 K = K r0 := by unfold impl_PiecesIn.ap; rw [h]; rfl
theorem impl_PiecesIn.snd : Snd env impl_PiecesIn.spec := evF_snd env_ok (sndC impl_TileBox.snd (sndC impl_IsSource.snd (sndC impl_piecesOf.snd (sndN)))) (by kernel_rfl) (by kernel_rfl) (by kernel_rfl)
attribute [local irreducible] impl_PiecesIn.run
theorem impl_PiecesIn.rt (a0 : List S110) : impl_PiecesIn.ret a0 = some (impl_PiecesIn.toH (a0)) := rfl
theorem impl_PiecesIn.br (n : Nat) : (∀ K, n ≤ K → ∀ (x25 : Int) (x26 : Int) (x5 : List S110) (b1_0 : Int) (b1_1 : Int) (b1_2 : Int) (b1_3 : Int) (x24 : List S29) t, impl_PiecesIn.l0 n x5 x24 x25 x26 b1_0 b1_1 b1_2 b1_3 = some t → impl_PiecesIn.p6 K x25 x26 x5 b1_0 b1_1 b1_2 b1_3 x24 = some (impl_PiecesIn.toH t)) := by
  induction n using Nat.strongRecOn with
  | _ n ih =>
  intro K hK x25 x26 x5 b1_0 b1_1 b1_2 b1_3 x24 t h
  all_goals (rcases n with _ | k)
  all_goals (try (exact nos h))
  all_goals (obtain ⟨K, rfl⟩ : ∃ q, K = q + 1 := ⟨K - 1, by omega⟩)
  all_goals (first | rw [impl_PiecesIn.e6])
  all_goals (simp only [impl_PiecesIn.l0] at h)
  repeat' (with_reducible first
   | exact nos h
   | (cases some_inj h; exact impl_PiecesIn.rt _)
   | exact (ih _ (by omega)) _ (by omega) _ _ _ _ _ _ _ _ _ h
   | ((have q : impl_PiecesIn.j0 k _ _ _ _ _ _ _ = some _ := h; clear q); rcases k with _ | k <;> simp only [impl_PiecesIn.j0, reduceCtorEq] at h)
   | (simp only [Option.bind_some] at h)
   | (refine ite_by h (fun hc h => ?_) (fun hc h => ?_) <;> (try simp only [nrm] at hc))
   | refine itT ?_ (by first | assumption | omega | (simp only [nrm]; first | done | assumption | omega) | (simp only [nln] at hc ⊢; omega))
   | refine itF ?_ (by first | assumption | omega | (simp only [nrm]; first | done | assumption | omega) | (simp only [nln] at hc ⊢; omega))
   | (refine bind_by h (fun t ht h => ?_); (first | refine (impl_TileBox.ap_of (impl_TileBox.go ht _)).trans ?_ | refine (impl_IsSource.ap_of (impl_IsSource.go ht _ (by omega))).trans ?_ | refine (impl_piecesOf.ap_of (impl_piecesOf.go ht _ (by omega))).trans ?_); (try dsimp only at h ⊢))
   | (simp only [decide_not, Bool.decide_and, decide_true, Bool.and_true, Bool.not_and, beqI] at h ⊢)
   | (exfalso; omega))
theorem impl_PiecesIn.go {k : Nat} {l0 : List S29} {a1 : Int} {t} (h : impl_PiecesIn.f k l0 a1 = some t) (K : Nat) (hK : k ≤ K) : impl_PiecesIn.run K (l0, a1, ()) = some (impl_PiecesIn.toH t) := by
  rw [impl_PiecesIn.ef]
  (try dsimp only)
  unfold impl_PiecesIn.f at h
  repeat' (with_reducible first
   | exact nos h
   | (cases some_inj h; exact impl_PiecesIn.rt _)
   | exact (impl_PiecesIn.br _) _ (by omega) _ _ _ _ _ _ _ _ _ h
   | ((have q : impl_PiecesIn.j0 k _ _ _ _ _ _ _ = some _ := h; clear q); rcases k with _ | k <;> simp only [impl_PiecesIn.j0, reduceCtorEq] at h)
   | (simp only [Option.bind_some] at h)
   | (refine ite_by h (fun hc h => ?_) (fun hc h => ?_) <;> (try simp only [nrm] at hc))
   | refine itT ?_ (by first | assumption | omega | (simp only [nrm]; first | done | assumption | omega) | (simp only [nln] at hc ⊢; omega))
   | refine itF ?_ (by first | assumption | omega | (simp only [nrm]; first | done | assumption | omega) | (simp only [nln] at hc ⊢; omega))
   | (refine bind_by h (fun t ht h => ?_); (first | refine (impl_TileBox.ap_of (impl_TileBox.go ht _)).trans ?_ | refine (impl_IsSource.ap_of (impl_IsSource.go ht _ (by omega))).trans ?_ | refine (impl_piecesOf.ap_of (impl_piecesOf.go ht _ (by omega))).trans ?_); (try dsimp only at h ⊢))
   | (simp only [decide_not, Bool.decide_and, decide_true, Bool.and_true, Bool.not_and, beqI] at h ⊢)
   | (exfalso; omega))
def impl_Mod.Fs : List (Spc env) := [impl_InRange.spec]
def impl_Mod.cut : Nat → Option (List (Lv SC)) := lk []
def impl_Mod.ret (r0 : Int) : Option (HL eΓ [.i .i64]) := some (r0, ())
def impl_Mod.run (k : Nat) (h : HL eΓ [.i .i64, .i .i64]) : Option (HL eΓ [.i .i64]) := evF env impl_Mod.Fs Try.f153 impl_Mod.cut [.i .i64, .i .i64] [.i .i64] k h
theorem impl_Mod.ef (k : Nat) (h0 : Int) (h1 : Int) : impl_Mod.run k (h0, h1, ()) = impl_InRange.ap k h1 1 1000000000000 fun r1 => if (!r1) = true then (impl_Mod.ret 0) else (if h1 = 0 then none else (if (Int.tmod h0 h1) < 0 then (impl_Mod.ret (wrap64 ((Int.tmod h0 h1) + h1))) else (impl_Mod.ret (Int.tmod h0 h1)))) := by kernel_rfl
def impl_Mod.toH (t : Int) : HL eΓ [.i .i64] := (t, ())
def impl_Mod.spec : Spc env := ⟨153, [.i .i64, .i .i64], [.i .i64], impl_Mod.run⟩
def impl_Mod.ap {R : Type} (k : Nat) (h0 : Int) (h1 : Int) (K : Int → Option R) : Option R := (impl_Mod.run k (h0, h1, ())).bind fun r => K (r.1 : Int)
theorem impl_Mod.ap_of {R : Type} {k : Nat} {h0 : Int} {h1 : Int} {r0 : Int} {K : Int → Option R} (h : impl_Mod.run k (h0, h1, ()) = some (r0, ())) : impl_Mod.ap k h0 h1 K = K r0 := by unfold impl_Mod.ap; rw [h]; rfl
theorem impl_Mod.snd : Snd env impl_Mod.spec := evF_snd env_ok (sndC impl_InRange.snd (sndN)) (by kernel_rfl) (by kernel_rfl) (by kernel_rfl)
attribute [local irreducible] impl_Mod.run
theorem impl_Mod.rt (a0 : Int) : impl_Mod.ret a0 = some (impl_Mod.toH (a0)) := rfl
theorem impl_Mod.go {a0 : Int} {a1 : Int} {t} (h : impl_Mod.f a0 a1 = some t) (K : Nat) : impl_Mod.run K (a0, a1, ()) = some (impl_Mod.toH t) := by
  rw [impl_Mod.ef]
  (try dsimp only)
  unfold impl_Mod.f at h
  repeat' (with_reducible first
   | exact nos h
   | (cases some_inj h; exact impl_Mod.rt _)
   | (simp only [Option.bind_some] at h)
   | (refine ite_by h (fun hc h => ?_) (fun hc h => ?_) <;> (try simp only [nrm] at hc))
   | refine itT ?_ (by first | assumption | omega | (simp only [nrm]; first | done | assumption | omega) | (simp only [nln] at hc ⊢; omega))
   | refine itF ?_ (by first | assumption | omega | (simp only [nrm]; first | done | assumption | omega) | (simp only [nln] at hc ⊢; omega))
   | (refine bind_by h (fun t ht h => ?_); refine (impl_InRange.ap_of (impl_InRange.go ht _)).trans ?_; (try dsimp only at h ⊢))
   | (simp only [decide_not, Bool.decide_and, decide_true, Bool.and_true, Bool.not_and, beqI] at h ⊢)
   | (exfalso; omega))
def impl_fold.Fs : List (Spc env) := [impl_Mod.spec]
def impl_fold.cut : Nat → Option (List (Lv SC)) := lk []
def impl_fold.ret (r0 : Int) : Option (HL eΓ [.i .i64]) := some (r0, ())
def impl_fold.run (k : Nat) (h : HL eΓ [.i .i64, .i .i64]) : Option (HL eΓ [.i .i64]) := evF env impl_fold.Fs Try.f125 impl_fold.cut [.i .i64, .i .i64] [.i .i64] k h
theorem impl_fold.ef (k : Nat) (h0 : Int) (h1 : Int) : impl_fold.run k (h0, h1, ()) = impl_Mod.ap k h1 2147483647 fun r1 => impl_fold.ret (Int.tmod (wrap64 ((wrap64 ((wrap64 (h0 * 1000003)) + r1)) + 13)) 2147483647) := by kernel_rfl
def impl_fold.toH (t : Int) : HL eΓ [.i .i64] := (t, ())
def impl_fold.spec : Spc env := ⟨125, [.i .i64, .i .i64], [.i .i64], impl_fold.run⟩
def impl_fold.ap {R : Type} (k : Nat) (h0 : Int) (h1 : Int) (K : Int → Option R) : Option R := (impl_fold.run k (h0, h1, ())).bind fun r => K (r.1 : Int)
theorem impl_fold.ap_of {R : Type} {k : Nat} {h0 : Int} {h1 : Int} {r0 : Int} {K : Int → Option R} (h : impl_fold.run k (h0, h1, ()) = some (r0, ())) : impl_fold.ap k h0 h1 K = K r0 := by unfold impl_fold.ap; rw [h]; rfl
theorem impl_fold.snd : Snd env impl_fold.spec := evF_snd env_ok (sndC impl_Mod.snd (sndN)) (by kernel_rfl) (by kernel_rfl) (by kernel_rfl)
attribute [local irreducible] impl_fold.run
theorem impl_fold.rt (a0 : Int) : impl_fold.ret a0 = some (impl_fold.toH (a0)) := rfl
theorem impl_fold.go {a0 : Int} {a1 : Int} {t} (h : impl_fold.f a0 a1 = some t) (K : Nat) : impl_fold.run K (a0, a1, ()) = some (impl_fold.toH t) := by
  rw [impl_fold.ef]
  (try dsimp only)
  unfold impl_fold.f at h
  repeat' (with_reducible first
   | exact nos h
   | (cases some_inj h; exact impl_fold.rt _)
   | (simp only [Option.bind_some] at h)
   | (refine ite_by h (fun hc h => ?_) (fun hc h => ?_) <;> (try simp only [nrm] at hc))
   | refine itT ?_ (by first | assumption | omega | (simp only [nrm]; first | done | assumption | omega) | (simp only [nln] at hc ⊢; omega))
   | refine itF ?_ (by first | assumption | omega | (simp only [nrm]; first | done | assumption | omega) | (simp only [nln] at hc ⊢; omega))
   | (refine bind_by h (fun t ht h => ?_); refine (impl_Mod.ap_of (impl_Mod.go ht _)).trans ?_; (try dsimp only at h ⊢))
   | (simp only [decide_not, Bool.decide_and, decide_true, Bool.and_true, Bool.not_and, beqI] at h ⊢)
   | (exfalso; omega))
def impl_Hash.Fs : List (Spc env) := [impl_fold.spec]
def impl_Hash.fin : St eΓ → Option (HL eΓ [.i .i64]) := finR env Try.f73.results.toList [.i .i64]
def impl_Hash.cut : Nat → Option (List (Lv SC)) := lk [(3, [⟨3, none, false⟩, ⟨6, none, false⟩, ⟨7, none, false⟩, ⟨8, none, false⟩])]
def impl_Hash.ret (r0 : Int) : Option (HL eΓ [.i .i64]) := some (r0, ())
def impl_Hash.p3 (k : Nat) (x3 : Int) (x7 : Int) (x8 : Int) (x6 : List Int) : Option (HL eΓ [.i .i64]) := evM env impl_Hash.Fs Try.f73.ntmps impl_Hash.fin impl_Hash.cut k [.code (sub_ [1, 1, 0, 1, 0, 0, 0] (bodyOf Try.f73)), .code (sub_ [1, 1, 0, 1, 0, 0, 1] (bodyOf Try.f73)), .lp (sub_ [1, 1, 0, 1, 0, 0] (bodyOf Try.f73)), .blk 0, .code (sub_ [1, 1, 1] (bodyOf Try.f73))] (mkSt [(3, .c (.v (.int .i64 x3))), (6, .c (.sl 0)), (7, .c (.v (.int .i64 x7))), (8, .c (.v (.int .i64 x8)))] [.row .ro 3 (.i .i64) x6])
theorem impl_Hash.e3 (k : Nat) (x3 : Int) (x7 : Int) (x8 : Int) (x6 : List Int) : impl_Hash.p3 (k + 1) x3 x7 x8 x6 = if x8 < x7 then (if 0 ≤ x8 then (if x8 < (x6.length : Int) then (impl_fold.ap k x3 (x6.getD x8.toNat 0) fun r1 => impl_Hash.p3 k r1 x7 (wrap64 (x8 + 1)) x6) else none) else none) else (impl_Hash.ret x3) := by kernel_rfl
def impl_Hash.run (k : Nat) (h : HL eΓ [.l 3 (.i .i64)]) : Option (HL eΓ [.i .i64]) := evF env impl_Hash.Fs Try.f73 impl_Hash.cut [.l 3 (.i .i64)] [.i .i64] k h
theorem impl_Hash.ef (k : Nat) (h0 : List Int) : impl_Hash.run k (h0, ()) = impl_Hash.p3 k 11 (h0.length : Int) 0 h0 := by kernel_rfl
def impl_Hash.toH (t : Int) : HL eΓ [.i .i64] := (t, ())
def impl_Hash.spec : Spc env := ⟨73, [.l 3 (.i .i64)], [.i .i64], impl_Hash.run⟩
def impl_Hash.ap {R : Type} (k : Nat) (h0 : List Int) (K : Int → Option R) : Option R := (impl_Hash.run k (h0, ())).bind fun r => K (r.1 : Int)
theorem impl_Hash.ap_of {R : Type} {k : Nat} {h0 : List Int} {r0 : Int} {K : Int → Option R} (h : impl_Hash.run k (h0, ()) = some (r0, ())) : impl_Hash.ap k h0 K = K r0 := by unfold impl_Hash.ap; rw [h]; rfl
theorem impl_Hash.snd : Snd env impl_Hash.spec := evF_snd env_ok (sndC impl_fold.snd (sndN)) (by kernel_rfl) (by kernel_rfl) (by kernel_rfl)
attribute [local irreducible] impl_Hash.run
theorem impl_Hash.rt (a0 : Int) : impl_Hash.ret a0 = some (impl_Hash.toH (a0)) := rfl
theorem impl_Hash.br (n : Nat) : (∀ K, n ≤ K → ∀ (x3 : Int) (x7 : Int) (x8 : Int) (x6 : List Int) t, impl_Hash.l0 n x3 x6 x7 x8 = some t → impl_Hash.p3 K x3 x7 x8 x6 = some (impl_Hash.toH t)) := by
  induction n using Nat.strongRecOn with
  | _ n ih =>
  intro K hK x3 x7 x8 x6 t h
  all_goals (rcases n with _ | k)
  all_goals (try (exact nos h))
  all_goals (obtain ⟨K, rfl⟩ : ∃ q, K = q + 1 := ⟨K - 1, by omega⟩)
  all_goals (first | rw [impl_Hash.e3])
  all_goals (simp only [impl_Hash.l0] at h)
  repeat' (with_reducible first
   | exact nos h
   | (cases some_inj h; exact impl_Hash.rt _)
   | exact (ih _ (by omega)) _ (by omega) _ _ _ _ _ h
   | (simp only [Option.bind_some] at h)
   | (refine ite_by h (fun hc h => ?_) (fun hc h => ?_) <;> (try simp only [nrm] at hc))
   | refine itT ?_ (by first | assumption | omega | (simp only [nrm]; first | done | assumption | omega) | (simp only [nln] at hc ⊢; omega))
   | refine itF ?_ (by first | assumption | omega | (simp only [nrm]; first | done | assumption | omega) | (simp only [nln] at hc ⊢; omega))
   | (refine bind_by h (fun t ht h => ?_); refine (impl_fold.ap_of (impl_fold.go ht _)).trans ?_; (try dsimp only at h ⊢))
   | (simp only [decide_not, Bool.decide_and, decide_true, Bool.and_true, Bool.not_and, beqI] at h ⊢)
   | (exfalso; omega))
theorem impl_Hash.go {k : Nat} {l0 : List Int} {t} (h : impl_Hash.f k l0 = some t) (K : Nat) (hK : k ≤ K) : impl_Hash.run K (l0, ()) = some (impl_Hash.toH t) := by
  rw [impl_Hash.ef]
  (try dsimp only)
  unfold impl_Hash.f at h
  repeat' (with_reducible first
   | exact nos h
   | (cases some_inj h; exact impl_Hash.rt _)
   | exact (impl_Hash.br _) _ (by omega) _ _ _ _ _ h
   | (simp only [Option.bind_some] at h)
   | (refine ite_by h (fun hc h => ?_) (fun hc h => ?_) <;> (try simp only [nrm] at hc))
   | refine itT ?_ (by first | assumption | omega | (simp only [nrm]; first | done | assumption | omega) | (simp only [nln] at hc ⊢; omega))
   | refine itF ?_ (by first | assumption | omega | (simp only [nrm]; first | done | assumption | omega) | (simp only [nln] at hc ⊢; omega))
   | (refine bind_by h (fun t ht h => ?_); refine (impl_fold.ap_of (impl_fold.go ht _)).trans ?_; (try dsimp only at h ⊢))
   | (simp only [decide_not, Bool.decide_and, decide_true, Bool.and_true, Bool.not_and, beqI] at h ⊢)
   | (exfalso; omega))
def impl_PieceDigest.Fs : List (Spc env) := [impl_IsFeature.spec, impl_Hash.spec, impl_PartsOf.spec]
def impl_PieceDigest.fin : St eΓ → Option (HL eΓ [.i .i64]) := finR env Try.f21.results.toList [.i .i64]
def impl_PieceDigest.cut : Nat → Option (List (Lv SC)) := lk [(5, [⟨1, none, false⟩, ⟨2, none, false⟩, ⟨5, none, false⟩, ⟨24, none, false⟩, ⟨25, none, false⟩])]
def impl_PieceDigest.ret (r0 : Int) : Option (HL eΓ [.i .i64]) := some (r0, ())
def impl_PieceDigest.p5 (k : Nat) (x1 : Int) (x24 : Int) (x25 : Int) (b0_0 : Int) (b0_1 : Int) (b0_2 : Int) (b0_3 : ByteArray) (x5 : List Int) (b2 : List S82) : Option (HL eΓ [.i .i64]) := evM env impl_PieceDigest.Fs Try.f21.ntmps impl_PieceDigest.fin impl_PieceDigest.cut k [.code (sub_ [1, 1, 1, 0, 1, 0, 0, 0] (bodyOf Try.f21)), .code (sub_ [1, 1, 1, 0, 1, 0, 0, 1] (bodyOf Try.f21)), .lp (sub_ [1, 1, 1, 0, 1, 0, 0] (bodyOf Try.f21)), .blk 0, .code (sub_ [1, 1, 1, 1] (bodyOf Try.f21))] (mkSt [(1, .c (.v (.int .i64 x1))), (2, .c (.ptr 0 0)), (5, .c (.sl 1)), (24, .c (.v (.int .i64 x24))), (25, .c (.v (.int .i64 x25)))] [.box 29 [.v (.int .i64 b0_0), .v (.int .i64 b0_1), .v (.int .i64 b0_2), .v (.string b0_3), .sl 2], .row .own 3 (.i .i64) x5, .row .ro 82 (.st .s82) b2])
theorem impl_PieceDigest.e5 (k : Nat) (x1 : Int) (x24 : Int) (x25 : Int) (b0_0 : Int) (b0_1 : Int) (b0_2 : Int) (b0_3 : ByteArray) (x5 : List Int) (b2 : List S82) : impl_PieceDigest.p5 (k + 1) x1 x24 x25 b0_0 b0_1 b0_2 b0_3 x5 b2 = if x25 < x24 then (if 0 ≤ x25 then (if x25 < (b0_3.size : Int) then (if (x5.length + 1) * 8 ≤ 140737488355328 then (impl_PieceDigest.p5 k x1 x24 (wrap64 (x25 + 1)) b0_0 b0_1 b0_2 b0_3 (x5 ++ [wrap64 ((bt b0_3 x25))]) b2) else none) else none) else none) else (if (x5.length + 1) * 8 ≤ 140737488355328 then (if b0_1 = 1 then (if ¬ x1 = 0 then (impl_PieceDigest.ret 0) else (if 0 < (b2.length : Int) then (if 0 < (b2.length : Int) then (if ((x5 ++ [x1]).length + 2) * 8 ≤ 140737488355328 then (impl_Hash.ap k ((x5 ++ [x1]) ++ [(rd_T82 b2 0).f0, (rd_T82 b2 0).f1]) fun r1 => impl_PieceDigest.ret r1) else none) else none) else none)) else (impl_PartsOf.ap k (⟨b0_0, b0_1, b0_2, b0_3, b2⟩ : S29) fun r2 => if x1 < 0 then (impl_PieceDigest.ret 0) else (if x1 ≥ (r2.length : Int) then (impl_PieceDigest.ret 0) else (if 0 ≤ x1 then (if x1 < (r2.length : Int) then (if ((x5 ++ [x1]).length + 4) * 8 ≤ 140737488355328 then (impl_Hash.ap k ((x5 ++ [x1]) ++ [(rd_T85 r2 x1).f0.f0, (rd_T85 r2 x1).f0.f1, (rd_T85 r2 x1).f1.f0, (rd_T85 r2 x1).f1.f1]) fun r3 => impl_PieceDigest.ret r3) else none) else none) else none)))) else none) := by kernel_rfl
def impl_PieceDigest.run (k : Nat) (h : HL eΓ [.st .s29, .i .i64]) : Option (HL eΓ [.i .i64]) := evF env impl_PieceDigest.Fs Try.f21 impl_PieceDigest.cut [.st .s29, .i .i64] [.i .i64] k h
theorem impl_PieceDigest.ef (k : Nat) (h0 : S29) (h1 : Int) : impl_PieceDigest.run k (h0, h1, ()) = impl_IsFeature.ap k (⟨h0.f0, h0.f1, h0.f2, h0.f3, h0.f4⟩ : S29) fun r1 => if (!r1) = true then (impl_PieceDigest.ret 0) else (impl_PieceDigest.p5 k h1 (h0.f3.size : Int) 0 h0.f0 h0.f1 h0.f2 h0.f3 ([h0.f0, h0.f1, h0.f2, (h0.f3.size : Int)] : List Int) h0.f4) := by kernel_rfl
def impl_PieceDigest.toH (t : Int) : HL eΓ [.i .i64] := (t, ())
def impl_PieceDigest.spec : Spc env := ⟨21, [.st .s29, .i .i64], [.i .i64], impl_PieceDigest.run⟩
def impl_PieceDigest.ap {R : Type} (k : Nat) (h0 : S29) (h1 : Int) (K : Int → Option R) : Option R := (impl_PieceDigest.run k (h0, h1, ())).bind fun r => K (r.1 : Int)
theorem impl_PieceDigest.ap_of {R : Type} {k : Nat} {h0 : S29} {h1 : Int} {r0 : Int} {K : Int → Option R} (h : impl_PieceDigest.run k (h0, h1, ()) = some (r0, ())) : impl_PieceDigest.ap k h0 h1 K = K r0 := by unfold impl_PieceDigest.ap; rw [h]; rfl
theorem impl_PieceDigest.snd : Snd env impl_PieceDigest.spec := evF_snd env_ok (sndC impl_IsFeature.snd (sndC impl_Hash.snd (sndC impl_PartsOf.snd (sndN)))) (by kernel_rfl) (by kernel_rfl) (by kernel_rfl)
attribute [local irreducible] impl_PieceDigest.run
theorem impl_PieceDigest.rt (a0 : Int) : impl_PieceDigest.ret a0 = some (impl_PieceDigest.toH (a0)) := rfl
theorem impl_PieceDigest.br (n : Nat) : (∀ K, n ≤ K → ∀ (x1 : Int) (x24 : Int) (x25 : Int) (b0_0 : Int) (b0_1 : Int) (b0_2 : Int) (b0_3 : ByteArray) (x5 : List Int) (b2 : List S82) t, impl_PieceDigest.l0 n x1 x5 x24 x25 b0_0 b0_1 b0_2 b0_3 b2 = some t → impl_PieceDigest.p5 K x1 x24 x25 b0_0 b0_1 b0_2 b0_3 x5 b2 = some (impl_PieceDigest.toH t)) := by
  induction n using Nat.strongRecOn with
  | _ n ih =>
  intro K hK x1 x24 x25 b0_0 b0_1 b0_2 b0_3 x5 b2 t h
  all_goals (rcases n with _ | k)
  all_goals (try (exact nos h))
  all_goals (obtain ⟨K, rfl⟩ : ∃ q, K = q + 1 := ⟨K - 1, by omega⟩)
  all_goals (first | rw [impl_PieceDigest.e5])
  all_goals (simp only [impl_PieceDigest.l0] at h)
  repeat' (with_reducible first
   | exact nos h
   | (cases some_inj h; exact impl_PieceDigest.rt _)
   | exact (ih _ (by omega)) _ (by omega) _ _ _ _ _ _ _ _ _ _ h
   | (simp only [Option.bind_some] at h)
   | (refine ite_by h (fun hc h => ?_) (fun hc h => ?_) <;> (try simp only [nrm] at hc))
   | refine itT ?_ (by first | assumption | omega | (simp only [nrm]; first | done | assumption | omega) | (simp only [nln] at hc ⊢; omega))
   | refine itF ?_ (by first | assumption | omega | (simp only [nrm]; first | done | assumption | omega) | (simp only [nln] at hc ⊢; omega))
   | (refine bind_by h (fun t ht h => ?_); (first | refine (impl_IsFeature.ap_of (impl_IsFeature.go ht _ (by omega))).trans ?_ | refine (impl_Hash.ap_of (impl_Hash.go ht _ (by omega))).trans ?_ | refine (impl_PartsOf.ap_of (impl_PartsOf.go ht _ (by omega))).trans ?_); (try dsimp only at h ⊢))
   | (simp only [decide_not, Bool.decide_and, decide_true, Bool.and_true, Bool.not_and, beqI] at h ⊢)
   | (exfalso; omega))
theorem impl_PieceDigest.go {k : Nat} {a0_0 : Int} {a0_1 : Int} {a0_2 : Int} {a0_3 : ByteArray} {l0_4 : List S82} {a1 : Int} {t} (h : impl_PieceDigest.f k a0_0 a0_1 a0_2 a0_3 l0_4 a1 = some t) (K : Nat) (hK : k ≤ K) : impl_PieceDigest.run K ((⟨a0_0, a0_1, a0_2, a0_3, l0_4⟩ : S29), a1, ()) = some (impl_PieceDigest.toH t) := by
  rw [impl_PieceDigest.ef]
  (try dsimp only)
  unfold impl_PieceDigest.f at h
  repeat' (with_reducible first
   | exact nos h
   | (cases some_inj h; exact impl_PieceDigest.rt _)
   | exact (impl_PieceDigest.br _) _ (by omega) _ _ _ _ _ _ _ _ _ _ h
   | (simp only [Option.bind_some] at h)
   | (refine ite_by h (fun hc h => ?_) (fun hc h => ?_) <;> (try simp only [nrm] at hc))
   | refine itT ?_ (by first | assumption | omega | (simp only [nrm]; first | done | assumption | omega) | (simp only [nln] at hc ⊢; omega))
   | refine itF ?_ (by first | assumption | omega | (simp only [nrm]; first | done | assumption | omega) | (simp only [nln] at hc ⊢; omega))
   | (refine bind_by h (fun t ht h => ?_); (first | refine (impl_IsFeature.ap_of (impl_IsFeature.go ht _ (by omega))).trans ?_ | refine (impl_Hash.ap_of (impl_Hash.go ht _ (by omega))).trans ?_ | refine (impl_PartsOf.ap_of (impl_PartsOf.go ht _ (by omega))).trans ?_); (try dsimp only at h ⊢))
   | (simp only [decide_not, Bool.decide_and, decide_true, Bool.and_true, Bool.not_and, beqI] at h ⊢)
   | (exfalso; omega))
def impl_FindFeature.toH (t : Int) : HL eΓ [.i .i64] := (t, ())
def impl_FindFeature.run (k : Nat) (h : HL eΓ [.l 29 (.st .s29), .i .i64]) : Option (HL eΓ [.i .i64]) := (impl_FindFeature.f (h.1 : List S29) (h.2.1 : Int)).map impl_FindFeature.toH
def impl_FindFeature.spec : Spc env := ⟨94, [.l 29 (.st .s29), .i .i64], [.i .i64], impl_FindFeature.run⟩
def impl_FindFeature.ap {R : Type} (k : Nat) (h0 : List S29) (h1 : Int) (K : Int → Option R) : Option R := (impl_FindFeature.run k (h0, h1, ())).bind fun r => K (r.1 : Int)
theorem impl_FindFeature.ap_of {R : Type} {k : Nat} {h0 : List S29} {h1 : Int} {r0 : Int} {K : Int → Option R} (h : impl_FindFeature.run k (h0, h1, ()) = some (r0, ())) : impl_FindFeature.ap k h0 h1 K = K r0 := by unfold impl_FindFeature.ap; rw [h]; rfl
theorem impl_FindFeature.go {l0 : List S29} {a1 : Int} {t} (h : impl_FindFeature.f l0 a1 = some t) (K : Nat) : impl_FindFeature.run K (l0, a1, ()) = some (impl_FindFeature.toH t) := by
  show Option.map _ (impl_FindFeature.f l0 a1) = _
  rw [h]; rfl
theorem impl_FindFeature.snd : Snd env impl_FindFeature.spec := ⟨⟨Try.f94, by kernel_rfl, by kernel_rfl, by kernel_rfl⟩, fun k h r he w us hA => by
  obtain ⟨t, ht, rfl⟩ := Option.map_eq_some_iff.1 (show (impl_FindFeature.f (h.1 : List S29) (h.2.1 : Int)).map impl_FindFeature.toH = some r from he)
  match us, hA with
  | [u0, u1], ⟨q0, q1, _⟩ =>
  obtain ⟨A0, c0, e0, l0, g0⟩ := q0
  obtain rfl := List.singleton_inj.1 e0
  obtain rfl := List.singleton_inj.1 (show [u1] = [Value.int .i64 (h.2.1 : Int)] from q1)
  refine (impl_FindFeature.calls (w := w) (h := ht) (hr0 := g0) (hc0 := l0)).mono ?_
  rintro e w' ⟨he, hw⟩
  exact ⟨_, he, hw, [.int .i64 t], [fun _ => False], rfl, ⟨rfl, trivial⟩, by simp [DJ]⟩⟩
def impl_digests.Fs : List (Spc env) := [impl_FindFeature.spec, impl_PieceDigest.spec]
def impl_digests.fin : St eΓ → Option (HL eΓ [.l 3 (.i .i64)]) := finR env Try.f103.results.toList [.l 3 (.i .i64)]
def impl_digests.cut : Nat → Option (List (Lv SC)) := lk [(3, [⟨0, none, false⟩, ⟨5, none, false⟩, ⟨9, none, false⟩, ⟨10, none, false⟩, ⟨11, none, false⟩])]
def impl_digests.ret (r0 : List Int) : Option (HL eΓ [.l 3 (.i .i64)]) := some (r0, ())
def impl_digests.p3 (k : Nat) (x10 : Int) (x11 : Int) (x0 : List S29) (x5 : List Int) (x9 : List S110) : Option (HL eΓ [.l 3 (.i .i64)]) := evM env impl_digests.Fs Try.f103.ntmps impl_digests.fin impl_digests.cut k [.code (sub_ [1, 1, 0, 1, 0, 0, 0] (bodyOf Try.f103)), .code (sub_ [1, 1, 0, 1, 0, 0, 1] (bodyOf Try.f103)), .lp (sub_ [1, 1, 0, 1, 0, 0] (bodyOf Try.f103)), .blk 0, .code (sub_ [1, 1, 1] (bodyOf Try.f103))] (mkSt [(0, .c (.sl 0)), (5, .c (.sl 1)), (9, .c (.sl 2)), (10, .c (.v (.int .i64 x10))), (11, .c (.v (.int .i64 x11)))] [.row .ro 29 (.st .s29) x0, .row .own 3 (.i .i64) x5, .row .ro 110 (.st .s110) x9])
theorem impl_digests.e3 (k : Nat) (x10 : Int) (x11 : Int) (x0 : List S29) (x5 : List Int) (x9 : List S110) : impl_digests.p3 (k + 1) x10 x11 x0 x5 x9 = if x11 < x10 then (if 0 ≤ x11 then (if x11 < (x9.length : Int) then (impl_FindFeature.ap k x0 ((rd_T110 x9 x11).f0) fun r1 => if 0 ≤ r1 then (if r1 < (x0.length : Int) then (impl_PieceDigest.ap k (⟨(rd_T29 x0 r1).f0, (rd_T29 x0 r1).f1, (rd_T29 x0 r1).f2, (rd_T29 x0 r1).f3, (rd_T29 x0 r1).f4⟩ : S29) ((rd_T110 x9 x11).f1) fun r2 => if (x5.length + 1) * 8 ≤ 140737488355328 then (impl_digests.p3 k x10 (wrap64 (x11 + 1)) x0 (x5 ++ [r2]) x9) else none) else none) else none) else none) else none) else (impl_digests.ret x5) := by kernel_rfl
def impl_digests.run (k : Nat) (h : HL eΓ [.l 29 (.st .s29), .l 110 (.st .s110)]) : Option (HL eΓ [.l 3 (.i .i64)]) := evF env impl_digests.Fs Try.f103 impl_digests.cut [.l 29 (.st .s29), .l 110 (.st .s110)] [.l 3 (.i .i64)] k h
theorem impl_digests.ef (k : Nat) (h0 : List S29) (h1 : List S110) : impl_digests.run k (h0, h1, ()) = impl_digests.p3 k (h1.length : Int) 0 h0 ([] : List Int) h1 := by kernel_rfl
def impl_digests.toH (t : List Int) : HL eΓ [.l 3 (.i .i64)] := (t, ())
def impl_digests.spec : Spc env := ⟨103, [.l 29 (.st .s29), .l 110 (.st .s110)], [.l 3 (.i .i64)], impl_digests.run⟩
def impl_digests.ap {R : Type} (k : Nat) (h0 : List S29) (h1 : List S110) (K : (List Int) → Option R) : Option R := (impl_digests.run k (h0, h1, ())).bind fun r => K (r.1 : List Int)
theorem impl_digests.ap_of {R : Type} {k : Nat} {h0 : List S29} {h1 : List S110} {r0 : List Int} {K : (List Int) → Option R} (h : impl_digests.run k (h0, h1, ()) = some (r0, ())) : impl_digests.ap k h0 h1 K = K r0 := by unfold impl_digests.ap; rw [h]; rfl
theorem impl_digests.snd : Snd env impl_digests.spec := evF_snd env_ok (sndC impl_FindFeature.snd (sndC impl_PieceDigest.snd (sndN))) (by kernel_rfl) (by kernel_rfl) (by kernel_rfl)
attribute [local irreducible] impl_digests.run
theorem impl_digests.rt (a0 : List Int) : impl_digests.ret a0 = some (impl_digests.toH (a0)) := rfl
theorem impl_digests.br (n : Nat) : (∀ K, n ≤ K → ∀ (x10 : Int) (x11 : Int) (x0 : List S29) (x5 : List Int) (x9 : List S110) t, impl_digests.l0 n x0 x5 x9 x10 x11 = some t → impl_digests.p3 K x10 x11 x0 x5 x9 = some (impl_digests.toH t)) := by
  induction n using Nat.strongRecOn with
  | _ n ih =>
  intro K hK x10 x11 x0 x5 x9 t h
  all_goals (rcases n with _ | k)
  all_goals (try (exact nos h))
  all_goals (obtain ⟨K, rfl⟩ : ∃ q, K = q + 1 := ⟨K - 1, by omega⟩)
  all_goals (first | rw [impl_digests.e3])
  all_goals (simp only [impl_digests.l0] at h)
  repeat' (with_reducible first
   | exact nos h
   | (cases some_inj h; exact impl_digests.rt _)
   | exact (ih _ (by omega)) _ (by omega) _ _ _ _ _ _ h
   | (simp only [Option.bind_some] at h)
   | (refine ite_by h (fun hc h => ?_) (fun hc h => ?_) <;> (try simp only [nrm] at hc))
   | refine itT ?_ (by first | assumption | omega | (simp only [nrm]; first | done | assumption | omega) | (simp only [nln] at hc ⊢; omega))
   | refine itF ?_ (by first | assumption | omega | (simp only [nrm]; first | done | assumption | omega) | (simp only [nln] at hc ⊢; omega))
   | (refine bind_by h (fun t ht h => ?_); (first | refine (impl_FindFeature.ap_of (impl_FindFeature.go ht _)).trans ?_ | refine (impl_PieceDigest.ap_of (impl_PieceDigest.go ht _ (by omega))).trans ?_); (try dsimp only at h ⊢))
   | (simp only [decide_not, Bool.decide_and, decide_true, Bool.and_true, Bool.not_and, beqI] at h ⊢)
   | (exfalso; omega))
theorem impl_digests.go {k : Nat} {l0 : List S29} {l1 : List S110} {t} (h : impl_digests.f k l0 l1 = some t) (K : Nat) (hK : k ≤ K) : impl_digests.run K (l0, l1, ()) = some (impl_digests.toH t) := by
  rw [impl_digests.ef]
  (try dsimp only)
  unfold impl_digests.f at h
  repeat' (with_reducible first
   | exact nos h
   | (cases some_inj h; exact impl_digests.rt _)
   | exact (impl_digests.br _) _ (by omega) _ _ _ _ _ _ h
   | (simp only [Option.bind_some] at h)
   | (refine ite_by h (fun hc h => ?_) (fun hc h => ?_) <;> (try simp only [nrm] at hc))
   | refine itT ?_ (by first | assumption | omega | (simp only [nrm]; first | done | assumption | omega) | (simp only [nln] at hc ⊢; omega))
   | refine itF ?_ (by first | assumption | omega | (simp only [nrm]; first | done | assumption | omega) | (simp only [nln] at hc ⊢; omega))
   | (refine bind_by h (fun t ht h => ?_); (first | refine (impl_FindFeature.ap_of (impl_FindFeature.go ht _)).trans ?_ | refine (impl_PieceDigest.ap_of (impl_PieceDigest.go ht _ (by omega))).trans ?_); (try dsimp only at h ⊢))
   | (simp only [decide_not, Bool.decide_and, decide_true, Bool.and_true, Bool.not_and, beqI] at h ⊢)
   | (exfalso; omega))
def impl_TileDigest.Fs : List (Spc env) := [impl_TileBox.spec, impl_IsSource.spec, impl_PiecesIn.spec, impl_digests.spec, impl_Hash.spec]
def impl_TileDigest.cut : Nat → Option (List (Lv SC)) := lk []
def impl_TileDigest.ret (r0 : Int) : Option (HL eΓ [.i .i64]) := some (r0, ())
def impl_TileDigest.run (k : Nat) (h : HL eΓ [.l 29 (.st .s29), .i .i64]) : Option (HL eΓ [.i .i64]) := evF env impl_TileDigest.Fs Try.f55 impl_TileDigest.cut [.l 29 (.st .s29), .i .i64] [.i .i64] k h
theorem impl_TileDigest.ef (k : Nat) (h0 : List S29) (h1 : Int) : impl_TileDigest.run k (h0, h1, ()) = impl_TileBox.ap k h1 fun r1_0 r1_1 => if (!r1_1) = true then (impl_TileDigest.ret 0) else (impl_IsSource.ap k h0 fun r2 => if (!r2) = true then (impl_TileDigest.ret 0) else (impl_PiecesIn.ap k h0 h1 fun r3 => impl_digests.ap k h0 r3 fun r4 => impl_Hash.ap k r4 fun r5 => impl_TileDigest.ret r5)) := by kernel_rfl
def impl_TileDigest.toH (t : Int) : HL eΓ [.i .i64] := (t, ())
def impl_TileDigest.spec : Spc env := ⟨55, [.l 29 (.st .s29), .i .i64], [.i .i64], impl_TileDigest.run⟩
theorem impl_TileDigest.snd : Snd env impl_TileDigest.spec := evF_snd env_ok (sndC impl_TileBox.snd (sndC impl_IsSource.snd (sndC impl_PiecesIn.snd (sndC impl_digests.snd (sndC impl_Hash.snd (sndN)))))) (by kernel_rfl) (by kernel_rfl) (by kernel_rfl)
attribute [local irreducible] impl_TileDigest.run
theorem impl_TileDigest.rt (a0 : Int) : impl_TileDigest.ret a0 = some (impl_TileDigest.toH (a0)) := rfl
theorem impl_TileDigest.go {k : Nat} {l0 : List S29} {a1 : Int} {t} (h : impl_TileDigest.f k l0 a1 = some t) (K : Nat) (hK : k ≤ K) : impl_TileDigest.run K (l0, a1, ()) = some (impl_TileDigest.toH t) := by
  rw [impl_TileDigest.ef]
  (try dsimp only)
  unfold impl_TileDigest.f at h
  repeat' (with_reducible first
   | exact nos h
   | (cases some_inj h; exact impl_TileDigest.rt _)
   | ((have q : impl_TileDigest.j0 k _ _ _ = some _ := h; clear q); rcases k with _ | k <;> simp only [impl_TileDigest.j0, reduceCtorEq] at h)
   | (simp only [Option.bind_some] at h)
   | (refine ite_by h (fun hc h => ?_) (fun hc h => ?_) <;> (try simp only [nrm] at hc))
   | refine itT ?_ (by first | assumption | omega | (simp only [nrm]; first | done | assumption | omega) | (simp only [nln] at hc ⊢; omega))
   | refine itF ?_ (by first | assumption | omega | (simp only [nrm]; first | done | assumption | omega) | (simp only [nln] at hc ⊢; omega))
   | (refine bind_by h (fun t ht h => ?_); (first | refine (impl_TileBox.ap_of (impl_TileBox.go ht _)).trans ?_ | refine (impl_IsSource.ap_of (impl_IsSource.go ht _ (by omega))).trans ?_ | refine (impl_PiecesIn.ap_of (impl_PiecesIn.go ht _ (by omega))).trans ?_ | refine (impl_digests.ap_of (impl_digests.go ht _ (by omega))).trans ?_ | refine (impl_Hash.ap_of (impl_Hash.go ht _ (by omega))).trans ?_); (try dsimp only at h ⊢))
   | (simp only [decide_not, Bool.decide_and, decide_true, Bool.and_true, Bool.not_and, beqI] at h ⊢)
   | (exfalso; omega))
theorem impl_TileDigest.calls (k : Nat) (A0 : Option Addr) (c0 : Nat) (l0 : List (S29)) (a1 : Int) (r : Int) (w : World) (hr0 : Kd.C k29 w A0 l0.length l0) (hc0 : l0.length ≤ c0) (h : impl_TileDigest.f k l0 a1 = some r) :
  Calls Try.prog 55 #[.slice A0 l0.length c0, .int .i64 a1] w fun e w' => e = .returned (.int .i64 r) ∧ Below w.heap.size w w' := by
  refine (impl_TileDigest.snd.calls _ _ _ (impl_TileDigest.go h k (Nat.le_refl k)) w [.slice A0 l0.length c0, .int .i64 a1] ⟨⟨_, _, rfl, hc0, hr0⟩, rfl, trivial⟩).mono ?_
  rintro e w' ⟨v, rfl, hB, vs, oks, rfl, hR, _⟩
  obtain ⟨x0_, vs, o0_, oks, rfl, rfl, m0_, hR⟩ := rmsC hR
  obtain rfl := rmsN hR
  obtain rfl := List.singleton_inj.1 (show [x0_] = [Value.int .i64 r] from m0_)
  exact ⟨rfl, hB⟩
set_option maxHeartbeats 8000000 in
set_option maxRecDepth 100000 in
theorem laws_FnExactTileDigest.calls (k : Nat) (A0 : Option Addr) (c0 : Nat) (l0 : List (S24)) (a1 : Int) (r : Bool) (w : World) (hr0 : Kd.C k24 w A0 l0.length l0) (hc0 : l0.length ≤ c0) (h : laws_FnExactTileDigest.f k l0 a1 = some r) :
  Calls Try.prog 12 #[.slice A0 l0.length c0, .int .i64 a1] w fun e w' => e = .returned (.bool r) ∧ Below w.heap.size w w' := by
 have HR0 := Aside0.mk hr0; have HC0 := Aside0.mk hc0; clear hr0 hc0; have HB := Aside0.mk (Below.refl w.heap.size w); have H : ((laws_szFeatureS.f k l0 1048576).bind fun t644 => (if t644 < 0 then (some true) else ((laws_toFeatureS.f k l0).bind fun t645 => ((spec_TileDigest.f k t645 a1).bind fun t648 => ((laws_toFeatureS.f k l0).bind fun t649 => ((impl_TileDigest.f k t649 a1).bind fun t652 => (if t652 = t648 then ((laws_toFeatureS.f k l0).bind fun t653 => ((laws_eqFeatureS.f k t649 t653).bind fun t656 => (if t656 = true then (some true) else (some false)))) else (some false)))))))) = some r := h; clear h; replace H := Option.bind_eq_some_iff.mp H; obtain ⟨t644, A30, H⟩ := H; have A3 := Aside0.mk A30; clear A30
 by_cases c4 : t644 < 0
 ·rw [if_pos c4] at H; have c4b0 := decide_eq_true c4; clear c4; obtain rfl := Option.some.inj H
  go_enter Try.func12, Try.ntmps12; go_wp2_with (first | ((with_reducible refine gt (some 11) rfl ?_); refine gc Try.func26 (laws_szFeatureS.calls k _ _ l0 1048576 t644 _ (cz HR0.out) HC0.out A3.out) ?_; rintro e w5 ⟨rfl, hb⟩; refine ⟨_, rfl, ?_⟩; replace HB := Aside0.mk (below_step bz hb); (try clear hb))); go_ret
  exact ⟨ez, bz⟩
 ·rw [if_neg c4] at H; have c4b0 := decide_eq_false c4; clear c4; replace H := Option.bind_eq_some_iff.mp H; obtain ⟨t645, A60, H⟩ := H; have A6 := Aside0.mk A60; clear A60; replace H := Option.bind_eq_some_iff.mp H; obtain ⟨t648, A70, H⟩ := H; have A7 := Aside0.mk A70; clear A70; replace H := Option.bind_eq_some_iff.mp H; obtain ⟨t649, A80, H⟩ := H; have A8 := Aside0.mk A80; clear A80; replace H := Option.bind_eq_some_iff.mp H; obtain ⟨t652, A90, H⟩ := H; have A9 := Aside0.mk A90; clear A90
  by_cases c10 : t652 = t648
  ·rw [if_pos c10] at H; have c10b0 : (t652 == t648) = true := beq_iff_eq.mpr c10; have c10b1 : (t652 != t648) = false := bne_eq_false_iff_eq.mpr c10; clear c10; replace H := Option.bind_eq_some_iff.mp H; obtain ⟨t653, A110, H⟩ := H; have A11 := Aside0.mk A110; clear A110; replace H := Option.bind_eq_some_iff.mp H; obtain ⟨t656, A120, H⟩ := H; have A12 := Aside0.mk A120; clear A120
   by_cases c13 : t656 = true
   ·subst c13; replace H := ift H; obtain rfl := Option.some.inj H
    go_enter Try.func12, Try.ntmps12; go_wp2_with (first | ((with_reducible refine gt (some 11) rfl ?_); refine gc Try.func26 (laws_szFeatureS.calls k _ _ l0 1048576 t644 _ (cz HR0.out) HC0.out A3.out) ?_; rintro e w14 ⟨rfl, hb⟩; refine ⟨_, rfl, ?_⟩; replace HB := Aside0.mk (below_step bz hb); (try clear hb)) | ((with_reducible refine gt (some 15) rfl ?_); refine gc Try.func28 (laws_toFeatureS.calls k _ _ l0 t645 _ cz0 HC0.out A6.out) ?_; rintro e w15 ⟨v646, rfl, ho0, hb⟩; refine ⟨_, rfl, ?_⟩; have HO647 := Aside0.mk (Kd.S_lower ho0 (below_size bz)); replace HB := Aside0.mk (below_step bz hb); (try clear hb); (try clear ho0); obtain ⟨Ao16, co16, eo16⟩ := Kd.S_slice HO647.out; subst eo16) | ((with_reducible refine gt (some 17) rfl ?_); refine gc Try.func54 (spec_TileDigest.calls k _ _ t645 a1 t648 _ (cz (Kd.S_reads' HO647.out).2.2) ((Kd.S_reads' HO647.out).2.1) A7.out) ?_; rintro e w17 ⟨rfl, hb⟩; refine ⟨_, rfl, ?_⟩; replace HO647 := Aside0.mk (Kd.S_below (by (with_reducible repeat (first | apply Kd.S_alloc | apply Kd.S_drewN | apply Kd.S_drew)); exact HO647.out) hb); replace HB := Aside0.mk (below_step bz hb); (try clear hb)) | ((with_reducible refine gt (some 19) rfl ?_); refine gc Try.func28 (laws_toFeatureS.calls k _ _ l0 t649 _ cz0 HC0.out A8.out) ?_; rintro e w18 ⟨v650, rfl, ho0, hb⟩; refine ⟨_, rfl, ?_⟩; have HO651 := Aside0.mk (Kd.S_lower (Kd.S_new' ho0 (Kd.S_lt (by (with_reducible repeat (first | apply Kd.S_alloc | apply Kd.S_drewN | apply Kd.S_drew)); exact HO647.out))) (below_size bz)); replace HO647 := Aside0.mk (Kd.S_elder' (by (with_reducible repeat (first | apply Kd.S_alloc | apply Kd.S_drewN | apply Kd.S_drew)); exact HO647.out) (Kd.S_base ho0) hb); replace HB := Aside0.mk (below_step bz hb); (try clear hb); (try clear ho0); obtain ⟨Ao19, co19, eo19⟩ := Kd.S_slice HO651.out; subst eo19) | ((with_reducible refine gt (some 22) rfl ?_); refine gc Try.func55 (impl_TileDigest.calls k _ _ t649 a1 t652 _ (cz (Kd.S_reads' HO651.out).2.2) ((Kd.S_reads' HO651.out).2.1) A9.out) ?_; rintro e w20 ⟨rfl, hb⟩; refine ⟨_, rfl, ?_⟩; replace HO647 := Aside0.mk (Kd.S_below (by (with_reducible repeat (first | apply Kd.S_alloc | apply Kd.S_drewN | apply Kd.S_drew)); exact HO647.out) hb); replace HO651 := Aside0.mk (Kd.S_below (by (with_reducible repeat (first | apply Kd.S_alloc | apply Kd.S_drewN | apply Kd.S_drew)); exact HO651.out) hb); replace HB := Aside0.mk (below_step bz hb); (try clear hb)) | ((with_reducible refine gt (some 28) rfl ?_); refine gc Try.func28 (laws_toFeatureS.calls k _ _ l0 t653 _ cz0 HC0.out A11.out) ?_; rintro e w21 ⟨v654, rfl, ho0, hb⟩; refine ⟨_, rfl, ?_⟩; have HO655 := Aside0.mk (Kd.S_lower (Kd.S_new' (Kd.S_new' ho0 (Kd.S_lt (by (with_reducible repeat (first | apply Kd.S_alloc | apply Kd.S_drewN | apply Kd.S_drew)); exact HO647.out))) (Kd.S_lt (by (with_reducible repeat (first | apply Kd.S_alloc | apply Kd.S_drewN | apply Kd.S_drew)); exact HO651.out))) (below_size bz)); replace HO647 := Aside0.mk (Kd.S_elder' (by (with_reducible repeat (first | apply Kd.S_alloc | apply Kd.S_drewN | apply Kd.S_drew)); exact HO647.out) (Kd.S_base ho0) hb); replace HO651 := Aside0.mk (Kd.S_elder' (by (with_reducible repeat (first | apply Kd.S_alloc | apply Kd.S_drewN | apply Kd.S_drew)); exact HO651.out) (Kd.S_base ho0) hb); replace HB := Aside0.mk (below_step bz hb); (try clear hb); (try clear ho0); obtain ⟨Ao22, co22, eo22⟩ := Kd.S_slice HO655.out; subst eo22) | ((with_reducible refine gt (some 29) rfl ?_); refine gc Try.func31 (laws_eqFeatureS.calls k _ _ t649 _ _ t653 true _ (cz (Kd.S_reads' HO651.out).2.2) ((Kd.S_reads' HO651.out).2.1) (cz (Kd.S_reads' HO655.out).2.2) ((Kd.S_reads' HO655.out).2.1) A12.out) ?_; rintro e w23 ⟨rfl, hb⟩; refine ⟨_, rfl, ?_⟩; replace HO647 := Aside0.mk (Kd.S_below (by (with_reducible repeat (first | apply Kd.S_alloc | apply Kd.S_drewN | apply Kd.S_drew)); exact HO647.out) hb); replace HO651 := Aside0.mk (Kd.S_below (by (with_reducible repeat (first | apply Kd.S_alloc | apply Kd.S_drewN | apply Kd.S_drew)); exact HO651.out) hb); replace HO655 := Aside0.mk (Kd.S_below (by (with_reducible repeat (first | apply Kd.S_alloc | apply Kd.S_drewN | apply Kd.S_drew)); exact HO655.out) hb); replace HB := Aside0.mk (below_step bz hb); (try clear hb)))
    go_ret
    exact ⟨ez, bz⟩
   ·replace c13 := Bool.eq_false_iff.mpr c13; subst c13; replace H := iff_ H; obtain rfl := Option.some.inj H
    go_enter Try.func12, Try.ntmps12; go_wp2_with (first | ((with_reducible refine gt (some 11) rfl ?_); refine gc Try.func26 (laws_szFeatureS.calls k _ _ l0 1048576 t644 _ (cz HR0.out) HC0.out A3.out) ?_; rintro e w24 ⟨rfl, hb⟩; refine ⟨_, rfl, ?_⟩; replace HB := Aside0.mk (below_step bz hb); (try clear hb)) | ((with_reducible refine gt (some 15) rfl ?_); refine gc Try.func28 (laws_toFeatureS.calls k _ _ l0 t645 _ cz0 HC0.out A6.out) ?_; rintro e w25 ⟨v646, rfl, ho0, hb⟩; refine ⟨_, rfl, ?_⟩; have HO647 := Aside0.mk (Kd.S_lower ho0 (below_size bz)); replace HB := Aside0.mk (below_step bz hb); (try clear hb); (try clear ho0); obtain ⟨Ao26, co26, eo26⟩ := Kd.S_slice HO647.out; subst eo26) | ((with_reducible refine gt (some 17) rfl ?_); refine gc Try.func54 (spec_TileDigest.calls k _ _ t645 a1 t648 _ (cz (Kd.S_reads' HO647.out).2.2) ((Kd.S_reads' HO647.out).2.1) A7.out) ?_; rintro e w27 ⟨rfl, hb⟩; refine ⟨_, rfl, ?_⟩; replace HO647 := Aside0.mk (Kd.S_below (by (with_reducible repeat (first | apply Kd.S_alloc | apply Kd.S_drewN | apply Kd.S_drew)); exact HO647.out) hb); replace HB := Aside0.mk (below_step bz hb); (try clear hb)) | ((with_reducible refine gt (some 19) rfl ?_); refine gc Try.func28 (laws_toFeatureS.calls k _ _ l0 t649 _ cz0 HC0.out A8.out) ?_; rintro e w28 ⟨v650, rfl, ho0, hb⟩; refine ⟨_, rfl, ?_⟩; have HO651 := Aside0.mk (Kd.S_lower (Kd.S_new' ho0 (Kd.S_lt (by (with_reducible repeat (first | apply Kd.S_alloc | apply Kd.S_drewN | apply Kd.S_drew)); exact HO647.out))) (below_size bz)); replace HO647 := Aside0.mk (Kd.S_elder' (by (with_reducible repeat (first | apply Kd.S_alloc | apply Kd.S_drewN | apply Kd.S_drew)); exact HO647.out) (Kd.S_base ho0) hb); replace HB := Aside0.mk (below_step bz hb); (try clear hb); (try clear ho0); obtain ⟨Ao29, co29, eo29⟩ := Kd.S_slice HO651.out; subst eo29) | ((with_reducible refine gt (some 22) rfl ?_); refine gc Try.func55 (impl_TileDigest.calls k _ _ t649 a1 t652 _ (cz (Kd.S_reads' HO651.out).2.2) ((Kd.S_reads' HO651.out).2.1) A9.out) ?_; rintro e w30 ⟨rfl, hb⟩; refine ⟨_, rfl, ?_⟩; replace HO647 := Aside0.mk (Kd.S_below (by (with_reducible repeat (first | apply Kd.S_alloc | apply Kd.S_drewN | apply Kd.S_drew)); exact HO647.out) hb); replace HO651 := Aside0.mk (Kd.S_below (by (with_reducible repeat (first | apply Kd.S_alloc | apply Kd.S_drewN | apply Kd.S_drew)); exact HO651.out) hb); replace HB := Aside0.mk (below_step bz hb); (try clear hb)) | ((with_reducible refine gt (some 28) rfl ?_); refine gc Try.func28 (laws_toFeatureS.calls k _ _ l0 t653 _ cz0 HC0.out A11.out) ?_; rintro e w31 ⟨v654, rfl, ho0, hb⟩; refine ⟨_, rfl, ?_⟩; have HO655 := Aside0.mk (Kd.S_lower (Kd.S_new' (Kd.S_new' ho0 (Kd.S_lt (by (with_reducible repeat (first | apply Kd.S_alloc | apply Kd.S_drewN | apply Kd.S_drew)); exact HO647.out))) (Kd.S_lt (by (with_reducible repeat (first | apply Kd.S_alloc | apply Kd.S_drewN | apply Kd.S_drew)); exact HO651.out))) (below_size bz)); replace HO647 := Aside0.mk (Kd.S_elder' (by (with_reducible repeat (first | apply Kd.S_alloc | apply Kd.S_drewN | apply Kd.S_drew)); exact HO647.out) (Kd.S_base ho0) hb); replace HO651 := Aside0.mk (Kd.S_elder' (by (with_reducible repeat (first | apply Kd.S_alloc | apply Kd.S_drewN | apply Kd.S_drew)); exact HO651.out) (Kd.S_base ho0) hb); replace HB := Aside0.mk (below_step bz hb); (try clear hb); (try clear ho0); obtain ⟨Ao32, co32, eo32⟩ := Kd.S_slice HO655.out; subst eo32) | ((with_reducible refine gt (some 29) rfl ?_); refine gc Try.func31 (laws_eqFeatureS.calls k _ _ t649 _ _ t653 false _ (cz (Kd.S_reads' HO651.out).2.2) ((Kd.S_reads' HO651.out).2.1) (cz (Kd.S_reads' HO655.out).2.2) ((Kd.S_reads' HO655.out).2.1) A12.out) ?_; rintro e w33 ⟨rfl, hb⟩; refine ⟨_, rfl, ?_⟩; replace HO647 := Aside0.mk (Kd.S_below (by (with_reducible repeat (first | apply Kd.S_alloc | apply Kd.S_drewN | apply Kd.S_drew)); exact HO647.out) hb); replace HO651 := Aside0.mk (Kd.S_below (by (with_reducible repeat (first | apply Kd.S_alloc | apply Kd.S_drewN | apply Kd.S_drew)); exact HO651.out) hb); replace HO655 := Aside0.mk (Kd.S_below (by (with_reducible repeat (first | apply Kd.S_alloc | apply Kd.S_drewN | apply Kd.S_drew)); exact HO655.out) hb); replace HB := Aside0.mk (below_step bz hb); (try clear hb)))
    go_ret
    exact ⟨ez, bz⟩
  ·rw [if_neg c10] at H; have c10b0 : (t652 == t648) = false := beq_eq_false_iff_ne.mpr c10; have c10b1 : (t652 != t648) = true := bne_iff_ne.mpr c10; obtain rfl := Option.some.inj H
   go_enter Try.func12, Try.ntmps12; go_wp2_with (first | ((with_reducible refine gt (some 11) rfl ?_); refine gc Try.func26 (laws_szFeatureS.calls k _ _ l0 1048576 t644 _ (cz HR0.out) HC0.out A3.out) ?_; rintro e w34 ⟨rfl, hb⟩; refine ⟨_, rfl, ?_⟩; replace HB := Aside0.mk (below_step bz hb); (try clear hb)) | ((with_reducible refine gt (some 15) rfl ?_); refine gc Try.func28 (laws_toFeatureS.calls k _ _ l0 t645 _ cz0 HC0.out A6.out) ?_; rintro e w35 ⟨v646, rfl, ho0, hb⟩; refine ⟨_, rfl, ?_⟩; have HO647 := Aside0.mk (Kd.S_lower ho0 (below_size bz)); replace HB := Aside0.mk (below_step bz hb); (try clear hb); (try clear ho0); obtain ⟨Ao36, co36, eo36⟩ := Kd.S_slice HO647.out; subst eo36) | ((with_reducible refine gt (some 17) rfl ?_); refine gc Try.func54 (spec_TileDigest.calls k _ _ t645 a1 t648 _ (cz (Kd.S_reads' HO647.out).2.2) ((Kd.S_reads' HO647.out).2.1) A7.out) ?_; rintro e w37 ⟨rfl, hb⟩; refine ⟨_, rfl, ?_⟩; replace HO647 := Aside0.mk (Kd.S_below (by (with_reducible repeat (first | apply Kd.S_alloc | apply Kd.S_drewN | apply Kd.S_drew)); exact HO647.out) hb); replace HB := Aside0.mk (below_step bz hb); (try clear hb)) | ((with_reducible refine gt (some 19) rfl ?_); refine gc Try.func28 (laws_toFeatureS.calls k _ _ l0 t649 _ cz0 HC0.out A8.out) ?_; rintro e w38 ⟨v650, rfl, ho0, hb⟩; refine ⟨_, rfl, ?_⟩; have HO651 := Aside0.mk (Kd.S_lower (Kd.S_new' ho0 (Kd.S_lt (by (with_reducible repeat (first | apply Kd.S_alloc | apply Kd.S_drewN | apply Kd.S_drew)); exact HO647.out))) (below_size bz)); replace HO647 := Aside0.mk (Kd.S_elder' (by (with_reducible repeat (first | apply Kd.S_alloc | apply Kd.S_drewN | apply Kd.S_drew)); exact HO647.out) (Kd.S_base ho0) hb); replace HB := Aside0.mk (below_step bz hb); (try clear hb); (try clear ho0); obtain ⟨Ao39, co39, eo39⟩ := Kd.S_slice HO651.out; subst eo39) | ((with_reducible refine gt (some 22) rfl ?_); refine gc Try.func55 (impl_TileDigest.calls k _ _ t649 a1 t652 _ (cz (Kd.S_reads' HO651.out).2.2) ((Kd.S_reads' HO651.out).2.1) A9.out) ?_; rintro e w40 ⟨rfl, hb⟩; refine ⟨_, rfl, ?_⟩; replace HO647 := Aside0.mk (Kd.S_below (by (with_reducible repeat (first | apply Kd.S_alloc | apply Kd.S_drewN | apply Kd.S_drew)); exact HO647.out) hb); replace HO651 := Aside0.mk (Kd.S_below (by (with_reducible repeat (first | apply Kd.S_alloc | apply Kd.S_drewN | apply Kd.S_drew)); exact HO651.out) hb); replace HB := Aside0.mk (below_step bz hb); (try clear hb)))
   go_ret
   exact ⟨ez, bz⟩
end
end Go.Proofs.Ytdfehjfmihokpaa.PFnExactTileDigest
