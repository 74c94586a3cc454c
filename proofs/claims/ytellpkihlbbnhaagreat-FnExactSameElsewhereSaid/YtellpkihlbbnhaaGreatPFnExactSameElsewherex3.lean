
-- Written by a program of this session's (evlaw.py).
import Derived.Test.YtellpkihlbbnhaaGreatPFnExactSameElsewherex2
namespace Go.Proofs.YtellpkihlbbnhaaGreat.PFnExactSameElsewhere
open Go.RowKit Go.Proofs.YtellpkihlbbnhaaGreatW.PrintWords Go.Proofs.YtellpkihlbbnhaaGreatW.PrintLast Go.Proofs.YtellpkihlbbnhaaGreatW.PrintMore Go.Proofs.YtellpkihlbbnhaaGreatGeo Go.Proofs.YtellpkihlbbnhaaGreatHand Go.Proofs.YtellpkihlbbnhaaGreatMeet Go.Proofs.YtellpkihlbbnhaaGreatQuiet Go.Proofs.YtellpkihlbbnhaaGreatZ Go.Proofs.YtellpkihlbbnhaaGreatTwo
open Go Go.Proofs.YtellpkihlbbnhaaGreatEv
attribute [local go_sem] max2_int min2_int max_two min_two max_three min_three max_four min_four   -- for this text's walks alone
set_option linter.unusedVariables false
set_option linter.unusedSimpArgs false
set_option linter.unusedSimpArgs false
attribute [local go_sem high] eqA59
set_option linter.unusedVariables false
set_option linter.unusedSimpArgs false
set_option maxRecDepth 100000
noncomputable section
theorem spec_TileBox.ap_of {R : Type} {k : Nat} {h0 : Int} {r0 : S64} {r1 : Bool} {K : S64 → Bool → Option R} (h : spec_TileBox.run k (h0, ()) = some (r0, r1, ())) : spec_TileBox.ap k h0 K = K r0 r1 := by unfold spec_TileBox.ap; rw [h]; rfl
theorem spec_TileBox.snd : Snd env spec_TileBox.spec := evF_snd env_ok (sndC spec_l1In.snd (sndC spec_Min.snd (sndN)))
attribute [local irreducible] spec_TileBox.run
theorem spec_TileBox.rt (a0 : Int) (a1 : Int) (a2 : Int) (a3 : Int) (a4 : Bool) : spec_TileBox.ret (⟨(⟨a0, a1⟩ : S59), (⟨a2, a3⟩ : S59)⟩ : S64) a4 = some (spec_TileBox.toH (a0, a1, a2, a3, a4)) := rfl
theorem spec_TileBox.go {a0 : Int} {t} (h : spec_TileBox.f a0 = some t) (K : Nat) : spec_TileBox.run K (a0, ()) = some (spec_TileBox.toH t) := by
  rw [spec_TileBox.ef]
  (try dsimp only)
  (try simp only [tq_nat])
  (try simp only [tq_eq])
  unfold spec_TileBox.f at h
  repeat' (with_reducible first
   | exact nos h
   | (cases some_inj h; exact spec_TileBox.rt _ _ _ _ _)
   | (simp only [Option.bind_some] at h)
   | (refine ite_by h ?_ ?_ <;> (intro hc h; (try simp only [nrm] at hc)))
   | refine itT ?_
   | refine itF ?_
   | (refine bind_by h (fun t ht h => ?_); (first | refine (spec_l1In.ap_of (spec_l1In.go ht _)).trans ?_ | refine (spec_Min.ap_of (spec_Min.go ht _)).trans ?_); (try dsimp only at h ⊢))
   | (simp only [nr2] at h ⊢)
   | (exfalso; omega))
def spec_IsBox.Fs : List (Spc env) := [spec_IsPoint.spec]
def spec_IsBox.cut : Nat → Option (List (Lv SC)) := lk []
def spec_IsBox.ret (r0 : Bool) : Option (HL eΓ [.b]) := some (r0, ())
def spec_IsBox.run (k : Nat) (h : HL eΓ [.st .s64]) : Option (HL eΓ [.b]) := evF env spec_IsBox.Fs Tryz.f81 spec_IsBox.cut [.st .s64] [.b] k h
theorem spec_IsBox.ef (k : Nat) (h0 : S64) : spec_IsBox.run k (h0, ()) = spec_IsPoint.ap k (⟨h0.f0.f0, h0.f0.f1⟩ : S59) fun r1 => if r1 = true then (spec_IsPoint.ap k (⟨h0.f1.f0, h0.f1.f1⟩ : S59) fun r2 => if r2 = true then (if h0.f0.f0 ≤ h0.f1.f0 then (spec_IsBox.ret (decide (h0.f0.f1 ≤ h0.f1.f1))) else (spec_IsBox.ret false)) else (spec_IsBox.ret false)) else (spec_IsBox.ret false) := by kernel_rfl
def spec_IsBox.toH (t : Bool) : HL eΓ [.b] := (t, ())
def spec_IsBox.spec : Spc env := ⟨81, [.st .s64], [.b], spec_IsBox.run⟩
def spec_IsBox.ap {R : Type} (k : Nat) (h0 : S64) (K : Bool → Option R) : Option R := (spec_IsBox.run k (h0, ())).bind fun r => K (r.1 : Bool)
theorem spec_IsBox.ap_of {R : Type} {k : Nat} {h0 : S64} {r0 : Bool} {K : Bool → Option R} (h : spec_IsBox.run k (h0, ()) = some (r0, ())) : spec_IsBox.ap k h0 K = K r0 := by unfold spec_IsBox.ap; rw [h]; rfl
theorem spec_IsBox.snd : Snd env spec_IsBox.spec := evF_snd env_ok (sndC spec_IsPoint.snd (sndN))
attribute [local irreducible] spec_IsBox.run
theorem spec_IsBox.rt (a0 : Bool) : spec_IsBox.ret a0 = some (spec_IsBox.toH (a0)) := rfl
theorem spec_IsBox.go {a0_0 : Int} {a0_1 : Int} {a0_2 : Int} {a0_3 : Int} {t} (h : spec_IsBox.f a0_0 a0_1 a0_2 a0_3 = some t) (K : Nat) : spec_IsBox.run K ((⟨(⟨a0_0, a0_1⟩ : S59), (⟨a0_2, a0_3⟩ : S59)⟩ : S64), ()) = some (spec_IsBox.toH t) := by
  rw [spec_IsBox.ef]
  (try dsimp only)
  unfold spec_IsBox.f at h
  repeat' (with_reducible first
   | exact nos h
   | (cases some_inj h; exact spec_IsBox.rt _)
   | (simp only [Option.bind_some] at h)
   | (refine ite_by h ?_ ?_ <;> (intro hc h; (try simp only [nrm] at hc)))
   | refine itT ?_
   | refine itF ?_
   | (refine bind_by h (fun t ht h => ?_); refine (spec_IsPoint.ap_of (spec_IsPoint.go ht _)).trans ?_; (try dsimp only at h ⊢))
   | (simp only [nr2] at h ⊢)
   | (exfalso; omega))
def spec_InBox.Fs : List (Spc env) := [spec_IsBox.spec, spec_l1In.spec]
def spec_InBox.cut : Nat → Option (List (Lv SC)) := lk []
def spec_InBox.ret (r0 : Bool) : Option (HL eΓ [.b]) := some (r0, ())
def spec_InBox.run (k : Nat) (h : HL eΓ [.st .s64, .st .s59]) : Option (HL eΓ [.b]) := evF env spec_InBox.Fs Tryz.f139 spec_InBox.cut [.st .s64, .st .s59] [.b] k h
theorem spec_InBox.ef (k : Nat) (h0 : S64) (h1 : S59) : spec_InBox.run k (h0, h1, ()) = spec_IsBox.ap k (⟨(⟨h0.f0.f0, h0.f0.f1⟩ : S59), (⟨h0.f1.f0, h0.f1.f1⟩ : S59)⟩ : S64) fun r1 => if r1 = true then (spec_l1In.ap k h1.f0 h0.f0.f0 h0.f1.f0 fun r2 => if r2 = true then (spec_l1In.ap k h1.f1 h0.f0.f1 h0.f1.f1 fun r3 => spec_InBox.ret r3) else (spec_InBox.ret false)) else (spec_InBox.ret false) := by kernel_rfl
def spec_InBox.toH (t : Bool) : HL eΓ [.b] := (t, ())
def spec_InBox.spec : Spc env := ⟨139, [.st .s64, .st .s59], [.b], spec_InBox.run⟩
def spec_InBox.ap {R : Type} (k : Nat) (h0 : S64) (h1 : S59) (K : Bool → Option R) : Option R := (spec_InBox.run k (h0, h1, ())).bind fun r => K (r.1 : Bool)
theorem spec_InBox.ap_of {R : Type} {k : Nat} {h0 : S64} {h1 : S59} {r0 : Bool} {K : Bool → Option R} (h : spec_InBox.run k (h0, h1, ()) = some (r0, ())) : spec_InBox.ap k h0 h1 K = K r0 := by unfold spec_InBox.ap; rw [h]; rfl
theorem spec_InBox.snd : Snd env spec_InBox.spec := evF_snd env_ok (sndC spec_IsBox.snd (sndC spec_l1In.snd (sndN)))
attribute [local irreducible] spec_InBox.run
theorem spec_InBox.rt (a0 : Bool) : spec_InBox.ret a0 = some (spec_InBox.toH (a0)) := rfl
theorem spec_InBox.go {a0_0 : Int} {a0_1 : Int} {a0_2 : Int} {a0_3 : Int} {a1_0 : Int} {a1_1 : Int} {t} (h : spec_InBox.f a0_0 a0_1 a0_2 a0_3 a1_0 a1_1 = some t) (K : Nat) : spec_InBox.run K ((⟨(⟨a0_0, a0_1⟩ : S59), (⟨a0_2, a0_3⟩ : S59)⟩ : S64), (⟨a1_0, a1_1⟩ : S59), ()) = some (spec_InBox.toH t) := by
  rw [spec_InBox.ef]
  (try dsimp only)
  unfold spec_InBox.f at h
  repeat' (with_reducible first
   | exact nos h
   | (cases some_inj h; exact spec_InBox.rt _)
   | (simp only [Option.bind_some] at h)
   | (refine ite_by h ?_ ?_ <;> (intro hc h; (try simp only [nrm] at hc)))
   | refine itT ?_
   | refine itF ?_
   | (refine bind_by h (fun t ht h => ?_); (first | refine (spec_IsBox.ap_of (spec_IsBox.go ht _)).trans ?_ | refine (spec_l1In.ap_of (spec_l1In.go ht _)).trans ?_); (try dsimp only at h ⊢))
   | (simp only [nr2] at h ⊢)
   | (exfalso; omega))
def spec_BoxOf.Fs : List (Spc env) := [spec_IsPoint.spec, spec_Min.spec, spec_Max.spec]
def spec_BoxOf.fin : St eΓ → Option (HL eΓ [.st .s64, .b]) := finR env Tryz.f184.results.toList [.st .s64, .b]
def spec_BoxOf.cut : Nat → Option (List (Lv SC)) := lk [(5, [⟨0, none, false⟩, ⟨2, none, false⟩, ⟨4, none, false⟩, ⟨5, none, false⟩])]
def spec_BoxOf.ret (r0 : S64) (r1 : Bool) : Option (HL eΓ [.st .s64, .b]) := some (r0, r1, ())
def spec_BoxOf.p5 (k : Nat) (x5 : Int) (x0 : List S59) (b1_0 : Int) (b1_1 : Int) (b1_2 : Int) (b1_3 : Int) (b2_0 : Int) (b2_1 : Int) (b2_2 : Int) (b2_3 : Int) : Option (HL eΓ [.st .s64, .b]) := evM env spec_BoxOf.Fs Tryz.f184.ntmps spec_BoxOf.fin spec_BoxOf.cut k [.code (sub_ [1, 1, 1, 0, 1, 0, 0, 0, 0] (bodyOf Tryz.f184)), .code (sub_ [1, 1, 1, 0, 1, 0, 0, 0, 1] (bodyOf Tryz.f184)), .code (sub_ [1, 1, 1, 0, 1, 0, 0, 1] (bodyOf Tryz.f184)), .lp (sub_ [1, 1, 1, 0, 1, 0, 0] (bodyOf Tryz.f184)), .blk 0, .code (sub_ [1, 1, 1, 1] (bodyOf Tryz.f184))] (mkSt [(0, .c (.sl 0)), (2, .c (.ptr 1 0)), (4, .c (.ptr 2 0)), (5, .c (.v (.int .i64 x5)))] [.row .ro 59 (.st .s59) x0, .box 64 [.v (.int .i64 b1_0), .v (.int .i64 b1_1), .v (.int .i64 b1_2), .v (.int .i64 b1_3)], .box 64 [.v (.int .i64 b2_0), .v (.int .i64 b2_1), .v (.int .i64 b2_2), .v (.int .i64 b2_3)]])
theorem spec_BoxOf.e5 (k : Nat) (x5 : Int) (x0 : List S59) (b1_0 : Int) (b1_1 : Int) (b1_2 : Int) (b1_3 : Int) (b2_0 : Int) (b2_1 : Int) (b2_2 : Int) (b2_3 : Int) : spec_BoxOf.p5 (k + 1) x5 x0 b1_0 b1_1 b1_2 b1_3 b2_0 b2_1 b2_2 b2_3 = if x5 < (x0.length : Int) then (if 0 ≤ x5 then (if x5 < (x0.length : Int) then (spec_IsPoint.ap k (⟨(rd_T59 x0 x5).f0, (rd_T59 x0 x5).f1⟩ : S59) fun r1 => if (!r1) = true then (spec_BoxOf.ret (⟨(⟨0, 0⟩ : S59), (⟨0, 0⟩ : S59)⟩ : S64) false) else (if 0 ≤ x5 then (if x5 < (x0.length : Int) then (spec_Min.ap k b2_0 ((rd_T59 x0 x5).f0) fun r2 => if 0 ≤ x5 then (if x5 < (x0.length : Int) then (spec_Min.ap k b2_1 ((rd_T59 x0 x5).f1) fun r3 => if 0 ≤ x5 then (if x5 < (x0.length : Int) then (spec_Max.ap k b2_2 ((rd_T59 x0 x5).f0) fun r4 => if 0 ≤ x5 then (if x5 < (x0.length : Int) then (spec_Max.ap k b2_3 ((rd_T59 x0 x5).f1) fun r5 => spec_BoxOf.p5 k (wrap64 (x5 + 1)) x0 b1_0 b1_1 b1_2 b1_3 r2 r3 r4 r5) else none) else none) else none) else none) else none) else none) else none) else none)) else none) else none) else (spec_BoxOf.ret (⟨(⟨b2_0, b2_1⟩ : S59), (⟨b2_2, b2_3⟩ : S59)⟩ : S64) true) := by kernel_rfl
def spec_BoxOf.run (k : Nat) (h : HL eΓ [.l 59 (.st .s59)]) : Option (HL eΓ [.st .s64, .b]) := evF env spec_BoxOf.Fs Tryz.f184 spec_BoxOf.cut [.l 59 (.st .s59)] [.st .s64, .b] k h
theorem spec_BoxOf.ef (k : Nat) (h0 : List S59) : spec_BoxOf.run k (h0, ()) = if (h0.length : Int) = 0 then (spec_BoxOf.ret (⟨(⟨0, 0⟩ : S59), (⟨0, 0⟩ : S59)⟩ : S64) false) else (if 0 < (h0.length : Int) then (if 0 < (h0.length : Int) then (spec_BoxOf.p5 k 0 h0 0 0 0 0 ((rd_T59 h0 0).f0) ((rd_T59 h0 0).f1) ((rd_T59 h0 0).f0) ((rd_T59 h0 0).f1)) else none) else none) := by kernel_rfl
def spec_BoxOf.toH (t : Int × Int × Int × Int × Bool) : HL eΓ [.st .s64, .b] := ((⟨(⟨t.1, t.2.1⟩ : S59), (⟨t.2.2.1, t.2.2.2.1⟩ : S59)⟩ : S64), t.2.2.2.2, ())
def spec_BoxOf.spec : Spc env := ⟨184, [.l 59 (.st .s59)], [.st .s64, .b], spec_BoxOf.run⟩
def spec_BoxOf.ap {R : Type} (k : Nat) (h0 : List S59) (K : S64 → Bool → Option R) : Option R := (spec_BoxOf.run k (h0, ())).bind fun r => K (r.1 : S64) (r.2.1 : Bool)
theorem spec_BoxOf.ap_of {R : Type} {k : Nat} {h0 : List S59} {r0 : S64} {r1 : Bool} {K : S64 → Bool → Option R} (h : spec_BoxOf.run k (h0, ()) = some (r0, r1, ())) : spec_BoxOf.ap k h0 K = K r0 r1 := by unfold spec_BoxOf.ap; rw [h]; rfl
theorem spec_BoxOf.snd : Snd env spec_BoxOf.spec := evF_snd env_ok (sndC spec_IsPoint.snd (sndC spec_Min.snd (sndC spec_Max.snd (sndN))))
attribute [local irreducible] spec_BoxOf.run
theorem spec_BoxOf.rt (a0 : Int) (a1 : Int) (a2 : Int) (a3 : Int) (a4 : Bool) : spec_BoxOf.ret (⟨(⟨a0, a1⟩ : S59), (⟨a2, a3⟩ : S59)⟩ : S64) a4 = some (spec_BoxOf.toH (a0, a1, a2, a3, a4)) := rfl
theorem spec_BoxOf.br (n : Nat) : (∀ K, n ≤ K → ∀ (x5 : Int) (x0 : List S59) (b1_0 : Int) (b1_1 : Int) (b1_2 : Int) (b1_3 : Int) (b2_0 : Int) (b2_1 : Int) (b2_2 : Int) (b2_3 : Int) t, spec_BoxOf.l0 n x0 x5 b2_0 b2_1 b2_2 b2_3 = some t → spec_BoxOf.p5 K x5 x0 b1_0 b1_1 b1_2 b1_3 b2_0 b2_1 b2_2 b2_3 = some (spec_BoxOf.toH t)) := by
  induction n using Nat.strongRecOn with
  | _ n ih =>
  intro K hK x5 x0 b1_0 b1_1 b1_2 b1_3 b2_0 b2_1 b2_2 b2_3 t h
  all_goals (rcases n with _ | k)
  all_goals (try (exact nos h))
  all_goals (obtain ⟨K, rfl⟩ : ∃ q, K = q + 1 := ⟨K - 1, by omega⟩)
  all_goals (first | rw [spec_BoxOf.e5])
  all_goals (simp only [spec_BoxOf.l0] at h)
  repeat' (with_reducible first
   | exact nos h
   | (cases some_inj h; exact spec_BoxOf.rt _ _ _ _ _)
   | exact (ih _ (by omega)) _ (by omega) _ _ _ _ _ _ _ _ _ _ _ h
   | (simp only [Option.bind_some] at h)
   | (refine ite_by h ?_ ?_ <;> (intro hc h; (try simp only [nrm] at hc)))
   | refine itT ?_
   | refine itF ?_
   | (refine bind_by h (fun t ht h => ?_); (first | refine (spec_IsPoint.ap_of (spec_IsPoint.go ht _)).trans ?_ | refine (spec_Min.ap_of (spec_Min.go ht _)).trans ?_ | refine (spec_Max.ap_of (spec_Max.go ht _)).trans ?_); (try dsimp only at h ⊢))
   | (simp only [nr2] at h ⊢)
   | (exfalso; omega))
theorem spec_BoxOf.go {k : Nat} {l0 : List S59} {t} (h : spec_BoxOf.f k l0 = some t) (K : Nat) (hK : k ≤ K) : spec_BoxOf.run K (l0, ()) = some (spec_BoxOf.toH t) := by
  rw [spec_BoxOf.ef]
  (try dsimp only)
  unfold spec_BoxOf.f at h
  repeat' (with_reducible first
   | exact nos h
   | (cases some_inj h; exact spec_BoxOf.rt _ _ _ _ _)
   | exact (spec_BoxOf.br _) _ (by omega) _ _ _ _ _ _ _ _ _ _ _ h
   | (simp only [Option.bind_some] at h)
   | (refine ite_by h ?_ ?_ <;> (intro hc h; (try simp only [nrm] at hc)))
   | refine itT ?_
   | refine itF ?_
   | (refine bind_by h (fun t ht h => ?_); (first | refine (spec_IsPoint.ap_of (spec_IsPoint.go ht _)).trans ?_ | refine (spec_Min.ap_of (spec_Min.go ht _)).trans ?_ | refine (spec_Max.ap_of (spec_Max.go ht _)).trans ?_); (try dsimp only at h ⊢))
   | (simp only [nr2] at h ⊢)
   | (exfalso; omega))
def spec_BoxesMeet.Fs : List (Spc env) := [spec_IsBox.spec]
def spec_BoxesMeet.cut : Nat → Option (List (Lv SC)) := lk []
def spec_BoxesMeet.ret (r0 : Bool) : Option (HL eΓ [.b]) := some (r0, ())
def spec_BoxesMeet.run (k : Nat) (h : HL eΓ [.st .s64, .st .s64]) : Option (HL eΓ [.b]) := evF env spec_BoxesMeet.Fs Tryz.f185 spec_BoxesMeet.cut [.st .s64, .st .s64] [.b] k h
theorem spec_BoxesMeet.ef (k : Nat) (h0 : S64) (h1 : S64) : spec_BoxesMeet.run k (h0, h1, ()) = spec_IsBox.ap k (⟨(⟨h0.f0.f0, h0.f0.f1⟩ : S59), (⟨h0.f1.f0, h0.f1.f1⟩ : S59)⟩ : S64) fun r1 => if r1 = true then (spec_IsBox.ap k (⟨(⟨h1.f0.f0, h1.f0.f1⟩ : S59), (⟨h1.f1.f0, h1.f1.f1⟩ : S59)⟩ : S64) fun r2 => if r2 = true then (if h0.f0.f0 ≤ h1.f1.f0 then (if h1.f0.f0 ≤ h0.f1.f0 then (if h0.f0.f1 ≤ h1.f1.f1 then (spec_BoxesMeet.ret (decide (h1.f0.f1 ≤ h0.f1.f1))) else (spec_BoxesMeet.ret false)) else (spec_BoxesMeet.ret false)) else (spec_BoxesMeet.ret false)) else (spec_BoxesMeet.ret false)) else (spec_BoxesMeet.ret false) := by kernel_rfl
def spec_BoxesMeet.toH (t : Bool) : HL eΓ [.b] := (t, ())
def spec_BoxesMeet.spec : Spc env := ⟨185, [.st .s64, .st .s64], [.b], spec_BoxesMeet.run⟩
def spec_BoxesMeet.ap {R : Type} (k : Nat) (h0 : S64) (h1 : S64) (K : Bool → Option R) : Option R := (spec_BoxesMeet.run k (h0, h1, ())).bind fun r => K (r.1 : Bool)
theorem spec_BoxesMeet.ap_of {R : Type} {k : Nat} {h0 : S64} {h1 : S64} {r0 : Bool} {K : Bool → Option R} (h : spec_BoxesMeet.run k (h0, h1, ()) = some (r0, ())) : spec_BoxesMeet.ap k h0 h1 K = K r0 := by unfold spec_BoxesMeet.ap; rw [h]; rfl
theorem spec_BoxesMeet.snd : Snd env spec_BoxesMeet.spec := evF_snd env_ok (sndC spec_IsBox.snd (sndN))
attribute [local irreducible] spec_BoxesMeet.run
theorem spec_BoxesMeet.rt (a0 : Bool) : spec_BoxesMeet.ret a0 = some (spec_BoxesMeet.toH (a0)) := rfl
theorem spec_BoxesMeet.go {a0_0 : Int} {a0_1 : Int} {a0_2 : Int} {a0_3 : Int} {a1_0 : Int} {a1_1 : Int} {a1_2 : Int} {a1_3 : Int} {t} (h : spec_BoxesMeet.f a0_0 a0_1 a0_2 a0_3 a1_0 a1_1 a1_2 a1_3 = some t) (K : Nat) : spec_BoxesMeet.run K ((⟨(⟨a0_0, a0_1⟩ : S59), (⟨a0_2, a0_3⟩ : S59)⟩ : S64), (⟨(⟨a1_0, a1_1⟩ : S59), (⟨a1_2, a1_3⟩ : S59)⟩ : S64), ()) = some (spec_BoxesMeet.toH t) := by
  rw [spec_BoxesMeet.ef]
  (try dsimp only)
  unfold spec_BoxesMeet.f at h
  repeat' (with_reducible first
   | exact nos h
   | (cases some_inj h; exact spec_BoxesMeet.rt _)
   | (simp only [Option.bind_some] at h)
   | (refine ite_by h ?_ ?_ <;> (intro hc h; (try simp only [nrm] at hc)))
   | refine itT ?_
   | refine itF ?_
   | (refine bind_by h (fun t ht h => ?_); refine (spec_IsBox.ap_of (spec_IsBox.go ht _)).trans ?_; (try dsimp only at h ⊢))
   | (simp only [nr2] at h ⊢)
   | (exfalso; omega))
def spec_MeetsBox.Fs : List (Spc env) := [spec_BoxOf.spec, spec_IsSegment.spec, spec_BoxesMeet.spec, spec_SideOf.spec]
def spec_MeetsBox.fin : St eΓ → Option (HL eΓ [.b]) := finR env Tryz.f140.results.toList [.b]
def spec_MeetsBox.cut : Nat → Option (List (Lv SC)) := lk [(8, [⟨2, none, false⟩, ⟨7, none, false⟩, ⟨8, none, false⟩, ⟨9, none, false⟩, ⟨10, none, false⟩])]
def spec_MeetsBox.ret (r0 : Bool) : Option (HL eΓ [.b]) := some (r0, ())
def spec_MeetsBox.p8 (k : Nat) (x8 : Int) (x9 : Int) (x10 : Int) (b0_0 : Int) (b0_1 : Int) (b0_2 : Int) (b0_3 : Int) (x7 : List S59) : Option (HL eΓ [.b]) := evM env spec_MeetsBox.Fs Tryz.f140.ntmps spec_MeetsBox.fin spec_MeetsBox.cut k [.code (sub_ [1, 1, 1, 1, 1, 1, 0, 1, 0, 0, 0, 0] (bodyOf Tryz.f140)), .code (sub_ [1, 1, 1, 1, 1, 1, 0, 1, 0, 0, 0, 1] (bodyOf Tryz.f140)), .code (sub_ [1, 1, 1, 1, 1, 1, 0, 1, 0, 0, 1] (bodyOf Tryz.f140)), .lp (sub_ [1, 1, 1, 1, 1, 1, 0, 1, 0, 0] (bodyOf Tryz.f140)), .blk 0, .code (sub_ [1, 1, 1, 1, 1, 1, 1] (bodyOf Tryz.f140))] (mkSt [(2, .c (.ptr 0 0)), (7, .c (.sl 1)), (8, .c (.v (.int .i64 x8))), (9, .c (.v (.int .i64 x9))), (10, .c (.v (.int .i64 x10)))] [.box 149 [.v (.int .i64 b0_0), .v (.int .i64 b0_1), .v (.int .i64 b0_2), .v (.int .i64 b0_3)], .row .own 59 (.st .s59) x7])
theorem spec_MeetsBox.e8 (k : Nat) (x8 : Int) (x9 : Int) (x10 : Int) (b0_0 : Int) (b0_1 : Int) (b0_2 : Int) (b0_3 : Int) (x7 : List S59) : spec_MeetsBox.p8 (k + 1) x8 x9 x10 b0_0 b0_1 b0_2 b0_3 x7 = if x10 < 4 then (if 0 ≤ x10 then (if x10 < (x7.length : Int) then (spec_SideOf.ap k (⟨b0_0, b0_1⟩ : S59) (⟨b0_2, b0_3⟩ : S59) (⟨(rd_T59 x7 x10).f0, (rd_T59 x7 x10).f1⟩ : S59) fun r1 => if r1 = 1 then (spec_MeetsBox.p8 k (wrap64 (x8 + 1)) x9 (wrap64 (x10 + 1)) b0_0 b0_1 b0_2 b0_3 x7) else (if r1 = (-1) then (spec_MeetsBox.p8 k x8 (wrap64 (x9 + 1)) (wrap64 (x10 + 1)) b0_0 b0_1 b0_2 b0_3 x7) else (spec_MeetsBox.p8 k x8 x9 (wrap64 (x10 + 1)) b0_0 b0_1 b0_2 b0_3 x7))) else none) else none) else (if x8 < 4 then (spec_MeetsBox.ret (decide (x9 < 4))) else (spec_MeetsBox.ret false)) := by kernel_rfl
def spec_MeetsBox.run (k : Nat) (h : HL eΓ [.st .s149, .st .s64]) : Option (HL eΓ [.b]) := evF env spec_MeetsBox.Fs Tryz.f140 spec_MeetsBox.cut [.st .s149, .st .s64] [.b] k h
theorem spec_MeetsBox.ef (k : Nat) (h0 : S149) (h1 : S64) : spec_MeetsBox.run k (h0, h1, ()) = spec_BoxOf.ap k ([(⟨h0.f0.f0, h0.f0.f1⟩ : S59), (⟨h0.f1.f0, h0.f1.f1⟩ : S59)] : List S59) fun r1_0 r1_1 => spec_IsSegment.ap k (⟨(⟨h0.f0.f0, h0.f0.f1⟩ : S59), (⟨h0.f1.f0, h0.f1.f1⟩ : S59)⟩ : S149) fun r2 => if (!r2) = true then (spec_MeetsBox.ret false) else (spec_BoxesMeet.ap k (⟨(⟨r1_0.f0.f0, r1_0.f0.f1⟩ : S59), (⟨r1_0.f1.f0, r1_0.f1.f1⟩ : S59)⟩ : S64) (⟨(⟨h1.f0.f0, h1.f0.f1⟩ : S59), (⟨h1.f1.f0, h1.f1.f1⟩ : S59)⟩ : S64) fun r3 => if (!r3) = true then (spec_MeetsBox.ret false) else (spec_MeetsBox.p8 k 0 0 0 h0.f0.f0 h0.f0.f1 h0.f1.f0 h0.f1.f1 ([(⟨h1.f0.f0, h1.f0.f1⟩ : S59), (⟨h1.f0.f0, h1.f1.f1⟩ : S59), (⟨h1.f1.f0, h1.f1.f1⟩ : S59), (⟨h1.f1.f0, h1.f0.f1⟩ : S59)] : List S59))) := by kernel_rfl
def spec_MeetsBox.toH (t : Bool) : HL eΓ [.b] := (t, ())
def spec_MeetsBox.spec : Spc env := ⟨140, [.st .s149, .st .s64], [.b], spec_MeetsBox.run⟩
def spec_MeetsBox.ap {R : Type} (k : Nat) (h0 : S149) (h1 : S64) (K : Bool → Option R) : Option R := (spec_MeetsBox.run k (h0, h1, ())).bind fun r => K (r.1 : Bool)
theorem spec_MeetsBox.ap_of {R : Type} {k : Nat} {h0 : S149} {h1 : S64} {r0 : Bool} {K : Bool → Option R} (h : spec_MeetsBox.run k (h0, h1, ()) = some (r0, ())) : spec_MeetsBox.ap k h0 h1 K = K r0 := by unfold spec_MeetsBox.ap; rw [h]; rfl
theorem spec_MeetsBox.snd : Snd env spec_MeetsBox.spec := evF_snd env_ok (sndC spec_BoxOf.snd (sndC spec_IsSegment.snd (sndC spec_BoxesMeet.snd (sndC spec_SideOf.snd (sndN)))))
attribute [local irreducible] spec_MeetsBox.run
theorem spec_MeetsBox.rt (a0 : Bool) : spec_MeetsBox.ret a0 = some (spec_MeetsBox.toH (a0)) := rfl
theorem spec_MeetsBox.br (n : Nat) : (∀ K, n ≤ K → ∀ (x8 : Int) (x9 : Int) (x10 : Int) (b0_0 : Int) (b0_1 : Int) (b0_2 : Int) (b0_3 : Int) (x7 : List S59) t, spec_MeetsBox.l0 n x7 x8 x9 x10 b0_0 b0_1 b0_2 b0_3 = some t → spec_MeetsBox.p8 K x8 x9 x10 b0_0 b0_1 b0_2 b0_3 x7 = some (spec_MeetsBox.toH t)) := by
  induction n using Nat.strongRecOn with
  | _ n ih =>
  intro K hK x8 x9 x10 b0_0 b0_1 b0_2 b0_3 x7 t h
  all_goals (rcases n with _ | k)
  all_goals (try (exact nos h))
  all_goals (obtain ⟨K, rfl⟩ : ∃ q, K = q + 1 := ⟨K - 1, by omega⟩)
  all_goals (first | rw [spec_MeetsBox.e8])
  all_goals (simp only [spec_MeetsBox.l0] at h)
  repeat' (with_reducible first
   | exact nos h
   | (cases some_inj h; exact spec_MeetsBox.rt _)
   | exact (ih _ (by omega)) _ (by omega) _ _ _ _ _ _ _ _ _ h
   | ((have q : spec_MeetsBox.j0 k _ _ _ _ _ _ _ _ _ = some _ := h; clear q); rcases k with _ | k <;> simp only [spec_MeetsBox.j0, reduceCtorEq] at h)
   | (simp only [Option.bind_some] at h)
   | (refine ite_by h ?_ ?_ <;> (intro hc h; (try simp only [nrm] at hc)))
   | refine itT ?_
   | refine itF ?_
   | (refine bind_by h (fun t ht h => ?_); (first | refine (spec_BoxOf.ap_of (spec_BoxOf.go ht _ (by omega))).trans ?_ | refine (spec_IsSegment.ap_of (spec_IsSegment.go ht _)).trans ?_ | refine (spec_BoxesMeet.ap_of (spec_BoxesMeet.go ht _)).trans ?_ | refine (spec_SideOf.ap_of (spec_SideOf.go ht _)).trans ?_); (try dsimp only at h ⊢))
   | (simp only [nr2] at h ⊢)
   | (exfalso; omega))
theorem spec_MeetsBox.go {k : Nat} {a0_0 : Int} {a0_1 : Int} {a0_2 : Int} {a0_3 : Int} {a1_0 : Int} {a1_1 : Int} {a1_2 : Int} {a1_3 : Int} {t} (h : spec_MeetsBox.f k a0_0 a0_1 a0_2 a0_3 a1_0 a1_1 a1_2 a1_3 = some t) (K : Nat) (hK : k ≤ K) : spec_MeetsBox.run K ((⟨(⟨a0_0, a0_1⟩ : S59), (⟨a0_2, a0_3⟩ : S59)⟩ : S149), (⟨(⟨a1_0, a1_1⟩ : S59), (⟨a1_2, a1_3⟩ : S59)⟩ : S64), ()) = some (spec_MeetsBox.toH t) := by
  rw [spec_MeetsBox.ef]
  (try dsimp only)
  unfold spec_MeetsBox.f at h
  repeat' (with_reducible first
   | exact nos h
   | (cases some_inj h; exact spec_MeetsBox.rt _)
   | exact (spec_MeetsBox.br _) _ (by omega) _ _ _ _ _ _ _ _ _ h
   | ((have q : spec_MeetsBox.j0 k _ _ _ _ _ _ _ _ _ = some _ := h; clear q); rcases k with _ | k <;> simp only [spec_MeetsBox.j0, reduceCtorEq] at h)
   | (simp only [Option.bind_some] at h)
   | (refine ite_by h ?_ ?_ <;> (intro hc h; (try simp only [nrm] at hc)))
   | refine itT ?_
   | refine itF ?_
   | (refine bind_by h (fun t ht h => ?_); (first | refine (spec_BoxOf.ap_of (spec_BoxOf.go ht _ (by omega))).trans ?_ | refine (spec_IsSegment.ap_of (spec_IsSegment.go ht _)).trans ?_ | refine (spec_BoxesMeet.ap_of (spec_BoxesMeet.go ht _)).trans ?_ | refine (spec_SideOf.ap_of (spec_SideOf.go ht _)).trans ?_); (try dsimp only at h ⊢))
   | (simp only [nr2] at h ⊢)
   | (exfalso; omega))
def spec_l20Pieces.Fs : List (Spc env) := [spec_InBox.spec, spec_MeetsBox.spec]
def spec_l20Pieces.fin : St eΓ → Option (HL eΓ [.l 83 (.st .s83)]) := finR env Tryz.f104.results.toList [.l 83 (.st .s83)]
def spec_l20Pieces.cut : Nat → Option (List (Lv SC)) := lk [(5, [⟨1, none, false⟩, ⟨3, none, false⟩, ⟨5, none, false⟩, ⟨7, none, false⟩, ⟨8, none, false⟩])]
def spec_l20Pieces.ret (r0 : List S83) : Option (HL eΓ [.l 83 (.st .s83)]) := some (r0, ())
def spec_l20Pieces.p5 (k : Nat) (x8 : Int) (x1 : List S149) (b1_0 : Int) (b1_1 : Int) (b1_2 : Int) (b1_3 : ByteArray) (b2_0 : Int) (b2_1 : Int) (b2_2 : Int) (b2_3 : Int) (x7 : List S83) (b4 : List S59) : Option (HL eΓ [.l 83 (.st .s83)]) := evM env spec_l20Pieces.Fs Tryz.f104.ntmps spec_l20Pieces.fin spec_l20Pieces.cut k [.code (sub_ [1, 1, 1, 0, 1, 0, 0, 0, 0] (bodyOf Tryz.f104)), .code (sub_ [1, 1, 1, 0, 1, 0, 0, 0, 1] (bodyOf Tryz.f104)), .code (sub_ [1, 1, 1, 0, 1, 0, 0, 1] (bodyOf Tryz.f104)), .lp (sub_ [1, 1, 1, 0, 1, 0, 0] (bodyOf Tryz.f104)), .blk 0, .code (sub_ [1, 1, 1, 1] (bodyOf Tryz.f104))] (mkSt [(1, .c (.sl 0)), (3, .c (.ptr 1 0)), (5, .c (.ptr 2 0)), (7, .c (.sl 3)), (8, .c (.v (.int .i64 x8)))] [.row .ro 149 (.st .s149) x1, .box 57 [.v (.int .i64 b1_0), .v (.int .i64 b1_1), .v (.int .i64 b1_2), .v (.string b1_3), .sl 4], .box 64 [.v (.int .i64 b2_0), .v (.int .i64 b2_1), .v (.int .i64 b2_2), .v (.int .i64 b2_3)], .row .own 83 (.st .s83) x7, .row .ro 59 (.st .s59) b4])
theorem spec_l20Pieces.e5 (k : Nat) (x8 : Int) (x1 : List S149) (b1_0 : Int) (b1_1 : Int) (b1_2 : Int) (b1_3 : ByteArray) (b2_0 : Int) (b2_1 : Int) (b2_2 : Int) (b2_3 : Int) (x7 : List S83) (b4 : List S59) : spec_l20Pieces.p5 (k + 1) x8 x1 b1_0 b1_1 b1_2 b1_3 b2_0 b2_1 b2_2 b2_3 x7 b4 = if x8 < (x1.length : Int) then (if 0 ≤ x8 then (if x8 < (x1.length : Int) then (spec_MeetsBox.ap k (⟨(⟨(rd_T149 x1 x8).f0.f0, (rd_T149 x1 x8).f0.f1⟩ : S59), (⟨(rd_T149 x1 x8).f1.f0, (rd_T149 x1 x8).f1.f1⟩ : S59)⟩ : S149) (⟨(⟨b2_0, b2_1⟩ : S59), (⟨b2_2, b2_3⟩ : S59)⟩ : S64) fun r1 => if r1 = true then (if (x7.length + 1) * 16 ≤ 140737488355328 then (spec_l20Pieces.p5 k (wrap64 (x8 + 1)) x1 b1_0 b1_1 b1_2 b1_3 b2_0 b2_1 b2_2 b2_3 (x7 ++ [(⟨b1_0, x8⟩ : S83)]) b4) else none) else (spec_l20Pieces.p5 k (wrap64 (x8 + 1)) x1 b1_0 b1_1 b1_2 b1_3 b2_0 b2_1 b2_2 b2_3 x7 b4)) else none) else none) else (spec_l20Pieces.ret x7) := by kernel_rfl
def spec_l20Pieces.run (k : Nat) (h : HL eΓ [.st .s57, .l 149 (.st .s149), .st .s64]) : Option (HL eΓ [.l 83 (.st .s83)]) := evF env spec_l20Pieces.Fs Tryz.f104 spec_l20Pieces.cut [.st .s57, .l 149 (.st .s149), .st .s64] [.l 83 (.st .s83)] k h
theorem spec_l20Pieces.ef (k : Nat) (h0 : S57) (h1 : List S149) (h2 : S64) : spec_l20Pieces.run k (h0, h1, h2, ()) = if h0.f1 = 1 then (if 0 < (h0.f4.length : Int) then (spec_InBox.ap k (⟨(⟨h2.f0.f0, h2.f0.f1⟩ : S59), (⟨h2.f1.f0, h2.f1.f1⟩ : S59)⟩ : S64) (⟨(rd_T59 h0.f4 0).f0, (rd_T59 h0.f4 0).f1⟩ : S59) fun r1 => if r1 = true then (spec_l20Pieces.ret ([(⟨h0.f0, 0⟩ : S83)] : List S83)) else (spec_l20Pieces.p5 k 0 h1 h0.f0 h0.f1 h0.f2 h0.f3 h2.f0.f0 h2.f0.f1 h2.f1.f0 h2.f1.f1 ([] : List S83) h0.f4)) else none) else (spec_l20Pieces.p5 k 0 h1 h0.f0 h0.f1 h0.f2 h0.f3 h2.f0.f0 h2.f0.f1 h2.f1.f0 h2.f1.f1 ([] : List S83) h0.f4) := by kernel_rfl
def spec_l20Pieces.toH (t : (List (S83))) : HL eΓ [.l 83 (.st .s83)] := (t, ())
def spec_l20Pieces.spec : Spc env := ⟨104, [.st .s57, .l 149 (.st .s149), .st .s64], [.l 83 (.st .s83)], spec_l20Pieces.run⟩
def spec_l20Pieces.ap {R : Type} (k : Nat) (h0 : S57) (h1 : List S149) (h2 : S64) (K : (List S83) → Option R) : Option R := (spec_l20Pieces.run k (h0, h1, h2, ())).bind fun r => K (r.1 : List S83)
theorem spec_l20Pieces.ap_of {R : Type} {k : Nat} {h0 : S57} {h1 : List S149} {h2 : S64} {r0 : List S83} {K : (List S83) → Option R} (h : spec_l20Pieces.run k (h0, h1, h2, ()) = some (r0, ())) : spec_l20Pieces.ap k h0 h1 h2 K = K r0 := by unfold spec_l20Pieces.ap; rw [h]; rfl
theorem spec_l20Pieces.snd : Snd env spec_l20Pieces.spec := evF_snd env_ok (sndC spec_InBox.snd (sndC spec_MeetsBox.snd (sndN)))
attribute [local irreducible] spec_l20Pieces.run
theorem spec_l20Pieces.rt (a0 : List S83) : spec_l20Pieces.ret a0 = some (spec_l20Pieces.toH (a0)) := rfl
theorem spec_l20Pieces.br (n : Nat) : (∀ K, n ≤ K → ∀ (x8 : Int) (x1 : List S149) (b1_0 : Int) (b1_1 : Int) (b1_2 : Int) (b1_3 : ByteArray) (b2_0 : Int) (b2_1 : Int) (b2_2 : Int) (b2_3 : Int) (x7 : List S83) (b4 : List S59) t, spec_l20Pieces.l0 n x1 x7 x8 b1_0 b1_1 b1_2 b1_3 b4 b2_0 b2_1 b2_2 b2_3 = some t → spec_l20Pieces.p5 K x8 x1 b1_0 b1_1 b1_2 b1_3 b2_0 b2_1 b2_2 b2_3 x7 b4 = some (spec_l20Pieces.toH t)) := by
  induction n using Nat.strongRecOn with
  | _ n ih =>
  intro K hK x8 x1 b1_0 b1_1 b1_2 b1_3 b2_0 b2_1 b2_2 b2_3 x7 b4 t h
  all_goals (rcases n with _ | k)
  all_goals (try (exact nos h))
  all_goals (obtain ⟨K, rfl⟩ : ∃ q, K = q + 1 := ⟨K - 1, by omega⟩)
  all_goals (first | rw [spec_l20Pieces.e5])
  all_goals (simp only [spec_l20Pieces.l0] at h)
  repeat' (with_reducible first
   | exact nos h
   | (cases some_inj h; exact spec_l20Pieces.rt _)
   | exact (ih _ (by omega)) _ (by omega) _ _ _ _ _ _ _ _ _ _ _ _ _ h
   | ((have q : spec_l20Pieces.j0 k _ _ _ _ _ _ _ _ _ _ _ _ = some _ := h; clear q); rcases k with _ | k <;> simp only [spec_l20Pieces.j0, reduceCtorEq] at h)
   | (simp only [Option.bind_some] at h)
   | (refine ite_by h ?_ ?_ <;> (intro hc h; (try simp only [nrm] at hc)))
   | refine itT ?_
   | refine itF ?_
   | (refine bind_by h (fun t ht h => ?_); (first | refine (spec_InBox.ap_of (spec_InBox.go ht _)).trans ?_ | refine (spec_MeetsBox.ap_of (spec_MeetsBox.go ht _ (by omega))).trans ?_); (try dsimp only at h ⊢))
   | (simp only [nr2] at h ⊢)
   | (exfalso; omega))
theorem spec_l20Pieces.go {k : Nat} {a0_0 : Int} {a0_1 : Int} {a0_2 : Int} {a0_3 : ByteArray} {l0_4 : List S59} {l1 : List S149} {a2_0 : Int} {a2_1 : Int} {a2_2 : Int} {a2_3 : Int} {t} (h : spec_l20Pieces.f k a0_0 a0_1 a0_2 a0_3 l0_4 l1 a2_0 a2_1 a2_2 a2_3 = some t) (K : Nat) (hK : k ≤ K) : spec_l20Pieces.run K ((⟨a0_0, a0_1, a0_2, a0_3, l0_4⟩ : S57), l1, (⟨(⟨a2_0, a2_1⟩ : S59), (⟨a2_2, a2_3⟩ : S59)⟩ : S64), ()) = some (spec_l20Pieces.toH t) := by
  rw [spec_l20Pieces.ef]
  (try dsimp only)
  unfold spec_l20Pieces.f at h
  repeat' (with_reducible first
   | exact nos h
   | (cases some_inj h; exact spec_l20Pieces.rt _)
   | exact (spec_l20Pieces.br _) _ (by omega) _ _ _ _ _ _ _ _ _ _ _ _ _ h
   | ((have q : spec_l20Pieces.j0 k _ _ _ _ _ _ _ _ _ _ _ _ = some _ := h; clear q); rcases k with _ | k <;> simp only [spec_l20Pieces.j0, reduceCtorEq] at h)
   | (simp only [Option.bind_some] at h)
   | (refine ite_by h ?_ ?_ <;> (intro hc h; (try simp only [nrm] at hc)))
   | refine itT ?_
   | refine itF ?_
   | (refine bind_by h (fun t ht h => ?_); (first | refine (spec_InBox.ap_of (spec_InBox.go ht _)).trans ?_ | refine (spec_MeetsBox.ap_of (spec_MeetsBox.go ht _ (by omega))).trans ?_); (try dsimp only at h ⊢))
   | (simp only [nr2] at h ⊢)
   | (exfalso; omega))
def spec_RingSegments.Fs : List (Spc env) := [spec_IsRing.spec, spec_l7Segments.spec]
def spec_RingSegments.cut : Nat → Option (List (Lv SC)) := lk []
def spec_RingSegments.ret (r0 : List S149) : Option (HL eΓ [.l 149 (.st .s149)]) := some (r0, ())
def spec_RingSegments.run (k : Nat) (h : HL eΓ [.l 59 (.st .s59)]) : Option (HL eΓ [.l 149 (.st .s149)]) := evF env spec_RingSegments.Fs Tryz.f142 spec_RingSegments.cut [.l 59 (.st .s59)] [.l 149 (.st .s149)] k h
theorem spec_RingSegments.ef (k : Nat) (h0 : List S59) : spec_RingSegments.run k (h0, ()) = spec_IsRing.ap k h0 fun r1 => if (!r1) = true then (spec_RingSegments.ret ([] : List S149)) else (spec_l7Segments.ap k h0 fun r2 => spec_RingSegments.ret r2) := by kernel_rfl
def spec_RingSegments.toH (t : (List (S149))) : HL eΓ [.l 149 (.st .s149)] := (t, ())
def spec_RingSegments.spec : Spc env := ⟨142, [.l 59 (.st .s59)], [.l 149 (.st .s149)], spec_RingSegments.run⟩
def spec_RingSegments.ap {R : Type} (k : Nat) (h0 : List S59) (K : (List S149) → Option R) : Option R := (spec_RingSegments.run k (h0, ())).bind fun r => K (r.1 : List S149)
theorem spec_RingSegments.ap_of {R : Type} {k : Nat} {h0 : List S59} {r0 : List S149} {K : (List S149) → Option R} (h : spec_RingSegments.run k (h0, ()) = some (r0, ())) : spec_RingSegments.ap k h0 K = K r0 := by unfold spec_RingSegments.ap; rw [h]; rfl
theorem spec_RingSegments.snd : Snd env spec_RingSegments.spec := evF_snd env_ok (sndC spec_IsRing.snd (sndC spec_l7Segments.snd (sndN)))
attribute [local irreducible] spec_RingSegments.run
theorem spec_RingSegments.rt (a0 : List S149) : spec_RingSegments.ret a0 = some (spec_RingSegments.toH (a0)) := rfl
theorem spec_RingSegments.go {k : Nat} {l0 : List S59} {t} (h : spec_RingSegments.f k l0 = some t) (K : Nat) (hK : k ≤ K) : spec_RingSegments.run K (l0, ()) = some (spec_RingSegments.toH t) := by
  rw [spec_RingSegments.ef]
  (try dsimp only)
  unfold spec_RingSegments.f at h
  repeat' (with_reducible first
   | exact nos h
   | (cases some_inj h; exact spec_RingSegments.rt _)
   | (simp only [Option.bind_some] at h)
   | (refine ite_by h ?_ ?_ <;> (intro hc h; (try simp only [nrm] at hc)))
   | refine itT ?_
   | refine itF ?_
   | (refine bind_by h (fun t ht h => ?_); (first | refine (spec_IsRing.ap_of (spec_IsRing.go ht _ (by omega))).trans ?_ | refine (spec_l7Segments.ap_of (spec_l7Segments.go ht _ (by omega))).trans ?_); (try dsimp only at h ⊢))
   | (simp only [nr2] at h ⊢)
   | (exfalso; omega))
def spec_PartsOf.Fs : List (Spc env) := [spec_IsFeature.spec, spec_SegmentsOf.spec, spec_RingSegments.spec]
def spec_PartsOf.cut : Nat → Option (List (Lv SC)) := lk []
def spec_PartsOf.ret (r0 : List S149) : Option (HL eΓ [.l 149 (.st .s149)]) := some (r0, ())
def spec_PartsOf.run (k : Nat) (h : HL eΓ [.st .s57]) : Option (HL eΓ [.l 149 (.st .s149)]) := evF env spec_PartsOf.Fs Tryz.f105 spec_PartsOf.cut [.st .s57] [.l 149 (.st .s149)] k h
theorem spec_PartsOf.ef (k : Nat) (h0 : S57) : spec_PartsOf.run k (h0, ()) = spec_IsFeature.ap k (⟨h0.f0, h0.f1, h0.f2, h0.f3, h0.f4⟩ : S57) fun r1 => if (!r1) = true then (spec_PartsOf.ret ([] : List S149)) else (if h0.f1 = 2 then (spec_SegmentsOf.ap k h0.f4 fun r2 => spec_PartsOf.ret r2) else (if h0.f1 = 3 then (spec_RingSegments.ap k h0.f4 fun r3 => spec_PartsOf.ret r3) else (spec_PartsOf.ret ([] : List S149)))) := by kernel_rfl
def spec_PartsOf.toH (t : (List (S149))) : HL eΓ [.l 149 (.st .s149)] := (t, ())
def spec_PartsOf.spec : Spc env := ⟨105, [.st .s57], [.l 149 (.st .s149)], spec_PartsOf.run⟩
def spec_PartsOf.ap {R : Type} (k : Nat) (h0 : S57) (K : (List S149) → Option R) : Option R := (spec_PartsOf.run k (h0, ())).bind fun r => K (r.1 : List S149)
theorem spec_PartsOf.ap_of {R : Type} {k : Nat} {h0 : S57} {r0 : List S149} {K : (List S149) → Option R} (h : spec_PartsOf.run k (h0, ()) = some (r0, ())) : spec_PartsOf.ap k h0 K = K r0 := by unfold spec_PartsOf.ap; rw [h]; rfl
theorem spec_PartsOf.snd : Snd env spec_PartsOf.spec := evF_snd env_ok (sndC spec_IsFeature.snd (sndC spec_SegmentsOf.snd (sndC spec_RingSegments.snd (sndN))))
attribute [local irreducible] spec_PartsOf.run
theorem spec_PartsOf.rt (a0 : List S149) : spec_PartsOf.ret a0 = some (spec_PartsOf.toH (a0)) := rfl
theorem spec_PartsOf.go {k : Nat} {a0_0 : Int} {a0_1 : Int} {a0_2 : Int} {a0_3 : ByteArray} {l0_4 : List S59} {t} (h : spec_PartsOf.f k a0_0 a0_1 a0_2 a0_3 l0_4 = some t) (K : Nat) (hK : k ≤ K) : spec_PartsOf.run K ((⟨a0_0, a0_1, a0_2, a0_3, l0_4⟩ : S57), ()) = some (spec_PartsOf.toH t) := by
  rw [spec_PartsOf.ef]
  (try dsimp only)
  unfold spec_PartsOf.f at h
  repeat' (with_reducible first
   | exact nos h
   | (cases some_inj h; exact spec_PartsOf.rt _)
   | (simp only [Option.bind_some] at h)
   | (refine ite_by h ?_ ?_ <;> (intro hc h; (try simp only [nrm] at hc)))
   | refine itT ?_
   | refine itF ?_
   | (refine bind_by h (fun t ht h => ?_); (first | refine (spec_IsFeature.ap_of (spec_IsFeature.go ht _ (by omega))).trans ?_ | refine (spec_SegmentsOf.ap_of (spec_SegmentsOf.go ht _ (by omega))).trans ?_ | refine (spec_RingSegments.ap_of (spec_RingSegments.go ht _ (by omega))).trans ?_); (try dsimp only at h ⊢))
   | (simp only [nr2] at h ⊢)
   | (exfalso; omega))
def spec_TouchedTiles.Fs : List (Spc env) := [spec_IsFeature.spec, spec_PartsOf.spec, spec_TileBox.spec, spec_l20Pieces.spec]
def spec_TouchedTiles.fin : St eΓ → Option (HL eΓ [.l 3 (.i .i64)]) := finR env Tryz.f111.results.toList [.l 3 (.i .i64)]
def spec_TouchedTiles.cut : Nat → Option (List (Lv SC)) := lk [(6, [⟨1, none, false⟩, ⟨3, none, false⟩, ⟨4, none, false⟩, ⟨5, none, false⟩])]
def spec_TouchedTiles.ret (r0 : List Int) : Option (HL eΓ [.l 3 (.i .i64)]) := some (r0, ())
def spec_TouchedTiles.p6 (k : Nat) (x5 : Int) (b0_0 : Int) (b0_1 : Int) (b0_2 : Int) (b0_3 : ByteArray) (x3 : List Int) (x4 : List S149) (b3 : List S59) : Option (HL eΓ [.l 3 (.i .i64)]) := evM env spec_TouchedTiles.Fs Tryz.f111.ntmps spec_TouchedTiles.fin spec_TouchedTiles.cut k [.code (sub_ [1, 1, 1, 1, 0, 1, 0, 0, 0, 0] (bodyOf Tryz.f111)), .code (sub_ [1, 1, 1, 1, 0, 1, 0, 0, 0, 1] (bodyOf Tryz.f111)), .code (sub_ [1, 1, 1, 1, 0, 1, 0, 0, 1] (bodyOf Tryz.f111)), .lp (sub_ [1, 1, 1, 1, 0, 1, 0, 0] (bodyOf Tryz.f111)), .blk 0, .code (sub_ [1, 1, 1, 1, 1] (bodyOf Tryz.f111))] (mkSt [(1, .c (.ptr 0 0)), (3, .c (.sl 1)), (4, .c (.sl 2)), (5, .c (.v (.int .i64 x5)))] [.box 57 [.v (.int .i64 b0_0), .v (.int .i64 b0_1), .v (.int .i64 b0_2), .v (.string b0_3), .sl 3], .row .own 3 (.i .i64) x3, .row .own 149 (.st .s149) x4, .row .ro 59 (.st .s59) b3])
theorem spec_TouchedTiles.e6 (k : Nat) (x5 : Int) (b0_0 : Int) (b0_1 : Int) (b0_2 : Int) (b0_3 : ByteArray) (x3 : List Int) (x4 : List S149) (b3 : List S59) : spec_TouchedTiles.p6 (k + 1) x5 b0_0 b0_1 b0_2 b0_3 x3 x4 b3 = if x5 < 441 then (spec_TileBox.ap k x5 fun r1_0 r1_1 => spec_l20Pieces.ap k (⟨b0_0, b0_1, b0_2, b0_3, b3⟩ : S57) x4 (⟨(⟨r1_0.f0.f0, r1_0.f0.f1⟩ : S59), (⟨r1_0.f1.f0, r1_0.f1.f1⟩ : S59)⟩ : S64) fun r2 => if (r2.length : Int) > 0 then (if (x3.length + 1) * 8 ≤ 140737488355328 then (spec_TouchedTiles.p6 k (wrap64 (x5 + 1)) b0_0 b0_1 b0_2 b0_3 (x3 ++ [x5]) x4 b3) else none) else (spec_TouchedTiles.p6 k (wrap64 (x5 + 1)) b0_0 b0_1 b0_2 b0_3 x3 x4 b3)) else (spec_TouchedTiles.ret x3) := by kernel_rfl
def spec_TouchedTiles.run (k : Nat) (h : HL eΓ [.st .s57]) : Option (HL eΓ [.l 3 (.i .i64)]) := evF env spec_TouchedTiles.Fs Tryz.f111 spec_TouchedTiles.cut [.st .s57] [.l 3 (.i .i64)] k h
theorem spec_TouchedTiles.ef (k : Nat) (h0 : S57) : spec_TouchedTiles.run k (h0, ()) = spec_IsFeature.ap k (⟨h0.f0, h0.f1, h0.f2, h0.f3, h0.f4⟩ : S57) fun r1 => if (!r1) = true then (spec_TouchedTiles.ret ([] : List Int)) else (spec_PartsOf.ap k (⟨h0.f0, h0.f1, h0.f2, h0.f3, h0.f4⟩ : S57) fun r2 => spec_TouchedTiles.p6 k 0 h0.f0 h0.f1 h0.f2 h0.f3 ([] : List Int) r2 h0.f4) := by kernel_rfl
def spec_TouchedTiles.toH (t : List Int) : HL eΓ [.l 3 (.i .i64)] := (t, ())
def spec_TouchedTiles.spec : Spc env := ⟨111, [.st .s57], [.l 3 (.i .i64)], spec_TouchedTiles.run⟩
theorem spec_TouchedTiles.snd : Snd env spec_TouchedTiles.spec := evF_snd env_ok (sndC spec_IsFeature.snd (sndC spec_PartsOf.snd (sndC spec_TileBox.snd (sndC spec_l20Pieces.snd (sndN)))))
attribute [local irreducible] spec_TouchedTiles.run
theorem spec_TouchedTiles.rt (a0 : List Int) : spec_TouchedTiles.ret a0 = some (spec_TouchedTiles.toH (a0)) := rfl
theorem spec_TouchedTiles.br (n : Nat) : (∀ K, n ≤ K → ∀ (x5 : Int) (b0_0 : Int) (b0_1 : Int) (b0_2 : Int) (b0_3 : ByteArray) (x3 : List Int) (x4 : List S149) (b3 : List S59) t, spec_TouchedTiles.l0 n x3 x4 x5 b0_0 b0_1 b0_2 b0_3 b3 = some t → spec_TouchedTiles.p6 K x5 b0_0 b0_1 b0_2 b0_3 x3 x4 b3 = some (spec_TouchedTiles.toH t)) := by
  induction n using Nat.strongRecOn with
  | _ n ih =>
  intro K hK x5 b0_0 b0_1 b0_2 b0_3 x3 x4 b3 t h
  all_goals (rcases n with _ | k)
  all_goals (try (exact nos h))
  all_goals (obtain ⟨K, rfl⟩ : ∃ q, K = q + 1 := ⟨K - 1, by omega⟩)
  all_goals (first | rw [spec_TouchedTiles.e6])
  all_goals (simp only [spec_TouchedTiles.l0] at h)
  repeat' (with_reducible first
   | exact nos h
   | (cases some_inj h; exact spec_TouchedTiles.rt _)
   | exact (ih _ (by omega)) _ (by omega) _ _ _ _ _ _ _ _ _ h
   | (simp only [Option.bind_some] at h)
   | (refine ite_by h ?_ ?_ <;> (intro hc h; (try simp only [nrm] at hc)))
   | refine itT ?_
   | refine itF ?_
   | (refine bind_by h (fun t ht h => ?_); (first | refine (spec_IsFeature.ap_of (spec_IsFeature.go ht _ (by omega))).trans ?_ | refine (spec_PartsOf.ap_of (spec_PartsOf.go ht _ (by omega))).trans ?_ | refine (spec_TileBox.ap_of (spec_TileBox.go ht _)).trans ?_ | refine (spec_l20Pieces.ap_of (spec_l20Pieces.go ht _ (by omega))).trans ?_); (try dsimp only at h ⊢))
   | (simp only [nr2] at h ⊢)
   | (exfalso; omega))
theorem spec_TouchedTiles.go {k : Nat} {a0_0 : Int} {a0_1 : Int} {a0_2 : Int} {a0_3 : ByteArray} {l0_4 : List S59} {t} (h : spec_TouchedTiles.f k a0_0 a0_1 a0_2 a0_3 l0_4 = some t) (K : Nat) (hK : k ≤ K) : spec_TouchedTiles.run K ((⟨a0_0, a0_1, a0_2, a0_3, l0_4⟩ : S57), ()) = some (spec_TouchedTiles.toH t) := by
  rw [spec_TouchedTiles.ef]
  (try dsimp only)
  unfold spec_TouchedTiles.f at h
  repeat' (with_reducible first
   | exact nos h
   | (cases some_inj h; exact spec_TouchedTiles.rt _)
   | exact (spec_TouchedTiles.br _) _ (by omega) _ _ _ _ _ _ _ _ _ h
   | (simp only [Option.bind_some] at h)
   | (refine ite_by h ?_ ?_ <;> (intro hc h; (try simp only [nrm] at hc)))
   | refine itT ?_
   | refine itF ?_
   | (refine bind_by h (fun t ht h => ?_); (first | refine (spec_IsFeature.ap_of (spec_IsFeature.go ht _ (by omega))).trans ?_ | refine (spec_PartsOf.ap_of (spec_PartsOf.go ht _ (by omega))).trans ?_ | refine (spec_TileBox.ap_of (spec_TileBox.go ht _)).trans ?_ | refine (spec_l20Pieces.ap_of (spec_l20Pieces.go ht _ (by omega))).trans ?_); (try dsimp only at h ⊢))
   | (simp only [nr2] at h ⊢)
   | (exfalso; omega))
theorem spec_TouchedTiles.calls (k : Nat) (a0_0 : Int) (a0_1 : Int) (a0_2 : Int) (a0_3 : ByteArray) (A0_4 : Option Addr) (c0_4 : Nat) (l0_4 : List (S59)) (r : List Int) (w : World) (hr0_4 : Kd.C k59 w A0_4 l0_4.length l0_4) (hc0_4 : l0_4.length ≤ c0_4) (h : spec_TouchedTiles.f k a0_0 a0_1 a0_2 a0_3 l0_4 = some r) :
  Calls Tryz.prog 111 #[.agg #[.int .i64 a0_0, .int .i64 a0_1, .int .i64 a0_2, .string a0_3, .slice A0_4 l0_4.length c0_4]] w fun e w' => ∃ v0_ : Value, e = .returned (v0_) ∧ Kd.R (Kd.int .i64) 3 w' w.heap.size (fun _ => True) v0_ r ∧ Below w.heap.size w w' := by
  refine (spec_TouchedTiles.snd.calls _ _ _ (spec_TouchedTiles.go h k (Nat.le_refl k)) w [.agg #[.int .i64 a0_0, .int .i64 a0_1, .int .i64 a0_2, .string a0_3, .slice A0_4 l0_4.length c0_4]] ⟨⟨_, rfl, (H57.K _ _ _).2 ⟨rfl, rfl, rfl, rfl, ⟨_, _, rfl, hc0_4, hr0_4⟩, trivial⟩⟩, trivial⟩).mono ?_
  rintro e w' ⟨v, rfl, hB, vs, oks, rfl, hR, _⟩
  obtain ⟨x0_, vs, o0_, oks, rfl, rfl, m0_, hR⟩ := rmsC hR
  obtain rfl := rmsN hR
  obtain ⟨x0_v, x0_e, x0_R⟩ := m0_
  obtain rfl := List.singleton_inj.1 x0_e
  exact ⟨_, rfl, Kd.R_mono x0_R (fun _ _ => trivial), hB⟩
set_option maxHeartbeats 8000000 in
set_option maxRecDepth 100000 in
theorem spec_l21Add.calls (k : Nat) (P0_ : Nat → Prop) (A0 : Option Addr) (c0 : Nat) (l0 : List Int) (A1 : Option Addr) (c1 : Nat) (l1 : List (S57)) (A2 : Option Addr) (c2 : Nat) (l2 : List (S57)) (r : List Int) (w : World) (hs0 : Kd.V (Kd.int .i64) 3 w w.heap.size (fun k_ => P0_ k_) (.slice A0 l0.length c0) l0) (hr1 : Kd.C k57 w A1 l1.length l1) (hc1 : l1.length ≤ c1) (hr2 : Kd.C k57 w A2 l2.length l2) (hc2 : l2.length ≤ c2) (h : spec_l21Add.f k l0 l1 l2 = some r) :
  Calls Tryz.prog 64 #[.slice A0 l0.length c0, .slice A1 l1.length c1, .slice A2 l2.length c2] w fun e w' => ∃ v0_ : Value, e = .returned (v0_) ∧ Kd.V (Kd.int .i64) 3 w' w.heap.size (fun k_ => (P0_ k_ ∨ w.heap.size ≤ k_)) v0_ r ∧ Below w.heap.size w w' := by
 have hu57 := Tryz.underlying57; have HO0 := Aside0.mk (show Kd.V (Kd.int .i64) 3 w w.heap.size (fun k_ => (P0_ k_ ∨ w.heap.size ≤ k_)) (.slice A0 l0.length c0) l0 from Kd.V_mono hs0 (fun k_ hk => .inl hk)); have HR1 := Aside0.mk hr1; have HC1 := Aside0.mk hc1; clear hr1 hc1; have HR2 := Aside0.mk hr2; have HC2 := Aside0.mk hc2; clear hr2 hc2; have HB := Aside0.mk (Below.refl w.heap.size w); have H : (spec_l21Add.l0 k l0 l1 l2 0) = some r := h; clear h; have H' := Aside0.mk H; clear H
 go_enter Tryz.func64, Tryz.ntmps64; go_wp2
 go_loopg [0, 7] k (fun kq v0 v7 w' => ∃ (x0_1 : List Int) (x7_1 : Int), v7 = .int .i64 x7_1 ∧ Aside0 (spec_l21Add.l0 kq x0_1 l1 l2 x7_1 = some r) ∧ Aside0 (kq ≤ k) ∧ Aside0 (Kd.V (Kd.int .i64) 3 w' w.heap.size (fun k_ => (P0_ k_ ∨ w.heap.size ≤ k_)) v0 x0_1) ∧ Aside0 (Below w.heap.size w w'))
 case atStart => exact ⟨(l0), (0), rz, H', ⟨Nat.le_refl _⟩, ⟨by (with_reducible repeat (first | apply Kd.V_alloc | apply Kd.V_drewN | apply Kd.V_drew)); exact HO0.out⟩, ⟨bz⟩⟩
 case round =>
  clear H'; (try clear c1); (try clear c2); (try clear p2); obtain ⟨x0_1, x7_1, rfl, HA, HK1, HO_0, HB⟩ := hrel
  cases gk with
  | zero => exact absurd HA.out (by simp [spec_l21Add.l0])
  | succ k1 =>
   have H := HA.out; clear HA; simp only [spec_l21Add.l0] at H
   by_cases c4 : x7_1 < (l1.length : Int)
   ·rw [if_pos c4] at H; have c4b0 := decide_eq_true c4; clear c4
    by_cases c5 : 0 ≤ x7_1
    ·rw [if_pos c5] at H; have c5b0 := decide_eq_true c5; clear c5; replace H := Option.bind_eq_some_iff.mp H; obtain ⟨t383, A60, H⟩ := H; have A6 := Aside0.mk A60; clear A60
     by_cases c7 : t383 = true
     ·subst c7; replace H := ift H; have H' := Aside0.mk H; clear H; have p382 : 0 ≤ (x7_1 : Int) := of_decide_eq_true az; have q382 : x7_1 < (l1.length : Int) := of_decide_eq_true az; obtain ⟨ad382, A382_4, c382_4, e382, hx382_0, hx382_1, hx382_2, hx382_3, hx382_4, hl382_4, hi382_4⟩ := at_T57 HR1.out x7_1 p382 q382
      cases e382
      replace hx382_0 := xz HB hx382_0; replace hx382_1 := xz HB hx382_1; replace hx382_2 := xz HB hx382_2; replace hx382_3 := xz HB hx382_3; replace hx382_4 := xz HB hx382_4; have HR382_4 := Aside0.mk hi382_4; have HC382_4 := Aside0.mk hl382_4; clear hi382_4 hl382_4; replace p382 := eq_true p382; replace q382 := eq_true q382; go_wp2_with (first | ((with_reducible refine gt (some 21) rfl ?_); refine gc Tryz.func110 (spec_l21Has.calls k1 _ _ l2 ((rd_T57 l1 x7_1).f0) ((rd_T57 l1 x7_1).f1) ((rd_T57 l1 x7_1).f2) ((rd_T57 l1 x7_1).f3) _ _ ((rd_T57 l1 x7_1).f4) true _ (cz (Kd.C_below HR2.out HB.out)) HC2.out (cz (Kd.C_below HR382_4.out HB.out)) HC382_4.out A6.out) ?_; rintro e w8 ⟨rfl, hb⟩; refine ⟨_, rfl, ?_⟩; replace HO_0 := Aside0.mk (Kd.V_below (by (with_reducible repeat (first | apply Kd.V_alloc | apply Kd.V_drewN | apply Kd.V_drew)); exact HO_0.out) hb); replace HB := Aside0.mk (below_step bz hb); (try clear hb)))
      go_roundg k1
      case measure => have := HK1.out; omega
      case rel => exact ⟨(x0_1), (wrap64 (x7_1 + 1)), rz, H', ⟨by have := HK1.out; omega⟩, ⟨by (with_reducible repeat (first | apply Kd.V_alloc | apply Kd.V_drewN | apply Kd.V_drew)); exact HO_0.out⟩, ⟨bz⟩⟩
     ·replace c7 := Bool.eq_false_iff.mpr c7; subst c7; replace H := iff_ H; replace H := Option.bind_eq_some_iff.mp H; obtain ⟨t385, A90, H⟩ := H; have A9 := Aside0.mk A90; clear A90; have H' := Aside0.mk H; clear H; have p382 : 0 ≤ (x7_1 : Int) := of_decide_eq_true az; have q382 : x7_1 < (l1.length : Int) := of_decide_eq_true az; obtain ⟨ad382, A382_4, c382_4, e382, hx382_0, hx382_1, hx382_2, hx382_3, hx382_4, hl382_4, hi382_4⟩ := at_T57 HR1.out x7_1 p382 q382
      cases e382
      replace hx382_0 := xz HB hx382_0; replace hx382_1 := xz HB hx382_1; replace hx382_2 := xz HB hx382_2; replace hx382_3 := xz HB hx382_3; replace hx382_4 := xz HB hx382_4; have HR382_4 := Aside0.mk hi382_4; have HC382_4 := Aside0.mk hl382_4; clear hi382_4 hl382_4; replace p382 := eq_true p382; replace q382 := eq_true q382; go_wp2_with (first | ((with_reducible refine gt (some 21) rfl ?_); refine gc Tryz.func110 (spec_l21Has.calls k1 _ _ l2 ((rd_T57 l1 x7_1).f0) ((rd_T57 l1 x7_1).f1) ((rd_T57 l1 x7_1).f2) ((rd_T57 l1 x7_1).f3) _ _ ((rd_T57 l1 x7_1).f4) false _ (cz (Kd.C_below HR2.out HB.out)) HC2.out (cz (Kd.C_below HR382_4.out HB.out)) HC382_4.out A6.out) ?_; rintro e w10 ⟨rfl, hb⟩; refine ⟨_, rfl, ?_⟩; replace HO_0 := Aside0.mk (Kd.V_below (by (with_reducible repeat (first | apply Kd.V_alloc | apply Kd.V_drewN | apply Kd.V_drew)); exact HO_0.out) hb); replace HB := Aside0.mk (below_step bz hb); (try clear hb); have p384 : 0 ≤ (x7_1 : Int) := of_decide_eq_true az; have q384 : x7_1 < (l1.length : Int) := of_decide_eq_true az; obtain ⟨ad384, A384_4, c384_4, e384, hx384_0, hx384_1, hx384_2, hx384_3, hx384_4, hl384_4, hi384_4⟩ := at_T57 HR1.out x7_1 p384 q384; obtain rfl : ad382 = ad384 := (by injection e384); replace hx384_0 := xz HB hx384_0; replace hx384_1 := xz HB hx384_1; replace hx384_2 := xz HB hx384_2; replace hx384_3 := xz HB hx384_3; replace hx384_4 := xz HB hx384_4; have HR384_4 := Aside0.mk hi384_4; have HC384_4 := Aside0.mk hl384_4; clear hi384_4 hl384_4; replace p384 := eq_true p384; replace q384 := eq_true q384) | ((with_reducible refine gt (some 26) rfl ?_); refine gc Tryz.func111 (spec_TouchedTiles.calls k1 ((rd_T57 l1 x7_1).f0) ((rd_T57 l1 x7_1).f1) ((rd_T57 l1 x7_1).f2) ((rd_T57 l1 x7_1).f3) _ _ ((rd_T57 l1 x7_1).f4) t385 _ (cz (Kd.C_below HR384_4.out HB.out)) HC384_4.out A9.out) ?_; rintro e w11 ⟨v386, rfl, ho0, hb⟩; refine ⟨_, rfl, ?_⟩; replace HO_0 := Aside0.mk (Kd.V_elder' (by (with_reducible repeat (first | apply Kd.V_alloc | apply Kd.V_drewN | apply Kd.V_drew)); exact HO_0.out) (Kd.R_base ho0) hb); have HO387 := Aside0.mk (Kd.R_lower (Kd.R_newM (M := fun k_ => (w.heap.size ≤ k_)) ho0 (below_size bz) (fun k_ h_ => h_)) (below_size bz)); replace HB := Aside0.mk (below_step bz hb); (try clear hb); (try clear ho0)))
      go_loopg [0, 9] k1 (fun kq v0 v9 w' => ∃ (x0_2 : List Int) (x9_2 : Int), v9 = .int .i64 x9_2 ∧ Aside0 (spec_l21Add.l1 kq x0_2 l1 l2 x7_1 t385 x9_2 = some r) ∧ Aside0 (kq ≤ k1) ∧ Aside0 (Kd.V (Kd.int .i64) 3 w' w.heap.size (fun k_ => (P0_ k_ ∨ w.heap.size ≤ k_) ∧ some k_ ≠ (v386 : Value).ownBlock) v0 x0_2) ∧ Aside0 (Kd.R (Kd.int .i64) 3 w' w.heap.size (fun k_ => (w.heap.size ≤ k_)) v386 t385) ∧ Aside0 (Below w.heap.size w w'))
      case atStart => exact ⟨(x0_1), (0), rz, H', ⟨Nat.le_refl _⟩, ⟨by (with_reducible repeat (first | apply Kd.V_alloc | apply Kd.V_drewN | apply Kd.V_drew)); exact HO_0.out⟩, ⟨hr (Kd.R_mono HO387.out (fun _ hk => hk.1))⟩, ⟨bz⟩⟩
      case round =>
       clear H'; (try clear c1); (try clear c2); (try clear p2); (try clear c3); (try clear p3); (try clear q3); (try clear hx3); (try clear c4); (try clear c4b0); (try clear c5); (try clear c5b0); (try clear c6); (try clear p6); (try clear c7); (try clear c11); (try clear hx382_0); (try clear hx382_1); (try clear hx382_2); (try clear hx382_3); (try clear hx382_4); (try clear hx384_0); (try clear hx384_1); (try clear hx384_2); (try clear hx384_3); (try clear hx384_4); (try clear p2); (try clear p382); (try clear p384); (try clear q382); (try clear q384); obtain ⟨x0_2, x9_2, rfl, HA, HK2, HO_0, HO_8, HB⟩ := hrel
       cases gk with
       | zero => exact absurd HA.out (by simp [spec_l21Add.l1])
       | succ k2 =>
        have H := HA.out; clear HA; simp only [spec_l21Add.l1] at H
        by_cases c12 : x9_2 < (t385.length : Int)
        ·rw [if_pos c12] at H; have c12b0 := decide_eq_true c12; clear c12
         by_cases c13 : 0 ≤ x9_2
         ·rw [if_pos c13] at H; have c13b0 := decide_eq_true c13; clear c13; replace H := Option.bind_eq_some_iff.mp H; obtain ⟨t389, A140, H⟩ := H; have A14 := Aside0.mk A140; clear A140; have H' := Aside0.mk H; clear H; obtain ⟨Ao15, co15, eo15⟩ := Kd.R_slice HO_8.out; subst eo15; have p388 : 0 ≤ (x9_2 : Int) := of_decide_eq_true az; have q388 : x9_2 < (t385.length : Int) := of_decide_eq_true az; obtain ⟨ad388, e388, hx388_0⟩ := Kd.at_int (Kd.R_reads' HO_8.out).2.2 x9_2 p388 q388
          cases e388
          replace p388 := eq_true p388; replace q388 := eq_true q388; obtain ⟨Ao16, co16, eo16⟩ := Kd.V_slice HO_0.out; subst eo16; go_wp2_with (first | ((with_reducible refine gt (some 38) rfl ?_); refine gc Tryz.func112 (spec_l14Put.calls k2 _ _ x0_2 (rd t385 x9_2) t389 _ (cz (Kd.V_reads' HO_0.out).2.2) ((Kd.V_reads' HO_0.out).2.1) A14.out) ?_; rintro e w17 ⟨v390, rfl, ho0, hb⟩; refine ⟨_, rfl, ?_⟩; replace HO_0 := Aside0.mk (Kd.V_elder' (by (with_reducible repeat (first | apply Kd.V_alloc | apply Kd.V_drewN | apply Kd.V_drew)); exact HO_0.out) (Kd.R_base ho0) hb); have HO391 := Aside0.mk (Kd.R_lower (Kd.R_new' (Kd.R_newM (M := fun k_ => (w.heap.size ≤ k_)) ho0 (below_size bz) (fun k_ h_ => h_)) (Kd.R_lt (hr HO_8.out))) (below_size bz)); replace HO_8 := Aside0.mk (Kd.R_elder' (hr HO_8.out) (Kd.R_base ho0) hb); replace HB := Aside0.mk (below_step bz hb); (try clear hb); (try clear ho0)))
          go_roundg k2
          case measure => have := HK1.out; have := HK2.out; omega
          case rel => exact ⟨(t389), (wrap64 (x9_2 + 1)), rz, H', ⟨by have := HK1.out; have := HK2.out; omega⟩, ⟨Kd.V_mono (Kd.R_V (hr (Kd.R_mono HO391.out (fun _ hk => And.intro hk.1.1 hk.2)))) (fun k_ hk => by first | exact ⟨(.inr (hk.1)), hk.2⟩ | exact (.inr (hk)))⟩, ⟨hr (Kd.R_mono HO_8.out (fun _ hk => hk.1))⟩, ⟨bz⟩⟩
         ·rw [if_neg c13] at H
          exact absurd H (by simp)
        ·rw [if_neg c12] at H; have c12b0 := decide_eq_false c12; clear c12; have H' := Aside0.mk H; clear H; obtain ⟨Ao18, co18, eo18⟩ := Kd.R_slice HO_8.out; subst eo18; go_wp2
         go_roundg k2
         case measure => have := HK1.out; have := HK2.out; omega
         case rel => exact ⟨(x0_2), (wrap64 (x7_1 + 1)), rz, H', ⟨by have := HK1.out; have := HK2.out; omega⟩, ⟨by (with_reducible repeat (first | apply Kd.V_alloc | apply Kd.V_drewN | apply Kd.V_drew)); exact Kd.V_mono HO_0.out (fun _ hk => hk.1)⟩, ⟨bz⟩⟩
    ·rw [if_neg c5] at H
     exact absurd H (by simp)
   ·rw [if_neg c4] at H; have c4b0 := decide_eq_false c4; clear c4; obtain rfl := Option.some.inj H; go_wp2; go_ret
    exact ⟨_, ez, by (with_reducible repeat (first | apply Kd.V_alloc | apply Kd.V_drewN | apply Kd.V_drew)); exact HO_0.out, bz⟩
set_option maxHeartbeats 8000000 in
set_option maxRecDepth 100000 in
theorem spec_ChangedTiles.calls (k : Nat) (A0 : Option Addr) (c0 : Nat) (l0 : List (S57)) (A1 : Option Addr) (c1 : Nat) (l1 : List (S57)) (r : List Int) (w : World) (hr0 : Kd.C k57 w A0 l0.length l0) (hc0 : l0.length ≤ c0) (hr1 : Kd.C k57 w A1 l1.length l1) (hc1 : l1.length ≤ c1) (h : spec_ChangedTiles.f k l0 l1 = some r) :
  Calls Tryz.prog 28 #[.slice A0 l0.length c0, .slice A1 l1.length c1] w fun e w' => ∃ v0_ : Value, e = .returned (v0_) ∧ Kd.V (Kd.int .i64) 3 w' w.heap.size (fun k_ => (w.heap.size ≤ k_)) v0_ r ∧ Below w.heap.size w w' := by
 have HR0 := Aside0.mk hr0; have HC0 := Aside0.mk hc0; clear hr0 hc0; have HR1 := Aside0.mk hr1; have HC1 := Aside0.mk hc1; clear hr1 hc1; have HB := Aside0.mk (Below.refl w.heap.size w); have H : ((spec_IsSource.f k l0).bind fun t392 => (if t392 = true then ((spec_IsSource.f k l1).bind fun t393 => (spec_ChangedTiles.j0 k l0 l1 (!t393))) else (spec_ChangedTiles.j0 k l0 l1 true))) = some r := h; clear h; have HC3 := Aside0.mk H; clear H
 go_enter Tryz.func28, Tryz.ntmps28
 go_upto_region 1 with (fail)
 go_cut [12] (fun v12 wc => ∃ (kq : Nat) (x12_2 : Bool), v12 = .bool x12_2 ∧ Aside0 (spec_ChangedTiles.j0 kq l0 l1 x12_2 = some r) ∧ Aside0 (kq ≤ k) ∧ Aside0 (Below w.heap.size w wc))
 case first =>
  have H := HC3.out; clear HC3; replace H := Option.bind_eq_some_iff.mp H; obtain ⟨t392, A40, H⟩ := H; have A4 := Aside0.mk A40; clear A40
  by_cases c5 : t392 = true
  ·subst c5; replace H := ift H; replace H := Option.bind_eq_some_iff.mp H; obtain ⟨t393, A60, H⟩ := H; have A6 := Aside0.mk A60; clear A60; have H' := Aside0.mk H; clear H; go_wp2_with (first | ((with_reducible refine gt (some 6) rfl ?_); refine gc Tryz.func63 (spec_IsSource.calls k _ _ l0 true _ cz0 HC0.out A4.out) ?_; rintro e w7 ⟨rfl, hb⟩; refine ⟨_, rfl, ?_⟩; replace HB := Aside0.mk (below_step bz hb); (try clear hb)) | (go_at_call 63; (with_reducible refine (spec_IsSource.calls k _ _ l1 t393 _ ?side1 ?side2 A6.out).mono ?_); (case side1 => repeat (first | exact (Kd.C_below HR1.out HB.out) | (with_reducible refine Kd.C_alloc ?_ _) | (with_reducible refine Kd.C_drewN ?_ _) | (with_reducible refine Kd.C_drew ?_))); (case side2 => exact HC1.out); rintro e w8 ⟨rfl, hb⟩; replace HB := Aside0.mk (below_step bz hb); (try clear hb)))
   go_meet
   case rel => exact ⟨_, (!t393), rz, H', ⟨qz⟩, ⟨bz⟩⟩
  ·replace c5 := Bool.eq_false_iff.mpr c5; subst c5; replace H := iff_ H; have H' := Aside0.mk H; clear H; go_wp2_with (first | ((with_reducible refine gt (some 6) rfl ?_); refine gc Tryz.func63 (spec_IsSource.calls k _ _ l0 false _ cz0 HC0.out A4.out) ?_; rintro e w9 ⟨rfl, hb⟩; refine ⟨_, rfl, ?_⟩; replace HB := Aside0.mk (below_step bz hb); (try clear hb)))
   go_meet
   case rel => exact ⟨_, (true), rz, H', ⟨qz⟩, ⟨bz⟩⟩
 case rest =>
  clear HC3; (try clear c1); (try clear c2); (try clear p2); (try clear c5); (try clear c6); obtain ⟨kq, x12_2, rfl, HA, HJ2, HB⟩ := hcut
  cases kq with
  | zero => exact absurd HA.out (by simp [spec_ChangedTiles.j0])
  | succ kj2 =>
   have H := HA.out; clear HA; simp only [spec_ChangedTiles.j0] at H
   by_cases c10 : x12_2 = true
   ·subst c10; replace H := ift H; obtain ⟨y394, hy394⟩ : ∃ y_ : List Int, y_ = (([] : List Int)) := ⟨_, rfl⟩
    replace H : (some y394) = some r := by first | (rw [hy394]; with_reducible exact H) | (have H2_ := (Option.bind_some _ _).symm.trans H; rw [hy394]; with_reducible exact H2_) | (have H2_ := (Option.bind_some _ _).symm.trans H; with_reducible exact H2_) | with_reducible exact H | (rw [hy394]; exact H) | exact H
    have Ny394 := Aside0.mk hy394; clear hy394; obtain rfl := Option.some.inj H; go_wp2_with (first | ((with_reducible refine gate_dst (N := 13) rfl ?_); refine Kd.R_lit (Kd.int .i64) _ 3 ?hg (N := 13) ?hd (xs := ([] : List Int)) (inner := []) (ok := fun _ => True) (okp := fun _ => True) ?hr ?hp (fun _ hk => hk) trivial (Below.refl _ _) (Nat.le_refl _) (by simp) ?_; (case hd => rfl); (case hg => rfl); (case hr => first | (go_simp; done) | (go_simp; rfl)); (case hp => exact (Reps.none _ _)); intro v395 w11 ho12 hb hg_ hnew_; clear hg_ hnew_; (first | rw [← Ny394.out] at ho12 | (simp only [Int.reduceToNat] at ho12; rw [← Ny394.out] at ho12)); have HO396 := Aside0.mk (Kd.R_lower (Kd.R_newM (M := fun k_ => (w.heap.size ≤ k_)) ho12 (below_size bz) (fun k_ h_ => h_)) (below_size bz)); replace HB := Aside0.mk (below_step bz hb); clear hb ho12)); go_ret
    exact ⟨_, ez, Kd.R_V (hr (Kd.R_mono HO396.out (fun _ hk => hk.1))), bz⟩
   ·replace c10 := Bool.eq_false_iff.mpr c10; subst c10; replace H := iff_ H; obtain ⟨y397, hy397⟩ : ∃ y_ : List Int, y_ = (([] : List Int)) := ⟨_, rfl⟩
    replace H : ((spec_l21Add.f kj2 y397 l0 l1).bind fun t400 => ((spec_l21Add.f kj2 t400 l1 l0).bind fun t403 => (some t403))) = some r := by first | (rw [hy397]; with_reducible exact H) | (have H2_ := (Option.bind_some _ _).symm.trans H; rw [hy397]; with_reducible exact H2_) | (have H2_ := (Option.bind_some _ _).symm.trans H; with_reducible exact H2_) | with_reducible exact H | (rw [hy397]; exact H) | exact H
    have Ny397 := Aside0.mk hy397; clear hy397; replace H := Option.bind_eq_some_iff.mp H; obtain ⟨t400, A130, H⟩ := H; have A13 := Aside0.mk A130; clear A130; replace H := Option.bind_eq_some_iff.mp H; obtain ⟨t403, A140, H⟩ := H; have A14 := Aside0.mk A140; clear A140; obtain rfl := Option.some.inj H; go_wp2_with (first | ((with_reducible refine gate_dst (N := 14) rfl ?_); refine Kd.R_lit (Kd.int .i64) _ 3 ?hg (N := 14) ?hd (xs := ([] : List Int)) (inner := []) (ok := fun _ => True) (okp := fun _ => True) ?hr ?hp (fun _ hk => hk) trivial (Below.refl _ _) (Nat.le_refl _) (by simp) ?_; (case hd => rfl); (case hg => rfl); (case hr => first | (go_simp; done) | (go_simp; rfl)); (case hp => exact (Reps.none _ _)); intro v398 w15 ho16 hb hg_ hnew_; clear hg_ hnew_; (first | rw [← Ny397.out] at ho16 | (simp only [Int.reduceToNat] at ho16; rw [← Ny397.out] at ho16)); have HO399 := Aside0.mk (Kd.R_lower (Kd.R_newM (M := fun k_ => (w.heap.size ≤ k_)) ho16 (below_size bz) (fun k_ h_ => h_)) (below_size bz)); replace HB := Aside0.mk (below_step bz hb); clear hb ho16; obtain ⟨Ao17, co17, eo17⟩ := Kd.R_slice HO399.out; subst eo17) | ((with_reducible refine gt (some 17) rfl ?_); refine gc Tryz.func64 (spec_l21Add.calls kj2 (fun k_ => some k_ = (.slice Ao17 y397.length co17 : Value).ownBlock) _ _ y397 _ _ l0 _ _ l1 t400 _ (Kd.R_V (Kd.R_tight rfl (HO399.out))) cz0 HC0.out (cz (Kd.C_below HR1.out HB.out)) HC1.out A13.out) ?_; rintro e w18 ⟨v401, rfl, ho0, hb⟩; refine ⟨_, rfl, ?_⟩; have HO402 := Aside0.mk (Kd.V_lower (Kd.V_mono (ok' := fun k_ => (w.heap.size ≤ k_)) ho0 (fun k_ hk_ => Or.elim hk_ (fun hs_ => ((HO399.out).1 k_ hs_.symm).1) (fun hn_ => (Nat.le_trans (below_size bz) hn_)))) (below_size bz)); replace HO399 := Aside0.mk (rbz HO399 hb); replace HB := Aside0.mk (below_step bz hb); (try clear hb); (try clear ho0); obtain ⟨Ao19, co19, eo19⟩ := Kd.V_slice HO402.out; subst eo19) | ((with_reducible refine gt (some 20) rfl ?_); refine gc Tryz.func64 (spec_l21Add.calls kj2 (fun k_ => (w.heap.size ≤ k_)) _ _ t400 A1 c1 l1 A0 c0 l0 t403 _ HO402.out (cz (Kd.C_below HR1.out HB.out)) HC1.out cz0 HC0.out A14.out) ?_; rintro e w20 ⟨v404, rfl, ho0, hb⟩; refine ⟨_, rfl, ?_⟩; replace HO399 := Aside0.mk (rbz HO399 hb); replace HO402 := Aside0.mk (Kd.V_below (by (with_reducible repeat (first | apply Kd.V_alloc | apply Kd.V_drewN | apply Kd.V_drew)); exact HO402.out) hb); have HO405 := Aside0.mk (Kd.V_lower (Kd.V_mono (ok' := fun k_ => (w.heap.size ≤ k_)) ho0 (fun k_ hk_ => Or.elim hk_ (fun hs_ => hs_) (fun hn_ => (Nat.le_trans (below_size bz) hn_)))) (below_size bz)); replace HB := Aside0.mk (below_step bz hb); (try clear hb); (try clear ho0)))
    go_ret
    exact ⟨_, ez, by (with_reducible repeat (first | apply Kd.V_alloc | apply Kd.V_drewN | apply Kd.V_drew)); exact HO405.out, bz⟩
def spec_FindFeature.Fs : List (Spc env) := []
def spec_FindFeature.fin : St eΓ → Option (HL eΓ [.i .i64]) := finR env Tryz.f35.results.toList [.i .i64]
def spec_FindFeature.cut : Nat → Option (List (Lv SC)) := lk [(2, [⟨0, none, false⟩, ⟨1, none, false⟩, ⟨5, none, false⟩])]
def spec_FindFeature.ret (r0 : Int) : Option (HL eΓ [.i .i64]) := some (r0, ())
def spec_FindFeature.p2 (k : Nat) (x1 : Int) (x5 : Int) (x0 : List S57) : Option (HL eΓ [.i .i64]) := evM env spec_FindFeature.Fs Tryz.f35.ntmps spec_FindFeature.fin spec_FindFeature.cut k [.code (sub_ [1, 0, 1, 0, 0, 0, 0] (bodyOf Tryz.f35)), .code (sub_ [1, 0, 1, 0, 0, 0, 1] (bodyOf Tryz.f35)), .code (sub_ [1, 0, 1, 0, 0, 1] (bodyOf Tryz.f35)), .lp (sub_ [1, 0, 1, 0, 0] (bodyOf Tryz.f35)), .blk 0, .code (sub_ [1, 1] (bodyOf Tryz.f35))] (mkSt [(0, .c (.sl 0)), (1, .c (.v (.int .i64 x1))), (5, .c (.v (.int .i64 x5)))] [.row .ro 57 (.st .s57) x0])
theorem spec_FindFeature.e2 (k : Nat) (x1 : Int) (x5 : Int) (x0 : List S57) : spec_FindFeature.p2 (k + 1) x1 x5 x0 = if x5 < (x0.length : Int) then (if 0 ≤ x5 then (if x5 < (x0.length : Int) then (if ((rd_T57 x0 x5).f0) = x1 then (spec_FindFeature.ret x5) else (spec_FindFeature.p2 k x1 (wrap64 (x5 + 1)) x0)) else none) else none) else (spec_FindFeature.ret (-1)) := by kernel_rfl
def spec_FindFeature.run (k : Nat) (h : HL eΓ [.l 57 (.st .s57), .i .i64]) : Option (HL eΓ [.i .i64]) := evF env spec_FindFeature.Fs Tryz.f35 spec_FindFeature.cut [.l 57 (.st .s57), .i .i64] [.i .i64] k h
theorem spec_FindFeature.ef (k : Nat) (h0 : List S57) (h1 : Int) : spec_FindFeature.run k (h0, h1, ()) = spec_FindFeature.p2 k h1 0 h0 := by kernel_rfl
def spec_FindFeature.toH (t : Int) : HL eΓ [.i .i64] := (t, ())
def spec_FindFeature.spec : Spc env := ⟨35, [.l 57 (.st .s57), .i .i64], [.i .i64], spec_FindFeature.run⟩
def spec_FindFeature.ap {R : Type} (k : Nat) (h0 : List S57) (h1 : Int) (K : Int → Option R) : Option R := (spec_FindFeature.run k (h0, h1, ())).bind fun r => K (r.1 : Int)
theorem spec_FindFeature.ap_of {R : Type} {k : Nat} {h0 : List S57} {h1 : Int} {r0 : Int} {K : Int → Option R} (h : spec_FindFeature.run k (h0, h1, ()) = some (r0, ())) : spec_FindFeature.ap k h0 h1 K = K r0 := by unfold spec_FindFeature.ap; rw [h]; rfl
theorem spec_FindFeature.snd : Snd env spec_FindFeature.spec := evF_snd env_ok (sndN)
attribute [local irreducible] spec_FindFeature.run
theorem spec_FindFeature.rt (a0 : Int) : spec_FindFeature.ret a0 = some (spec_FindFeature.toH (a0)) := rfl
theorem spec_FindFeature.br (n : Nat) : (∀ K, n ≤ K → ∀ (x1 : Int) (x5 : Int) (x0 : List S57) t, spec_FindFeature.l0 n x0 x1 x5 = some t → spec_FindFeature.p2 K x1 x5 x0 = some (spec_FindFeature.toH t)) := by
  induction n using Nat.strongRecOn with
  | _ n ih =>
  intro K hK x1 x5 x0 t h
  all_goals (rcases n with _ | k)
  all_goals (try (exact nos h))
  all_goals (obtain ⟨K, rfl⟩ : ∃ q, K = q + 1 := ⟨K - 1, by omega⟩)
  all_goals (first | rw [spec_FindFeature.e2])
  all_goals (simp only [spec_FindFeature.l0] at h)
  repeat' (with_reducible first
   | exact nos h
   | (cases some_inj h; exact spec_FindFeature.rt _)
   | exact (ih _ (by omega)) _ (by omega) _ _ _ _ h
   | (simp only [Option.bind_some] at h)
   | (refine ite_by h ?_ ?_ <;> (intro hc h; (try simp only [nrm] at hc)))
   | refine itT ?_
   | refine itF ?_
   | (simp only [nr2] at h ⊢)
   | (exfalso; omega))
theorem spec_FindFeature.go {k : Nat} {l0 : List S57} {a1 : Int} {t} (h : spec_FindFeature.f k l0 a1 = some t) (K : Nat) (hK : k ≤ K) : spec_FindFeature.run K (l0, a1, ()) = some (spec_FindFeature.toH t) := by
  rw [spec_FindFeature.ef]
  (try dsimp only)
  unfold spec_FindFeature.f at h
  repeat' (with_reducible first
   | exact nos h
   | (cases some_inj h; exact spec_FindFeature.rt _)
   | exact (spec_FindFeature.br _) _ (by omega) _ _ _ _ h
   | (simp only [Option.bind_some] at h)
   | (refine ite_by h ?_ ?_ <;> (intro hc h; (try simp only [nrm] at hc)))
   | refine itT ?_
   | refine itF ?_
   | (simp only [nr2] at h ⊢)
   | (exfalso; omega))
def spec_PiecesIn.Fs : List (Spc env) := [spec_TileBox.spec, spec_IsSource.spec, spec_PartsOf.spec, spec_l20Pieces.spec]
def spec_PiecesIn.fin : St eΓ → Option (HL eΓ [.l 83 (.st .s83)]) := finR env Tryz.f55.results.toList [.l 83 (.st .s83)]
def spec_PiecesIn.cut : Nat → Option (List (Lv SC)) := lk [(4, [⟨0, none, false⟩, ⟨5, none, false⟩, ⟨6, none, false⟩, ⟨7, none, false⟩, ⟨8, none, false⟩])]
def spec_PiecesIn.ret (r0 : List S83) : Option (HL eΓ [.l 83 (.st .s83)]) := some (r0, ())
def spec_PiecesIn.p4 (k : Nat) (x7 : Bool) (x8 : Int) (x0 : List S57) (x5 : List S83) (b2_0 : Int) (b2_1 : Int) (b2_2 : Int) (b2_3 : Int) : Option (HL eΓ [.l 83 (.st .s83)]) := evM env spec_PiecesIn.Fs Tryz.f55.ntmps spec_PiecesIn.fin spec_PiecesIn.cut k [.code (sub_ [1, 1, 1, 0, 1, 0, 0, 0, 0] (bodyOf Tryz.f55)), .code (sub_ [1, 1, 1, 0, 1, 0, 0, 0, 1] (bodyOf Tryz.f55)), .code (sub_ [1, 1, 1, 0, 1, 0, 0, 1] (bodyOf Tryz.f55)), .lp (sub_ [1, 1, 1, 0, 1, 0, 0] (bodyOf Tryz.f55)), .blk 0, .code (sub_ [1, 1, 1, 1] (bodyOf Tryz.f55))] (mkSt [(0, .c (.sl 0)), (5, .c (.sl 1)), (6, .c (.ptr 2 0)), (7, .c (.v (.bool x7))), (8, .c (.v (.int .i64 x8)))] [.row .ro 57 (.st .s57) x0, .row .own 83 (.st .s83) x5, .box 64 [.v (.int .i64 b2_0), .v (.int .i64 b2_1), .v (.int .i64 b2_2), .v (.int .i64 b2_3)]])
theorem spec_PiecesIn.e4 (k : Nat) (x7 : Bool) (x8 : Int) (x0 : List S57) (x5 : List S83) (b2_0 : Int) (b2_1 : Int) (b2_2 : Int) (b2_3 : Int) : spec_PiecesIn.p4 (k + 1) x7 x8 x0 x5 b2_0 b2_1 b2_2 b2_3 = if x8 < (x0.length : Int) then (if x7 = true then (spec_IsSource.ap k x0 fun r1 => if r1 = true then (if 0 ≤ x8 then (if x8 < (x0.length : Int) then (if 0 ≤ x8 then (if x8 < (x0.length : Int) then (spec_PartsOf.ap k (⟨(rd_T57 x0 x8).f0, (rd_T57 x0 x8).f1, (rd_T57 x0 x8).f2, (rd_T57 x0 x8).f3, (rd_T57 x0 x8).f4⟩ : S57) fun r2 => spec_l20Pieces.ap k (⟨(rd_T57 x0 x8).f0, (rd_T57 x0 x8).f1, (rd_T57 x0 x8).f2, (rd_T57 x0 x8).f3, (rd_T57 x0 x8).f4⟩ : S57) r2 (⟨(⟨b2_0, b2_1⟩ : S59), (⟨b2_2, b2_3⟩ : S59)⟩ : S64) fun r3 => if (x5.length + r3.length) * 16 ≤ 140737488355328 then (spec_PiecesIn.p4 k x7 (wrap64 (x8 + 1)) x0 (x5 ++ r3) b2_0 b2_1 b2_2 b2_3) else none) else none) else none) else none) else none) else (spec_PiecesIn.ret x5)) else (spec_PiecesIn.ret x5)) else (spec_PiecesIn.ret x5) := by kernel_rfl
def spec_PiecesIn.run (k : Nat) (h : HL eΓ [.l 57 (.st .s57), .i .i64]) : Option (HL eΓ [.l 83 (.st .s83)]) := evF env spec_PiecesIn.Fs Tryz.f55 spec_PiecesIn.cut [.l 57 (.st .s57), .i .i64] [.l 83 (.st .s83)] k h
theorem spec_PiecesIn.ef (k : Nat) (h0 : List S57) (h1 : Int) : spec_PiecesIn.run k (h0, h1, ()) = spec_TileBox.ap k h1 fun r1_0 r1_1 => spec_PiecesIn.p4 k r1_1 0 h0 ([] : List S83) r1_0.f0.f0 r1_0.f0.f1 r1_0.f1.f0 r1_0.f1.f1 := by kernel_rfl
def spec_PiecesIn.toH (t : (List (S83))) : HL eΓ [.l 83 (.st .s83)] := (t, ())
def spec_PiecesIn.spec : Spc env := ⟨55, [.l 57 (.st .s57), .i .i64], [.l 83 (.st .s83)], spec_PiecesIn.run⟩
def spec_PiecesIn.ap {R : Type} (k : Nat) (h0 : List S57) (h1 : Int) (K : (List S83) → Option R) : Option R := (spec_PiecesIn.run k (h0, h1, ())).bind fun r => K (r.1 : List S83)
theorem spec_PiecesIn.ap_of {R : Type} {k : Nat} {h0 : List S57} {h1 : Int} {r0 : List S83} {K : (List S83) → Option R} (h : spec_PiecesIn.run k (h0, h1, ()) = some (r0, ())) : spec_PiecesIn.ap k h0 h1 K = K r0 := by unfold spec_PiecesIn.ap; rw [h]; rfl
theorem spec_PiecesIn.snd : Snd env spec_PiecesIn.spec := evF_snd env_ok (sndC spec_TileBox.snd (sndC spec_IsSource.snd (sndC spec_PartsOf.snd (sndC spec_l20Pieces.snd (sndN)))))
attribute [local irreducible] spec_PiecesIn.run
theorem spec_PiecesIn.rt (a0 : List S83) : spec_PiecesIn.ret a0 = some (spec_PiecesIn.toH (a0)) := rfl
theorem spec_PiecesIn.br (n : Nat) : (∀ K, n ≤ K → ∀ (x7 : Bool) (x8 : Int) (x0 : List S57) (x5 : List S83) (b2_0 : Int) (b2_1 : Int) (b2_2 : Int) (b2_3 : Int) t, spec_PiecesIn.l0 n x0 x5 x7 x8 b2_0 b2_1 b2_2 b2_3 = some t → spec_PiecesIn.p4 K x7 x8 x0 x5 b2_0 b2_1 b2_2 b2_3 = some (spec_PiecesIn.toH t)) := by
  induction n using Nat.strongRecOn with
  | _ n ih =>
  intro K hK x7 x8 x0 x5 b2_0 b2_1 b2_2 b2_3 t h
  all_goals (rcases n with _ | k)
  all_goals (try (exact nos h))
  all_goals (obtain ⟨K, rfl⟩ : ∃ q, K = q + 1 := ⟨K - 1, by omega⟩)
  all_goals (first | rw [spec_PiecesIn.e4])
  all_goals (simp only [spec_PiecesIn.l0] at h)
  repeat' (with_reducible first
   | exact nos h
   | (cases some_inj h; exact spec_PiecesIn.rt _)
   | exact (ih _ (by omega)) _ (by omega) _ _ _ _ _ _ _ _ _ h
   | ((have q : spec_PiecesIn.j1 k _ _ _ _ _ _ _ _ _ = some _ := h; clear q); rcases k with _ | k <;> simp only [spec_PiecesIn.j1, reduceCtorEq] at h)
   | (simp only [Option.bind_some] at h)
   | (refine ite_by h ?_ ?_ <;> (intro hc h; (try simp only [nrm] at hc)))
   | refine itT ?_
   | refine itF ?_
   | (refine bind_by h (fun t ht h => ?_); (first | refine (spec_TileBox.ap_of (spec_TileBox.go ht _)).trans ?_ | refine (spec_IsSource.ap_of (spec_IsSource.go ht _ (by omega))).trans ?_ | refine (spec_PartsOf.ap_of (spec_PartsOf.go ht _ (by omega))).trans ?_ | refine (spec_l20Pieces.ap_of (spec_l20Pieces.go ht _ (by omega))).trans ?_); (try dsimp only at h ⊢))
   | (simp only [nr2] at h ⊢)
   | (exfalso; omega))
theorem spec_PiecesIn.go {k : Nat} {l0 : List S57} {a1 : Int} {t} (h : spec_PiecesIn.f k l0 a1 = some t) (K : Nat) (hK : k ≤ K) : spec_PiecesIn.run K (l0, a1, ()) = some (spec_PiecesIn.toH t) := by
  rw [spec_PiecesIn.ef]
  (try dsimp only)
  unfold spec_PiecesIn.f at h
  repeat' (with_reducible first
   | exact nos h
   | (cases some_inj h; exact spec_PiecesIn.rt _)
   | exact (spec_PiecesIn.br _) _ (by omega) _ _ _ _ _ _ _ _ _ h
   | ((have q : spec_PiecesIn.j1 k _ _ _ _ _ _ _ _ _ = some _ := h; clear q); rcases k with _ | k <;> simp only [spec_PiecesIn.j1, reduceCtorEq] at h)
   | (simp only [Option.bind_some] at h)
   | (refine ite_by h ?_ ?_ <;> (intro hc h; (try simp only [nrm] at hc)))
   | refine itT ?_
   | refine itF ?_
   | (refine bind_by h (fun t ht h => ?_); (first | refine (spec_TileBox.ap_of (spec_TileBox.go ht _)).trans ?_ | refine (spec_IsSource.ap_of (spec_IsSource.go ht _ (by omega))).trans ?_ | refine (spec_PartsOf.ap_of (spec_PartsOf.go ht _ (by omega))).trans ?_ | refine (spec_l20Pieces.ap_of (spec_l20Pieces.go ht _ (by omega))).trans ?_); (try dsimp only at h ⊢))
   | (simp only [nr2] at h ⊢)
   | (exfalso; omega))
def spec_Mod.Fs : List (Spc env) := [spec_l1In.spec]
def spec_Mod.cut : Nat → Option (List (Lv SC)) := lk []
def spec_Mod.ret (r0 : Int) : Option (HL eΓ [.i .i64]) := some (r0, ())
def spec_Mod.run (k : Nat) (h : HL eΓ [.i .i64, .i .i64]) : Option (HL eΓ [.i .i64]) := evF env spec_Mod.Fs Tryz.f167 spec_Mod.cut [.i .i64, .i .i64] [.i .i64] k h
theorem spec_Mod.ef (k : Nat) (h0 : Int) (h1 : Int) : spec_Mod.run k (h0, h1, ()) = spec_l1In.ap k h1 1 1000000000000 fun r1 => if (!r1) = true then (spec_Mod.ret 0) else (if h1 = 0 then none else (if h1 = 0 then none else (spec_Mod.ret (Int.tmod (wrap64 ((Int.tmod h0 h1) + h1)) h1)))) := by kernel_rfl
def spec_Mod.toH (t : Int) : HL eΓ [.i .i64] := (t, ())
def spec_Mod.spec : Spc env := ⟨167, [.i .i64, .i .i64], [.i .i64], spec_Mod.run⟩
def spec_Mod.ap {R : Type} (k : Nat) (h0 : Int) (h1 : Int) (K : Int → Option R) : Option R := (spec_Mod.run k (h0, h1, ())).bind fun r => K (r.1 : Int)
theorem spec_Mod.ap_of {R : Type} {k : Nat} {h0 : Int} {h1 : Int} {r0 : Int} {K : Int → Option R} (h : spec_Mod.run k (h0, h1, ()) = some (r0, ())) : spec_Mod.ap k h0 h1 K = K r0 := by unfold spec_Mod.ap; rw [h]; rfl
theorem spec_Mod.snd : Snd env spec_Mod.spec := evF_snd env_ok (sndC spec_l1In.snd (sndN))
attribute [local irreducible] spec_Mod.run
theorem spec_Mod.rt (a0 : Int) : spec_Mod.ret a0 = some (spec_Mod.toH (a0)) := rfl
theorem spec_Mod.go {a0 : Int} {a1 : Int} {t} (h : spec_Mod.f a0 a1 = some t) (K : Nat) : spec_Mod.run K (a0, a1, ()) = some (spec_Mod.toH t) := by
  rw [spec_Mod.ef]
  (try dsimp only)
  unfold spec_Mod.f at h
  repeat' (with_reducible first
   | exact nos h
   | (cases some_inj h; exact spec_Mod.rt _)
   | (simp only [Option.bind_some] at h)
   | (refine ite_by h ?_ ?_ <;> (intro hc h; (try simp only [nrm] at hc)))
   | refine itT ?_
   | refine itF ?_
   | (refine bind_by h (fun t ht h => ?_); refine (spec_l1In.ap_of (spec_l1In.go ht _)).trans ?_; (try dsimp only at h ⊢))
   | (simp only [nr2] at h ⊢)
   | (exfalso; omega))
def spec_Hash.Fs : List (Spc env) := [spec_Mod.spec]
def spec_Hash.fin : St eΓ → Option (HL eΓ [.i .i64]) := finR env Tryz.f118.results.toList [.i .i64]
def spec_Hash.cut : Nat → Option (List (Lv SC)) := lk [(3, [⟨0, none, false⟩, ⟨3, none, false⟩, ⟨4, none, false⟩])]
def spec_Hash.ret (r0 : Int) : Option (HL eΓ [.i .i64]) := some (r0, ())
def spec_Hash.p3 (k : Nat) (x3 : Int) (x4 : Int) (x0 : List Int) : Option (HL eΓ [.i .i64]) := evM env spec_Hash.Fs Tryz.f118.ntmps spec_Hash.fin spec_Hash.cut k [.code (sub_ [1, 1, 0, 1, 0, 0, 0, 0] (bodyOf Tryz.f118)), .code (sub_ [1, 1, 0, 1, 0, 0, 0, 1] (bodyOf Tryz.f118)), .code (sub_ [1, 1, 0, 1, 0, 0, 1] (bodyOf Tryz.f118)), .lp (sub_ [1, 1, 0, 1, 0, 0] (bodyOf Tryz.f118)), .blk 0, .code (sub_ [1, 1, 1] (bodyOf Tryz.f118))] (mkSt [(0, .c (.sl 0)), (3, .c (.v (.int .i64 x3))), (4, .c (.v (.int .i64 x4)))] [.row .ro 3 (.i .i64) x0])
theorem spec_Hash.e3 (k : Nat) (x3 : Int) (x4 : Int) (x0 : List Int) : spec_Hash.p3 (k + 1) x3 x4 x0 = if x4 < (x0.length : Int) then (if 0 ≤ x4 then (if x4 < (x0.length : Int) then (spec_Mod.ap k (x0.getD x4.toNat 0) 2147483647 fun r1 => spec_Hash.p3 k (Int.tmod (wrap64 ((wrap64 ((wrap64 (x3 * 1000003)) + r1)) + 13)) 2147483647) (wrap64 (x4 + 1)) x0) else none) else none) else (spec_Hash.ret x3) := by kernel_rfl
def spec_Hash.run (k : Nat) (h : HL eΓ [.l 3 (.i .i64)]) : Option (HL eΓ [.i .i64]) := evF env spec_Hash.Fs Tryz.f118 spec_Hash.cut [.l 3 (.i .i64)] [.i .i64] k h
theorem spec_Hash.ef (k : Nat) (h0 : List Int) : spec_Hash.run k (h0, ()) = spec_Hash.p3 k 11 0 h0 := by kernel_rfl
def spec_Hash.toH (t : Int) : HL eΓ [.i .i64] := (t, ())
def spec_Hash.spec : Spc env := ⟨118, [.l 3 (.i .i64)], [.i .i64], spec_Hash.run⟩
def spec_Hash.ap {R : Type} (k : Nat) (h0 : List Int) (K : Int → Option R) : Option R := (spec_Hash.run k (h0, ())).bind fun r => K (r.1 : Int)
theorem spec_Hash.ap_of {R : Type} {k : Nat} {h0 : List Int} {r0 : Int} {K : Int → Option R} (h : spec_Hash.run k (h0, ()) = some (r0, ())) : spec_Hash.ap k h0 K = K r0 := by unfold spec_Hash.ap; rw [h]; rfl
theorem spec_Hash.snd : Snd env spec_Hash.spec := evF_snd env_ok (sndC spec_Mod.snd (sndN))
attribute [local irreducible] spec_Hash.run
theorem spec_Hash.rt (a0 : Int) : spec_Hash.ret a0 = some (spec_Hash.toH (a0)) := rfl
theorem spec_Hash.br (n : Nat) : (∀ K, n ≤ K → ∀ (x3 : Int) (x4 : Int) (x0 : List Int) t, spec_Hash.l0 n x0 x3 x4 = some t → spec_Hash.p3 K x3 x4 x0 = some (spec_Hash.toH t)) := by
  induction n using Nat.strongRecOn with
  | _ n ih =>
  intro K hK x3 x4 x0 t h
  all_goals (rcases n with _ | k)
  all_goals (try (exact nos h))
  all_goals (obtain ⟨K, rfl⟩ : ∃ q, K = q + 1 := ⟨K - 1, by omega⟩)
  all_goals (first | rw [spec_Hash.e3])
  all_goals (simp only [spec_Hash.l0] at h)
  repeat' (with_reducible first
   | exact nos h
   | (cases some_inj h; exact spec_Hash.rt _)
   | exact (ih _ (by omega)) _ (by omega) _ _ _ _ h
   | (simp only [Option.bind_some] at h)
   | (refine ite_by h ?_ ?_ <;> (intro hc h; (try simp only [nrm] at hc)))
   | refine itT ?_
   | refine itF ?_
   | (refine bind_by h (fun t ht h => ?_); refine (spec_Mod.ap_of (spec_Mod.go ht _)).trans ?_; (try dsimp only at h ⊢))
   | (simp only [nr2] at h ⊢)
   | (exfalso; omega))
theorem spec_Hash.go {k : Nat} {l0 : List Int} {t} (h : spec_Hash.f k l0 = some t) (K : Nat) (hK : k ≤ K) : spec_Hash.run K (l0, ()) = some (spec_Hash.toH t) := by
  rw [spec_Hash.ef]
  (try dsimp only)
  unfold spec_Hash.f at h
  repeat' (with_reducible first
   | exact nos h
   | (cases some_inj h; exact spec_Hash.rt _)
   | exact (spec_Hash.br _) _ (by omega) _ _ _ _ h
   | (simp only [Option.bind_some] at h)
   | (refine ite_by h ?_ ?_ <;> (intro hc h; (try simp only [nrm] at hc)))
   | refine itT ?_
   | refine itF ?_
   | (refine bind_by h (fun t ht h => ?_); refine (spec_Mod.ap_of (spec_Mod.go ht _)).trans ?_; (try dsimp only at h ⊢))
   | (simp only [nr2] at h ⊢)
   | (exfalso; omega))
def spec_PieceDigest.Fs : List (Spc env) := [spec_IsFeature.spec, spec_PartsOf.spec, spec_Hash.spec, spec_l1In.spec]
def spec_PieceDigest.fin : St eΓ → Option (HL eΓ [.i .i64]) := finR env Tryz.f117.results.toList [.i .i64]
def spec_PieceDigest.cut : Nat → Option (List (Lv SC)) := lk [(5, [⟨1, none, false⟩, ⟨2, none, false⟩, ⟨5, none, false⟩, ⟨6, none, false⟩])]
def spec_PieceDigest.ret (r0 : Int) : Option (HL eΓ [.i .i64]) := some (r0, ())
def spec_PieceDigest.p5 (k : Nat) (x1 : Int) (x6 : Int) (b0_0 : Int) (b0_1 : Int) (b0_2 : Int) (b0_3 : ByteArray) (x5 : List Int) (b2 : List S59) : Option (HL eΓ [.i .i64]) := evM env spec_PieceDigest.Fs Tryz.f117.ntmps spec_PieceDigest.fin spec_PieceDigest.cut k [.code (sub_ [1, 1, 1, 0, 1, 0, 0, 0, 0] (bodyOf Tryz.f117)), .code (sub_ [1, 1, 1, 0, 1, 0, 0, 0, 1] (bodyOf Tryz.f117)), .code (sub_ [1, 1, 1, 0, 1, 0, 0, 1] (bodyOf Tryz.f117)), .lp (sub_ [1, 1, 1, 0, 1, 0, 0] (bodyOf Tryz.f117)), .blk 0, .code (sub_ [1, 1, 1, 1] (bodyOf Tryz.f117))] (mkSt [(1, .c (.v (.int .i64 x1))), (2, .c (.ptr 0 0)), (5, .c (.sl 1)), (6, .c (.v (.int .i64 x6)))] [.box 57 [.v (.int .i64 b0_0), .v (.int .i64 b0_1), .v (.int .i64 b0_2), .v (.string b0_3), .sl 2], .row .own 3 (.i .i64) x5, .row .ro 59 (.st .s59) b2])
theorem spec_PieceDigest.e5 (k : Nat) (x1 : Int) (x6 : Int) (b0_0 : Int) (b0_1 : Int) (b0_2 : Int) (b0_3 : ByteArray) (x5 : List Int) (b2 : List S59) : spec_PieceDigest.p5 (k + 1) x1 x6 b0_0 b0_1 b0_2 b0_3 x5 b2 = if x6 < (b0_3.size : Int) then (if 0 ≤ x6 then (if x6 < (b0_3.size : Int) then (if (x5.length + 1) * 8 ≤ 140737488355328 then (spec_PieceDigest.p5 k x1 (wrap64 (x6 + 1)) b0_0 b0_1 b0_2 b0_3 (x5 ++ [wrap64 ((bt b0_3 x6))]) b2) else none) else none) else none) else (if (x5.length + 1) * 8 ≤ 140737488355328 then (spec_PartsOf.ap k (⟨b0_0, b0_1, b0_2, b0_3, b2⟩ : S57) fun r1 => if b0_1 = 1 then (if x1 = 0 then (if 0 < (b2.length : Int) then (if 0 < (b2.length : Int) then (if ((x5 ++ [x1]).length + 2) * 8 ≤ 140737488355328 then (spec_Hash.ap k ((x5 ++ [x1]) ++ [(rd_T59 b2 0).f0, (rd_T59 b2 0).f1]) fun r2 => spec_PieceDigest.ret r2) else none) else none) else none) else (spec_l1In.ap k x1 0 (wrap64 ((r1.length : Int) - 1)) fun r3 => if r3 = true then (if 0 ≤ x1 then (if x1 < (r1.length : Int) then (if 0 ≤ x1 then (if x1 < (r1.length : Int) then (if 0 ≤ x1 then (if x1 < (r1.length : Int) then (if 0 ≤ x1 then (if x1 < (r1.length : Int) then (if ((x5 ++ [x1]).length + 4) * 8 ≤ 140737488355328 then (spec_Hash.ap k ((x5 ++ [x1]) ++ [(rd_T149 r1 x1).f0.f0, (rd_T149 r1 x1).f0.f1, (rd_T149 r1 x1).f1.f0, (rd_T149 r1 x1).f1.f1]) fun r4 => spec_PieceDigest.ret r4) else none) else none) else none) else none) else none) else none) else none) else none) else none) else (spec_PieceDigest.ret 0))) else (spec_l1In.ap k x1 0 (wrap64 ((r1.length : Int) - 1)) fun r5 => if r5 = true then (if 0 ≤ x1 then (if x1 < (r1.length : Int) then (if 0 ≤ x1 then (if x1 < (r1.length : Int) then (if 0 ≤ x1 then (if x1 < (r1.length : Int) then (if 0 ≤ x1 then (if x1 < (r1.length : Int) then (if ((x5 ++ [x1]).length + 4) * 8 ≤ 140737488355328 then (spec_Hash.ap k ((x5 ++ [x1]) ++ [(rd_T149 r1 x1).f0.f0, (rd_T149 r1 x1).f0.f1, (rd_T149 r1 x1).f1.f0, (rd_T149 r1 x1).f1.f1]) fun r6 => spec_PieceDigest.ret r6) else none) else none) else none) else none) else none) else none) else none) else none) else none) else (spec_PieceDigest.ret 0))) else none) := by kernel_rfl
def spec_PieceDigest.run (k : Nat) (h : HL eΓ [.st .s57, .i .i64]) : Option (HL eΓ [.i .i64]) := evF env spec_PieceDigest.Fs Tryz.f117 spec_PieceDigest.cut [.st .s57, .i .i64] [.i .i64] k h
theorem spec_PieceDigest.ef (k : Nat) (h0 : S57) (h1 : Int) : spec_PieceDigest.run k (h0, h1, ()) = spec_IsFeature.ap k (⟨h0.f0, h0.f1, h0.f2, h0.f3, h0.f4⟩ : S57) fun r1 => if (!r1) = true then (spec_PieceDigest.ret 0) else (spec_PieceDigest.p5 k h1 0 h0.f0 h0.f1 h0.f2 h0.f3 ([h0.f0, h0.f1, h0.f2, (h0.f3.size : Int)] : List Int) h0.f4) := by kernel_rfl
def spec_PieceDigest.toH (t : Int) : HL eΓ [.i .i64] := (t, ())
def spec_PieceDigest.spec : Spc env := ⟨117, [.st .s57, .i .i64], [.i .i64], spec_PieceDigest.run⟩
def spec_PieceDigest.ap {R : Type} (k : Nat) (h0 : S57) (h1 : Int) (K : Int → Option R) : Option R := (spec_PieceDigest.run k (h0, h1, ())).bind fun r => K (r.1 : Int)
theorem spec_PieceDigest.ap_of {R : Type} {k : Nat} {h0 : S57} {h1 : Int} {r0 : Int} {K : Int → Option R} (h : spec_PieceDigest.run k (h0, h1, ()) = some (r0, ())) : spec_PieceDigest.ap k h0 h1 K = K r0 := by unfold spec_PieceDigest.ap; rw [h]; rfl
theorem spec_PieceDigest.snd : Snd env spec_PieceDigest.spec := evF_snd env_ok (sndC spec_IsFeature.snd (sndC spec_PartsOf.snd (sndC spec_Hash.snd (sndC spec_l1In.snd (sndN)))))
attribute [local irreducible] spec_PieceDigest.run
theorem spec_PieceDigest.rt (a0 : Int) : spec_PieceDigest.ret a0 = some (spec_PieceDigest.toH (a0)) := rfl
theorem spec_PieceDigest.br (n : Nat) : (∀ K, n ≤ K → ∀ (x1 : Int) (x6 : Int) (b0_0 : Int) (b0_1 : Int) (b0_2 : Int) (b0_3 : ByteArray) (x5 : List Int) (b2 : List S59) t, spec_PieceDigest.l0 n x1 x5 x6 b0_0 b0_1 b0_2 b0_3 b2 = some t → spec_PieceDigest.p5 K x1 x6 b0_0 b0_1 b0_2 b0_3 x5 b2 = some (spec_PieceDigest.toH t)) := by
  induction n using Nat.strongRecOn with
  | _ n ih =>
  intro K hK x1 x6 b0_0 b0_1 b0_2 b0_3 x5 b2 t h
  all_goals (rcases n with _ | k)
  all_goals (try (exact nos h))
  all_goals (obtain ⟨K, rfl⟩ : ∃ q, K = q + 1 := ⟨K - 1, by omega⟩)
  all_goals (first | rw [spec_PieceDigest.e5])
  all_goals (simp only [spec_PieceDigest.l0] at h)
  repeat' (with_reducible first
   | exact nos h
   | (cases some_inj h; exact spec_PieceDigest.rt _)
   | exact (ih _ (by omega)) _ (by omega) _ _ _ _ _ _ _ _ _ h
   | ((have q : spec_PieceDigest.j1 k _ _ _ _ _ _ _ _ _ = some _ := h; clear q); rcases k with _ | k <;> simp only [spec_PieceDigest.j1, reduceCtorEq] at h)
   | (simp only [Option.bind_some] at h)
   | (refine ite_by h ?_ ?_ <;> (intro hc h; (try simp only [nrm] at hc)))
   | refine itT ?_
   | refine itF ?_
   | (refine bind_by h (fun t ht h => ?_); (first | refine (spec_IsFeature.ap_of (spec_IsFeature.go ht _ (by omega))).trans ?_ | refine (spec_PartsOf.ap_of (spec_PartsOf.go ht _ (by omega))).trans ?_ | refine (spec_Hash.ap_of (spec_Hash.go ht _ (by omega))).trans ?_ | refine (spec_l1In.ap_of (spec_l1In.go ht _)).trans ?_); (try dsimp only at h ⊢))
   | (simp only [nr2] at h ⊢)
   | (exfalso; omega))
theorem spec_PieceDigest.go {k : Nat} {a0_0 : Int} {a0_1 : Int} {a0_2 : Int} {a0_3 : ByteArray} {l0_4 : List S59} {a1 : Int} {t} (h : spec_PieceDigest.f k a0_0 a0_1 a0_2 a0_3 l0_4 a1 = some t) (K : Nat) (hK : k ≤ K) : spec_PieceDigest.run K ((⟨a0_0, a0_1, a0_2, a0_3, l0_4⟩ : S57), a1, ()) = some (spec_PieceDigest.toH t) := by
  rw [spec_PieceDigest.ef]
  (try dsimp only)
  unfold spec_PieceDigest.f at h
  repeat' (with_reducible first
   | exact nos h
   | (cases some_inj h; exact spec_PieceDigest.rt _)
   | exact (spec_PieceDigest.br _) _ (by omega) _ _ _ _ _ _ _ _ _ h
   | ((have q : spec_PieceDigest.j1 k _ _ _ _ _ _ _ _ _ = some _ := h; clear q); rcases k with _ | k <;> simp only [spec_PieceDigest.j1, reduceCtorEq] at h)
   | (simp only [Option.bind_some] at h)
   | (refine ite_by h ?_ ?_ <;> (intro hc h; (try simp only [nrm] at hc)))
   | refine itT ?_
   | refine itF ?_
   | (refine bind_by h (fun t ht h => ?_); (first | refine (spec_IsFeature.ap_of (spec_IsFeature.go ht _ (by omega))).trans ?_ | refine (spec_PartsOf.ap_of (spec_PartsOf.go ht _ (by omega))).trans ?_ | refine (spec_Hash.ap_of (spec_Hash.go ht _ (by omega))).trans ?_ | refine (spec_l1In.ap_of (spec_l1In.go ht _)).trans ?_); (try dsimp only at h ⊢))
   | (simp only [nr2] at h ⊢)
   | (exfalso; omega))
def spec_TileDigest.Fs : List (Spc env) := [spec_TileBox.spec, spec_IsSource.spec, spec_PiecesIn.spec, spec_FindFeature.spec, spec_PieceDigest.spec, spec_Hash.spec]
def spec_TileDigest.fin : St eΓ → Option (HL eΓ [.i .i64]) := finR env Tryz.f69.results.toList [.i .i64]
def spec_TileDigest.cut : Nat → Option (List (Lv SC)) := lk [(7, [⟨0, none, false⟩, ⟨7, none, false⟩, ⟨8, none, false⟩, ⟨9, none, false⟩])]
def spec_TileDigest.ret (r0 : Int) : Option (HL eΓ [.i .i64]) := some (r0, ())
def spec_TileDigest.p7 (k : Nat) (x9 : Int) (x0 : List S57) (x7 : List Int) (x8 : List S83) : Option (HL eΓ [.i .i64]) := evM env spec_TileDigest.Fs Tryz.f69.ntmps spec_TileDigest.fin spec_TileDigest.cut k [.code (sub_ [1, 1, 1, 1, 1, 0, 1, 0, 0, 0, 0] (bodyOf Tryz.f69)), .code (sub_ [1, 1, 1, 1, 1, 0, 1, 0, 0, 0, 1] (bodyOf Tryz.f69)), .code (sub_ [1, 1, 1, 1, 1, 0, 1, 0, 0, 1] (bodyOf Tryz.f69)), .lp (sub_ [1, 1, 1, 1, 1, 0, 1, 0, 0] (bodyOf Tryz.f69)), .blk 0, .code (sub_ [1, 1, 1, 1, 1, 1] (bodyOf Tryz.f69))] (mkSt [(0, .c (.sl 0)), (7, .c (.sl 1)), (8, .c (.sl 2)), (9, .c (.v (.int .i64 x9)))] [.row .ro 57 (.st .s57) x0, .row .own 3 (.i .i64) x7, .row .own 83 (.st .s83) x8])
theorem spec_TileDigest.e7 (k : Nat) (x9 : Int) (x0 : List S57) (x7 : List Int) (x8 : List S83) : spec_TileDigest.p7 (k + 1) x9 x0 x7 x8 = if x9 < (x8.length : Int) then (if 0 ≤ x9 then (if x9 < (x8.length : Int) then (spec_FindFeature.ap k x0 ((rd_T83 x8 x9).f0) fun r1 => if 0 ≤ r1 then (if r1 < (x0.length : Int) then (if 0 ≤ x9 then (if x9 < (x8.length : Int) then (spec_PieceDigest.ap k (⟨(rd_T57 x0 r1).f0, (rd_T57 x0 r1).f1, (rd_T57 x0 r1).f2, (rd_T57 x0 r1).f3, (rd_T57 x0 r1).f4⟩ : S57) ((rd_T83 x8 x9).f1) fun r2 => if (x7.length + 1) * 8 ≤ 140737488355328 then (spec_TileDigest.p7 k (wrap64 (x9 + 1)) x0 (x7 ++ [r2]) x8) else none) else none) else none) else none) else none) else none) else none) else (spec_Hash.ap k x7 fun r3 => spec_TileDigest.ret r3) := by kernel_rfl
def spec_TileDigest.run (k : Nat) (h : HL eΓ [.l 57 (.st .s57), .i .i64]) : Option (HL eΓ [.i .i64]) := evF env spec_TileDigest.Fs Tryz.f69 spec_TileDigest.cut [.l 57 (.st .s57), .i .i64] [.i .i64] k h
theorem spec_TileDigest.ef (k : Nat) (h0 : List S57) (h1 : Int) : spec_TileDigest.run k (h0, h1, ()) = spec_TileBox.ap k h1 fun r1_0 r1_1 => if (!r1_1) = true then (spec_TileDigest.ret 0) else (spec_IsSource.ap k h0 fun r2 => if (!r2) = true then (spec_TileDigest.ret 0) else (spec_PiecesIn.ap k h0 h1 fun r3 => spec_TileDigest.p7 k 0 h0 ([] : List Int) r3)) := by kernel_rfl
def spec_TileDigest.toH (t : Int) : HL eΓ [.i .i64] := (t, ())
def spec_TileDigest.spec : Spc env := ⟨69, [.l 57 (.st .s57), .i .i64], [.i .i64], spec_TileDigest.run⟩
theorem spec_TileDigest.snd : Snd env spec_TileDigest.spec := evF_snd env_ok (sndC spec_TileBox.snd (sndC spec_IsSource.snd (sndC spec_PiecesIn.snd (sndC spec_FindFeature.snd (sndC spec_PieceDigest.snd (sndC spec_Hash.snd (sndN)))))))
attribute [local irreducible] spec_TileDigest.run
theorem spec_TileDigest.rt (a0 : Int) : spec_TileDigest.ret a0 = some (spec_TileDigest.toH (a0)) := rfl
theorem spec_TileDigest.br (n : Nat) : (∀ K, n ≤ K → ∀ (x9 : Int) (x0 : List S57) (x7 : List Int) (x8 : List S83) t, spec_TileDigest.l0 n x0 x7 x8 x9 = some t → spec_TileDigest.p7 K x9 x0 x7 x8 = some (spec_TileDigest.toH t)) := by
  induction n using Nat.strongRecOn with
  | _ n ih =>
  intro K hK x9 x0 x7 x8 t h
  all_goals (rcases n with _ | k)
  all_goals (try (exact nos h))
  all_goals (obtain ⟨K, rfl⟩ : ∃ q, K = q + 1 := ⟨K - 1, by omega⟩)
  all_goals (first | rw [spec_TileDigest.e7])
  all_goals (simp only [spec_TileDigest.l0] at h)
  repeat' (with_reducible first
   | exact nos h
   | (cases some_inj h; exact spec_TileDigest.rt _)
   | exact (ih _ (by omega)) _ (by omega) _ _ _ _ _ h
   | ((have q : spec_TileDigest.j0 k _ _ _ = some _ := h; clear q); rcases k with _ | k <;> simp only [spec_TileDigest.j0, reduceCtorEq] at h)
   | (simp only [Option.bind_some] at h)
   | (refine ite_by h ?_ ?_ <;> (intro hc h; (try simp only [nrm] at hc)))
   | refine itT ?_
   | refine itF ?_
   | (refine bind_by h (fun t ht h => ?_); (first | refine (spec_TileBox.ap_of (spec_TileBox.go ht _)).trans ?_ | refine (spec_IsSource.ap_of (spec_IsSource.go ht _ (by omega))).trans ?_ | refine (spec_PiecesIn.ap_of (spec_PiecesIn.go ht _ (by omega))).trans ?_ | refine (spec_FindFeature.ap_of (spec_FindFeature.go ht _ (by omega))).trans ?_ | refine (spec_PieceDigest.ap_of (spec_PieceDigest.go ht _ (by omega))).trans ?_ | refine (spec_Hash.ap_of (spec_Hash.go ht _ (by omega))).trans ?_); (try dsimp only at h ⊢))
   | (simp only [nr2] at h ⊢)
   | (exfalso; omega))
theorem spec_TileDigest.go {k : Nat} {l0 : List S57} {a1 : Int} {t} (h : spec_TileDigest.f k l0 a1 = some t) (K : Nat) (hK : k ≤ K) : spec_TileDigest.run K (l0, a1, ()) = some (spec_TileDigest.toH t) := by
  rw [spec_TileDigest.ef]
  (try dsimp only)
  unfold spec_TileDigest.f at h
  repeat' (with_reducible first
   | exact nos h
   | (cases some_inj h; exact spec_TileDigest.rt _)
   | exact (spec_TileDigest.br _) _ (by omega) _ _ _ _ _ h
   | ((have q : spec_TileDigest.j0 k _ _ _ = some _ := h; clear q); rcases k with _ | k <;> simp only [spec_TileDigest.j0, reduceCtorEq] at h)
   | (simp only [Option.bind_some] at h)
   | (refine ite_by h ?_ ?_ <;> (intro hc h; (try simp only [nrm] at hc)))
   | refine itT ?_
   | refine itF ?_
   | (refine bind_by h (fun t ht h => ?_); (first | refine (spec_TileBox.ap_of (spec_TileBox.go ht _)).trans ?_ | refine (spec_IsSource.ap_of (spec_IsSource.go ht _ (by omega))).trans ?_ | refine (spec_PiecesIn.ap_of (spec_PiecesIn.go ht _ (by omega))).trans ?_ | refine (spec_FindFeature.ap_of (spec_FindFeature.go ht _ (by omega))).trans ?_ | refine (spec_PieceDigest.ap_of (spec_PieceDigest.go ht _ (by omega))).trans ?_ | refine (spec_Hash.ap_of (spec_Hash.go ht _ (by omega))).trans ?_); (try dsimp only at h ⊢))
   | (simp only [nr2] at h ⊢)
   | (exfalso; omega))
theorem spec_TileDigest.calls (k : Nat) (A0 : Option Addr) (c0 : Nat) (l0 : List (S57)) (a1 : Int) (r : Int) (w : World) (hr0 : Kd.C k57 w A0 l0.length l0) (hc0 : l0.length ≤ c0) (h : spec_TileDigest.f k l0 a1 = some r) :
  Calls Tryz.prog 69 #[.slice A0 l0.length c0, .int .i64 a1] w fun e w' => e = .returned (.int .i64 r) ∧ Below w.heap.size w w' := by
  refine (spec_TileDigest.snd.calls _ _ _ (spec_TileDigest.go h k (Nat.le_refl k)) w [.slice A0 l0.length c0, .int .i64 a1] ⟨⟨_, _, rfl, hc0, hr0⟩, rfl, trivial⟩).mono ?_
  rintro e w' ⟨v, rfl, hB, vs, oks, rfl, hR, _⟩
  obtain ⟨x0_, vs, o0_, oks, rfl, rfl, m0_, hR⟩ := rmsC hR
  obtain rfl := rmsN hR
  obtain rfl := List.singleton_inj.1 (show [x0_] = [Value.int .i64 r] from m0_)
  exact ⟨rfl, hB⟩
set_option maxHeartbeats 8000000 in
set_option maxRecDepth 100000 in
theorem spec_SameElsewhere.calls (k : Nat) (A0 : Option Addr) (c0 : Nat) (l0 : List (S57)) (A1 : Option Addr) (c1 : Nat) (l1 : List (S57)) (A2 : Option Addr) (c2 : Nat) (l2 : List Int) (r : Bool) (w : World) (hr0 : Kd.C k57 w A0 l0.length l0) (hc0 : l0.length ≤ c0) (hr1 : Kd.C k57 w A1 l1.length l1) (hc1 : l1.length ≤ c1) (hr2 : Kd.C (Kd.int .i64) w A2 l2.length l2) (hc2 : l2.length ≤ c2) (h : spec_SameElsewhere.f k l0 l1 l2 = some r) :
  Calls Tryz.prog 30 #[.slice A0 l0.length c0, .slice A1 l1.length c1, .slice A2 l2.length c2] w fun e w' => e = .returned (.bool r) ∧ Below w.heap.size w w' := by
 have HR0 := Aside0.mk hr0; have HC0 := Aside0.mk hc0; clear hr0 hc0; have HR1 := Aside0.mk hr1; have HC1 := Aside0.mk hc1; clear hr1 hc1; have HR2 := Aside0.mk hr2; have HC2 := Aside0.mk hc2; clear hr2 hc2; have HB := Aside0.mk (Below.refl w.heap.size w); have H : ((spec_ChangedTiles.f k l0 l1).bind fun t489 => (spec_SameElsewhere.l0 k l0 l1 l2 t489 0)) = some r := h; clear h; replace H := Option.bind_eq_some_iff.mp H; obtain ⟨t489, A40, H⟩ := H; have A4 := Aside0.mk A40; clear A40; have H' := Aside0.mk H; clear H
 go_enter Tryz.func30, Tryz.ntmps30; go_wp2_with (first | ((with_reducible refine gt (some 11) rfl ?_); refine gc Tryz.func28 (spec_ChangedTiles.calls k _ _ l0 _ _ l1 t489 _ (cz HR0.out) HC0.out (cz HR1.out) HC1.out A4.out) ?_; rintro e w5 ⟨v490, rfl, ho0, hb⟩; refine ⟨_, rfl, ?_⟩; have HO491 := Aside0.mk (Kd.V_lower (Kd.V_mono (ok' := fun k_ => True) ho0 (fun k_ hk_ => trivial)) (below_size bz)); replace HB := Aside0.mk (below_step bz hb); (try clear hb); (try clear ho0)))
 go_loopg [8] k (fun kq v8 w' => ∃ (x8_1 : Int), v8 = .int .i64 x8_1 ∧ Aside0 (spec_SameElsewhere.l0 kq l0 l1 l2 t489 x8_1 = some r) ∧ Aside0 (kq ≤ k) ∧ Aside0 (Kd.V (Kd.int .i64) 3 w' w.heap.size (fun _ => True) v490 t489) ∧ Aside0 (Below w.heap.size w w'))
 case atStart => exact ⟨(0), rz, H', ⟨Nat.le_refl _⟩, ⟨by (with_reducible repeat (first | apply Kd.V_alloc | apply Kd.V_drewN | apply Kd.V_drew)); exact HO491.out⟩, ⟨bz⟩⟩
 case round =>
  clear H'; (try clear c1); (try clear c2); (try clear p2); (try clear c3); obtain ⟨x8_1, rfl, HA, HK1, HO_7, HB⟩ := hrel
  cases gk with
  | zero => exact absurd HA.out (by simp [spec_SameElsewhere.l0])
  | succ k1 =>
   have H := HA.out; clear HA; simp only [spec_SameElsewhere.l0] at H
   by_cases c6 : x8_1 < (l2.length : Int)
   ·rw [if_pos c6] at H; have c6b0 := decide_eq_true c6; clear c6
    by_cases c7 : 0 ≤ x8_1
    ·rw [if_pos c7] at H; have c7b0 := decide_eq_true c7; clear c7; replace H := Option.bind_eq_some_iff.mp H; obtain ⟨t495, A80, H⟩ := H; have A8 := Aside0.mk A80; clear A80
     by_cases c9 : t495 = true
     ·subst c9; replace H := ift H; have H' := Aside0.mk H; clear H; (try go_wp2); replace HO_7 := Aside0.mk (Kd.V_drew HO_7.out); replace HB := Aside0.mk (below_drew1 HB.out); have p494 : 0 ≤ (x8_1 : Int) := of_decide_eq_true az; have q494 : x8_1 < (l2.length : Int) := of_decide_eq_true az; obtain ⟨ad494, e494, hx494_0⟩ := Kd.at_int HR2.out x8_1 p494 q494; have hw494_0 := hx494_0
      cases e494
      replace hx494_0 := xz HB hx494_0; replace p494 := eq_true p494; replace q494 := eq_true q494; obtain ⟨Ao11, co11, eo11⟩ := Kd.V_slice HO_7.out
      (first | subst eo11 | (injection eo11 with f1_ f2_ f3_; have f4_ := f1_.symm; have f5_ := f3_.symm; clear f1_ f2_ f3_; subst f4_; subst f5_))
      refine start_ (n := 22) (S := fun w' => w'.cell? (ad494.add (x8_1).toNat) = some (.int .i64 (rd l2 x8_1))) (ds := []) #[F,F,F,F,F,F,F,F,F,F,F,F,F,F,F,F,F,F,F,F,F,F] (by kernel_rfl) rfl rfl ((xz HB hw494_0 :)) (fun hHeld => ?_); refine with_tabW spec_SameElsewhere.tab5 spec_SameElsewhere.bits5 (fun HT_ HW_ => ?_); generalize wr.drew = w10 at HO_7 HB hx494_0 hHeld ⊢; refine pz HT_ 0 18 ?_; refine pz HT_ 1 19 ?_; refine pz HT_ 2 20 ?_; refine pz HT_ 3 21 ?_; refine tz1 HT_ HW_ hHeld 4 22 ?_; refine oz HT_ 5 (some 23) (fun K hK => ?_); refine gz Tryz.func52 #[.slice Ao11 t489.length co11, .int .i64 (rd l2 x8_1)] ?_
      with_reducible refine (spec_l14Has.calls k1 _ _ t489 (rd l2 x8_1) true _ ?side1 ?side2 A8.out).mono ?_
      (case side1 => repeat (first | exact (Kd.V_reads' HO_7.out).2.2 | (with_reducible refine Kd.C_alloc ?_ _) | (with_reducible refine Kd.C_drewN ?_ _) | (with_reducible refine Kd.C_drew ?_)))
      (case side2 => exact (Kd.V_reads' HO_7.out).2.1)
      rintro e w' ⟨rfl, ⟨nd, rfl⟩⟩; refine ⟨_, rfl, ?_⟩; refine hK.out _ _ ((xz HB hw494_0 :)) (fun hHeld => ?_); clear hK K; refine nz 23 ?_; refine pz HT_ 6 24 ?_; refine pz HT_ 7 25 ?_; refine uz HT_ 8 26 ?_; refine uz HT_ 9 27 ?_; refine uz HT_ 10 28 ?_; refine uz HT_ 11 29 ?_; refine uz HT_ 12 30 ?_; refine uz HT_ 13 31 ?_; refine uz HT_ 14 32 ?_; refine uz HT_ 15 33 ?_; refine uz HT_ 16 34 ?_; refine uz HT_ 17 35 ?_; refine uz HT_ 18 36 ?_; refine uz HT_ 19 37 ?_; refine uz HT_ 20 38 ?_; refine pz HT_ 21 39 ?_; refine dz HT_ ?_; (try go_wp2)
      go_roundg k1
      case measure => have := HK1.out; omega
      case rel => exact ⟨(wrap64 (x8_1 + 1)), rz, H', ⟨by have := HK1.out; omega⟩, ⟨by (with_reducible repeat (first | apply Kd.V_alloc | apply Kd.V_drewN | apply Kd.V_drew)); exact HO_7.out⟩, ⟨bz⟩⟩
     ·replace c9 := Bool.eq_false_iff.mpr c9; subst c9; replace H := iff_ H; replace H := Option.bind_eq_some_iff.mp H; obtain ⟨t497, A120, H⟩ := H; have A12 := Aside0.mk A120; clear A120; replace H := Option.bind_eq_some_iff.mp H; obtain ⟨t499, A130, H⟩ := H; have A13 := Aside0.mk A130; clear A130
      by_cases c14 : t497 = t499
      ·rw [if_pos c14] at H; have c14b0 : (t497 == t499) = true := beq_iff_eq.mpr c14; have c14b1 : (t497 != t499) = false := bne_eq_false_iff_eq.mpr c14; clear c14; have H' := Aside0.mk H; clear H; (try go_wp2); replace HO_7 := Aside0.mk (Kd.V_drew HO_7.out); replace HB := Aside0.mk (below_drew1 HB.out); have p494 : 0 ≤ (x8_1 : Int) := of_decide_eq_true az; have q494 : x8_1 < (l2.length : Int) := of_decide_eq_true az; obtain ⟨ad494, e494, hx494_0⟩ := Kd.at_int HR2.out x8_1 p494 q494; have hw494_0 := hx494_0
       cases e494
       replace hx494_0 := xz HB hx494_0; replace p494 := eq_true p494; replace q494 := eq_true q494; obtain ⟨Ao16, co16, eo16⟩ := Kd.V_slice HO_7.out
       (first | subst eo16 | (injection eo16 with f1_ f2_ f3_; have f4_ := f1_.symm; have f5_ := f3_.symm; clear f1_ f2_ f3_; subst f4_; subst f5_))
       have p496 : 0 ≤ (x8_1 : Int) := of_decide_eq_true az; have q496 : x8_1 < (l2.length : Int) := of_decide_eq_true az; obtain ⟨ad496, e496, hx496_0⟩ := Kd.at_int HR2.out x8_1 p496 q496; have hw496_0 := hx496_0; obtain rfl : ad494 = ad496 := (by injection e496)
       replace hx496_0 := xz HB hx496_0; replace p496 := eq_true p496; replace q496 := eq_true q496; have p498 : 0 ≤ (x8_1 : Int) := of_decide_eq_true az; have q498 : x8_1 < (l2.length : Int) := of_decide_eq_true az; obtain ⟨ad498, e498, hx498_0⟩ := Kd.at_int HR2.out x8_1 p498 q498; have hw498_0 := hx498_0; obtain rfl : ad494 = ad498 := (by injection e498)
       replace hx498_0 := xz HB hx498_0; replace p498 := eq_true p498; replace q498 := eq_true q498; refine start_ (n := 22) (S := fun w' => w'.cell? (ad494.add (x8_1).toNat) = some (.int .i64 (rd l2 x8_1)) ∧ w'.cell? (ad494.add (x8_1).toNat) = some (.int .i64 (rd l2 x8_1)) ∧ w'.cell? (ad494.add (x8_1).toNat) = some (.int .i64 (rd l2 x8_1))) (ds := []) #[F,F,F,F,F,F,F,F,F,F,F,F,F,F,F,F,F,F,F,F,F,F] (by kernel_rfl) rfl rfl ⟨(xz HB hw494_0 :), (xz HB hw496_0 :), (xz HB hw498_0 :)⟩ (fun hHeld => ?_); refine with_tabW spec_SameElsewhere.tab5 spec_SameElsewhere.bits5 (fun HT_ HW_ => ?_); generalize wr.drew = w15 at HO_7 HB hx494_0 hx496_0 hx498_0 hHeld ⊢; refine pz HT_ 0 18 ?_; refine pz HT_ 1 19 ?_; refine pz HT_ 2 20 ?_; refine pz HT_ 3 21 ?_; refine tz3 HT_ HW_ hHeld 4 22 ?_; refine oz HT_ 5 (some 23) (fun K hK => ?_); refine gz Tryz.func52 #[.slice Ao16 t489.length co16, .int .i64 (rd l2 x8_1)] ?_
       with_reducible refine (spec_l14Has.calls k1 _ _ t489 (rd l2 x8_1) false _ ?side1 ?side2 A8.out).mono ?_
       (case side1 => repeat (first | exact (Kd.V_reads' HO_7.out).2.2 | (with_reducible refine Kd.C_alloc ?_ _) | (with_reducible refine Kd.C_drewN ?_ _) | (with_reducible refine Kd.C_drew ?_)))
       (case side2 => exact (Kd.V_reads' HO_7.out).2.1)
       rintro e w' ⟨rfl, ⟨nd, rfl⟩⟩; refine ⟨_, rfl, ?_⟩; refine hK.out _ _ ⟨(xz HB hw494_0 :), (xz HB hw496_0 :), (xz HB hw498_0 :)⟩ (fun hHeld => ?_); clear hK K; refine nz 23 ?_; refine pz HT_ 6 24 ?_; refine pz HT_ 7 25 ?_; refine pz HT_ 8 26 ?_; refine pz HT_ 9 27 ?_; refine pz HT_ 10 28 ?_; refine pz HT_ 11 29 ?_; refine pz HT_ 14 32 ?_; refine pz HT_ 15 33 ?_; refine pz HT_ 16 34 ?_; refine pz HT_ 17 35 ?_; refine tz3 HT_ HW_ hHeld 12 30 ?_; refine tz3 HT_ HW_ hHeld 18 36 ?_; refine oz HT_ 13 (some 31) (fun K hK => ?_); refine gz Tryz.func69 #[.slice A0 l0.length c0, .int .i64 (rd l2 x8_1)] ?_
       with_reducible refine (spec_TileDigest.calls k1 _ _ l0 (rd l2 x8_1) t497 _ ?side1 ?side2 A12.out).mono ?_
       (case side1 => repeat (first | exact (Kd.C_below HR0.out bz) | (with_reducible refine Kd.C_alloc ?_ _) | (with_reducible refine Kd.C_drewN ?_ _) | (with_reducible refine Kd.C_drew ?_)))
       (case side2 => exact HC0.out)
       rintro e w17 ⟨rfl, hb⟩; refine ⟨_, rfl, ?_⟩; replace HO_7 := Aside0.mk (Kd.V_below (by (with_reducible repeat (first | apply Kd.V_alloc | apply Kd.V_drewN | apply Kd.V_drew)); exact HO_7.out) hb); replace HB := Aside0.mk (below_step bz hb); (try clear hb); (try clear hb2); (try clear hk); (try clear hi); refine hK.out _ _ ⟨(xz HB hw494_0 :), (xz HB hw496_0 :), (xz HB hw498_0 :)⟩ (fun hHeld => ?_); clear hK K; refine nz 31 ?_; refine oz HT_ 19 (some 37) (fun K hK => ?_); refine gz Tryz.func69 #[.slice A1 l1.length c1, .int .i64 (rd l2 x8_1)] ?_
       with_reducible refine (spec_TileDigest.calls k1 _ _ l1 (rd l2 x8_1) t499 _ ?side1 ?side2 A13.out).mono ?_
       (case side1 => repeat (first | exact (Kd.C_below HR1.out HB.out) | (with_reducible refine Kd.C_alloc ?_ _) | (with_reducible refine Kd.C_drewN ?_ _) | (with_reducible refine Kd.C_drew ?_)))
       (case side2 => exact HC1.out)
       rintro e w18 ⟨rfl, hb⟩; refine ⟨_, rfl, ?_⟩; replace HO_7 := Aside0.mk (Kd.V_below (by (with_reducible repeat (first | apply Kd.V_alloc | apply Kd.V_drewN | apply Kd.V_drew)); exact HO_7.out) hb); replace HB := Aside0.mk (below_step bz hb); (try clear hb); (try clear hb2); (try clear hk); (try clear hi); refine hK.out _ _ ⟨(xz HB hw494_0 :), (xz HB hw496_0 :), (xz HB hw498_0 :)⟩ (fun hHeld => ?_); clear hK K; refine nz 37 ?_; refine pz HT_ 20 38 ?_; refine pz HT_ 21 39 ?_; refine dz HT_ ?_; (try go_wp2)
       go_roundg k1
       case measure => have := HK1.out; omega
       case rel => exact ⟨(wrap64 (x8_1 + 1)), rz, H', ⟨by have := HK1.out; omega⟩, ⟨by (with_reducible repeat (first | apply Kd.V_alloc | apply Kd.V_drewN | apply Kd.V_drew)); exact HO_7.out⟩, ⟨bz⟩⟩
      ·rw [if_neg c14] at H; have c14b0 : (t497 == t499) = false := beq_eq_false_iff_ne.mpr c14; have c14b1 : (t497 != t499) = true := bne_iff_ne.mpr c14; obtain rfl := Option.some.inj H; (try go_wp2); replace HO_7 := Aside0.mk (Kd.V_drew HO_7.out); replace HB := Aside0.mk (below_drew1 HB.out); have p494 : 0 ≤ (x8_1 : Int) := of_decide_eq_true az; have q494 : x8_1 < (l2.length : Int) := of_decide_eq_true az; obtain ⟨ad494, e494, hx494_0⟩ := Kd.at_int HR2.out x8_1 p494 q494; have hw494_0 := hx494_0
       cases e494
       replace hx494_0 := xz HB hx494_0; replace p494 := eq_true p494; replace q494 := eq_true q494; obtain ⟨Ao20, co20, eo20⟩ := Kd.V_slice HO_7.out
       (first | subst eo20 | (injection eo20 with f1_ f2_ f3_; have f4_ := f1_.symm; have f5_ := f3_.symm; clear f1_ f2_ f3_; subst f4_; subst f5_))
       have p496 : 0 ≤ (x8_1 : Int) := of_decide_eq_true az; have q496 : x8_1 < (l2.length : Int) := of_decide_eq_true az; obtain ⟨ad496, e496, hx496_0⟩ := Kd.at_int HR2.out x8_1 p496 q496; have hw496_0 := hx496_0; obtain rfl : ad494 = ad496 := (by injection e496)
       replace hx496_0 := xz HB hx496_0; replace p496 := eq_true p496; replace q496 := eq_true q496; have p498 : 0 ≤ (x8_1 : Int) := of_decide_eq_true az; have q498 : x8_1 < (l2.length : Int) := of_decide_eq_true az; obtain ⟨ad498, e498, hx498_0⟩ := Kd.at_int HR2.out x8_1 p498 q498; have hw498_0 := hx498_0; obtain rfl : ad494 = ad498 := (by injection e498)
       replace hx498_0 := xz HB hx498_0; replace p498 := eq_true p498; replace q498 := eq_true q498; refine start_ (n := 22) (S := fun w' => w'.cell? (ad494.add (x8_1).toNat) = some (.int .i64 (rd l2 x8_1)) ∧ w'.cell? (ad494.add (x8_1).toNat) = some (.int .i64 (rd l2 x8_1)) ∧ w'.cell? (ad494.add (x8_1).toNat) = some (.int .i64 (rd l2 x8_1))) (ds := []) #[F,F,F,F,F,F,F,F,F,F,F,F,F,F,F,F,F,F,F,F,F,F] (by kernel_rfl) rfl rfl ⟨(xz HB hw494_0 :), (xz HB hw496_0 :), (xz HB hw498_0 :)⟩ (fun hHeld => ?_); refine with_tabW spec_SameElsewhere.tab5 spec_SameElsewhere.bits5 (fun HT_ HW_ => ?_); generalize wr.drew = w19 at HO_7 HB hx494_0 hx496_0 hx498_0 hHeld ⊢; refine pz HT_ 0 18 ?_; refine pz HT_ 1 19 ?_; refine pz HT_ 2 20 ?_; refine pz HT_ 3 21 ?_; refine tz3 HT_ HW_ hHeld 4 22 ?_; refine oz HT_ 5 (some 23) (fun K hK => ?_); refine gz Tryz.func52 #[.slice Ao20 t489.length co20, .int .i64 (rd l2 x8_1)] ?_
       with_reducible refine (spec_l14Has.calls k1 _ _ t489 (rd l2 x8_1) false _ ?side1 ?side2 A8.out).mono ?_
       (case side1 => repeat (first | exact (Kd.V_reads' HO_7.out).2.2 | (with_reducible refine Kd.C_alloc ?_ _) | (with_reducible refine Kd.C_drewN ?_ _) | (with_reducible refine Kd.C_drew ?_)))
       (case side2 => exact (Kd.V_reads' HO_7.out).2.1)
       rintro e w' ⟨rfl, ⟨nd, rfl⟩⟩; refine ⟨_, rfl, ?_⟩; refine hK.out _ _ ⟨(xz HB hw494_0 :), (xz HB hw496_0 :), (xz HB hw498_0 :)⟩ (fun hHeld => ?_); clear hK K; refine nz 23 ?_; refine pz HT_ 6 24 ?_; refine pz HT_ 7 25 ?_; refine pz HT_ 8 26 ?_; refine pz HT_ 9 27 ?_; refine pz HT_ 10 28 ?_; refine pz HT_ 11 29 ?_; refine pz HT_ 14 32 ?_; refine pz HT_ 15 33 ?_; refine pz HT_ 16 34 ?_; refine pz HT_ 17 35 ?_; refine tz3 HT_ HW_ hHeld 12 30 ?_; refine tz3 HT_ HW_ hHeld 18 36 ?_; refine oz HT_ 13 (some 31) (fun K hK => ?_); refine gz Tryz.func69 #[.slice A0 l0.length c0, .int .i64 (rd l2 x8_1)] ?_
       with_reducible refine (spec_TileDigest.calls k1 _ _ l0 (rd l2 x8_1) t497 _ ?side1 ?side2 A12.out).mono ?_
       (case side1 => repeat (first | exact (Kd.C_below HR0.out bz) | (with_reducible refine Kd.C_alloc ?_ _) | (with_reducible refine Kd.C_drewN ?_ _) | (with_reducible refine Kd.C_drew ?_)))
       (case side2 => exact HC0.out)
       rintro e w21 ⟨rfl, hb⟩; refine ⟨_, rfl, ?_⟩; replace HO_7 := Aside0.mk (Kd.V_below (by (with_reducible repeat (first | apply Kd.V_alloc | apply Kd.V_drewN | apply Kd.V_drew)); exact HO_7.out) hb); replace HB := Aside0.mk (below_step bz hb); (try clear hb); (try clear hb2); (try clear hk); (try clear hi); refine hK.out _ _ ⟨(xz HB hw494_0 :), (xz HB hw496_0 :), (xz HB hw498_0 :)⟩ (fun hHeld => ?_); clear hK K; refine nz 31 ?_; refine oz HT_ 19 (some 37) (fun K hK => ?_); refine gz Tryz.func69 #[.slice A1 l1.length c1, .int .i64 (rd l2 x8_1)] ?_
       with_reducible refine (spec_TileDigest.calls k1 _ _ l1 (rd l2 x8_1) t499 _ ?side1 ?side2 A13.out).mono ?_
       (case side1 => repeat (first | exact (Kd.C_below HR1.out HB.out) | (with_reducible refine Kd.C_alloc ?_ _) | (with_reducible refine Kd.C_drewN ?_ _) | (with_reducible refine Kd.C_drew ?_)))
       (case side2 => exact HC1.out)
       rintro e w22 ⟨rfl, hb⟩; refine ⟨_, rfl, ?_⟩; replace HO_7 := Aside0.mk (Kd.V_below (by (with_reducible repeat (first | apply Kd.V_alloc | apply Kd.V_drewN | apply Kd.V_drew)); exact HO_7.out) hb); replace HB := Aside0.mk (below_step bz hb); (try clear hb); (try clear hb2); (try clear hk); (try clear hi); refine hK.out _ _ ⟨(xz HB hw494_0 :), (xz HB hw496_0 :), (xz HB hw498_0 :)⟩ (fun hHeld => ?_); clear hK K; refine nz 37 ?_; refine pz HT_ 20 38 ?_; refine pz HT_ 21 39 ?_; refine dz HT_ ?_; (try go_wp2); go_ret
       exact ⟨ez, bz⟩
    ·rw [if_neg c7] at H
     exact absurd H (by simp)
   ·rw [if_neg c6] at H; have c6b0 := decide_eq_false c6; clear c6; replace H := Option.bind_eq_some_iff.mp H; obtain ⟨t492, A230, H⟩ := H; have A23 := Aside0.mk A230; clear A230
    by_cases c24 : t492 = true
    ·subst c24; replace H := ift H; replace H := Option.bind_eq_some_iff.mp H; obtain ⟨t493, A250, H⟩ := H; have A25 := Aside0.mk A250; clear A250; obtain rfl := Option.some.inj H; go_wp2_with (first | ((with_reducible refine gt (some 41) rfl ?_); refine gc Tryz.func63 (spec_IsSource.calls k1 _ _ l0 true _ cz0 HC0.out A23.out) ?_; rintro e w26 ⟨rfl, hb⟩; refine ⟨_, rfl, ?_⟩; replace HO_7 := Aside0.mk (Kd.V_below (by (with_reducible repeat (first | apply Kd.V_alloc | apply Kd.V_drewN | apply Kd.V_drew)); exact HO_7.out) hb); replace HB := Aside0.mk (below_step bz hb); (try clear hb)) | (go_at_call 63; (with_reducible refine (spec_IsSource.calls k1 _ _ l1 t493 _ ?side1 ?side2 A25.out).mono ?_); (case side1 => repeat (first | exact (Kd.C_below HR1.out HB.out) | (with_reducible refine Kd.C_alloc ?_ _) | (with_reducible refine Kd.C_drewN ?_ _) | (with_reducible refine Kd.C_drew ?_))); (case side2 => exact HC1.out); rintro e w27 ⟨rfl, hb⟩; replace HO_7 := Aside0.mk (Kd.V_below (by (with_reducible repeat (first | apply Kd.V_alloc | apply Kd.V_drewN | apply Kd.V_drew)); exact HO_7.out) hb); replace HB := Aside0.mk (below_step bz hb); (try clear hb))); go_ret
     exact ⟨ez, bz⟩
    ·replace c24 := Bool.eq_false_iff.mpr c24; subst c24; replace H := iff_ H; obtain rfl := Option.some.inj H; go_wp2_with (first | ((with_reducible refine gt (some 41) rfl ?_); refine gc Tryz.func63 (spec_IsSource.calls k1 _ _ l0 false _ cz0 HC0.out A23.out) ?_; rintro e w28 ⟨rfl, hb⟩; refine ⟨_, rfl, ?_⟩; replace HO_7 := Aside0.mk (Kd.V_below (by (with_reducible repeat (first | apply Kd.V_alloc | apply Kd.V_drewN | apply Kd.V_drew)); exact HO_7.out) hb); replace HB := Aside0.mk (below_step bz hb); (try clear hb))); go_ret
     exact ⟨ez, bz⟩
def impl_InRange.toH (t : Bool) : HL eΓ [.b] := (t, ())
def impl_InRange.run (k : Nat) (h : HL eΓ [.i .i64, .i .i64, .i .i64]) : Option (HL eΓ [.b]) := (impl_InRange.f (h.1 : Int) (h.2.1 : Int) (h.2.2.1 : Int)).map impl_InRange.toH
def impl_InRange.spec : Spc env := ⟨94, [.i .i64, .i .i64, .i .i64], [.b], impl_InRange.run⟩
def impl_InRange.ap {R : Type} (k : Nat) (h0 : Int) (h1 : Int) (h2 : Int) (K : Bool → Option R) : Option R := (impl_InRange.run k (h0, h1, h2, ())).bind fun r => K (r.1 : Bool)
theorem impl_InRange.ap_of {R : Type} {k : Nat} {h0 : Int} {h1 : Int} {h2 : Int} {r0 : Bool} {K : Bool → Option R} (h : impl_InRange.run k (h0, h1, h2, ()) = some (r0, ())) : impl_InRange.ap k h0 h1 h2 K = K r0 := by unfold impl_InRange.ap; rw [h]; rfl
theorem impl_InRange.go {a0 : Int} {a1 : Int} {a2 : Int} {t} (h : impl_InRange.f a0 a1 a2 = some t) (K : Nat) : impl_InRange.run K (a0, a1, a2, ()) = some (impl_InRange.toH t) := by
  show Option.map _ (impl_InRange.f a0 a1 a2) = _
  rw [h]; rfl
theorem impl_InRange.snd : Snd env impl_InRange.spec := ⟨⟨Tryz.f94, by kernel_rfl, by kernel_rfl, by kernel_rfl⟩, fun k h r he w us hA => by
  obtain ⟨t, ht, rfl⟩ := Option.map_eq_some_iff.1 (show (impl_InRange.f (h.1 : Int) (h.2.1 : Int) (h.2.2.1 : Int)).map impl_InRange.toH = some r from he)
  match us, hA with
  | [u0, u1, u2], ⟨q0, q1, q2, _⟩ =>
  obtain rfl := List.singleton_inj.1 (show [u0] = [Value.int .i64 (h.1 : Int)] from q0)
  obtain rfl := List.singleton_inj.1 (show [u1] = [Value.int .i64 (h.2.1 : Int)] from q1)
  obtain rfl := List.singleton_inj.1 (show [u2] = [Value.int .i64 (h.2.2.1 : Int)] from q2)
  refine (impl_InRange.calls (w := w) (h := ht) ).mono ?_
  rintro e w' ⟨he, hw⟩
  exact ⟨_, he, (by obtain ⟨_, rfl⟩ := hw; exact Below.refl _ _), [.bool t], [fun _ => False], rfl, ⟨rfl, trivial⟩, by simp [DJ]⟩⟩
def impl_IsPoint.toH (t : Bool) : HL eΓ [.b] := (t, ())
def impl_IsPoint.run (k : Nat) (h : HL eΓ [.st .s59]) : Option (HL eΓ [.b]) := (impl_IsPoint.f ((h.1 : S59).f0) ((h.1 : S59).f1)).map impl_IsPoint.toH
def impl_IsPoint.spec : Spc env := ⟨92, [.st .s59], [.b], impl_IsPoint.run⟩
def impl_IsPoint.ap {R : Type} (k : Nat) (h0 : S59) (K : Bool → Option R) : Option R := (impl_IsPoint.run k (h0, ())).bind fun r => K (r.1 : Bool)
theorem impl_IsPoint.ap_of {R : Type} {k : Nat} {h0 : S59} {r0 : Bool} {K : Bool → Option R} (h : impl_IsPoint.run k (h0, ()) = some (r0, ())) : impl_IsPoint.ap k h0 K = K r0 := by unfold impl_IsPoint.ap; rw [h]; rfl
theorem impl_IsPoint.go {a0_0 : Int} {a0_1 : Int} {t} (h : impl_IsPoint.f a0_0 a0_1 = some t) (K : Nat) : impl_IsPoint.run K ((⟨a0_0, a0_1⟩ : S59), ()) = some (impl_IsPoint.toH t) := by
  show Option.map _ (impl_IsPoint.f a0_0 a0_1) = _
  rw [h]; rfl
theorem impl_IsPoint.snd : Snd env impl_IsPoint.spec := ⟨⟨Tryz.f92, by kernel_rfl, by kernel_rfl, by kernel_rfl⟩, fun k h r he w us hA => by
  obtain ⟨t, ht, rfl⟩ := Option.map_eq_some_iff.1 (show (impl_IsPoint.f ((h.1 : S59).f0) ((h.1 : S59).f1)).map impl_IsPoint.toH = some r from he)
  match us, hA with
  | [u0], ⟨q0, _⟩ =>
  obtain ⟨v0, rfl, q0⟩ := q0
  have q0 := (H59.K _ _ _).1 q0
  match e0 : v0.toList, q0 with
  | [c0_0, c0_1], ⟨p0_0, p0_1, _⟩ =>
  obtain rfl : v0 = #[c0_0, c0_1] := by rw [← Array.toArray_toList (xs := v0), e0]
  obtain rfl := List.singleton_inj.1 (show [c0_0] = [Value.int .i64 ((h.1 : S59).f0)] from p0_0)
  obtain rfl := List.singleton_inj.1 (show [c0_1] = [Value.int .i64 ((h.1 : S59).f1)] from p0_1)
  refine (impl_IsPoint.calls (w := w) (h := ht) ).mono ?_
  rintro e w' ⟨he, hw⟩
  exact ⟨_, he, hw, [.bool t], [fun _ => False], rfl, ⟨rfl, trivial⟩, by simp [DJ]⟩⟩
def impl_IsName.Fs : List (Spc env) := [impl_InRange.spec]
def impl_IsName.fin : St eΓ → Option (HL eΓ [.b]) := finR env Tryz.f93.results.toList [.b]
def impl_IsName.cut : Nat → Option (List (Lv SC)) := lk [(2, [⟨0, none, false⟩, ⟨5, none, false⟩, ⟨6, none, false⟩])]
def impl_IsName.ret (r0 : Bool) : Option (HL eΓ [.b]) := some (r0, ())
def impl_IsName.p2 (k : Nat) (x0 : ByteArray) (x5 : Int) (x6 : Int) : Option (HL eΓ [.b]) := evM env impl_IsName.Fs Tryz.f93.ntmps impl_IsName.fin impl_IsName.cut k [.code (sub_ [1, 0, 1, 0, 0, 0] (bodyOf Tryz.f93)), .code (sub_ [1, 0, 1, 0, 0, 1] (bodyOf Tryz.f93)), .lp (sub_ [1, 0, 1, 0, 0] (bodyOf Tryz.f93)), .blk 0, .code (sub_ [1, 1] (bodyOf Tryz.f93))] (mkSt [(0, .c (.v (.string x0))), (5, .c (.v (.int .i64 x5))), (6, .c (.v (.int .i64 x6)))] [])
theorem impl_IsName.e2 (k : Nat) (x0 : ByteArray) (x5 : Int) (x6 : Int) : impl_IsName.p2 (k + 1) x0 x5 x6 = if x6 < x5 then (if 0 ≤ x6 then (if x6 < (x0.size : Int) then (if (bt x0 x6) < 97 then (impl_IsName.ret false) else (if 0 ≤ x6 then (if x6 < (x0.size : Int) then (if (bt x0 x6) > 122 then (impl_IsName.ret false) else (impl_IsName.p2 k x0 x5 (wrap64 (x6 + 1)))) else none) else none)) else none) else none) else (impl_InRange.ap k (x0.size : Int) 1 8 fun r1 => impl_IsName.ret r1) := by kernel_rfl
def impl_IsName.run (k : Nat) (h : HL eΓ [.s]) : Option (HL eΓ [.b]) := evF env impl_IsName.Fs Tryz.f93 impl_IsName.cut [.s] [.b] k h
theorem impl_IsName.ef (k : Nat) (h0 : ByteArray) : impl_IsName.run k (h0, ()) = impl_IsName.p2 k h0 (h0.size : Int) 0 := by kernel_rfl
def impl_IsName.toH (t : Bool) : HL eΓ [.b] := (t, ())
def impl_IsName.spec : Spc env := ⟨93, [.s], [.b], impl_IsName.run⟩
def impl_IsName.ap {R : Type} (k : Nat) (h0 : ByteArray) (K : Bool → Option R) : Option R := (impl_IsName.run k (h0, ())).bind fun r => K (r.1 : Bool)
theorem impl_IsName.ap_of {R : Type} {k : Nat} {h0 : ByteArray} {r0 : Bool} {K : Bool → Option R} (h : impl_IsName.run k (h0, ()) = some (r0, ())) : impl_IsName.ap k h0 K = K r0 := by unfold impl_IsName.ap; rw [h]; rfl
theorem impl_IsName.snd : Snd env impl_IsName.spec := evF_snd env_ok (sndC impl_InRange.snd (sndN))
attribute [local irreducible] impl_IsName.run
theorem impl_IsName.rt (a0 : Bool) : impl_IsName.ret a0 = some (impl_IsName.toH (a0)) := rfl
theorem impl_IsName.br (n : Nat) : (∀ K, n ≤ K → ∀ (x0 : ByteArray) (x5 : Int) (x6 : Int) t, impl_IsName.l0 n x0 x5 x6 = some t → impl_IsName.p2 K x0 x5 x6 = some (impl_IsName.toH t)) := by
  induction n using Nat.strongRecOn with
  | _ n ih =>
  intro K hK x0 x5 x6 t h
  all_goals (rcases n with _ | k)
  all_goals (try (exact nos h))
  all_goals (obtain ⟨K, rfl⟩ : ∃ q, K = q + 1 := ⟨K - 1, by omega⟩)
  all_goals (first | rw [impl_IsName.e2])
  all_goals (simp only [impl_IsName.l0] at h)
  repeat' (with_reducible first
   | exact nos h
   | (cases some_inj h; exact impl_IsName.rt _)
   | exact (ih _ (by omega)) _ (by omega) _ _ _ _ h
   | (simp only [Option.bind_some] at h)
   | (refine ite_by h ?_ ?_ <;> (intro hc h; (try simp only [nrm] at hc)))
   | refine itT ?_
   | refine itF ?_
   | (refine bind_by h (fun t ht h => ?_); refine (impl_InRange.ap_of (impl_InRange.go ht _)).trans ?_; (try dsimp only at h ⊢))
   | (simp only [nr2] at h ⊢)
   | (exfalso; omega))
theorem impl_IsName.go {k : Nat} {a0 : ByteArray} {t} (h : impl_IsName.f k a0 = some t) (K : Nat) (hK : k ≤ K) : impl_IsName.run K (a0, ()) = some (impl_IsName.toH t) := by
  rw [impl_IsName.ef]
  (try dsimp only)
  unfold impl_IsName.f at h
  repeat' (with_reducible first
   | exact nos h
   | (cases some_inj h; exact impl_IsName.rt _)
   | exact (impl_IsName.br _) _ (by omega) _ _ _ _ h
   | (simp only [Option.bind_some] at h)
   | (refine ite_by h ?_ ?_ <;> (intro hc h; (try simp only [nrm] at hc)))
   | refine itT ?_
   | refine itF ?_
   | (refine bind_by h (fun t ht h => ?_); refine (impl_InRange.ap_of (impl_InRange.go ht _)).trans ?_; (try dsimp only at h ⊢))
   | (simp only [nr2] at h ⊢)
   | (exfalso; omega))
def impl_around.Fs : List (Spc env) := []
def impl_around.fin : St eΓ → Option (HL eΓ [.l 149 (.st .s149)]) := finR env Tryz.f175.results.toList [.l 149 (.st .s149)]
def impl_around.cut : Nat → Option (List (Lv SC)) := lk [(3, [⟨0, none, false⟩, ⟨3, none, false⟩, ⟨7, none, false⟩, ⟨8, none, false⟩, ⟨9, none, false⟩])]
def impl_around.ret (r0 : List S149) : Option (HL eΓ [.l 149 (.st .s149)]) := some (r0, ())
def impl_around.p3 (k : Nat) (x8 : Int) (x9 : Int) (x0 : List S59) (x3 : List S149) : Option (HL eΓ [.l 149 (.st .s149)]) := evM env impl_around.Fs Tryz.f175.ntmps impl_around.fin impl_around.cut k [.code (sub_ [1, 1, 0, 1, 0, 0, 0] (bodyOf Tryz.f175)), .code (sub_ [1, 1, 0, 1, 0, 0, 1] (bodyOf Tryz.f175)), .lp (sub_ [1, 1, 0, 1, 0, 0] (bodyOf Tryz.f175)), .blk 0, .code (sub_ [1, 1, 1] (bodyOf Tryz.f175))] (mkSt [(0, .c (.sl 0)), (3, .c (.sl 1)), (7, .c (.sl 0)), (8, .c (.v (.int .i64 x8))), (9, .c (.v (.int .i64 x9)))] [.row .ro 59 (.st .s59) x0, .row .own 149 (.st .s149) x3])
theorem impl_around.e3 (k : Nat) (x8 : Int) (x9 : Int) (x0 : List S59) (x3 : List S149) : impl_around.p3 (k + 1) x8 x9 x0 x3 = if x9 < x8 then (if 0 ≤ x9 then (if x9 < (x0.length : Int) then (if (x0.length : Int) = 0 then none else (if 0 ≤ (Int.tmod (wrap64 (x9 + 1)) (x0.length : Int)) then (if (Int.tmod (wrap64 (x9 + 1)) (x0.length : Int)) < (x0.length : Int) then (if (x3.length + 1) * 32 ≤ 140737488355328 then (impl_around.p3 k x8 (wrap64 (x9 + 1)) x0 (x3 ++ [(⟨(⟨(rd_T59 x0 x9).f0, (rd_T59 x0 x9).f1⟩ : S59), (⟨(rd_T59 x0 (Int.tmod (wrap64 (x9 + 1)) (x0.length : Int))).f0, (rd_T59 x0 (Int.tmod (wrap64 (x9 + 1)) (x0.length : Int))).f1⟩ : S59)⟩ : S149)])) else none) else none) else none)) else none) else none) else (impl_around.ret x3) := by kernel_rfl
def impl_around.run (k : Nat) (h : HL eΓ [.l 59 (.st .s59)]) : Option (HL eΓ [.l 149 (.st .s149)]) := evF env impl_around.Fs Tryz.f175 impl_around.cut [.l 59 (.st .s59)] [.l 149 (.st .s149)] k h
theorem impl_around.ef (k : Nat) (h0 : List S59) : impl_around.run k (h0, ()) = impl_around.p3 k (h0.length : Int) 0 h0 ([] : List S149) := by kernel_rfl
def impl_around.toH (t : (List (S149))) : HL eΓ [.l 149 (.st .s149)] := (t, ())
def impl_around.spec : Spc env := ⟨175, [.l 59 (.st .s59)], [.l 149 (.st .s149)], impl_around.run⟩
def impl_around.ap {R : Type} (k : Nat) (h0 : List S59) (K : (List S149) → Option R) : Option R := (impl_around.run k (h0, ())).bind fun r => K (r.1 : List S149)
theorem impl_around.ap_of {R : Type} {k : Nat} {h0 : List S59} {r0 : List S149} {K : (List S149) → Option R} (h : impl_around.run k (h0, ()) = some (r0, ())) : impl_around.ap k h0 K = K r0 := by unfold impl_around.ap; rw [h]; rfl
theorem impl_around.snd : Snd env impl_around.spec := evF_snd env_ok (sndN)
attribute [local irreducible] impl_around.run
theorem impl_around.rt (a0 : List S149) : impl_around.ret a0 = some (impl_around.toH (a0)) := rfl
theorem impl_around.br (n : Nat) : (∀ K, n ≤ K → ∀ (x8 : Int) (x9 : Int) (x0 : List S59) (x3 : List S149) t, impl_around.l0 n x0 x3 x0 x8 x9 = some t → impl_around.p3 K x8 x9 x0 x3 = some (impl_around.toH t)) := by
  induction n using Nat.strongRecOn with
  | _ n ih =>
  intro K hK x8 x9 x0 x3 t h
  all_goals (rcases n with _ | k)
  all_goals (try (exact nos h))
  all_goals (obtain ⟨K, rfl⟩ : ∃ q, K = q + 1 := ⟨K - 1, by omega⟩)
  all_goals (first | rw [impl_around.e3])
  all_goals (simp only [impl_around.l0] at h)
  repeat' (with_reducible first
   | exact nos h
   | (cases some_inj h; exact impl_around.rt _)
   | exact (ih _ (by omega)) _ (by omega) _ _ _ _ _ h
   | (simp only [Option.bind_some] at h)
   | (refine ite_by h ?_ ?_ <;> (intro hc h; (try simp only [nrm] at hc)))
   | refine itT ?_
   | refine itF ?_
   | (simp only [nr2] at h ⊢)
   | (exfalso; omega))
theorem impl_around.go {k : Nat} {l0 : List S59} {t} (h : impl_around.f k l0 = some t) (K : Nat) (hK : k ≤ K) : impl_around.run K (l0, ()) = some (impl_around.toH t) := by
  rw [impl_around.ef]
  (try dsimp only)
  unfold impl_around.f at h
  repeat' (with_reducible first
   | exact nos h
   | (cases some_inj h; exact impl_around.rt _)
   | exact (impl_around.br _) _ (by omega) _ _ _ _ _ h
   | (simp only [Option.bind_some] at h)
   | (refine ite_by h ?_ ?_ <;> (intro hc h; (try simp only [nrm] at hc)))
   | refine itT ?_
   | refine itF ?_
   | (simp only [nr2] at h ⊢)
   | (exfalso; omega))
def impl_IsSegment.toH (t : Bool) : HL eΓ [.b] := (t, ())
def impl_IsSegment.run (k : Nat) (h : HL eΓ [.st .s149]) : Option (HL eΓ [.b]) := (impl_IsSegment.f ((h.1 : S149).f0.f0) ((h.1 : S149).f0.f1) ((h.1 : S149).f1.f0) ((h.1 : S149).f1.f1)).map impl_IsSegment.toH
def impl_IsSegment.spec : Spc env := ⟨176, [.st .s149], [.b], impl_IsSegment.run⟩
def impl_IsSegment.ap {R : Type} (k : Nat) (h0 : S149) (K : Bool → Option R) : Option R := (impl_IsSegment.run k (h0, ())).bind fun r => K (r.1 : Bool)
theorem impl_IsSegment.ap_of {R : Type} {k : Nat} {h0 : S149} {r0 : Bool} {K : Bool → Option R} (h : impl_IsSegment.run k (h0, ()) = some (r0, ())) : impl_IsSegment.ap k h0 K = K r0 := by unfold impl_IsSegment.ap; rw [h]; rfl
theorem impl_IsSegment.go {a0_0 : Int} {a0_1 : Int} {a0_2 : Int} {a0_3 : Int} {t} (h : impl_IsSegment.f a0_0 a0_1 a0_2 a0_3 = some t) (K : Nat) : impl_IsSegment.run K ((⟨(⟨a0_0, a0_1⟩ : S59), (⟨a0_2, a0_3⟩ : S59)⟩ : S149), ()) = some (impl_IsSegment.toH t) := by
  show Option.map _ (impl_IsSegment.f a0_0 a0_1 a0_2 a0_3) = _
  rw [h]; rfl
theorem impl_IsSegment.snd : Snd env impl_IsSegment.spec := ⟨⟨Tryz.f176, by kernel_rfl, by kernel_rfl, by kernel_rfl⟩, fun k h r he w us hA => by
  obtain ⟨t, ht, rfl⟩ := Option.map_eq_some_iff.1 (show (impl_IsSegment.f ((h.1 : S149).f0.f0) ((h.1 : S149).f0.f1) ((h.1 : S149).f1.f0) ((h.1 : S149).f1.f1)).map impl_IsSegment.toH = some r from he)
  match us, hA with
  | [u0], ⟨q0, _⟩ =>
  obtain ⟨v0, rfl, q0⟩ := q0
  have q0 := (H149.K _ _ _).1 q0
  match e0 : v0.toList, q0 with
  | [c0_0, c0_1, c0_2, c0_3], ⟨p0_0, p0_1, p0_2, p0_3, _⟩ =>
  obtain rfl : v0 = #[c0_0, c0_1, c0_2, c0_3] := by rw [← Array.toArray_toList (xs := v0), e0]
  obtain rfl := List.singleton_inj.1 (show [c0_0] = [Value.int .i64 ((h.1 : S149).f0.f0)] from p0_0)
  obtain rfl := List.singleton_inj.1 (show [c0_1] = [Value.int .i64 ((h.1 : S149).f0.f1)] from p0_1)
  obtain rfl := List.singleton_inj.1 (show [c0_2] = [Value.int .i64 ((h.1 : S149).f1.f0)] from p0_2)
  obtain rfl := List.singleton_inj.1 (show [c0_3] = [Value.int .i64 ((h.1 : S149).f1.f1)] from p0_3)
  refine (impl_IsSegment.calls (w := w) (h := ht) ).mono ?_
  rintro e w' ⟨he, hw⟩
  exact ⟨_, he, hw, [.bool t], [fun _ => False], rfl, ⟨rfl, trivial⟩, by simp [DJ]⟩⟩
def impl_SideOf.toH (t : Int) : HL eΓ [.i .i64] := (t, ())
def impl_SideOf.run (k : Nat) (h : HL eΓ [.st .s59, .st .s59, .st .s59]) : Option (HL eΓ [.i .i64]) := (impl_SideOf.f ((h.1 : S59).f0) ((h.1 : S59).f1) ((h.2.1 : S59).f0) ((h.2.1 : S59).f1) ((h.2.2.1 : S59).f0) ((h.2.2.1 : S59).f1)).map impl_SideOf.toH
def impl_SideOf.spec : Spc env := ⟨192, [.st .s59, .st .s59, .st .s59], [.i .i64], impl_SideOf.run⟩
def impl_SideOf.ap {R : Type} (k : Nat) (h0 : S59) (h1 : S59) (h2 : S59) (K : Int → Option R) : Option R := (impl_SideOf.run k (h0, h1, h2, ())).bind fun r => K (r.1 : Int)
theorem impl_SideOf.ap_of {R : Type} {k : Nat} {h0 : S59} {h1 : S59} {h2 : S59} {r0 : Int} {K : Int → Option R} (h : impl_SideOf.run k (h0, h1, h2, ()) = some (r0, ())) : impl_SideOf.ap k h0 h1 h2 K = K r0 := by unfold impl_SideOf.ap; rw [h]; rfl
theorem impl_SideOf.go {a0_0 : Int} {a0_1 : Int} {a1_0 : Int} {a1_1 : Int} {a2_0 : Int} {a2_1 : Int} {t} (h : impl_SideOf.f a0_0 a0_1 a1_0 a1_1 a2_0 a2_1 = some t) (K : Nat) : impl_SideOf.run K ((⟨a0_0, a0_1⟩ : S59), (⟨a1_0, a1_1⟩ : S59), (⟨a2_0, a2_1⟩ : S59), ()) = some (impl_SideOf.toH t) := by
  show Option.map _ (impl_SideOf.f a0_0 a0_1 a1_0 a1_1 a2_0 a2_1) = _
  rw [h]; rfl
theorem impl_SideOf.snd : Snd env impl_SideOf.spec := ⟨⟨Tryz.f192, by kernel_rfl, by kernel_rfl, by kernel_rfl⟩, fun k h r he w us hA => by
  obtain ⟨t, ht, rfl⟩ := Option.map_eq_some_iff.1 (show (impl_SideOf.f ((h.1 : S59).f0) ((h.1 : S59).f1) ((h.2.1 : S59).f0) ((h.2.1 : S59).f1) ((h.2.2.1 : S59).f0) ((h.2.2.1 : S59).f1)).map impl_SideOf.toH = some r from he)
  match us, hA with
  | [u0, u1, u2], ⟨q0, q1, q2, _⟩ =>
  obtain ⟨v0, rfl, q0⟩ := q0
  have q0 := (H59.K _ _ _).1 q0
  match e0 : v0.toList, q0 with
  | [c0_0, c0_1], ⟨p0_0, p0_1, _⟩ =>
  obtain rfl : v0 = #[c0_0, c0_1] := by rw [← Array.toArray_toList (xs := v0), e0]
  obtain rfl := List.singleton_inj.1 (show [c0_0] = [Value.int .i64 ((h.1 : S59).f0)] from p0_0)
  obtain rfl := List.singleton_inj.1 (show [c0_1] = [Value.int .i64 ((h.1 : S59).f1)] from p0_1)
  obtain ⟨v1, rfl, q1⟩ := q1
  have q1 := (H59.K _ _ _).1 q1
  match e1 : v1.toList, q1 with
  | [c1_0, c1_1], ⟨p1_0, p1_1, _⟩ =>
  obtain rfl : v1 = #[c1_0, c1_1] := by rw [← Array.toArray_toList (xs := v1), e1]
  obtain rfl := List.singleton_inj.1 (show [c1_0] = [Value.int .i64 ((h.2.1 : S59).f0)] from p1_0)
  obtain rfl := List.singleton_inj.1 (show [c1_1] = [Value.int .i64 ((h.2.1 : S59).f1)] from p1_1)
  obtain ⟨v2, rfl, q2⟩ := q2
  have q2 := (H59.K _ _ _).1 q2
  match e2 : v2.toList, q2 with
  | [c2_0, c2_1], ⟨p2_0, p2_1, _⟩ =>
  obtain rfl : v2 = #[c2_0, c2_1] := by rw [← Array.toArray_toList (xs := v2), e2]
  obtain rfl := List.singleton_inj.1 (show [c2_0] = [Value.int .i64 ((h.2.2.1 : S59).f0)] from p2_0)
  obtain rfl := List.singleton_inj.1 (show [c2_1] = [Value.int .i64 ((h.2.2.1 : S59).f1)] from p2_1)
  refine (impl_SideOf.calls (w := w) (h := ht) ).mono ?_
  rintro e w' ⟨he, hw⟩
  exact ⟨_, he, hw, [.int .i64 t], [fun _ => False], rfl, ⟨rfl, trivial⟩, by simp [DJ]⟩⟩
def impl_BeforePoint.toH (t : Bool) : HL eΓ [.b] := (t, ())
def impl_BeforePoint.run (k : Nat) (h : HL eΓ [.st .s59, .st .s59]) : Option (HL eΓ [.b]) := (impl_BeforePoint.f ((h.1 : S59).f0) ((h.1 : S59).f1) ((h.2.1 : S59).f0) ((h.2.1 : S59).f1)).map impl_BeforePoint.toH
def impl_BeforePoint.spec : Spc env := ⟨205, [.st .s59, .st .s59], [.b], impl_BeforePoint.run⟩
def impl_BeforePoint.ap {R : Type} (k : Nat) (h0 : S59) (h1 : S59) (K : Bool → Option R) : Option R := (impl_BeforePoint.run k (h0, h1, ())).bind fun r => K (r.1 : Bool)
theorem impl_BeforePoint.ap_of {R : Type} {k : Nat} {h0 : S59} {h1 : S59} {r0 : Bool} {K : Bool → Option R} (h : impl_BeforePoint.run k (h0, h1, ()) = some (r0, ())) : impl_BeforePoint.ap k h0 h1 K = K r0 := by unfold impl_BeforePoint.ap; rw [h]; rfl
theorem impl_BeforePoint.go {a0_0 : Int} {a0_1 : Int} {a1_0 : Int} {a1_1 : Int} {t} (h : impl_BeforePoint.f a0_0 a0_1 a1_0 a1_1 = some t) (K : Nat) : impl_BeforePoint.run K ((⟨a0_0, a0_1⟩ : S59), (⟨a1_0, a1_1⟩ : S59), ()) = some (impl_BeforePoint.toH t) := by
  show Option.map _ (impl_BeforePoint.f a0_0 a0_1 a1_0 a1_1) = _
  rw [h]; rfl
theorem impl_BeforePoint.snd : Snd env impl_BeforePoint.spec := ⟨⟨Tryz.f205, by kernel_rfl, by kernel_rfl, by kernel_rfl⟩, fun k h r he w us hA => by
  obtain ⟨t, ht, rfl⟩ := Option.map_eq_some_iff.1 (show (impl_BeforePoint.f ((h.1 : S59).f0) ((h.1 : S59).f1) ((h.2.1 : S59).f0) ((h.2.1 : S59).f1)).map impl_BeforePoint.toH = some r from he)
  match us, hA with
  | [u0, u1], ⟨q0, q1, _⟩ =>
  obtain ⟨v0, rfl, q0⟩ := q0
  have q0 := (H59.K _ _ _).1 q0
  match e0 : v0.toList, q0 with
  | [c0_0, c0_1], ⟨p0_0, p0_1, _⟩ =>
  obtain rfl : v0 = #[c0_0, c0_1] := by rw [← Array.toArray_toList (xs := v0), e0]
  obtain rfl := List.singleton_inj.1 (show [c0_0] = [Value.int .i64 ((h.1 : S59).f0)] from p0_0)
  obtain rfl := List.singleton_inj.1 (show [c0_1] = [Value.int .i64 ((h.1 : S59).f1)] from p0_1)
  obtain ⟨v1, rfl, q1⟩ := q1
  have q1 := (H59.K _ _ _).1 q1
  match e1 : v1.toList, q1 with
  | [c1_0, c1_1], ⟨p1_0, p1_1, _⟩ =>
  obtain rfl : v1 = #[c1_0, c1_1] := by rw [← Array.toArray_toList (xs := v1), e1]
  obtain rfl := List.singleton_inj.1 (show [c1_0] = [Value.int .i64 ((h.2.1 : S59).f0)] from p1_0)
  obtain rfl := List.singleton_inj.1 (show [c1_1] = [Value.int .i64 ((h.2.1 : S59).f1)] from p1_1)
  refine (impl_BeforePoint.calls (w := w) (h := ht) ).mono ?_
  rintro e w' ⟨he, hw⟩
  exact ⟨_, he, hw, [.bool t], [fun _ => False], rfl, ⟨rfl, trivial⟩, by simp [DJ]⟩⟩
def impl_TurnSegment.Fs : List (Spc env) := []
def impl_TurnSegment.cut : Nat → Option (List (Lv SC)) := lk []
def impl_TurnSegment.ret (r0 : S149) : Option (HL eΓ [.st .s149]) := some (r0, ())
def impl_TurnSegment.run (k : Nat) (h : HL eΓ [.st .s149]) : Option (HL eΓ [.st .s149]) := evF env impl_TurnSegment.Fs Tryz.f214 impl_TurnSegment.cut [.st .s149] [.st .s149] k h
theorem impl_TurnSegment.ef (k : Nat) (h0 : S149) : impl_TurnSegment.run k (h0, ()) = impl_TurnSegment.ret (⟨(⟨h0.f1.f0, h0.f1.f1⟩ : S59), (⟨h0.f0.f0, h0.f0.f1⟩ : S59)⟩ : S149) := by kernel_rfl
def impl_TurnSegment.toH (t : Int × Int × Int × Int) : HL eΓ [.st .s149] := ((⟨(⟨t.1, t.2.1⟩ : S59), (⟨t.2.2.1, t.2.2.2⟩ : S59)⟩ : S149), ())
def impl_TurnSegment.spec : Spc env := ⟨214, [.st .s149], [.st .s149], impl_TurnSegment.run⟩
def impl_TurnSegment.ap {R : Type} (k : Nat) (h0 : S149) (K : S149 → Option R) : Option R := (impl_TurnSegment.run k (h0, ())).bind fun r => K (r.1 : S149)
theorem impl_TurnSegment.ap_of {R : Type} {k : Nat} {h0 : S149} {r0 : S149} {K : S149 → Option R} (h : impl_TurnSegment.run k (h0, ()) = some (r0, ())) : impl_TurnSegment.ap k h0 K = K r0 := by unfold impl_TurnSegment.ap; rw [h]; rfl
theorem impl_TurnSegment.snd : Snd env impl_TurnSegment.spec := evF_snd env_ok (sndN)
attribute [local irreducible] impl_TurnSegment.run
theorem impl_TurnSegment.rt (a0 : Int) (a1 : Int) (a2 : Int) (a3 : Int) : impl_TurnSegment.ret (⟨(⟨a0, a1⟩ : S59), (⟨a2, a3⟩ : S59)⟩ : S149) = some (impl_TurnSegment.toH (a0, a1, a2, a3)) := rfl
theorem impl_TurnSegment.go {a0_0 : Int} {a0_1 : Int} {a0_2 : Int} {a0_3 : Int} {t} (h : impl_TurnSegment.f a0_0 a0_1 a0_2 a0_3 = some t) (K : Nat) : impl_TurnSegment.run K ((⟨(⟨a0_0, a0_1⟩ : S59), (⟨a0_2, a0_3⟩ : S59)⟩ : S149), ()) = some (impl_TurnSegment.toH t) := by
  rw [impl_TurnSegment.ef]
  (try dsimp only)
  unfold impl_TurnSegment.f at h
  repeat' (with_reducible first
   | exact nos h
   | (cases some_inj h; exact impl_TurnSegment.rt _ _ _ _)
   | (simp only [Option.bind_some] at h)
   | (refine ite_by h ?_ ?_ <;> (intro hc h; (try simp only [nrm] at hc)))
   | refine itT ?_
   | refine itF ?_
   | (simp only [nr2] at h ⊢)
   | (exfalso; omega))
def impl_forward.Fs : List (Spc env) := [impl_BeforePoint.spec, impl_TurnSegment.spec]
def impl_forward.cut : Nat → Option (List (Lv SC)) := lk []
def impl_forward.ret (r0 : S149) : Option (HL eΓ [.st .s149]) := some (r0, ())
def impl_forward.run (k : Nat) (h : HL eΓ [.st .s149]) : Option (HL eΓ [.st .s149]) := evF env impl_forward.Fs Tryz.f204 impl_forward.cut [.st .s149] [.st .s149] k h
theorem impl_forward.ef (k : Nat) (h0 : S149) : impl_forward.run k (h0, ()) = impl_BeforePoint.ap k (⟨h0.f1.f0, h0.f1.f1⟩ : S59) (⟨h0.f0.f0, h0.f0.f1⟩ : S59) fun r1 => if r1 = true then (impl_TurnSegment.ap k (⟨(⟨h0.f0.f0, h0.f0.f1⟩ : S59), (⟨h0.f1.f0, h0.f1.f1⟩ : S59)⟩ : S149) fun r2 => impl_forward.ret (⟨(⟨r2.f0.f0, r2.f0.f1⟩ : S59), (⟨r2.f1.f0, r2.f1.f1⟩ : S59)⟩ : S149)) else (impl_forward.ret (⟨(⟨h0.f0.f0, h0.f0.f1⟩ : S59), (⟨h0.f1.f0, h0.f1.f1⟩ : S59)⟩ : S149)) := by kernel_rfl
def impl_forward.toH (t : Int × Int × Int × Int) : HL eΓ [.st .s149] := ((⟨(⟨t.1, t.2.1⟩ : S59), (⟨t.2.2.1, t.2.2.2⟩ : S59)⟩ : S149), ())
def impl_forward.spec : Spc env := ⟨204, [.st .s149], [.st .s149], impl_forward.run⟩
def impl_forward.ap {R : Type} (k : Nat) (h0 : S149) (K : S149 → Option R) : Option R := (impl_forward.run k (h0, ())).bind fun r => K (r.1 : S149)
theorem impl_forward.ap_of {R : Type} {k : Nat} {h0 : S149} {r0 : S149} {K : S149 → Option R} (h : impl_forward.run k (h0, ()) = some (r0, ())) : impl_forward.ap k h0 K = K r0 := by unfold impl_forward.ap; rw [h]; rfl
theorem impl_forward.snd : Snd env impl_forward.spec := evF_snd env_ok (sndC impl_BeforePoint.snd (sndC impl_TurnSegment.snd (sndN)))
attribute [local irreducible] impl_forward.run
theorem impl_forward.rt (a0 : Int) (a1 : Int) (a2 : Int) (a3 : Int) : impl_forward.ret (⟨(⟨a0, a1⟩ : S59), (⟨a2, a3⟩ : S59)⟩ : S149) = some (impl_forward.toH (a0, a1, a2, a3)) := rfl
theorem impl_forward.go {a0_0 : Int} {a0_1 : Int} {a0_2 : Int} {a0_3 : Int} {t} (h : impl_forward.f a0_0 a0_1 a0_2 a0_3 = some t) (K : Nat) : impl_forward.run K ((⟨(⟨a0_0, a0_1⟩ : S59), (⟨a0_2, a0_3⟩ : S59)⟩ : S149), ()) = some (impl_forward.toH t) := by
  rw [impl_forward.ef]
  (try dsimp only)
  unfold impl_forward.f at h
  repeat' (with_reducible first
   | exact nos h
   | (cases some_inj h; exact impl_forward.rt _ _ _ _)
   | (simp only [Option.bind_some] at h)
   | (refine ite_by h ?_ ?_ <;> (intro hc h; (try simp only [nrm] at hc)))
   | refine itT ?_
   | refine itF ?_
   | (refine bind_by h (fun t ht h => ?_); (first | refine (impl_BeforePoint.ap_of (impl_BeforePoint.go ht _)).trans ?_ | refine (impl_TurnSegment.ap_of (impl_TurnSegment.go ht _)).trans ?_); (try dsimp only at h ⊢))
   | (simp only [nr2] at h ⊢)
   | (exfalso; omega))
def impl_IsOn.toH (t : Bool) : HL eΓ [.b] := (t, ())
def impl_IsOn.run (k : Nat) (h : HL eΓ [.st .s149, .st .s59]) : Option (HL eΓ [.b]) := (impl_IsOn.f ((h.1 : S149).f0.f0) ((h.1 : S149).f0.f1) ((h.1 : S149).f1.f0) ((h.1 : S149).f1.f1) ((h.2.1 : S59).f0) ((h.2.1 : S59).f1)).map impl_IsOn.toH
def impl_IsOn.spec : Spc env := ⟨206, [.st .s149, .st .s59], [.b], impl_IsOn.run⟩
def impl_IsOn.ap {R : Type} (k : Nat) (h0 : S149) (h1 : S59) (K : Bool → Option R) : Option R := (impl_IsOn.run k (h0, h1, ())).bind fun r => K (r.1 : Bool)
theorem impl_IsOn.ap_of {R : Type} {k : Nat} {h0 : S149} {h1 : S59} {r0 : Bool} {K : Bool → Option R} (h : impl_IsOn.run k (h0, h1, ()) = some (r0, ())) : impl_IsOn.ap k h0 h1 K = K r0 := by unfold impl_IsOn.ap; rw [h]; rfl
theorem impl_IsOn.go {a0_0 : Int} {a0_1 : Int} {a0_2 : Int} {a0_3 : Int} {a1_0 : Int} {a1_1 : Int} {t} (h : impl_IsOn.f a0_0 a0_1 a0_2 a0_3 a1_0 a1_1 = some t) (K : Nat) : impl_IsOn.run K ((⟨(⟨a0_0, a0_1⟩ : S59), (⟨a0_2, a0_3⟩ : S59)⟩ : S149), (⟨a1_0, a1_1⟩ : S59), ()) = some (impl_IsOn.toH t) := by
  show Option.map _ (impl_IsOn.f a0_0 a0_1 a0_2 a0_3 a1_0 a1_1) = _
  rw [h]; rfl
theorem impl_IsOn.snd : Snd env impl_IsOn.spec := ⟨⟨Tryz.f206, by kernel_rfl, by kernel_rfl, by kernel_rfl⟩, fun k h r he w us hA => by
  obtain ⟨t, ht, rfl⟩ := Option.map_eq_some_iff.1 (show (impl_IsOn.f ((h.1 : S149).f0.f0) ((h.1 : S149).f0.f1) ((h.1 : S149).f1.f0) ((h.1 : S149).f1.f1) ((h.2.1 : S59).f0) ((h.2.1 : S59).f1)).map impl_IsOn.toH = some r from he)
  match us, hA with
  | [u0, u1], ⟨q0, q1, _⟩ =>
  obtain ⟨v0, rfl, q0⟩ := q0
  have q0 := (H149.K _ _ _).1 q0
  match e0 : v0.toList, q0 with
  | [c0_0, c0_1, c0_2, c0_3], ⟨p0_0, p0_1, p0_2, p0_3, _⟩ =>
  obtain rfl : v0 = #[c0_0, c0_1, c0_2, c0_3] := by rw [← Array.toArray_toList (xs := v0), e0]
  obtain rfl := List.singleton_inj.1 (show [c0_0] = [Value.int .i64 ((h.1 : S149).f0.f0)] from p0_0)
  obtain rfl := List.singleton_inj.1 (show [c0_1] = [Value.int .i64 ((h.1 : S149).f0.f1)] from p0_1)
  obtain rfl := List.singleton_inj.1 (show [c0_2] = [Value.int .i64 ((h.1 : S149).f1.f0)] from p0_2)
  obtain rfl := List.singleton_inj.1 (show [c0_3] = [Value.int .i64 ((h.1 : S149).f1.f1)] from p0_3)
  obtain ⟨v1, rfl, q1⟩ := q1
  have q1 := (H59.K _ _ _).1 q1
  match e1 : v1.toList, q1 with
  | [c1_0, c1_1], ⟨p1_0, p1_1, _⟩ =>
  obtain rfl : v1 = #[c1_0, c1_1] := by rw [← Array.toArray_toList (xs := v1), e1]
  obtain rfl := List.singleton_inj.1 (show [c1_0] = [Value.int .i64 ((h.2.1 : S59).f0)] from p1_0)
  obtain rfl := List.singleton_inj.1 (show [c1_1] = [Value.int .i64 ((h.2.1 : S59).f1)] from p1_1)
  refine (impl_IsOn.calls (w := w) (h := ht) ).mono ?_
  rintro e w' ⟨he, hw⟩
  exact ⟨_, he, hw, [.bool t], [fun _ => False], rfl, ⟨rfl, trivial⟩, by simp [DJ]⟩⟩
def impl_HowMeet.Fs : List (Spc env) := [impl_IsSegment.spec, impl_SideOf.spec, impl_forward.spec, impl_BeforePoint.spec, impl_IsOn.spec]
def impl_HowMeet.cut : Nat → Option (List (Lv SC)) := lk []
def impl_HowMeet.ret (r0 : Int) : Option (HL eΓ [.i .i64]) := some (r0, ())
def impl_HowMeet.run (k : Nat) (h : HL eΓ [.st .s149, .st .s149]) : Option (HL eΓ [.i .i64]) := evF env impl_HowMeet.Fs Tryz.f177 impl_HowMeet.cut [.st .s149, .st .s149] [.i .i64] k h
theorem impl_HowMeet.ef (k : Nat) (h0 : S149) (h1 : S149) : impl_HowMeet.run k (h0, h1, ()) = impl_IsSegment.ap k (⟨(⟨h0.f0.f0, h0.f0.f1⟩ : S59), (⟨h0.f1.f0, h0.f1.f1⟩ : S59)⟩ : S149) fun r1 => if (!r1) = true then (impl_HowMeet.ret 0) else (impl_IsSegment.ap k (⟨(⟨h1.f0.f0, h1.f0.f1⟩ : S59), (⟨h1.f1.f0, h1.f1.f1⟩ : S59)⟩ : S149) fun r2 => if (!r2) = true then (impl_HowMeet.ret 0) else (impl_SideOf.ap k (⟨h0.f0.f0, h0.f0.f1⟩ : S59) (⟨h0.f1.f0, h0.f1.f1⟩ : S59) (⟨h1.f0.f0, h1.f0.f1⟩ : S59) fun r3 => impl_SideOf.ap k (⟨h0.f0.f0, h0.f0.f1⟩ : S59) (⟨h0.f1.f0, h0.f1.f1⟩ : S59) (⟨h1.f1.f0, h1.f1.f1⟩ : S59) fun r4 => if r3 = 0 then (if r4 = 0 then (impl_forward.ap k (⟨(⟨h0.f0.f0, h0.f0.f1⟩ : S59), (⟨h0.f1.f0, h0.f1.f1⟩ : S59)⟩ : S149) fun r5 => impl_forward.ap k (⟨(⟨h1.f0.f0, h1.f0.f1⟩ : S59), (⟨h1.f1.f0, h1.f1.f1⟩ : S59)⟩ : S149) fun r6 => impl_BeforePoint.ap k (⟨r5.f0.f0, r5.f0.f1⟩ : S59) (⟨r6.f0.f0, r6.f0.f1⟩ : S59) fun r7 => if r7 = true then (impl_BeforePoint.ap k (⟨r6.f1.f0, r6.f1.f1⟩ : S59) (⟨r5.f1.f0, r5.f1.f1⟩ : S59) fun r8 => if r8 = true then (impl_BeforePoint.ap k (⟨r6.f1.f0, r6.f1.f1⟩ : S59) (⟨r6.f0.f0, r6.f0.f1⟩ : S59) fun r9 => if r9 = true then (impl_HowMeet.ret 0) else (if r6.f0.f0 = r6.f1.f0 ∧ (r6.f0.f1 = r6.f1.f1 ∧ True) then (impl_HowMeet.ret 1) else (impl_HowMeet.ret 3))) else (impl_BeforePoint.ap k (⟨r5.f1.f0, r5.f1.f1⟩ : S59) (⟨r6.f0.f0, r6.f0.f1⟩ : S59) fun r10 => if r10 = true then (impl_HowMeet.ret 0) else (if r6.f0.f0 = r5.f1.f0 ∧ (r6.f0.f1 = r5.f1.f1 ∧ True) then (impl_HowMeet.ret 1) else (impl_HowMeet.ret 3)))) else (impl_BeforePoint.ap k (⟨r6.f1.f0, r6.f1.f1⟩ : S59) (⟨r5.f1.f0, r5.f1.f1⟩ : S59) fun r11 => if r11 = true then (impl_BeforePoint.ap k (⟨r6.f1.f0, r6.f1.f1⟩ : S59) (⟨r5.f0.f0, r5.f0.f1⟩ : S59) fun r12 => if r12 = true then (impl_HowMeet.ret 0) else (if r5.f0.f0 = r6.f1.f0 ∧ (r5.f0.f1 = r6.f1.f1 ∧ True) then (impl_HowMeet.ret 1) else (impl_HowMeet.ret 3))) else (impl_BeforePoint.ap k (⟨r5.f1.f0, r5.f1.f1⟩ : S59) (⟨r5.f0.f0, r5.f0.f1⟩ : S59) fun r13 => if r13 = true then (impl_HowMeet.ret 0) else (if r5.f0.f0 = r5.f1.f0 ∧ (r5.f0.f1 = r5.f1.f1 ∧ True) then (impl_HowMeet.ret 1) else (impl_HowMeet.ret 3))))) else (if (wrap64 (r3 * r4)) < 0 then (impl_SideOf.ap k (⟨h1.f0.f0, h1.f0.f1⟩ : S59) (⟨h1.f1.f0, h1.f1.f1⟩ : S59) (⟨h0.f0.f0, h0.f0.f1⟩ : S59) fun r14 => impl_SideOf.ap k (⟨h1.f0.f0, h1.f0.f1⟩ : S59) (⟨h1.f1.f0, h1.f1.f1⟩ : S59) (⟨h0.f1.f0, h0.f1.f1⟩ : S59) fun r15 => if (wrap64 (r14 * r15)) < 0 then (impl_HowMeet.ret 2) else (impl_IsOn.ap k (⟨(⟨h0.f0.f0, h0.f0.f1⟩ : S59), (⟨h0.f1.f0, h0.f1.f1⟩ : S59)⟩ : S149) (⟨h1.f0.f0, h1.f0.f1⟩ : S59) fun r16 => if r16 = true then (impl_HowMeet.ret 1) else (impl_IsOn.ap k (⟨(⟨h0.f0.f0, h0.f0.f1⟩ : S59), (⟨h0.f1.f0, h0.f1.f1⟩ : S59)⟩ : S149) (⟨h1.f1.f0, h1.f1.f1⟩ : S59) fun r17 => if r17 = true then (impl_HowMeet.ret 1) else (impl_IsOn.ap k (⟨(⟨h1.f0.f0, h1.f0.f1⟩ : S59), (⟨h1.f1.f0, h1.f1.f1⟩ : S59)⟩ : S149) (⟨h0.f0.f0, h0.f0.f1⟩ : S59) fun r18 => if r18 = true then (impl_HowMeet.ret 1) else (impl_IsOn.ap k (⟨(⟨h1.f0.f0, h1.f0.f1⟩ : S59), (⟨h1.f1.f0, h1.f1.f1⟩ : S59)⟩ : S149) (⟨h0.f1.f0, h0.f1.f1⟩ : S59) fun r19 => if r19 = true then (impl_HowMeet.ret 1) else (impl_HowMeet.ret 0)))))) else (impl_IsOn.ap k (⟨(⟨h0.f0.f0, h0.f0.f1⟩ : S59), (⟨h0.f1.f0, h0.f1.f1⟩ : S59)⟩ : S149) (⟨h1.f0.f0, h1.f0.f1⟩ : S59) fun r20 => if r20 = true then (impl_HowMeet.ret 1) else (impl_IsOn.ap k (⟨(⟨h0.f0.f0, h0.f0.f1⟩ : S59), (⟨h0.f1.f0, h0.f1.f1⟩ : S59)⟩ : S149) (⟨h1.f1.f0, h1.f1.f1⟩ : S59) fun r21 => if r21 = true then (impl_HowMeet.ret 1) else (impl_IsOn.ap k (⟨(⟨h1.f0.f0, h1.f0.f1⟩ : S59), (⟨h1.f1.f0, h1.f1.f1⟩ : S59)⟩ : S149) (⟨h0.f0.f0, h0.f0.f1⟩ : S59) fun r22 => if r22 = true then (impl_HowMeet.ret 1) else (impl_IsOn.ap k (⟨(⟨h1.f0.f0, h1.f0.f1⟩ : S59), (⟨h1.f1.f0, h1.f1.f1⟩ : S59)⟩ : S149) (⟨h0.f1.f0, h0.f1.f1⟩ : S59) fun r23 => if r23 = true then (impl_HowMeet.ret 1) else (impl_HowMeet.ret 0))))))) else (if (wrap64 (r3 * r4)) < 0 then (impl_SideOf.ap k (⟨h1.f0.f0, h1.f0.f1⟩ : S59) (⟨h1.f1.f0, h1.f1.f1⟩ : S59) (⟨h0.f0.f0, h0.f0.f1⟩ : S59) fun r24 => impl_SideOf.ap k (⟨h1.f0.f0, h1.f0.f1⟩ : S59) (⟨h1.f1.f0, h1.f1.f1⟩ : S59) (⟨h0.f1.f0, h0.f1.f1⟩ : S59) fun r25 => if (wrap64 (r24 * r25)) < 0 then (impl_HowMeet.ret 2) else (impl_IsOn.ap k (⟨(⟨h0.f0.f0, h0.f0.f1⟩ : S59), (⟨h0.f1.f0, h0.f1.f1⟩ : S59)⟩ : S149) (⟨h1.f0.f0, h1.f0.f1⟩ : S59) fun r26 => if r26 = true then (impl_HowMeet.ret 1) else (impl_IsOn.ap k (⟨(⟨h0.f0.f0, h0.f0.f1⟩ : S59), (⟨h0.f1.f0, h0.f1.f1⟩ : S59)⟩ : S149) (⟨h1.f1.f0, h1.f1.f1⟩ : S59) fun r27 => if r27 = true then (impl_HowMeet.ret 1) else (impl_IsOn.ap k (⟨(⟨h1.f0.f0, h1.f0.f1⟩ : S59), (⟨h1.f1.f0, h1.f1.f1⟩ : S59)⟩ : S149) (⟨h0.f0.f0, h0.f0.f1⟩ : S59) fun r28 => if r28 = true then (impl_HowMeet.ret 1) else (impl_IsOn.ap k (⟨(⟨h1.f0.f0, h1.f0.f1⟩ : S59), (⟨h1.f1.f0, h1.f1.f1⟩ : S59)⟩ : S149) (⟨h0.f1.f0, h0.f1.f1⟩ : S59) fun r29 => if r29 = true then (impl_HowMeet.ret 1) else (impl_HowMeet.ret 0)))))) else (impl_IsOn.ap k (⟨(⟨h0.f0.f0, h0.f0.f1⟩ : S59), (⟨h0.f1.f0, h0.f1.f1⟩ : S59)⟩ : S149) (⟨h1.f0.f0, h1.f0.f1⟩ : S59) fun r30 => if r30 = true then (impl_HowMeet.ret 1) else (impl_IsOn.ap k (⟨(⟨h0.f0.f0, h0.f0.f1⟩ : S59), (⟨h0.f1.f0, h0.f1.f1⟩ : S59)⟩ : S149) (⟨h1.f1.f0, h1.f1.f1⟩ : S59) fun r31 => if r31 = true then (impl_HowMeet.ret 1) else (impl_IsOn.ap k (⟨(⟨h1.f0.f0, h1.f0.f1⟩ : S59), (⟨h1.f1.f0, h1.f1.f1⟩ : S59)⟩ : S149) (⟨h0.f0.f0, h0.f0.f1⟩ : S59) fun r32 => if r32 = true then (impl_HowMeet.ret 1) else (impl_IsOn.ap k (⟨(⟨h1.f0.f0, h1.f0.f1⟩ : S59), (⟨h1.f1.f0, h1.f1.f1⟩ : S59)⟩ : S149) (⟨h0.f1.f0, h0.f1.f1⟩ : S59) fun r33 => if r33 = true then (impl_HowMeet.ret 1) else (impl_HowMeet.ret 0)))))))) := by kernel_rfl
def impl_HowMeet.toH (t : Int) : HL eΓ [.i .i64] := (t, ())
def impl_HowMeet.spec : Spc env := ⟨177, [.st .s149, .st .s149], [.i .i64], impl_HowMeet.run⟩
def impl_HowMeet.ap {R : Type} (k : Nat) (h0 : S149) (h1 : S149) (K : Int → Option R) : Option R := (impl_HowMeet.run k (h0, h1, ())).bind fun r => K (r.1 : Int)
theorem impl_HowMeet.ap_of {R : Type} {k : Nat} {h0 : S149} {h1 : S149} {r0 : Int} {K : Int → Option R} (h : impl_HowMeet.run k (h0, h1, ()) = some (r0, ())) : impl_HowMeet.ap k h0 h1 K = K r0 := by unfold impl_HowMeet.ap; rw [h]; rfl
theorem impl_HowMeet.snd : Snd env impl_HowMeet.spec := evF_snd env_ok (sndC impl_IsSegment.snd (sndC impl_SideOf.snd (sndC impl_forward.snd (sndC impl_BeforePoint.snd (sndC impl_IsOn.snd (sndN))))))
attribute [local irreducible] impl_HowMeet.run
theorem impl_HowMeet.rt (a0 : Int) : impl_HowMeet.ret a0 = some (impl_HowMeet.toH (a0)) := rfl
theorem impl_HowMeet.go {k : Nat} {a0_0 : Int} {a0_1 : Int} {a0_2 : Int} {a0_3 : Int} {a1_0 : Int} {a1_1 : Int} {a1_2 : Int} {a1_3 : Int} {t} (h : impl_HowMeet.f k a0_0 a0_1 a0_2 a0_3 a1_0 a1_1 a1_2 a1_3 = some t) (K : Nat) (hK : k ≤ K) : impl_HowMeet.run K ((⟨(⟨a0_0, a0_1⟩ : S59), (⟨a0_2, a0_3⟩ : S59)⟩ : S149), (⟨(⟨a1_0, a1_1⟩ : S59), (⟨a1_2, a1_3⟩ : S59)⟩ : S149), ()) = some (impl_HowMeet.toH t) := by
  rw [impl_HowMeet.ef]
  (try dsimp only)
  unfold impl_HowMeet.f at h
  repeat' (with_reducible first
   | exact nos h
   | (cases some_inj h; exact impl_HowMeet.rt _)
   | ((have q : impl_HowMeet.j0 k _ _ _ _ _ _ _ _ _ = some _ := h; clear q); rcases k with _ | k <;> simp only [impl_HowMeet.j0, reduceCtorEq] at h)
   | ((have q : impl_HowMeet.j1 k _ _ _ _ _ _ _ _ _ _ _ = some _ := h; clear q); rcases k with _ | k <;> simp only [impl_HowMeet.j1, reduceCtorEq] at h)
   | ((have q : impl_HowMeet.j2 k _ _ _ _ _ _ _ _ = some _ := h; clear q); rcases k with _ | k <;> simp only [impl_HowMeet.j2, reduceCtorEq] at h)
   | ((have q : impl_HowMeet.j3 k _ _ _ _ = some _ := h; clear q); rcases k with _ | k <;> simp only [impl_HowMeet.j3, reduceCtorEq] at h)
   | ((have q : impl_HowMeet.j4 k _ _ _ _ _ _ _ _ _ = some _ := h; clear q); rcases k with _ | k <;> simp only [impl_HowMeet.j4, reduceCtorEq] at h)
   | (simp only [Option.bind_some] at h)
   | (refine ite_by h ?_ ?_ <;> (intro hc h; (try simp only [nrm] at hc)))
   | refine itT ?_
   | refine itF ?_
   | (refine bind_by h (fun t ht h => ?_); (first | refine (impl_IsSegment.ap_of (impl_IsSegment.go ht _)).trans ?_ | refine (impl_SideOf.ap_of (impl_SideOf.go ht _)).trans ?_ | refine (impl_forward.ap_of (impl_forward.go ht _)).trans ?_ | refine (impl_BeforePoint.ap_of (impl_BeforePoint.go ht _)).trans ?_ | refine (impl_IsOn.ap_of (impl_IsOn.go ht _)).trans ?_); (try dsimp only at h ⊢))
   | (simp only [nr2] at h ⊢)
   | (exfalso; omega))
def impl_IsRing.Fs : List (Spc env) := [impl_around.spec, impl_IsSegment.spec, impl_HowMeet.spec]
def impl_IsRing.fin : St eΓ → Option (HL eΓ [.b]) := finR env Tryz.f126.results.toList [.b]
def impl_IsRing.cut : Nat → Option (List (Lv SC)) := lk [(5, [⟨3, none, false⟩, ⟨18, none, false⟩, ⟨19, none, false⟩]), (10, [⟨3, none, false⟩, ⟨4, none, false⟩, ⟨18, none, false⟩, ⟨19, none, false⟩, ⟨28, none, false⟩, ⟨29, none, false⟩])]
def impl_IsRing.ret (r0 : Bool) : Option (HL eΓ [.b]) := some (r0, ())
def impl_IsRing.p5 (k : Nat) (x18 : Int) (x19 : Int) (x3 : List S149) : Option (HL eΓ [.b]) := evM env impl_IsRing.Fs Tryz.f126.ntmps impl_IsRing.fin impl_IsRing.cut k [.code (sub_ [1, 1, 1, 0, 1, 0, 0, 0] (bodyOf Tryz.f126)), .code (sub_ [1, 1, 1, 0, 1, 0, 0, 1] (bodyOf Tryz.f126)), .lp (sub_ [1, 1, 1, 0, 1, 0, 0] (bodyOf Tryz.f126)), .blk 0, .code (sub_ [1, 1, 1, 1] (bodyOf Tryz.f126))] (mkSt [(3, .c (.sl 0)), (18, .c (.v (.int .i64 x18))), (19, .c (.v (.int .i64 x19)))] [.row .own 149 (.st .s149) x3])
def impl_IsRing.p10 (k : Nat) (x4 : Int) (x18 : Int) (x19 : Int) (x28 : Int) (x29 : Int) (x3 : List S149) : Option (HL eΓ [.b]) := evM env impl_IsRing.Fs Tryz.f126.ntmps impl_IsRing.fin impl_IsRing.cut k [.code (sub_ [1, 1, 1, 0, 1, 0, 0, 1, 1, 0, 0, 1, 1, 1, 0, 0, 0] (bodyOf Tryz.f126)), .code (sub_ [1, 1, 1, 0, 1, 0, 0, 1, 1, 0, 0, 1, 1, 1, 0, 0, 1] (bodyOf Tryz.f126)), .lp (sub_ [1, 1, 1, 0, 1, 0, 0, 1, 1, 0, 0, 1, 1, 1, 0, 0] (bodyOf Tryz.f126)), .blk 2, .blk 1, .code (sub_ [1, 1, 1, 0, 1, 0, 0, 1, 1, 1] (bodyOf Tryz.f126)), .lp (sub_ [1, 1, 1, 0, 1, 0, 0] (bodyOf Tryz.f126)), .blk 0, .code (sub_ [1, 1, 1, 1] (bodyOf Tryz.f126))] (mkSt [(3, .c (.sl 0)), (4, .c (.v (.int .i64 x4))), (18, .c (.v (.int .i64 x18))), (19, .c (.v (.int .i64 x19))), (28, .c (.v (.int .i64 x28))), (29, .c (.v (.int .i64 x29)))] [.row .own 149 (.st .s149) x3])
theorem impl_IsRing.e5 (k : Nat) (x18 : Int) (x19 : Int) (x3 : List S149) : impl_IsRing.p5 (k + 1) x18 x19 x3 = if x19 < x18 then (if 0 ≤ x19 then (if x19 < (x3.length : Int) then (impl_IsSegment.ap k (⟨(⟨(rd_T149 x3 x19).f0.f0, (rd_T149 x3 x19).f0.f1⟩ : S59), (⟨(rd_T149 x3 x19).f1.f0, (rd_T149 x3 x19).f1.f1⟩ : S59)⟩ : S149) fun r1 => if (!r1) = true then (impl_IsRing.ret false) else (impl_IsRing.p10 k x19 x18 x19 x19 0 x3)) else none) else none) else (impl_IsRing.ret true) := by kernel_rfl
theorem impl_IsRing.e10 (k : Nat) (x4 : Int) (x18 : Int) (x19 : Int) (x28 : Int) (x29 : Int) (x3 : List S149) : impl_IsRing.p10 (k + 1) x4 x18 x19 x28 x29 x3 = if x29 < x28 then (if x29 = (wrap64 (x4 - 1)) then (if 0 ≤ x4 then (if x4 < (x3.length : Int) then (if 0 ≤ x29 then (if x29 < (x3.length : Int) then (impl_HowMeet.ap k (⟨(⟨(rd_T149 x3 x4).f0.f0, (rd_T149 x3 x4).f0.f1⟩ : S59), (⟨(rd_T149 x3 x4).f1.f0, (rd_T149 x3 x4).f1.f1⟩ : S59)⟩ : S149) (⟨(⟨(rd_T149 x3 x29).f0.f0, (rd_T149 x3 x29).f0.f1⟩ : S59), (⟨(rd_T149 x3 x29).f1.f0, (rd_T149 x3 x29).f1.f1⟩ : S59)⟩ : S149) fun r1 => if ¬ r1 = 1 then (impl_IsRing.ret false) else (impl_IsRing.p10 k x4 x18 x19 x28 (wrap64 (x29 + 1)) x3)) else none) else none) else none) else none) else (if x29 = 0 then (if x4 = (wrap64 ((x3.length : Int) - 1)) then (if 0 ≤ x4 then (if x4 < (x3.length : Int) then (if 0 ≤ x29 then (if x29 < (x3.length : Int) then (impl_HowMeet.ap k (⟨(⟨(rd_T149 x3 x4).f0.f0, (rd_T149 x3 x4).f0.f1⟩ : S59), (⟨(rd_T149 x3 x4).f1.f0, (rd_T149 x3 x4).f1.f1⟩ : S59)⟩ : S149) (⟨(⟨(rd_T149 x3 x29).f0.f0, (rd_T149 x3 x29).f0.f1⟩ : S59), (⟨(rd_T149 x3 x29).f1.f0, (rd_T149 x3 x29).f1.f1⟩ : S59)⟩ : S149) fun r2 => if ¬ r2 = 1 then (impl_IsRing.ret false) else (impl_IsRing.p10 k x4 x18 x19 x28 (wrap64 (x29 + 1)) x3)) else none) else none) else none) else none) else (if 0 ≤ x4 then (if x4 < (x3.length : Int) then (if 0 ≤ x29 then (if x29 < (x3.length : Int) then (impl_HowMeet.ap k (⟨(⟨(rd_T149 x3 x4).f0.f0, (rd_T149 x3 x4).f0.f1⟩ : S59), (⟨(rd_T149 x3 x4).f1.f0, (rd_T149 x3 x4).f1.f1⟩ : S59)⟩ : S149) (⟨(⟨(rd_T149 x3 x29).f0.f0, (rd_T149 x3 x29).f0.f1⟩ : S59), (⟨(rd_T149 x3 x29).f1.f0, (rd_T149 x3 x29).f1.f1⟩ : S59)⟩ : S149) fun r3 => if ¬ r3 = 0 then (impl_IsRing.ret false) else (impl_IsRing.p10 k x4 x18 x19 x28 (wrap64 (x29 + 1)) x3)) else none) else none) else none) else none)) else (if 0 ≤ x4 then (if x4 < (x3.length : Int) then (if 0 ≤ x29 then (if x29 < (x3.length : Int) then (impl_HowMeet.ap k (⟨(⟨(rd_T149 x3 x4).f0.f0, (rd_T149 x3 x4).f0.f1⟩ : S59), (⟨(rd_T149 x3 x4).f1.f0, (rd_T149 x3 x4).f1.f1⟩ : S59)⟩ : S149) (⟨(⟨(rd_T149 x3 x29).f0.f0, (rd_T149 x3 x29).f0.f1⟩ : S59), (⟨(rd_T149 x3 x29).f1.f0, (rd_T149 x3 x29).f1.f1⟩ : S59)⟩ : S149) fun r4 => if ¬ r4 = 0 then (impl_IsRing.ret false) else (impl_IsRing.p10 k x4 x18 x19 x28 (wrap64 (x29 + 1)) x3)) else none) else none) else none) else none))) else (impl_IsRing.p5 k x18 (wrap64 (x19 + 1)) x3) := by kernel_rfl
end
end Go.Proofs.YtellpkihlbbnhaaGreat.PFnExactSameElsewhere
