-- Written by a program of this session's (evlaw.py).
import Derived.Test.YtkebhlkbnnlegaaPFnExactShrinkAllx3
namespace Go.Proofs.Ytkebhlkbnnlegaa.PFnExactShrinkAll
open Go.RowKit Go.Proofs.YtkebhlkbnnlegaaW.PrintWords Go.Proofs.YtkebhlkbnnlegaaW.PrintLast Go.Proofs.YtkebhlkbnnlegaaW.PrintMore Go.Proofs.YtkebhlkbnnlegaaGeo Go.Proofs.YtkebhlkbnnlegaaHand Go.Proofs.YtkebhlkbnnlegaaMeet Go.Proofs.YtkebhlkbnnlegaaQuiet Go.Proofs.YtkebhlkbnnlegaaZ
open Go Go.Proofs.YtkebhlkbnnlegaaEv
attribute [local go_sem] max2_int min2_int max_two min_two max_three min_three max_four min_four   -- for this text's walks alone
set_option linter.unusedVariables false
set_option linter.unusedSimpArgs false



set_option linter.unusedSimpArgs false

attribute [local go_sem high] eqA77
set_option linter.unusedVariables false
set_option linter.unusedSimpArgs false
set_option maxRecDepth 100000
noncomputable section
theorem impl_HowMeet.ef (k : Nat) (h0 : S95) (h1 : S95) : impl_HowMeet.run k (h0, h1, ()) = impl_IsSegment.ap k (⟨(⟨h0.f0.f0, h0.f0.f1⟩ : S77), (⟨h0.f1.f0, h0.f1.f1⟩ : S77)⟩ : S95) fun r1 => if (!r1) = true then (impl_HowMeet.ret 0) else (impl_IsSegment.ap k (⟨(⟨h1.f0.f0, h1.f0.f1⟩ : S77), (⟨h1.f1.f0, h1.f1.f1⟩ : S77)⟩ : S95) fun r2 => if (!r2) = true then (impl_HowMeet.ret 0) else (impl_SideOf.ap k (⟨h0.f0.f0, h0.f0.f1⟩ : S77) (⟨h0.f1.f0, h0.f1.f1⟩ : S77) (⟨h1.f0.f0, h1.f0.f1⟩ : S77) fun r3 => impl_SideOf.ap k (⟨h0.f0.f0, h0.f0.f1⟩ : S77) (⟨h0.f1.f0, h0.f1.f1⟩ : S77) (⟨h1.f1.f0, h1.f1.f1⟩ : S77) fun r4 => if r3 = 0 then (if r4 = 0 then (impl_forward.ap k (⟨(⟨h0.f0.f0, h0.f0.f1⟩ : S77), (⟨h0.f1.f0, h0.f1.f1⟩ : S77)⟩ : S95) fun r5 => impl_forward.ap k (⟨(⟨h1.f0.f0, h1.f0.f1⟩ : S77), (⟨h1.f1.f0, h1.f1.f1⟩ : S77)⟩ : S95) fun r6 => impl_BeforePoint.ap k (⟨r5.f0.f0, r5.f0.f1⟩ : S77) (⟨r6.f0.f0, r6.f0.f1⟩ : S77) fun r7 => if r7 = true then (impl_BeforePoint.ap k (⟨r6.f1.f0, r6.f1.f1⟩ : S77) (⟨r5.f1.f0, r5.f1.f1⟩ : S77) fun r8 => if r8 = true then (impl_BeforePoint.ap k (⟨r6.f1.f0, r6.f1.f1⟩ : S77) (⟨r6.f0.f0, r6.f0.f1⟩ : S77) fun r9 => if r9 = true then (impl_HowMeet.ret 0) else (if r6.f0.f0 = r6.f1.f0 ∧ (r6.f0.f1 = r6.f1.f1 ∧ True) then (impl_HowMeet.ret 1) else (impl_HowMeet.ret 3))) else (impl_BeforePoint.ap k (⟨r5.f1.f0, r5.f1.f1⟩ : S77) (⟨r6.f0.f0, r6.f0.f1⟩ : S77) fun r10 => if r10 = true then (impl_HowMeet.ret 0) else (if r6.f0.f0 = r5.f1.f0 ∧ (r6.f0.f1 = r5.f1.f1 ∧ True) then (impl_HowMeet.ret 1) else (impl_HowMeet.ret 3)))) else (impl_BeforePoint.ap k (⟨r6.f1.f0, r6.f1.f1⟩ : S77) (⟨r5.f1.f0, r5.f1.f1⟩ : S77) fun r11 => if r11 = true then (impl_BeforePoint.ap k (⟨r6.f1.f0, r6.f1.f1⟩ : S77) (⟨r5.f0.f0, r5.f0.f1⟩ : S77) fun r12 => if r12 = true then (impl_HowMeet.ret 0) else (if r5.f0.f0 = r6.f1.f0 ∧ (r5.f0.f1 = r6.f1.f1 ∧ True) then (impl_HowMeet.ret 1) else (impl_HowMeet.ret 3))) else (impl_BeforePoint.ap k (⟨r5.f1.f0, r5.f1.f1⟩ : S77) (⟨r5.f0.f0, r5.f0.f1⟩ : S77) fun r13 => if r13 = true then (impl_HowMeet.ret 0) else (if r5.f0.f0 = r5.f1.f0 ∧ (r5.f0.f1 = r5.f1.f1 ∧ True) then (impl_HowMeet.ret 1) else (impl_HowMeet.ret 3))))) else (if (wrap64 (r3 * r4)) < 0 then (impl_SideOf.ap k (⟨h1.f0.f0, h1.f0.f1⟩ : S77) (⟨h1.f1.f0, h1.f1.f1⟩ : S77) (⟨h0.f0.f0, h0.f0.f1⟩ : S77) fun r14 => impl_SideOf.ap k (⟨h1.f0.f0, h1.f0.f1⟩ : S77) (⟨h1.f1.f0, h1.f1.f1⟩ : S77) (⟨h0.f1.f0, h0.f1.f1⟩ : S77) fun r15 => if (wrap64 (r14 * r15)) < 0 then (impl_HowMeet.ret 2) else (impl_IsOn.ap k (⟨(⟨h0.f0.f0, h0.f0.f1⟩ : S77), (⟨h0.f1.f0, h0.f1.f1⟩ : S77)⟩ : S95) (⟨h1.f0.f0, h1.f0.f1⟩ : S77) fun r16 => if r16 = true then (impl_HowMeet.ret 1) else (impl_IsOn.ap k (⟨(⟨h0.f0.f0, h0.f0.f1⟩ : S77), (⟨h0.f1.f0, h0.f1.f1⟩ : S77)⟩ : S95) (⟨h1.f1.f0, h1.f1.f1⟩ : S77) fun r17 => if r17 = true then (impl_HowMeet.ret 1) else (impl_IsOn.ap k (⟨(⟨h1.f0.f0, h1.f0.f1⟩ : S77), (⟨h1.f1.f0, h1.f1.f1⟩ : S77)⟩ : S95) (⟨h0.f0.f0, h0.f0.f1⟩ : S77) fun r18 => if r18 = true then (impl_HowMeet.ret 1) else (impl_IsOn.ap k (⟨(⟨h1.f0.f0, h1.f0.f1⟩ : S77), (⟨h1.f1.f0, h1.f1.f1⟩ : S77)⟩ : S95) (⟨h0.f1.f0, h0.f1.f1⟩ : S77) fun r19 => if r19 = true then (impl_HowMeet.ret 1) else (impl_HowMeet.ret 0)))))) else (impl_IsOn.ap k (⟨(⟨h0.f0.f0, h0.f0.f1⟩ : S77), (⟨h0.f1.f0, h0.f1.f1⟩ : S77)⟩ : S95) (⟨h1.f0.f0, h1.f0.f1⟩ : S77) fun r20 => if r20 = true then (impl_HowMeet.ret 1) else (impl_IsOn.ap k (⟨(⟨h0.f0.f0, h0.f0.f1⟩ : S77), (⟨h0.f1.f0, h0.f1.f1⟩ : S77)⟩ : S95) (⟨h1.f1.f0, h1.f1.f1⟩ : S77) fun r21 => if r21 = true then (impl_HowMeet.ret 1) else (impl_IsOn.ap k (⟨(⟨h1.f0.f0, h1.f0.f1⟩ : S77), (⟨h1.f1.f0, h1.f1.f1⟩ : S77)⟩ : S95) (⟨h0.f0.f0, h0.f0.f1⟩ : S77) fun r22 => if r22 = true then (impl_HowMeet.ret 1) else (impl_IsOn.ap k (⟨(⟨h1.f0.f0, h1.f0.f1⟩ : S77), (⟨h1.f1.f0, h1.f1.f1⟩ : S77)⟩ : S95) (⟨h0.f1.f0, h0.f1.f1⟩ : S77) fun r23 => if r23 = true then (impl_HowMeet.ret 1) else (impl_HowMeet.ret 0))))))) else (if (wrap64 (r3 * r4)) < 0 then (impl_SideOf.ap k (⟨h1.f0.f0, h1.f0.f1⟩ : S77) (⟨h1.f1.f0, h1.f1.f1⟩ : S77) (⟨h0.f0.f0, h0.f0.f1⟩ : S77) fun r24 => impl_SideOf.ap k (⟨h1.f0.f0, h1.f0.f1⟩ : S77) (⟨h1.f1.f0, h1.f1.f1⟩ : S77) (⟨h0.f1.f0, h0.f1.f1⟩ : S77) fun r25 => if (wrap64 (r24 * r25)) < 0 then (impl_HowMeet.ret 2) else (impl_IsOn.ap k (⟨(⟨h0.f0.f0, h0.f0.f1⟩ : S77), (⟨h0.f1.f0, h0.f1.f1⟩ : S77)⟩ : S95) (⟨h1.f0.f0, h1.f0.f1⟩ : S77) fun r26 => if r26 = true then (impl_HowMeet.ret 1) else (impl_IsOn.ap k (⟨(⟨h0.f0.f0, h0.f0.f1⟩ : S77), (⟨h0.f1.f0, h0.f1.f1⟩ : S77)⟩ : S95) (⟨h1.f1.f0, h1.f1.f1⟩ : S77) fun r27 => if r27 = true then (impl_HowMeet.ret 1) else (impl_IsOn.ap k (⟨(⟨h1.f0.f0, h1.f0.f1⟩ : S77), (⟨h1.f1.f0, h1.f1.f1⟩ : S77)⟩ : S95) (⟨h0.f0.f0, h0.f0.f1⟩ : S77) fun r28 => if r28 = true then (impl_HowMeet.ret 1) else (impl_IsOn.ap k (⟨(⟨h1.f0.f0, h1.f0.f1⟩ : S77), (⟨h1.f1.f0, h1.f1.f1⟩ : S77)⟩ : S95) (⟨h0.f1.f0, h0.f1.f1⟩ : S77) fun r29 => if r29 = true then (impl_HowMeet.ret 1) else (impl_HowMeet.ret 0)))))) else (impl_IsOn.ap k (⟨(⟨h0.f0.f0, h0.f0.f1⟩ : S77), (⟨h0.f1.f0, h0.f1.f1⟩ : S77)⟩ : S95) (⟨h1.f0.f0, h1.f0.f1⟩ : S77) fun r30 => if r30 = true then (impl_HowMeet.ret 1) else (impl_IsOn.ap k (⟨(⟨h0.f0.f0, h0.f0.f1⟩ : S77), (⟨h0.f1.f0, h0.f1.f1⟩ : S77)⟩ : S95) (⟨h1.f1.f0, h1.f1.f1⟩ : S77) fun r31 => if r31 = true then (impl_HowMeet.ret 1) else (impl_IsOn.ap k (⟨(⟨h1.f0.f0, h1.f0.f1⟩ : S77), (⟨h1.f1.f0, h1.f1.f1⟩ : S77)⟩ : S95) (⟨h0.f0.f0, h0.f0.f1⟩ : S77) fun r32 => if r32 = true then (impl_HowMeet.ret 1) else (impl_IsOn.ap k (⟨(⟨h1.f0.f0, h1.f0.f1⟩ : S77), (⟨h1.f1.f0, h1.f1.f1⟩ : S77)⟩ : S95) (⟨h0.f1.f0, h0.f1.f1⟩ : S77) fun r33 => if r33 = true then (impl_HowMeet.ret 1) else (impl_HowMeet.ret 0)))))))) := by kernel_rfl
def impl_HowMeet.toH (t : Int) : HL eΓ [.i .i64] := (t, ())
def impl_HowMeet.spec : Spc env := ⟨107, [.st .s95, .st .s95], [.i .i64], impl_HowMeet.run⟩
def impl_HowMeet.ap {R : Type} (k : Nat) (h0 : S95) (h1 : S95) (K : Int → Option R) : Option R := (impl_HowMeet.run k (h0, h1, ())).bind fun r => K (r.1 : Int)
theorem impl_HowMeet.ap_of {R : Type} {k : Nat} {h0 : S95} {h1 : S95} {r0 : Int} {K : Int → Option R} (h : impl_HowMeet.run k (h0, h1, ()) = some (r0, ())) : impl_HowMeet.ap k h0 h1 K = K r0 := by unfold impl_HowMeet.ap; rw [h]; rfl
theorem impl_HowMeet.snd : Snd env impl_HowMeet.spec := evF_snd env_ok (sndC impl_IsSegment.snd (sndC impl_SideOf.snd (sndC impl_forward.snd (sndC impl_BeforePoint.snd (sndC impl_IsOn.snd (sndN))))))
attribute [local irreducible] impl_HowMeet.run
theorem impl_HowMeet.rt (a0 : Int) : impl_HowMeet.ret a0 = some (impl_HowMeet.toH (a0)) := rfl
theorem impl_HowMeet.go {k : Nat} {a0_0 : Int} {a0_1 : Int} {a0_2 : Int} {a0_3 : Int} {a1_0 : Int} {a1_1 : Int} {a1_2 : Int} {a1_3 : Int} {t} (h : impl_HowMeet.f k a0_0 a0_1 a0_2 a0_3 a1_0 a1_1 a1_2 a1_3 = some t) (K : Nat) (hK : k ≤ K) : impl_HowMeet.run K ((⟨(⟨a0_0, a0_1⟩ : S77), (⟨a0_2, a0_3⟩ : S77)⟩ : S95), (⟨(⟨a1_0, a1_1⟩ : S77), (⟨a1_2, a1_3⟩ : S77)⟩ : S95), ()) = some (impl_HowMeet.toH t) := by
  rw [impl_HowMeet.ef]
  (try dsimp only)
  unfold impl_HowMeet.f at h
  repeat' (with_reducible first
   | exact nos h
   | (cases some_inj h; exact impl_HowMeet.rt _)
   | ((have q : impl_HowMeet.j0 k _ _ _ _ _ _ _ _ _ = some _ := h; clear q); rcases k with _ | k <;> simp only [impl_HowMeet.j0, reduceCtorEq] at h)
   | ((have q : impl_HowMeet.j1 k _ _ _ _ _ _ _ _ _ _ _ = some _ := h; clear q); rcases k with _ | k <;> simp only [impl_HowMeet.j1, reduceCtorEq] at h)
   | ((have q : impl_HowMeet.j2 k _ _ _ _ _ _ _ _ = some _ := h; clear q); rcases k with _ | k <;> simp only [impl_HowMeet.j2, reduceCtorEq] at h)
   | ((have q : impl_HowMeet.j3 k _ _ _ _ = some _ := h; clear q); rcases k with _ | k <;> simp only [impl_HowMeet.j3, reduceCtorEq] at h)
   | ((have q : impl_HowMeet.j4 k _ _ _ _ _ _ _ _ _ = some _ := h; clear q); rcases k with _ | k <;> simp only [impl_HowMeet.j4, reduceCtorEq] at h)
   | (simp only [Option.bind_some] at h)
   | (refine ite_by h ?_ ?_ <;> (intro hc h; (try simp only [nrm] at hc)))
   | refine itT ?_
   | refine itF ?_
   | (refine bind_by h (fun t ht h => ?_); (first | refine (impl_IsSegment.ap_of (impl_IsSegment.go ht _)).trans ?_ | refine (impl_SideOf.ap_of (impl_SideOf.go ht _)).trans ?_ | refine (impl_forward.ap_of (impl_forward.go ht _)).trans ?_ | refine (impl_BeforePoint.ap_of (impl_BeforePoint.go ht _)).trans ?_ | refine (impl_IsOn.ap_of (impl_IsOn.go ht _)).trans ?_); (try dsimp only at h ⊢))
   | (simp only [nr2] at h ⊢)
   | (exfalso; omega))
def impl_IsRing.Fs : List (Spc env) := [impl_around.spec, impl_IsSegment.spec, impl_HowMeet.spec]
def impl_IsRing.fin : St eΓ → Option (HL eΓ [.b]) := finR env Try.f78.results.toList [.b]
def impl_IsRing.cut : Nat → Option (List (Lv SC)) := lk [(5, [⟨3, none, false⟩, ⟨18, none, false⟩, ⟨19, none, false⟩]), (10, [⟨3, none, false⟩, ⟨4, none, false⟩, ⟨18, none, false⟩, ⟨19, none, false⟩, ⟨28, none, false⟩, ⟨29, none, false⟩])]
def impl_IsRing.ret (r0 : Bool) : Option (HL eΓ [.b]) := some (r0, ())
def impl_IsRing.p5 (k : Nat) (x18 : Int) (x19 : Int) (x3 : List S95) : Option (HL eΓ [.b]) := evM env impl_IsRing.Fs Try.f78.ntmps impl_IsRing.fin impl_IsRing.cut k [.code (sub_ [1, 1, 1, 0, 1, 0, 0, 0] (bodyOf Try.f78)), .code (sub_ [1, 1, 1, 0, 1, 0, 0, 1] (bodyOf Try.f78)), .lp (sub_ [1, 1, 1, 0, 1, 0, 0] (bodyOf Try.f78)), .blk 0, .code (sub_ [1, 1, 1, 1] (bodyOf Try.f78))] (mkSt [(3, .c (.sl 0)), (18, .c (.v (.int .i64 x18))), (19, .c (.v (.int .i64 x19)))] [.row .own 95 (.st .s95) x3])
def impl_IsRing.p10 (k : Nat) (x4 : Int) (x18 : Int) (x19 : Int) (x28 : Int) (x29 : Int) (x3 : List S95) : Option (HL eΓ [.b]) := evM env impl_IsRing.Fs Try.f78.ntmps impl_IsRing.fin impl_IsRing.cut k [.code (sub_ [1, 1, 1, 0, 1, 0, 0, 1, 1, 0, 0, 1, 1, 1, 0, 0, 0] (bodyOf Try.f78)), .code (sub_ [1, 1, 1, 0, 1, 0, 0, 1, 1, 0, 0, 1, 1, 1, 0, 0, 1] (bodyOf Try.f78)), .lp (sub_ [1, 1, 1, 0, 1, 0, 0, 1, 1, 0, 0, 1, 1, 1, 0, 0] (bodyOf Try.f78)), .blk 2, .blk 1, .code (sub_ [1, 1, 1, 0, 1, 0, 0, 1, 1, 1] (bodyOf Try.f78)), .lp (sub_ [1, 1, 1, 0, 1, 0, 0] (bodyOf Try.f78)), .blk 0, .code (sub_ [1, 1, 1, 1] (bodyOf Try.f78))] (mkSt [(3, .c (.sl 0)), (4, .c (.v (.int .i64 x4))), (18, .c (.v (.int .i64 x18))), (19, .c (.v (.int .i64 x19))), (28, .c (.v (.int .i64 x28))), (29, .c (.v (.int .i64 x29)))] [.row .own 95 (.st .s95) x3])
theorem impl_IsRing.e5 (k : Nat) (x18 : Int) (x19 : Int) (x3 : List S95) : impl_IsRing.p5 (k + 1) x18 x19 x3 = if x19 < x18 then (if 0 ≤ x19 then (if x19 < (x3.length : Int) then (impl_IsSegment.ap k (⟨(⟨(rd_T95 x3 x19).f0.f0, (rd_T95 x3 x19).f0.f1⟩ : S77), (⟨(rd_T95 x3 x19).f1.f0, (rd_T95 x3 x19).f1.f1⟩ : S77)⟩ : S95) fun r1 => if (!r1) = true then (impl_IsRing.ret false) else (impl_IsRing.p10 k x19 x18 x19 x19 0 x3)) else none) else none) else (impl_IsRing.ret true) := by kernel_rfl
theorem impl_IsRing.e10 (k : Nat) (x4 : Int) (x18 : Int) (x19 : Int) (x28 : Int) (x29 : Int) (x3 : List S95) : impl_IsRing.p10 (k + 1) x4 x18 x19 x28 x29 x3 = if x29 < x28 then (if x29 = (wrap64 (x4 - 1)) then (if 0 ≤ x4 then (if x4 < (x3.length : Int) then (if 0 ≤ x29 then (if x29 < (x3.length : Int) then (impl_HowMeet.ap k (⟨(⟨(rd_T95 x3 x4).f0.f0, (rd_T95 x3 x4).f0.f1⟩ : S77), (⟨(rd_T95 x3 x4).f1.f0, (rd_T95 x3 x4).f1.f1⟩ : S77)⟩ : S95) (⟨(⟨(rd_T95 x3 x29).f0.f0, (rd_T95 x3 x29).f0.f1⟩ : S77), (⟨(rd_T95 x3 x29).f1.f0, (rd_T95 x3 x29).f1.f1⟩ : S77)⟩ : S95) fun r1 => if ¬ r1 = 1 then (impl_IsRing.ret false) else (impl_IsRing.p10 k x4 x18 x19 x28 (wrap64 (x29 + 1)) x3)) else none) else none) else none) else none) else (if x29 = 0 then (if x4 = (wrap64 ((x3.length : Int) - 1)) then (if 0 ≤ x4 then (if x4 < (x3.length : Int) then (if 0 ≤ x29 then (if x29 < (x3.length : Int) then (impl_HowMeet.ap k (⟨(⟨(rd_T95 x3 x4).f0.f0, (rd_T95 x3 x4).f0.f1⟩ : S77), (⟨(rd_T95 x3 x4).f1.f0, (rd_T95 x3 x4).f1.f1⟩ : S77)⟩ : S95) (⟨(⟨(rd_T95 x3 x29).f0.f0, (rd_T95 x3 x29).f0.f1⟩ : S77), (⟨(rd_T95 x3 x29).f1.f0, (rd_T95 x3 x29).f1.f1⟩ : S77)⟩ : S95) fun r2 => if ¬ r2 = 1 then (impl_IsRing.ret false) else (impl_IsRing.p10 k x4 x18 x19 x28 (wrap64 (x29 + 1)) x3)) else none) else none) else none) else none) else (if 0 ≤ x4 then (if x4 < (x3.length : Int) then (if 0 ≤ x29 then (if x29 < (x3.length : Int) then (impl_HowMeet.ap k (⟨(⟨(rd_T95 x3 x4).f0.f0, (rd_T95 x3 x4).f0.f1⟩ : S77), (⟨(rd_T95 x3 x4).f1.f0, (rd_T95 x3 x4).f1.f1⟩ : S77)⟩ : S95) (⟨(⟨(rd_T95 x3 x29).f0.f0, (rd_T95 x3 x29).f0.f1⟩ : S77), (⟨(rd_T95 x3 x29).f1.f0, (rd_T95 x3 x29).f1.f1⟩ : S77)⟩ : S95) fun r3 => if ¬ r3 = 0 then (impl_IsRing.ret false) else (impl_IsRing.p10 k x4 x18 x19 x28 (wrap64 (x29 + 1)) x3)) else none) else none) else none) else none)) else (if 0 ≤ x4 then (if x4 < (x3.length : Int) then (if 0 ≤ x29 then (if x29 < (x3.length : Int) then (impl_HowMeet.ap k (⟨(⟨(rd_T95 x3 x4).f0.f0, (rd_T95 x3 x4).f0.f1⟩ : S77), (⟨(rd_T95 x3 x4).f1.f0, (rd_T95 x3 x4).f1.f1⟩ : S77)⟩ : S95) (⟨(⟨(rd_T95 x3 x29).f0.f0, (rd_T95 x3 x29).f0.f1⟩ : S77), (⟨(rd_T95 x3 x29).f1.f0, (rd_T95 x3 x29).f1.f1⟩ : S77)⟩ : S95) fun r4 => if ¬ r4 = 0 then (impl_IsRing.ret false) else (impl_IsRing.p10 k x4 x18 x19 x28 (wrap64 (x29 + 1)) x3)) else none) else none) else none) else none))) else (impl_IsRing.p5 k x18 (wrap64 (x19 + 1)) x3) := by kernel_rfl
def impl_IsRing.run (k : Nat) (h : HL eΓ [.l 77 (.st .s77)]) : Option (HL eΓ [.b]) := evF env impl_IsRing.Fs Try.f78 impl_IsRing.cut [.l 77 (.st .s77)] [.b] k h
theorem impl_IsRing.ef (k : Nat) (h0 : List S77) : impl_IsRing.run k (h0, ()) = if (h0.length : Int) < 3 then (impl_IsRing.ret false) else (if (h0.length : Int) > 10 then (impl_IsRing.ret false) else (impl_around.ap k h0 fun r1 => impl_IsRing.p5 k (r1.length : Int) 0 r1)) := by kernel_rfl
def impl_IsRing.toH (t : Bool) : HL eΓ [.b] := (t, ())
def impl_IsRing.spec : Spc env := ⟨78, [.l 77 (.st .s77)], [.b], impl_IsRing.run⟩
def impl_IsRing.ap {R : Type} (k : Nat) (h0 : List S77) (K : Bool → Option R) : Option R := (impl_IsRing.run k (h0, ())).bind fun r => K (r.1 : Bool)
theorem impl_IsRing.ap_of {R : Type} {k : Nat} {h0 : List S77} {r0 : Bool} {K : Bool → Option R} (h : impl_IsRing.run k (h0, ()) = some (r0, ())) : impl_IsRing.ap k h0 K = K r0 := by unfold impl_IsRing.ap; rw [h]; rfl
theorem impl_IsRing.snd : Snd env impl_IsRing.spec := evF_snd env_ok (sndC impl_around.snd (sndC impl_IsSegment.snd (sndC impl_HowMeet.snd (sndN))))
attribute [local irreducible] impl_IsRing.run
theorem impl_IsRing.rt (a0 : Bool) : impl_IsRing.ret a0 = some (impl_IsRing.toH (a0)) := rfl
theorem impl_IsRing.br (n : Nat) : (∀ K, n ≤ K → ∀ (x18 : Int) (x19 : Int) (x3 : List S95) t, impl_IsRing.l0 n x3 x18 x19 = some t → impl_IsRing.p5 K x18 x19 x3 = some (impl_IsRing.toH t)) ∧ (∀ K, n ≤ K → ∀ (x4 : Int) (x18 : Int) (x19 : Int) (x28 : Int) (x29 : Int) (x3 : List S95) t, impl_IsRing.l1 n x3 x4 x18 x19 x28 x29 = some t → impl_IsRing.p10 K x4 x18 x19 x28 x29 x3 = some (impl_IsRing.toH t)) := by
  induction n using Nat.strongRecOn with
  | _ n ih =>
  refine ⟨fun K hK x18 x19 x3 t h => ?_, fun K hK x4 x18 x19 x28 x29 x3 t h => ?_⟩
  all_goals (rcases n with _ | k)
  all_goals (try (exact nos h))
  all_goals (obtain ⟨K, rfl⟩ : ∃ q, K = q + 1 := ⟨K - 1, by omega⟩)
  all_goals (first | rw [impl_IsRing.e5] | rw [impl_IsRing.e10])
  all_goals (simp only [impl_IsRing.l0, impl_IsRing.l1] at h)
  repeat' (with_reducible first
   | exact nos h
   | (cases some_inj h; exact impl_IsRing.rt _)
   | exact (ih _ (by omega)).1 _ (by omega) _ _ _ _ h
   | exact (ih _ (by omega)).2 _ (by omega) _ _ _ _ _ _ _ h
   | ((have q : impl_IsRing.j0 k _ _ = some _ := h; clear q); rcases k with _ | k <;> simp only [impl_IsRing.j0, reduceCtorEq] at h)
   | ((have q : impl_IsRing.j3 k _ _ _ _ _ _ _ _ _ = some _ := h; clear q); rcases k with _ | k <;> simp only [impl_IsRing.j3, reduceCtorEq] at h)
   | (simp only [Option.bind_some] at h)
   | (refine ite_by h ?_ ?_ <;> (intro hc h; (try simp only [nrm] at hc)))
   | refine itT ?_
   | refine itF ?_
   | (refine bind_by h (fun t ht h => ?_); (first | refine (impl_around.ap_of (impl_around.go ht _ (by omega))).trans ?_ | refine (impl_IsSegment.ap_of (impl_IsSegment.go ht _)).trans ?_ | refine (impl_HowMeet.ap_of (impl_HowMeet.go ht _ (by omega))).trans ?_); (try dsimp only at h ⊢))
   | (simp only [nr2] at h ⊢)
   | (exfalso; omega))
theorem impl_IsRing.go {k : Nat} {l0 : List S77} {t} (h : impl_IsRing.f k l0 = some t) (K : Nat) (hK : k ≤ K) : impl_IsRing.run K (l0, ()) = some (impl_IsRing.toH t) := by
  rw [impl_IsRing.ef]
  (try dsimp only)
  unfold impl_IsRing.f at h
  repeat' (with_reducible first
   | exact nos h
   | (cases some_inj h; exact impl_IsRing.rt _)
   | exact (impl_IsRing.br _).1 _ (by omega) _ _ _ _ h
   | exact (impl_IsRing.br _).2 _ (by omega) _ _ _ _ _ _ _ h
   | ((have q : impl_IsRing.j0 k _ _ = some _ := h; clear q); rcases k with _ | k <;> simp only [impl_IsRing.j0, reduceCtorEq] at h)
   | ((have q : impl_IsRing.j3 k _ _ _ _ _ _ _ _ _ = some _ := h; clear q); rcases k with _ | k <;> simp only [impl_IsRing.j3, reduceCtorEq] at h)
   | (simp only [Option.bind_some] at h)
   | (refine ite_by h ?_ ?_ <;> (intro hc h; (try simp only [nrm] at hc)))
   | refine itT ?_
   | refine itF ?_
   | (refine bind_by h (fun t ht h => ?_); (first | refine (impl_around.ap_of (impl_around.go ht _ (by omega))).trans ?_ | refine (impl_IsSegment.ap_of (impl_IsSegment.go ht _)).trans ?_ | refine (impl_HowMeet.ap_of (impl_HowMeet.go ht _ (by omega))).trans ?_); (try dsimp only at h ⊢))
   | (simp only [nr2] at h ⊢)
   | (exfalso; omega))
def impl_RingSegments.Fs : List (Spc env) := [impl_IsRing.spec, impl_around.spec]
def impl_RingSegments.cut : Nat → Option (List (Lv SC)) := lk []
def impl_RingSegments.ret (r0 : List S95) : Option (HL eΓ [.l 95 (.st .s95)]) := some (r0, ())
def impl_RingSegments.run (k : Nat) (h : HL eΓ [.l 77 (.st .s77)]) : Option (HL eΓ [.l 95 (.st .s95)]) := evF env impl_RingSegments.Fs Try.f109 impl_RingSegments.cut [.l 77 (.st .s77)] [.l 95 (.st .s95)] k h
theorem impl_RingSegments.ef (k : Nat) (h0 : List S77) : impl_RingSegments.run k (h0, ()) = impl_IsRing.ap k h0 fun r1 => if (!r1) = true then (impl_RingSegments.ret ([] : List S95)) else (impl_around.ap k h0 fun r2 => impl_RingSegments.ret r2) := by kernel_rfl
def impl_RingSegments.toH (t : (List (S95))) : HL eΓ [.l 95 (.st .s95)] := (t, ())
def impl_RingSegments.spec : Spc env := ⟨109, [.l 77 (.st .s77)], [.l 95 (.st .s95)], impl_RingSegments.run⟩
def impl_RingSegments.ap {R : Type} (k : Nat) (h0 : List S77) (K : (List S95) → Option R) : Option R := (impl_RingSegments.run k (h0, ())).bind fun r => K (r.1 : List S95)
theorem impl_RingSegments.ap_of {R : Type} {k : Nat} {h0 : List S77} {r0 : List S95} {K : (List S95) → Option R} (h : impl_RingSegments.run k (h0, ()) = some (r0, ())) : impl_RingSegments.ap k h0 K = K r0 := by unfold impl_RingSegments.ap; rw [h]; rfl
theorem impl_RingSegments.snd : Snd env impl_RingSegments.spec := evF_snd env_ok (sndC impl_IsRing.snd (sndC impl_around.snd (sndN)))
attribute [local irreducible] impl_RingSegments.run
theorem impl_RingSegments.rt (a0 : List S95) : impl_RingSegments.ret a0 = some (impl_RingSegments.toH (a0)) := rfl
theorem impl_RingSegments.go {k : Nat} {l0 : List S77} {t} (h : impl_RingSegments.f k l0 = some t) (K : Nat) (hK : k ≤ K) : impl_RingSegments.run K (l0, ()) = some (impl_RingSegments.toH t) := by
  rw [impl_RingSegments.ef]
  (try dsimp only)
  unfold impl_RingSegments.f at h
  repeat' (with_reducible first
   | exact nos h
   | (cases some_inj h; exact impl_RingSegments.rt _)
   | (simp only [Option.bind_some] at h)
   | (refine ite_by h ?_ ?_ <;> (intro hc h; (try simp only [nrm] at hc)))
   | refine itT ?_
   | refine itF ?_
   | (refine bind_by h (fun t ht h => ?_); (first | refine (impl_IsRing.ap_of (impl_IsRing.go ht _ (by omega))).trans ?_ | refine (impl_around.ap_of (impl_around.go ht _ (by omega))).trans ?_); (try dsimp only at h ⊢))
   | (simp only [nr2] at h ⊢)
   | (exfalso; omega))
def impl_TwiceArea.Fs : List (Spc env) := [impl_RingSegments.spec]
def impl_TwiceArea.fin : St eΓ → Option (HL eΓ [.i .i64]) := finR env Try.f80.results.toList [.i .i64]
def impl_TwiceArea.cut : Nat → Option (List (Lv SC)) := lk [(3, [⟨3, none, false⟩, ⟨7, none, false⟩, ⟨8, none, false⟩, ⟨9, none, false⟩])]
def impl_TwiceArea.ret (r0 : Int) : Option (HL eΓ [.i .i64]) := some (r0, ())
def impl_TwiceArea.p3 (k : Nat) (x3 : Int) (x8 : Int) (x9 : Int) (x7 : List S95) : Option (HL eΓ [.i .i64]) := evM env impl_TwiceArea.Fs Try.f80.ntmps impl_TwiceArea.fin impl_TwiceArea.cut k [.code (sub_ [1, 1, 0, 1, 0, 0, 0] (bodyOf Try.f80)), .code (sub_ [1, 1, 0, 1, 0, 0, 1] (bodyOf Try.f80)), .lp (sub_ [1, 1, 0, 1, 0, 0] (bodyOf Try.f80)), .blk 0, .code (sub_ [1, 1, 1] (bodyOf Try.f80))] (mkSt [(3, .c (.v (.int .i64 x3))), (7, .c (.sl 0)), (8, .c (.v (.int .i64 x8))), (9, .c (.v (.int .i64 x9)))] [.row .own 95 (.st .s95) x7])
theorem impl_TwiceArea.e3 (k : Nat) (x3 : Int) (x8 : Int) (x9 : Int) (x7 : List S95) : impl_TwiceArea.p3 (k + 1) x3 x8 x9 x7 = if x9 < x8 then (if 0 ≤ x9 then (if x9 < (x7.length : Int) then (impl_TwiceArea.p3 k (wrap64 (x3 + (wrap64 ((wrap64 (((rd_T95 x7 x9).f0.f0) * ((rd_T95 x7 x9).f1.f1))) - (wrap64 (((rd_T95 x7 x9).f0.f1) * ((rd_T95 x7 x9).f1.f0))))))) x8 (wrap64 (x9 + 1)) x7) else none) else none) else (impl_TwiceArea.ret x3) := by kernel_rfl
def impl_TwiceArea.run (k : Nat) (h : HL eΓ [.l 77 (.st .s77)]) : Option (HL eΓ [.i .i64]) := evF env impl_TwiceArea.Fs Try.f80 impl_TwiceArea.cut [.l 77 (.st .s77)] [.i .i64] k h
theorem impl_TwiceArea.ef (k : Nat) (h0 : List S77) : impl_TwiceArea.run k (h0, ()) = impl_RingSegments.ap k h0 fun r1 => impl_TwiceArea.p3 k 0 (r1.length : Int) 0 r1 := by kernel_rfl
def impl_TwiceArea.toH (t : Int) : HL eΓ [.i .i64] := (t, ())
def impl_TwiceArea.spec : Spc env := ⟨80, [.l 77 (.st .s77)], [.i .i64], impl_TwiceArea.run⟩
def impl_TwiceArea.ap {R : Type} (k : Nat) (h0 : List S77) (K : Int → Option R) : Option R := (impl_TwiceArea.run k (h0, ())).bind fun r => K (r.1 : Int)
theorem impl_TwiceArea.ap_of {R : Type} {k : Nat} {h0 : List S77} {r0 : Int} {K : Int → Option R} (h : impl_TwiceArea.run k (h0, ()) = some (r0, ())) : impl_TwiceArea.ap k h0 K = K r0 := by unfold impl_TwiceArea.ap; rw [h]; rfl
theorem impl_TwiceArea.snd : Snd env impl_TwiceArea.spec := evF_snd env_ok (sndC impl_RingSegments.snd (sndN))
attribute [local irreducible] impl_TwiceArea.run
theorem impl_TwiceArea.rt (a0 : Int) : impl_TwiceArea.ret a0 = some (impl_TwiceArea.toH (a0)) := rfl
theorem impl_TwiceArea.br (n : Nat) : (∀ K, n ≤ K → ∀ (x3 : Int) (x8 : Int) (x9 : Int) (x7 : List S95) t, impl_TwiceArea.l0 n x3 x7 x8 x9 = some t → impl_TwiceArea.p3 K x3 x8 x9 x7 = some (impl_TwiceArea.toH t)) := by
  induction n using Nat.strongRecOn with
  | _ n ih =>
  intro K hK x3 x8 x9 x7 t h
  all_goals (rcases n with _ | k)
  all_goals (try (exact nos h))
  all_goals (obtain ⟨K, rfl⟩ : ∃ q, K = q + 1 := ⟨K - 1, by omega⟩)
  all_goals (first | rw [impl_TwiceArea.e3])
  all_goals (simp only [impl_TwiceArea.l0] at h)
  repeat' (with_reducible first
   | exact nos h
   | (cases some_inj h; exact impl_TwiceArea.rt _)
   | exact (ih _ (by omega)) _ (by omega) _ _ _ _ _ h
   | (simp only [Option.bind_some] at h)
   | (refine ite_by h ?_ ?_ <;> (intro hc h; (try simp only [nrm] at hc)))
   | refine itT ?_
   | refine itF ?_
   | (refine bind_by h (fun t ht h => ?_); refine (impl_RingSegments.ap_of (impl_RingSegments.go ht _ (by omega))).trans ?_; (try dsimp only at h ⊢))
   | (simp only [nr2] at h ⊢)
   | (exfalso; omega))
theorem impl_TwiceArea.go {k : Nat} {l0 : List S77} {t} (h : impl_TwiceArea.f k l0 = some t) (K : Nat) (hK : k ≤ K) : impl_TwiceArea.run K (l0, ()) = some (impl_TwiceArea.toH t) := by
  rw [impl_TwiceArea.ef]
  (try dsimp only)
  unfold impl_TwiceArea.f at h
  repeat' (with_reducible first
   | exact nos h
   | (cases some_inj h; exact impl_TwiceArea.rt _)
   | exact (impl_TwiceArea.br _) _ (by omega) _ _ _ _ _ h
   | (simp only [Option.bind_some] at h)
   | (refine ite_by h ?_ ?_ <;> (intro hc h; (try simp only [nrm] at hc)))
   | refine itT ?_
   | refine itF ?_
   | (refine bind_by h (fun t ht h => ?_); refine (impl_RingSegments.ap_of (impl_RingSegments.go ht _ (by omega))).trans ?_; (try dsimp only at h ⊢))
   | (simp only [nr2] at h ⊢)
   | (exfalso; omega))
def impl_DropCorner.Fs : List (Spc env) := [impl_IsRing.spec, impl_Point.spec, impl_InRange.spec, impl_without.spec, impl_TwiceArea.spec, cmp_Compare_int.spec]
def impl_DropCorner.cut : Nat → Option (List (Lv SC)) := lk []
def impl_DropCorner.ret (r0 : List S77) (r1 : Bool) : Option (HL eΓ [.l 77 (.st .s77), .b]) := some (r0, r1, ())
def impl_DropCorner.run (k : Nat) (h : HL eΓ [.l 77 (.st .s77), .i .i64]) : Option (HL eΓ [.l 77 (.st .s77), .b]) := evF env impl_DropCorner.Fs Try.f44 impl_DropCorner.cut [.l 77 (.st .s77), .i .i64] [.l 77 (.st .s77), .b] k h
theorem impl_DropCorner.ef (k : Nat) (h0 : List S77) (h1 : Int) : impl_DropCorner.run k (h0, h1, ()) = impl_IsRing.ap k h0 fun r1 => if (!r1) = true then (impl_Point.ap k h0 fun r2 => impl_DropCorner.ret r2 false) else (impl_InRange.ap k h1 0 (wrap64 ((h0.length : Int) - 1)) fun r3 => if (!r3) = true then (impl_Point.ap k h0 fun r4 => impl_DropCorner.ret r4 false) else (impl_without.ap k h0 h1 fun r5 => impl_IsRing.ap k r5 fun r6 => if (!r6) = true then (impl_Point.ap k h0 fun r7 => impl_DropCorner.ret r7 false) else (impl_TwiceArea.ap k r5 fun r8 => cmp_Compare_int.ap k r8 0 fun r9 => impl_TwiceArea.ap k h0 fun r10 => cmp_Compare_int.ap k r10 0 fun r11 => if ¬ r9 = r11 then (impl_Point.ap k h0 fun r12 => impl_DropCorner.ret r12 false) else (impl_DropCorner.ret r5 true)))) := by kernel_rfl
def impl_DropCorner.toH (t : (List (S77)) × Bool) : HL eΓ [.l 77 (.st .s77), .b] := (t.1, t.2, ())
def impl_DropCorner.spec : Spc env := ⟨44, [.l 77 (.st .s77), .i .i64], [.l 77 (.st .s77), .b], impl_DropCorner.run⟩
def impl_DropCorner.ap {R : Type} (k : Nat) (h0 : List S77) (h1 : Int) (K : (List S77) → Bool → Option R) : Option R := (impl_DropCorner.run k (h0, h1, ())).bind fun r => K (r.1 : List S77) (r.2.1 : Bool)
theorem impl_DropCorner.ap_of {R : Type} {k : Nat} {h0 : List S77} {h1 : Int} {r0 : List S77} {r1 : Bool} {K : (List S77) → Bool → Option R} (h : impl_DropCorner.run k (h0, h1, ()) = some (r0, r1, ())) : impl_DropCorner.ap k h0 h1 K = K r0 r1 := by unfold impl_DropCorner.ap; rw [h]; rfl
theorem impl_DropCorner.snd : Snd env impl_DropCorner.spec := evF_snd env_ok (sndC impl_IsRing.snd (sndC impl_Point.snd (sndC impl_InRange.snd (sndC impl_without.snd (sndC impl_TwiceArea.snd (sndC cmp_Compare_int.snd (sndN)))))))
attribute [local irreducible] impl_DropCorner.run
theorem impl_DropCorner.rt (a0 : List S77) (a1 : Bool) : impl_DropCorner.ret a0 a1 = some (impl_DropCorner.toH (a0, a1)) := rfl
theorem impl_DropCorner.go {k : Nat} {l0 : List S77} {a1 : Int} {t} (h : impl_DropCorner.f k l0 a1 = some t) (K : Nat) (hK : k ≤ K) : impl_DropCorner.run K (l0, a1, ()) = some (impl_DropCorner.toH t) := by
  rw [impl_DropCorner.ef]
  (try dsimp only)
  unfold impl_DropCorner.f at h
  repeat' (with_reducible first
   | exact nos h
   | (cases some_inj h; exact impl_DropCorner.rt _ _)
   | ((have q : impl_DropCorner.j0 k _ _ _ = some _ := h; clear q); rcases k with _ | k <;> simp only [impl_DropCorner.j0, reduceCtorEq] at h)
   | (simp only [Option.bind_some] at h)
   | (refine ite_by h ?_ ?_ <;> (intro hc h; (try simp only [nrm] at hc)))
   | refine itT ?_
   | refine itF ?_
   | (refine bind_by h (fun t ht h => ?_); (first | refine (impl_IsRing.ap_of (impl_IsRing.go ht _ (by omega))).trans ?_ | refine (impl_Point.ap_of (impl_Point.go ht _)).trans ?_ | refine (impl_InRange.ap_of (impl_InRange.go ht _)).trans ?_ | refine (impl_without.ap_of (impl_without.go ht _)).trans ?_ | refine (impl_TwiceArea.ap_of (impl_TwiceArea.go ht _ (by omega))).trans ?_ | refine (cmp_Compare_int.ap_of (cmp_Compare_int.go ht _)).trans ?_); (try dsimp only at h ⊢))
   | (simp only [nr2, Int.zero_sub] at h ⊢)
   | (exfalso; omega))
def impl_IsName.Fs : List (Spc env) := [impl_InRange.spec]
def impl_IsName.fin : St eΓ → Option (HL eΓ [.b]) := finR env Try.f81.results.toList [.b]
def impl_IsName.cut : Nat → Option (List (Lv SC)) := lk [(2, [⟨0, none, false⟩, ⟨5, none, false⟩, ⟨6, none, false⟩])]
def impl_IsName.ret (r0 : Bool) : Option (HL eΓ [.b]) := some (r0, ())
def impl_IsName.p2 (k : Nat) (x0 : ByteArray) (x5 : Int) (x6 : Int) : Option (HL eΓ [.b]) := evM env impl_IsName.Fs Try.f81.ntmps impl_IsName.fin impl_IsName.cut k [.code (sub_ [1, 0, 1, 0, 0, 0] (bodyOf Try.f81)), .code (sub_ [1, 0, 1, 0, 0, 1] (bodyOf Try.f81)), .lp (sub_ [1, 0, 1, 0, 0] (bodyOf Try.f81)), .blk 0, .code (sub_ [1, 1] (bodyOf Try.f81))] (mkSt [(0, .c (.v (.string x0))), (5, .c (.v (.int .i64 x5))), (6, .c (.v (.int .i64 x6)))] [])
theorem impl_IsName.e2 (k : Nat) (x0 : ByteArray) (x5 : Int) (x6 : Int) : impl_IsName.p2 (k + 1) x0 x5 x6 = if x6 < x5 then (if 0 ≤ x6 then (if x6 < (x0.size : Int) then (if (bt x0 x6) < 97 then (impl_IsName.ret false) else (if 0 ≤ x6 then (if x6 < (x0.size : Int) then (if (bt x0 x6) > 122 then (impl_IsName.ret false) else (impl_IsName.p2 k x0 x5 (wrap64 (x6 + 1)))) else none) else none)) else none) else none) else (impl_InRange.ap k (x0.size : Int) 1 8 fun r1 => impl_IsName.ret r1) := by kernel_rfl
def impl_IsName.run (k : Nat) (h : HL eΓ [.s]) : Option (HL eΓ [.b]) := evF env impl_IsName.Fs Try.f81 impl_IsName.cut [.s] [.b] k h
theorem impl_IsName.ef (k : Nat) (h0 : ByteArray) : impl_IsName.run k (h0, ()) = impl_IsName.p2 k h0 (h0.size : Int) 0 := by kernel_rfl
def impl_IsName.toH (t : Bool) : HL eΓ [.b] := (t, ())
def impl_IsName.spec : Spc env := ⟨81, [.s], [.b], impl_IsName.run⟩
def impl_IsName.ap {R : Type} (k : Nat) (h0 : ByteArray) (K : Bool → Option R) : Option R := (impl_IsName.run k (h0, ())).bind fun r => K (r.1 : Bool)
theorem impl_IsName.ap_of {R : Type} {k : Nat} {h0 : ByteArray} {r0 : Bool} {K : Bool → Option R} (h : impl_IsName.run k (h0, ()) = some (r0, ())) : impl_IsName.ap k h0 K = K r0 := by unfold impl_IsName.ap; rw [h]; rfl
theorem impl_IsName.snd : Snd env impl_IsName.spec := evF_snd env_ok (sndC impl_InRange.snd (sndN))
attribute [local irreducible] impl_IsName.run
theorem impl_IsName.rt (a0 : Bool) : impl_IsName.ret a0 = some (impl_IsName.toH (a0)) := rfl
theorem impl_IsName.br (n : Nat) : (∀ K, n ≤ K → ∀ (x0 : ByteArray) (x5 : Int) (x6 : Int) t, impl_IsName.l0 n x0 x5 x6 = some t → impl_IsName.p2 K x0 x5 x6 = some (impl_IsName.toH t)) := by
  induction n using Nat.strongRecOn with
  | _ n ih =>
  intro K hK x0 x5 x6 t h
  all_goals (rcases n with _ | k)
  all_goals (try (exact nos h))
  all_goals (obtain ⟨K, rfl⟩ : ∃ q, K = q + 1 := ⟨K - 1, by omega⟩)
  all_goals (first | rw [impl_IsName.e2])
  all_goals (simp only [impl_IsName.l0] at h)
  repeat' (with_reducible first
   | exact nos h
   | (cases some_inj h; exact impl_IsName.rt _)
   | exact (ih _ (by omega)) _ (by omega) _ _ _ _ h
   | (simp only [Option.bind_some] at h)
   | (refine ite_by h ?_ ?_ <;> (intro hc h; (try simp only [nrm] at hc)))
   | refine itT ?_
   | refine itF ?_
   | (refine bind_by h (fun t ht h => ?_); refine (impl_InRange.ap_of (impl_InRange.go ht _)).trans ?_; (try dsimp only at h ⊢))
   | (simp only [nr2] at h ⊢)
   | (exfalso; omega))
theorem impl_IsName.go {k : Nat} {a0 : ByteArray} {t} (h : impl_IsName.f k a0 = some t) (K : Nat) (hK : k ≤ K) : impl_IsName.run K (a0, ()) = some (impl_IsName.toH t) := by
  rw [impl_IsName.ef]
  (try dsimp only)
  unfold impl_IsName.f at h
  repeat' (with_reducible first
   | exact nos h
   | (cases some_inj h; exact impl_IsName.rt _)
   | exact (impl_IsName.br _) _ (by omega) _ _ _ _ h
   | (simp only [Option.bind_some] at h)
   | (refine ite_by h ?_ ?_ <;> (intro hc h; (try simp only [nrm] at hc)))
   | refine itT ?_
   | refine itF ?_
   | (refine bind_by h (fun t ht h => ?_); refine (impl_InRange.ap_of (impl_InRange.go ht _)).trans ?_; (try dsimp only at h ⊢))
   | (simp only [nr2] at h ⊢)
   | (exfalso; omega))
def impl_SegmentsOf.Fs : List (Spc env) := [impl_IsLine.spec]
def impl_SegmentsOf.fin : St eΓ → Option (HL eΓ [.l 95 (.st .s95)]) := finR env Try.f110.results.toList [.l 95 (.st .s95)]
def impl_SegmentsOf.cut : Nat → Option (List (Lv SC)) := lk [(5, [⟨0, none, false⟩, ⟨3, none, false⟩, ⟨4, none, false⟩])]
def impl_SegmentsOf.ret (r0 : List S95) : Option (HL eΓ [.l 95 (.st .s95)]) := some (r0, ())
def impl_SegmentsOf.p5 (k : Nat) (x4 : Int) (x0 : List S77) (x3 : List S95) : Option (HL eΓ [.l 95 (.st .s95)]) := evM env impl_SegmentsOf.Fs Try.f110.ntmps impl_SegmentsOf.fin impl_SegmentsOf.cut k [.code (sub_ [1, 1, 1, 0, 1, 0, 0, 0, 0] (bodyOf Try.f110)), .code (sub_ [1, 1, 1, 0, 1, 0, 0, 0, 1] (bodyOf Try.f110)), .code (sub_ [1, 1, 1, 0, 1, 0, 0, 1] (bodyOf Try.f110)), .lp (sub_ [1, 1, 1, 0, 1, 0, 0] (bodyOf Try.f110)), .blk 0, .code (sub_ [1, 1, 1, 1] (bodyOf Try.f110))] (mkSt [(0, .c (.sl 0)), (3, .c (.sl 1)), (4, .c (.v (.int .i64 x4)))] [.row .ro 77 (.st .s77) x0, .row .own 95 (.st .s95) x3])
theorem impl_SegmentsOf.e5 (k : Nat) (x4 : Int) (x0 : List S77) (x3 : List S95) : impl_SegmentsOf.p5 (k + 1) x4 x0 x3 = if x4 < (x0.length : Int) then (if 0 ≤ (wrap64 (x4 - 1)) then (if (wrap64 (x4 - 1)) < (x0.length : Int) then (if 0 ≤ x4 then (if x4 < (x0.length : Int) then (if (x3.length + 1) * 32 ≤ 140737488355328 then (impl_SegmentsOf.p5 k (wrap64 (x4 + 1)) x0 (x3 ++ [(⟨(⟨(rd_T77 x0 (wrap64 (x4 - 1))).f0, (rd_T77 x0 (wrap64 (x4 - 1))).f1⟩ : S77), (⟨(rd_T77 x0 x4).f0, (rd_T77 x0 x4).f1⟩ : S77)⟩ : S95)])) else none) else none) else none) else none) else none) else (impl_SegmentsOf.ret x3) := by kernel_rfl
def impl_SegmentsOf.run (k : Nat) (h : HL eΓ [.l 77 (.st .s77)]) : Option (HL eΓ [.l 95 (.st .s95)]) := evF env impl_SegmentsOf.Fs Try.f110 impl_SegmentsOf.cut [.l 77 (.st .s77)] [.l 95 (.st .s95)] k h
theorem impl_SegmentsOf.ef (k : Nat) (h0 : List S77) : impl_SegmentsOf.run k (h0, ()) = impl_IsLine.ap k h0 fun r1 => if (!r1) = true then (impl_SegmentsOf.ret ([] : List S95)) else (impl_SegmentsOf.p5 k 1 h0 ([] : List S95)) := by kernel_rfl
def impl_SegmentsOf.toH (t : (List (S95))) : HL eΓ [.l 95 (.st .s95)] := (t, ())
def impl_SegmentsOf.spec : Spc env := ⟨110, [.l 77 (.st .s77)], [.l 95 (.st .s95)], impl_SegmentsOf.run⟩
def impl_SegmentsOf.ap {R : Type} (k : Nat) (h0 : List S77) (K : (List S95) → Option R) : Option R := (impl_SegmentsOf.run k (h0, ())).bind fun r => K (r.1 : List S95)
theorem impl_SegmentsOf.ap_of {R : Type} {k : Nat} {h0 : List S77} {r0 : List S95} {K : (List S95) → Option R} (h : impl_SegmentsOf.run k (h0, ()) = some (r0, ())) : impl_SegmentsOf.ap k h0 K = K r0 := by unfold impl_SegmentsOf.ap; rw [h]; rfl
theorem impl_SegmentsOf.snd : Snd env impl_SegmentsOf.spec := evF_snd env_ok (sndC impl_IsLine.snd (sndN))
attribute [local irreducible] impl_SegmentsOf.run
theorem impl_SegmentsOf.rt (a0 : List S95) : impl_SegmentsOf.ret a0 = some (impl_SegmentsOf.toH (a0)) := rfl
theorem impl_SegmentsOf.br (n : Nat) : (∀ K, n ≤ K → ∀ (x4 : Int) (x0 : List S77) (x3 : List S95) t, impl_SegmentsOf.l0 n x0 x3 x4 = some t → impl_SegmentsOf.p5 K x4 x0 x3 = some (impl_SegmentsOf.toH t)) := by
  induction n using Nat.strongRecOn with
  | _ n ih =>
  intro K hK x4 x0 x3 t h
  all_goals (rcases n with _ | k)
  all_goals (try (exact nos h))
  all_goals (obtain ⟨K, rfl⟩ : ∃ q, K = q + 1 := ⟨K - 1, by omega⟩)
  all_goals (first | rw [impl_SegmentsOf.e5])
  all_goals (simp only [impl_SegmentsOf.l0] at h)
  repeat' (with_reducible first
   | exact nos h
   | (cases some_inj h; exact impl_SegmentsOf.rt _)
   | exact (ih _ (by omega)) _ (by omega) _ _ _ _ h
   | (simp only [Option.bind_some] at h)
   | (refine ite_by h ?_ ?_ <;> (intro hc h; (try simp only [nrm] at hc)))
   | refine itT ?_
   | refine itF ?_
   | (refine bind_by h (fun t ht h => ?_); refine (impl_IsLine.ap_of (impl_IsLine.go ht _ (by omega))).trans ?_; (try dsimp only at h ⊢))
   | (simp only [nr2] at h ⊢)
   | (exfalso; omega))
theorem impl_SegmentsOf.go {k : Nat} {l0 : List S77} {t} (h : impl_SegmentsOf.f k l0 = some t) (K : Nat) (hK : k ≤ K) : impl_SegmentsOf.run K (l0, ()) = some (impl_SegmentsOf.toH t) := by
  rw [impl_SegmentsOf.ef]
  (try dsimp only)
  unfold impl_SegmentsOf.f at h
  repeat' (with_reducible first
   | exact nos h
   | (cases some_inj h; exact impl_SegmentsOf.rt _)
   | exact (impl_SegmentsOf.br _) _ (by omega) _ _ _ _ h
   | (simp only [Option.bind_some] at h)
   | (refine ite_by h ?_ ?_ <;> (intro hc h; (try simp only [nrm] at hc)))
   | refine itT ?_
   | refine itF ?_
   | (refine bind_by h (fun t ht h => ?_); refine (impl_IsLine.ap_of (impl_IsLine.go ht _ (by omega))).trans ?_; (try dsimp only at h ⊢))
   | (simp only [nr2] at h ⊢)
   | (exfalso; omega))
def impl_IsSimple.Fs : List (Spc env) := [impl_IsLine.spec, impl_SegmentsOf.spec, impl_HowMeet.spec]
def impl_IsSimple.fin : St eΓ → Option (HL eΓ [.b]) := finR env Try.f83.results.toList [.b]
def impl_IsSimple.cut : Nat → Option (List (Lv SC)) := lk [(5, [⟨3, none, false⟩, ⟨13, none, false⟩, ⟨14, none, false⟩]), (8, [⟨3, none, false⟩, ⟨4, none, false⟩, ⟨13, none, false⟩, ⟨14, none, false⟩, ⟨17, none, false⟩, ⟨18, none, false⟩])]
def impl_IsSimple.ret (r0 : Bool) : Option (HL eΓ [.b]) := some (r0, ())
def impl_IsSimple.p5 (k : Nat) (x13 : Int) (x14 : Int) (x3 : List S95) : Option (HL eΓ [.b]) := evM env impl_IsSimple.Fs Try.f83.ntmps impl_IsSimple.fin impl_IsSimple.cut k [.code (sub_ [1, 1, 1, 0, 1, 0, 0, 0] (bodyOf Try.f83)), .code (sub_ [1, 1, 1, 0, 1, 0, 0, 1] (bodyOf Try.f83)), .lp (sub_ [1, 1, 1, 0, 1, 0, 0] (bodyOf Try.f83)), .blk 0, .code (sub_ [1, 1, 1, 1] (bodyOf Try.f83))] (mkSt [(3, .c (.sl 0)), (13, .c (.v (.int .i64 x13))), (14, .c (.v (.int .i64 x14)))] [.row .own 95 (.st .s95) x3])
def impl_IsSimple.p8 (k : Nat) (x4 : Int) (x13 : Int) (x14 : Int) (x17 : Int) (x18 : Int) (x3 : List S95) : Option (HL eΓ [.b]) := evM env impl_IsSimple.Fs Try.f83.ntmps impl_IsSimple.fin impl_IsSimple.cut k [.code (sub_ [1, 1, 1, 0, 1, 0, 0, 1, 1, 0, 0, 1, 1, 0, 0, 0] (bodyOf Try.f83)), .code (sub_ [1, 1, 1, 0, 1, 0, 0, 1, 1, 0, 0, 1, 1, 0, 0, 1] (bodyOf Try.f83)), .lp (sub_ [1, 1, 1, 0, 1, 0, 0, 1, 1, 0, 0, 1, 1, 0, 0] (bodyOf Try.f83)), .blk 2, .blk 1, .code (sub_ [1, 1, 1, 0, 1, 0, 0, 1, 1, 1] (bodyOf Try.f83)), .lp (sub_ [1, 1, 1, 0, 1, 0, 0] (bodyOf Try.f83)), .blk 0, .code (sub_ [1, 1, 1, 1] (bodyOf Try.f83))] (mkSt [(3, .c (.sl 0)), (4, .c (.v (.int .i64 x4))), (13, .c (.v (.int .i64 x13))), (14, .c (.v (.int .i64 x14))), (17, .c (.v (.int .i64 x17))), (18, .c (.v (.int .i64 x18)))] [.row .own 95 (.st .s95) x3])
theorem impl_IsSimple.e5 (k : Nat) (x13 : Int) (x14 : Int) (x3 : List S95) : impl_IsSimple.p5 (k + 1) x13 x14 x3 = if x14 < x13 then (impl_IsSimple.p8 k x14 x13 x14 x14 0 x3) else (impl_IsSimple.ret true) := by kernel_rfl
theorem impl_IsSimple.e8 (k : Nat) (x4 : Int) (x13 : Int) (x14 : Int) (x17 : Int) (x18 : Int) (x3 : List S95) : impl_IsSimple.p8 (k + 1) x4 x13 x14 x17 x18 x3 = if x18 < x17 then (if x18 = (wrap64 (x4 - 1)) then (if 0 ≤ x4 then (if x4 < (x3.length : Int) then (if 0 ≤ x18 then (if x18 < (x3.length : Int) then (impl_HowMeet.ap k (⟨(⟨(rd_T95 x3 x4).f0.f0, (rd_T95 x3 x4).f0.f1⟩ : S77), (⟨(rd_T95 x3 x4).f1.f0, (rd_T95 x3 x4).f1.f1⟩ : S77)⟩ : S95) (⟨(⟨(rd_T95 x3 x18).f0.f0, (rd_T95 x3 x18).f0.f1⟩ : S77), (⟨(rd_T95 x3 x18).f1.f0, (rd_T95 x3 x18).f1.f1⟩ : S77)⟩ : S95) fun r1 => if ¬ r1 = 1 then (impl_IsSimple.ret false) else (impl_IsSimple.p8 k x4 x13 x14 x17 (wrap64 (x18 + 1)) x3)) else none) else none) else none) else none) else (if 0 ≤ x4 then (if x4 < (x3.length : Int) then (if 0 ≤ x18 then (if x18 < (x3.length : Int) then (impl_HowMeet.ap k (⟨(⟨(rd_T95 x3 x4).f0.f0, (rd_T95 x3 x4).f0.f1⟩ : S77), (⟨(rd_T95 x3 x4).f1.f0, (rd_T95 x3 x4).f1.f1⟩ : S77)⟩ : S95) (⟨(⟨(rd_T95 x3 x18).f0.f0, (rd_T95 x3 x18).f0.f1⟩ : S77), (⟨(rd_T95 x3 x18).f1.f0, (rd_T95 x3 x18).f1.f1⟩ : S77)⟩ : S95) fun r2 => if ¬ r2 = 0 then (impl_IsSimple.ret false) else (impl_IsSimple.p8 k x4 x13 x14 x17 (wrap64 (x18 + 1)) x3)) else none) else none) else none) else none)) else (impl_IsSimple.p5 k x13 (wrap64 (x14 + 1)) x3) := by kernel_rfl
def impl_IsSimple.run (k : Nat) (h : HL eΓ [.l 77 (.st .s77)]) : Option (HL eΓ [.b]) := evF env impl_IsSimple.Fs Try.f83 impl_IsSimple.cut [.l 77 (.st .s77)] [.b] k h
theorem impl_IsSimple.ef (k : Nat) (h0 : List S77) : impl_IsSimple.run k (h0, ()) = impl_IsLine.ap k h0 fun r1 => if (!r1) = true then (impl_IsSimple.ret false) else (impl_SegmentsOf.ap k h0 fun r2 => impl_IsSimple.p5 k (r2.length : Int) 0 r2) := by kernel_rfl
def impl_IsSimple.toH (t : Bool) : HL eΓ [.b] := (t, ())
def impl_IsSimple.spec : Spc env := ⟨83, [.l 77 (.st .s77)], [.b], impl_IsSimple.run⟩
def impl_IsSimple.ap {R : Type} (k : Nat) (h0 : List S77) (K : Bool → Option R) : Option R := (impl_IsSimple.run k (h0, ())).bind fun r => K (r.1 : Bool)
theorem impl_IsSimple.ap_of {R : Type} {k : Nat} {h0 : List S77} {r0 : Bool} {K : Bool → Option R} (h : impl_IsSimple.run k (h0, ()) = some (r0, ())) : impl_IsSimple.ap k h0 K = K r0 := by unfold impl_IsSimple.ap; rw [h]; rfl
theorem impl_IsSimple.snd : Snd env impl_IsSimple.spec := evF_snd env_ok (sndC impl_IsLine.snd (sndC impl_SegmentsOf.snd (sndC impl_HowMeet.snd (sndN))))
attribute [local irreducible] impl_IsSimple.run
theorem impl_IsSimple.rt (a0 : Bool) : impl_IsSimple.ret a0 = some (impl_IsSimple.toH (a0)) := rfl
theorem impl_IsSimple.br (n : Nat) : (∀ K, n ≤ K → ∀ (x13 : Int) (x14 : Int) (x3 : List S95) t, impl_IsSimple.l0 n x3 x13 x14 = some t → impl_IsSimple.p5 K x13 x14 x3 = some (impl_IsSimple.toH t)) ∧ (∀ K, n ≤ K → ∀ (x4 : Int) (x13 : Int) (x14 : Int) (x17 : Int) (x18 : Int) (x3 : List S95) t, impl_IsSimple.l1 n x3 x4 x13 x14 x17 x18 = some t → impl_IsSimple.p8 K x4 x13 x14 x17 x18 x3 = some (impl_IsSimple.toH t)) := by
  induction n using Nat.strongRecOn with
  | _ n ih =>
  refine ⟨fun K hK x13 x14 x3 t h => ?_, fun K hK x4 x13 x14 x17 x18 x3 t h => ?_⟩
  all_goals (rcases n with _ | k)
  all_goals (try (exact nos h))
  all_goals (obtain ⟨K, rfl⟩ : ∃ q, K = q + 1 := ⟨K - 1, by omega⟩)
  all_goals (first | rw [impl_IsSimple.e5] | rw [impl_IsSimple.e8])
  all_goals (simp only [impl_IsSimple.l0, impl_IsSimple.l1] at h)
  repeat' (with_reducible first
   | exact nos h
   | (cases some_inj h; exact impl_IsSimple.rt _)
   | exact (ih _ (by omega)).1 _ (by omega) _ _ _ _ h
   | exact (ih _ (by omega)).2 _ (by omega) _ _ _ _ _ _ _ h
   | (simp only [Option.bind_some] at h)
   | (refine ite_by h ?_ ?_ <;> (intro hc h; (try simp only [nrm] at hc)))
   | refine itT ?_
   | refine itF ?_
   | (refine bind_by h (fun t ht h => ?_); (first | refine (impl_IsLine.ap_of (impl_IsLine.go ht _ (by omega))).trans ?_ | refine (impl_SegmentsOf.ap_of (impl_SegmentsOf.go ht _ (by omega))).trans ?_ | refine (impl_HowMeet.ap_of (impl_HowMeet.go ht _ (by omega))).trans ?_); (try dsimp only at h ⊢))
   | (simp only [nr2] at h ⊢)
   | (exfalso; omega))
theorem impl_IsSimple.go {k : Nat} {l0 : List S77} {t} (h : impl_IsSimple.f k l0 = some t) (K : Nat) (hK : k ≤ K) : impl_IsSimple.run K (l0, ()) = some (impl_IsSimple.toH t) := by
  rw [impl_IsSimple.ef]
  (try dsimp only)
  unfold impl_IsSimple.f at h
  repeat' (with_reducible first
   | exact nos h
   | (cases some_inj h; exact impl_IsSimple.rt _)
   | exact (impl_IsSimple.br _).1 _ (by omega) _ _ _ _ h
   | exact (impl_IsSimple.br _).2 _ (by omega) _ _ _ _ _ _ _ h
   | (simp only [Option.bind_some] at h)
   | (refine ite_by h ?_ ?_ <;> (intro hc h; (try simp only [nrm] at hc)))
   | refine itT ?_
   | refine itF ?_
   | (refine bind_by h (fun t ht h => ?_); (first | refine (impl_IsLine.ap_of (impl_IsLine.go ht _ (by omega))).trans ?_ | refine (impl_SegmentsOf.ap_of (impl_SegmentsOf.go ht _ (by omega))).trans ?_ | refine (impl_HowMeet.ap_of (impl_HowMeet.go ht _ (by omega))).trans ?_); (try dsimp only at h ⊢))
   | (simp only [nr2] at h ⊢)
   | (exfalso; omega))
def impl_IsFeature.Fs : List (Spc env) := [impl_InRange.spec, impl_IsName.spec, impl_IsPoint.spec, impl_IsSimple.spec, impl_IsRing.spec]
def impl_IsFeature.cut : Nat → Option (List (Lv SC)) := lk []
def impl_IsFeature.ret (r0 : Bool) : Option (HL eΓ [.b]) := some (r0, ())
def impl_IsFeature.run (k : Nat) (h : HL eΓ [.st .s28]) : Option (HL eΓ [.b]) := evF env impl_IsFeature.Fs Try.f45 impl_IsFeature.cut [.st .s28] [.b] k h
theorem impl_IsFeature.ef (k : Nat) (h0 : S28) : impl_IsFeature.run k (h0, ()) = impl_InRange.ap k h0.f0 1 99 fun r1 => if (!r1) = true then (impl_IsFeature.ret false) else (impl_InRange.ap k h0.f2 0 9 fun r2 => if (!r2) = true then (impl_IsFeature.ret false) else (if ¬ h0.f3.toList = [] then (impl_IsName.ap k h0.f3 fun r3 => if (!r3) = true then (impl_IsFeature.ret false) else (if h0.f1 = 1 then (if (h0.f4.length : Int) = 1 then (if 0 < (h0.f4.length : Int) then (impl_IsPoint.ap k (⟨(rd_T77 h0.f4 0).f0, (rd_T77 h0.f4 0).f1⟩ : S77) fun r4 => impl_IsFeature.ret r4) else none) else (impl_IsFeature.ret false)) else (if h0.f1 = 2 then (impl_IsSimple.ap k h0.f4 fun r5 => impl_IsFeature.ret r5) else (if h0.f1 = 3 then (impl_IsRing.ap k h0.f4 fun r6 => impl_IsFeature.ret r6) else (impl_IsFeature.ret false))))) else (if h0.f1 = 1 then (if (h0.f4.length : Int) = 1 then (if 0 < (h0.f4.length : Int) then (impl_IsPoint.ap k (⟨(rd_T77 h0.f4 0).f0, (rd_T77 h0.f4 0).f1⟩ : S77) fun r7 => impl_IsFeature.ret r7) else none) else (impl_IsFeature.ret false)) else (if h0.f1 = 2 then (impl_IsSimple.ap k h0.f4 fun r8 => impl_IsFeature.ret r8) else (if h0.f1 = 3 then (impl_IsRing.ap k h0.f4 fun r9 => impl_IsFeature.ret r9) else (impl_IsFeature.ret false)))))) := by kernel_rfl
def impl_IsFeature.toH (t : Bool) : HL eΓ [.b] := (t, ())
def impl_IsFeature.spec : Spc env := ⟨45, [.st .s28], [.b], impl_IsFeature.run⟩
def impl_IsFeature.ap {R : Type} (k : Nat) (h0 : S28) (K : Bool → Option R) : Option R := (impl_IsFeature.run k (h0, ())).bind fun r => K (r.1 : Bool)
theorem impl_IsFeature.ap_of {R : Type} {k : Nat} {h0 : S28} {r0 : Bool} {K : Bool → Option R} (h : impl_IsFeature.run k (h0, ()) = some (r0, ())) : impl_IsFeature.ap k h0 K = K r0 := by unfold impl_IsFeature.ap; rw [h]; rfl
theorem impl_IsFeature.snd : Snd env impl_IsFeature.spec := evF_snd env_ok (sndC impl_InRange.snd (sndC impl_IsName.snd (sndC impl_IsPoint.snd (sndC impl_IsSimple.snd (sndC impl_IsRing.snd (sndN))))))
attribute [local irreducible] impl_IsFeature.run
theorem impl_IsFeature.rt (a0 : Bool) : impl_IsFeature.ret a0 = some (impl_IsFeature.toH (a0)) := rfl
theorem impl_IsFeature.go {k : Nat} {a0_0 : Int} {a0_1 : Int} {a0_2 : Int} {a0_3 : ByteArray} {l0_4 : List S77} {t} (h : impl_IsFeature.f k a0_0 a0_1 a0_2 a0_3 l0_4 = some t) (K : Nat) (hK : k ≤ K) : impl_IsFeature.run K ((⟨a0_0, a0_1, a0_2, a0_3, l0_4⟩ : S28), ()) = some (impl_IsFeature.toH t) := by
  rw [impl_IsFeature.ef]
  (try dsimp only)
  unfold impl_IsFeature.f at h
  repeat' (with_reducible first
   | exact nos h
   | (cases some_inj h; exact impl_IsFeature.rt _)
   | ((have q : impl_IsFeature.j0 k _ _ _ _ _ _ = some _ := h; clear q); rcases k with _ | k <;> simp only [impl_IsFeature.j0, reduceCtorEq] at h)
   | (simp only [Option.bind_some] at h)
   | (refine ite_by h ?_ ?_ <;> (intro hc h; (try simp only [nrm] at hc)))
   | refine itT ?_
   | refine itF ?_
   | (refine bind_by h (fun t ht h => ?_); (first | refine (impl_InRange.ap_of (impl_InRange.go ht _)).trans ?_ | refine (impl_IsName.ap_of (impl_IsName.go ht _ (by omega))).trans ?_ | refine (impl_IsPoint.ap_of (impl_IsPoint.go ht _)).trans ?_ | refine (impl_IsSimple.ap_of (impl_IsSimple.go ht _ (by omega))).trans ?_ | refine (impl_IsRing.ap_of (impl_IsRing.go ht _ (by omega))).trans ?_); (try dsimp only at h ⊢))
   | (simp only [nr2] at h ⊢)
   | (exfalso; omega))
def impl_DropFrom.Fs : List (Spc env) := [impl_cloneFeature.spec, impl_DropPoint.spec, impl_IsFeature.spec, impl_DropCorner.spec]
def impl_DropFrom.cut : Nat → Option (List (Lv SC)) := lk []
def impl_DropFrom.ret (r0 : S28) (r1 : Bool) : Option (HL eΓ [.st .s28, .b]) := some (r0, r1, ())
def impl_DropFrom.run (k : Nat) (h : HL eΓ [.st .s28, .i .i64]) : Option (HL eΓ [.st .s28, .b]) := evF env impl_DropFrom.Fs Try.f11 impl_DropFrom.cut [.st .s28, .i .i64] [.st .s28, .b] k h
theorem impl_DropFrom.ef (k : Nat) (h0 : S28) (h1 : Int) : impl_DropFrom.run k (h0, h1, ()) = impl_cloneFeature.ap k (⟨h0.f0, h0.f1, h0.f2, h0.f3, h0.f4⟩ : S28) fun r1 => if h0.f1 = 2 then (impl_DropPoint.ap k h0.f4 h1 fun r2_0 r2_1 => if (!r2_1) = true then (impl_cloneFeature.ap k (⟨h0.f0, h0.f1, h0.f2, h0.f3, h0.f4⟩ : S28) fun r3 => impl_DropFrom.ret (⟨r3.f0, r3.f1, r3.f2, r3.f3, r3.f4⟩ : S28) false) else (impl_IsFeature.ap k (⟨r1.f0, r1.f1, r1.f2, r1.f3, r2_0⟩ : S28) fun r4 => if (!r4) = true then (impl_cloneFeature.ap k (⟨h0.f0, h0.f1, h0.f2, h0.f3, h0.f4⟩ : S28) fun r5 => impl_DropFrom.ret (⟨r5.f0, r5.f1, r5.f2, r5.f3, r5.f4⟩ : S28) false) else (impl_DropFrom.ret (⟨r1.f0, r1.f1, r1.f2, r1.f3, r2_0⟩ : S28) true))) else (if h0.f1 = 3 then (impl_DropCorner.ap k h0.f4 h1 fun r6_0 r6_1 => if (!r6_1) = true then (impl_cloneFeature.ap k (⟨h0.f0, h0.f1, h0.f2, h0.f3, h0.f4⟩ : S28) fun r7 => impl_DropFrom.ret (⟨r7.f0, r7.f1, r7.f2, r7.f3, r7.f4⟩ : S28) false) else (impl_IsFeature.ap k (⟨r1.f0, r1.f1, r1.f2, r1.f3, r6_0⟩ : S28) fun r8 => if (!r8) = true then (impl_cloneFeature.ap k (⟨h0.f0, h0.f1, h0.f2, h0.f3, h0.f4⟩ : S28) fun r9 => impl_DropFrom.ret (⟨r9.f0, r9.f1, r9.f2, r9.f3, r9.f4⟩ : S28) false) else (impl_DropFrom.ret (⟨r1.f0, r1.f1, r1.f2, r1.f3, r6_0⟩ : S28) true))) else (impl_cloneFeature.ap k (⟨h0.f0, h0.f1, h0.f2, h0.f3, h0.f4⟩ : S28) fun r10 => impl_DropFrom.ret (⟨r10.f0, r10.f1, r10.f2, r10.f3, r10.f4⟩ : S28) false)) := by kernel_rfl
def impl_DropFrom.toH (t : Int × Int × Int × ByteArray × (List (S77)) × Bool) : HL eΓ [.st .s28, .b] := ((⟨t.1, t.2.1, t.2.2.1, t.2.2.2.1, t.2.2.2.2.1⟩ : S28), t.2.2.2.2.2, ())
def impl_DropFrom.spec : Spc env := ⟨11, [.st .s28, .i .i64], [.st .s28, .b], impl_DropFrom.run⟩
def impl_DropFrom.ap {R : Type} (k : Nat) (h0 : S28) (h1 : Int) (K : S28 → Bool → Option R) : Option R := (impl_DropFrom.run k (h0, h1, ())).bind fun r => K (r.1 : S28) (r.2.1 : Bool)
theorem impl_DropFrom.ap_of {R : Type} {k : Nat} {h0 : S28} {h1 : Int} {r0 : S28} {r1 : Bool} {K : S28 → Bool → Option R} (h : impl_DropFrom.run k (h0, h1, ()) = some (r0, r1, ())) : impl_DropFrom.ap k h0 h1 K = K r0 r1 := by unfold impl_DropFrom.ap; rw [h]; rfl
theorem impl_DropFrom.snd : Snd env impl_DropFrom.spec := evF_snd env_ok (sndC impl_cloneFeature.snd (sndC impl_DropPoint.snd (sndC impl_IsFeature.snd (sndC impl_DropCorner.snd (sndN)))))
attribute [local irreducible] impl_DropFrom.run
theorem impl_DropFrom.rt (a0 : Int) (a1 : Int) (a2 : Int) (a3 : ByteArray) (a4 : List S77) (a5 : Bool) : impl_DropFrom.ret (⟨a0, a1, a2, a3, a4⟩ : S28) a5 = some (impl_DropFrom.toH (a0, a1, a2, a3, a4, a5)) := rfl
theorem impl_DropFrom.go {k : Nat} {a0_0 : Int} {a0_1 : Int} {a0_2 : Int} {a0_3 : ByteArray} {l0_4 : List S77} {a1 : Int} {t} (h : impl_DropFrom.f k a0_0 a0_1 a0_2 a0_3 l0_4 a1 = some t) (K : Nat) (hK : k ≤ K) : impl_DropFrom.run K ((⟨a0_0, a0_1, a0_2, a0_3, l0_4⟩ : S28), a1, ()) = some (impl_DropFrom.toH t) := by
  rw [impl_DropFrom.ef]
  (try dsimp only)
  unfold impl_DropFrom.f at h
  repeat' (with_reducible first
   | exact nos h
   | (cases some_inj h; exact impl_DropFrom.rt _ _ _ _ _ _)
   | ((have q : impl_DropFrom.j0 k _ _ _ _ _ _ _ _ _ _ _ = some _ := h; clear q); rcases k with _ | k <;> simp only [impl_DropFrom.j0, reduceCtorEq] at h)
   | (simp only [Option.bind_some] at h)
   | (refine ite_by h ?_ ?_ <;> (intro hc h; (try simp only [nrm] at hc)))
   | refine itT ?_
   | refine itF ?_
   | (refine bind_by h (fun t ht h => ?_); (first | refine (impl_cloneFeature.ap_of (impl_cloneFeature.go ht _)).trans ?_ | refine (impl_DropPoint.ap_of (impl_DropPoint.go ht _ (by omega))).trans ?_ | refine (impl_IsFeature.ap_of (impl_IsFeature.go ht _ (by omega))).trans ?_ | refine (impl_DropCorner.ap_of (impl_DropCorner.go ht _ (by omega))).trans ?_); (try dsimp only at h ⊢))
   | (simp only [nr2] at h ⊢)
   | (exfalso; omega))
def impl_greatest.Fs : List (Spc env) := [impl_HowMeet.spec]
def impl_greatest.fin : St eΓ → Option (HL eΓ [.i .i64]) := finR env Try.f88.results.toList [.i .i64]
def impl_greatest.cut : Nat → Option (List (Lv SC)) := lk [(3, [⟨1, none, false⟩, ⟨5, none, false⟩, ⟨10, none, false⟩, ⟨11, none, false⟩, ⟨12, none, false⟩]), (6, [⟨1, none, false⟩, ⟨5, none, false⟩, ⟨7, none, false⟩, ⟨10, none, false⟩, ⟨11, none, false⟩, ⟨12, none, false⟩, ⟨16, none, false⟩, ⟨17, none, false⟩, ⟨18, none, false⟩])]
def impl_greatest.ret (r0 : Int) : Option (HL eΓ [.i .i64]) := some (r0, ())
def impl_greatest.p3 (k : Nat) (x5 : Int) (x11 : Int) (x12 : Int) (x1 : List S95) (x10 : List S95) : Option (HL eΓ [.i .i64]) := evM env impl_greatest.Fs Try.f88.ntmps impl_greatest.fin impl_greatest.cut k [.code (sub_ [1, 1, 0, 1, 0, 0, 0] (bodyOf Try.f88)), .code (sub_ [1, 1, 0, 1, 0, 0, 1] (bodyOf Try.f88)), .lp (sub_ [1, 1, 0, 1, 0, 0] (bodyOf Try.f88)), .blk 0, .code (sub_ [1, 1, 1] (bodyOf Try.f88))] (mkSt [(1, .c (.sl 0)), (5, .c (.v (.int .i64 x5))), (10, .c (.sl 1)), (11, .c (.v (.int .i64 x11))), (12, .c (.v (.int .i64 x12)))] [.row .ro 95 (.st .s95) x1, .row .ro 95 (.st .s95) x10])
def impl_greatest.p6 (k : Nat) (x5 : Int) (x11 : Int) (x12 : Int) (x17 : Int) (x18 : Int) (x1 : List S95) (b1_0 : Int) (b1_1 : Int) (b1_2 : Int) (b1_3 : Int) (x10 : List S95) : Option (HL eΓ [.i .i64]) := evM env impl_greatest.Fs Try.f88.ntmps impl_greatest.fin impl_greatest.cut k [.code (sub_ [1, 1, 0, 1, 0, 0, 1, 1, 0, 0, 1, 1, 0, 0, 0] (bodyOf Try.f88)), .code (sub_ [1, 1, 0, 1, 0, 0, 1, 1, 0, 0, 1, 1, 0, 0, 1] (bodyOf Try.f88)), .lp (sub_ [1, 1, 0, 1, 0, 0, 1, 1, 0, 0, 1, 1, 0, 0] (bodyOf Try.f88)), .blk 2, .blk 1, .code (sub_ [1, 1, 0, 1, 0, 0, 1, 1, 1] (bodyOf Try.f88)), .lp (sub_ [1, 1, 0, 1, 0, 0] (bodyOf Try.f88)), .blk 0, .code (sub_ [1, 1, 1] (bodyOf Try.f88))] (mkSt [(1, .c (.sl 0)), (5, .c (.v (.int .i64 x5))), (7, .c (.ptr 1 0)), (10, .c (.sl 2)), (11, .c (.v (.int .i64 x11))), (12, .c (.v (.int .i64 x12))), (16, .c (.sl 0)), (17, .c (.v (.int .i64 x17))), (18, .c (.v (.int .i64 x18)))] [.row .ro 95 (.st .s95) x1, .box 95 [.v (.int .i64 b1_0), .v (.int .i64 b1_1), .v (.int .i64 b1_2), .v (.int .i64 b1_3)], .row .ro 95 (.st .s95) x10])
theorem impl_greatest.e3 (k : Nat) (x5 : Int) (x11 : Int) (x12 : Int) (x1 : List S95) (x10 : List S95) : impl_greatest.p3 (k + 1) x5 x11 x12 x1 x10 = if x12 < x11 then (if 0 ≤ x12 then (if x12 < (x10.length : Int) then (impl_greatest.p6 k x5 x11 x12 (x1.length : Int) 0 x1 ((rd_T95 x10 x12).f0.f0) ((rd_T95 x10 x12).f0.f1) ((rd_T95 x10 x12).f1.f0) ((rd_T95 x10 x12).f1.f1) x10) else none) else none) else (impl_greatest.ret x5) := by kernel_rfl
theorem impl_greatest.e6 (k : Nat) (x5 : Int) (x11 : Int) (x12 : Int) (x17 : Int) (x18 : Int) (x1 : List S95) (b1_0 : Int) (b1_1 : Int) (b1_2 : Int) (b1_3 : Int) (x10 : List S95) : impl_greatest.p6 (k + 1) x5 x11 x12 x17 x18 x1 b1_0 b1_1 b1_2 b1_3 x10 = if x18 < x17 then (if 0 ≤ x18 then (if x18 < (x1.length : Int) then (impl_HowMeet.ap k (⟨(⟨b1_0, b1_1⟩ : S77), (⟨b1_2, b1_3⟩ : S77)⟩ : S95) (⟨(⟨(rd_T95 x1 x18).f0.f0, (rd_T95 x1 x18).f0.f1⟩ : S77), (⟨(rd_T95 x1 x18).f1.f0, (rd_T95 x1 x18).f1.f1⟩ : S77)⟩ : S95) fun r1 => impl_greatest.p6 k (mx x5 r1) x11 x12 x17 (wrap64 (x18 + 1)) x1 b1_0 b1_1 b1_2 b1_3 x10) else none) else none) else (impl_greatest.p3 k x5 x11 (wrap64 (x12 + 1)) x1 x10) := by kernel_rfl
def impl_greatest.run (k : Nat) (h : HL eΓ [.l 95 (.st .s95), .l 95 (.st .s95)]) : Option (HL eΓ [.i .i64]) := evF env impl_greatest.Fs Try.f88 impl_greatest.cut [.l 95 (.st .s95), .l 95 (.st .s95)] [.i .i64] k h
theorem impl_greatest.ef (k : Nat) (h0 : List S95) (h1 : List S95) : impl_greatest.run k (h0, h1, ()) = impl_greatest.p3 k 0 (h0.length : Int) 0 h1 h0 := by kernel_rfl
def impl_greatest.toH (t : Int) : HL eΓ [.i .i64] := (t, ())
def impl_greatest.spec : Spc env := ⟨88, [.l 95 (.st .s95), .l 95 (.st .s95)], [.i .i64], impl_greatest.run⟩
def impl_greatest.ap {R : Type} (k : Nat) (h0 : List S95) (h1 : List S95) (K : Int → Option R) : Option R := (impl_greatest.run k (h0, h1, ())).bind fun r => K (r.1 : Int)
theorem impl_greatest.ap_of {R : Type} {k : Nat} {h0 : List S95} {h1 : List S95} {r0 : Int} {K : Int → Option R} (h : impl_greatest.run k (h0, h1, ()) = some (r0, ())) : impl_greatest.ap k h0 h1 K = K r0 := by unfold impl_greatest.ap; rw [h]; rfl
theorem impl_greatest.snd : Snd env impl_greatest.spec := evF_snd env_ok (sndC impl_HowMeet.snd (sndN))
attribute [local irreducible] impl_greatest.run
theorem impl_greatest.rt (a0 : Int) : impl_greatest.ret a0 = some (impl_greatest.toH (a0)) := rfl
theorem impl_greatest.br (n : Nat) : (∀ K, n ≤ K → ∀ (x5 : Int) (x11 : Int) (x12 : Int) (x1 : List S95) (x10 : List S95) t, impl_greatest.l0 n x1 x5 x10 x11 x12 = some t → impl_greatest.p3 K x5 x11 x12 x1 x10 = some (impl_greatest.toH t)) ∧ (∀ K, n ≤ K → ∀ (x5 : Int) (x11 : Int) (x12 : Int) (x17 : Int) (x18 : Int) (x1 : List S95) (b1_0 : Int) (b1_1 : Int) (b1_2 : Int) (b1_3 : Int) (x10 : List S95) t, impl_greatest.l1 n x1 x5 x10 x11 x12 x1 x17 x18 b1_0 b1_1 b1_2 b1_3 = some t → impl_greatest.p6 K x5 x11 x12 x17 x18 x1 b1_0 b1_1 b1_2 b1_3 x10 = some (impl_greatest.toH t)) := by
  induction n using Nat.strongRecOn with
  | _ n ih =>
  refine ⟨fun K hK x5 x11 x12 x1 x10 t h => ?_, fun K hK x5 x11 x12 x17 x18 x1 b1_0 b1_1 b1_2 b1_3 x10 t h => ?_⟩
  all_goals (rcases n with _ | k)
  all_goals (try (exact nos h))
  all_goals (obtain ⟨K, rfl⟩ : ∃ q, K = q + 1 := ⟨K - 1, by omega⟩)
  all_goals (first | rw [impl_greatest.e3] | rw [impl_greatest.e6])
  all_goals (simp only [impl_greatest.l0, impl_greatest.l1] at h)
  repeat' (with_reducible first
   | exact nos h
   | (cases some_inj h; exact impl_greatest.rt _)
   | exact (ih _ (by omega)).1 _ (by omega) _ _ _ _ _ _ h
   | exact (ih _ (by omega)).2 _ (by omega) _ _ _ _ _ _ _ _ _ _ _ _ h
   | (simp only [Option.bind_some] at h)
   | (refine ite_by h ?_ ?_ <;> (intro hc h; (try simp only [nrm] at hc)))
   | refine itT ?_
   | refine itF ?_
   | (refine bind_by h (fun t ht h => ?_); refine (impl_HowMeet.ap_of (impl_HowMeet.go ht _ (by omega))).trans ?_; (try dsimp only at h ⊢))
   | (simp only [nr2] at h ⊢)
   | (exfalso; omega))
theorem impl_greatest.go {k : Nat} {l0 : List S95} {l1 : List S95} {t} (h : impl_greatest.f k l0 l1 = some t) (K : Nat) (hK : k ≤ K) : impl_greatest.run K (l0, l1, ()) = some (impl_greatest.toH t) := by
  rw [impl_greatest.ef]
  (try dsimp only)
  unfold impl_greatest.f at h
  repeat' (with_reducible first
   | exact nos h
   | (cases some_inj h; exact impl_greatest.rt _)
   | exact (impl_greatest.br _).1 _ (by omega) _ _ _ _ _ _ h
   | exact (impl_greatest.br _).2 _ (by omega) _ _ _ _ _ _ _ _ _ _ _ _ h
   | (simp only [Option.bind_some] at h)
   | (refine ite_by h ?_ ?_ <;> (intro hc h; (try simp only [nrm] at hc)))
   | refine itT ?_
   | refine itF ?_
   | (refine bind_by h (fun t ht h => ?_); refine (impl_HowMeet.ap_of (impl_HowMeet.go ht _ (by omega))).trans ?_; (try dsimp only at h ⊢))
   | (simp only [nr2] at h ⊢)
   | (exfalso; omega))
def impl_PartsOf.Fs : List (Spc env) := [impl_IsFeature.spec, impl_SegmentsOf.spec, impl_RingSegments.spec]
def impl_PartsOf.cut : Nat → Option (List (Lv SC)) := lk []
def impl_PartsOf.ret (r0 : List S95) : Option (HL eΓ [.l 95 (.st .s95)]) := some (r0, ())
def impl_PartsOf.run (k : Nat) (h : HL eΓ [.st .s28]) : Option (HL eΓ [.l 95 (.st .s95)]) := evF env impl_PartsOf.Fs Try.f89 impl_PartsOf.cut [.st .s28] [.l 95 (.st .s95)] k h
theorem impl_PartsOf.ef (k : Nat) (h0 : S28) : impl_PartsOf.run k (h0, ()) = impl_IsFeature.ap k (⟨h0.f0, h0.f1, h0.f2, h0.f3, h0.f4⟩ : S28) fun r1 => if r1 = true then (if h0.f1 = 2 then (impl_SegmentsOf.ap k h0.f4 fun r2 => impl_PartsOf.ret r2) else (if h0.f1 = 3 then (impl_RingSegments.ap k h0.f4 fun r3 => impl_PartsOf.ret r3) else (impl_PartsOf.ret ([] : List S95)))) else (impl_PartsOf.ret ([] : List S95)) := by kernel_rfl
def impl_PartsOf.toH (t : (List (S95))) : HL eΓ [.l 95 (.st .s95)] := (t, ())
def impl_PartsOf.spec : Spc env := ⟨89, [.st .s28], [.l 95 (.st .s95)], impl_PartsOf.run⟩
def impl_PartsOf.ap {R : Type} (k : Nat) (h0 : S28) (K : (List S95) → Option R) : Option R := (impl_PartsOf.run k (h0, ())).bind fun r => K (r.1 : List S95)
theorem impl_PartsOf.ap_of {R : Type} {k : Nat} {h0 : S28} {r0 : List S95} {K : (List S95) → Option R} (h : impl_PartsOf.run k (h0, ()) = some (r0, ())) : impl_PartsOf.ap k h0 K = K r0 := by unfold impl_PartsOf.ap; rw [h]; rfl
theorem impl_PartsOf.snd : Snd env impl_PartsOf.spec := evF_snd env_ok (sndC impl_IsFeature.snd (sndC impl_SegmentsOf.snd (sndC impl_RingSegments.snd (sndN))))
attribute [local irreducible] impl_PartsOf.run
theorem impl_PartsOf.rt (a0 : List S95) : impl_PartsOf.ret a0 = some (impl_PartsOf.toH (a0)) := rfl
theorem impl_PartsOf.go {k : Nat} {a0_0 : Int} {a0_1 : Int} {a0_2 : Int} {a0_3 : ByteArray} {l0_4 : List S77} {t} (h : impl_PartsOf.f k a0_0 a0_1 a0_2 a0_3 l0_4 = some t) (K : Nat) (hK : k ≤ K) : impl_PartsOf.run K ((⟨a0_0, a0_1, a0_2, a0_3, l0_4⟩ : S28), ()) = some (impl_PartsOf.toH t) := by
  rw [impl_PartsOf.ef]
  (try dsimp only)
  unfold impl_PartsOf.f at h
  repeat' (with_reducible first
   | exact nos h
   | (cases some_inj h; exact impl_PartsOf.rt _)
   | (simp only [Option.bind_some] at h)
   | (refine ite_by h ?_ ?_ <;> (intro hc h; (try simp only [nrm] at hc)))
   | refine itT ?_
   | refine itF ?_
   | (refine bind_by h (fun t ht h => ?_); (first | refine (impl_IsFeature.ap_of (impl_IsFeature.go ht _ (by omega))).trans ?_ | refine (impl_SegmentsOf.ap_of (impl_SegmentsOf.go ht _ (by omega))).trans ?_ | refine (impl_RingSegments.ap_of (impl_RingSegments.go ht _ (by omega))).trans ?_); (try dsimp only at h ⊢))
   | (simp only [nr2] at h ⊢)
   | (exfalso; omega))
def impl_FeaturesMeet.Fs : List (Spc env) := [impl_PartsOf.spec, impl_greatest.spec]
def impl_FeaturesMeet.cut : Nat → Option (List (Lv SC)) := lk []
def impl_FeaturesMeet.ret (r0 : Int) : Option (HL eΓ [.i .i64]) := some (r0, ())
def impl_FeaturesMeet.run (k : Nat) (h : HL eΓ [.st .s28, .st .s28]) : Option (HL eΓ [.i .i64]) := evF env impl_FeaturesMeet.Fs Try.f50 impl_FeaturesMeet.cut [.st .s28, .st .s28] [.i .i64] k h
theorem impl_FeaturesMeet.ef (k : Nat) (h0 : S28) (h1 : S28) : impl_FeaturesMeet.run k (h0, h1, ()) = impl_PartsOf.ap k (⟨h0.f0, h0.f1, h0.f2, h0.f3, h0.f4⟩ : S28) fun r1 => impl_PartsOf.ap k (⟨h1.f0, h1.f1, h1.f2, h1.f3, h1.f4⟩ : S28) fun r2 => impl_greatest.ap k r1 r2 fun r3 => impl_FeaturesMeet.ret r3 := by kernel_rfl
def impl_FeaturesMeet.toH (t : Int) : HL eΓ [.i .i64] := (t, ())
def impl_FeaturesMeet.spec : Spc env := ⟨50, [.st .s28, .st .s28], [.i .i64], impl_FeaturesMeet.run⟩
def impl_FeaturesMeet.ap {R : Type} (k : Nat) (h0 : S28) (h1 : S28) (K : Int → Option R) : Option R := (impl_FeaturesMeet.run k (h0, h1, ())).bind fun r => K (r.1 : Int)
theorem impl_FeaturesMeet.ap_of {R : Type} {k : Nat} {h0 : S28} {h1 : S28} {r0 : Int} {K : Int → Option R} (h : impl_FeaturesMeet.run k (h0, h1, ()) = some (r0, ())) : impl_FeaturesMeet.ap k h0 h1 K = K r0 := by unfold impl_FeaturesMeet.ap; rw [h]; rfl
theorem impl_FeaturesMeet.snd : Snd env impl_FeaturesMeet.spec := evF_snd env_ok (sndC impl_PartsOf.snd (sndC impl_greatest.snd (sndN)))
attribute [local irreducible] impl_FeaturesMeet.run
theorem impl_FeaturesMeet.rt (a0 : Int) : impl_FeaturesMeet.ret a0 = some (impl_FeaturesMeet.toH (a0)) := rfl
theorem impl_FeaturesMeet.go {k : Nat} {a0_0 : Int} {a0_1 : Int} {a0_2 : Int} {a0_3 : ByteArray} {l0_4 : List S77} {a1_0 : Int} {a1_1 : Int} {a1_2 : Int} {a1_3 : ByteArray} {l1_4 : List S77} {t} (h : impl_FeaturesMeet.f k a0_0 a0_1 a0_2 a0_3 l0_4 a1_0 a1_1 a1_2 a1_3 l1_4 = some t) (K : Nat) (hK : k ≤ K) : impl_FeaturesMeet.run K ((⟨a0_0, a0_1, a0_2, a0_3, l0_4⟩ : S28), (⟨a1_0, a1_1, a1_2, a1_3, l1_4⟩ : S28), ()) = some (impl_FeaturesMeet.toH t) := by
  rw [impl_FeaturesMeet.ef]
  (try dsimp only)
  unfold impl_FeaturesMeet.f at h
  repeat' (with_reducible first
   | exact nos h
   | (cases some_inj h; exact impl_FeaturesMeet.rt _)
   | (simp only [Option.bind_some] at h)
   | (refine ite_by h ?_ ?_ <;> (intro hc h; (try simp only [nrm] at hc)))
   | refine itT ?_
   | refine itF ?_
   | (refine bind_by h (fun t ht h => ?_); (first | refine (impl_PartsOf.ap_of (impl_PartsOf.go ht _ (by omega))).trans ?_ | refine (impl_greatest.ap_of (impl_greatest.go ht _ (by omega))).trans ?_); (try dsimp only at h ⊢))
   | (simp only [nr2] at h ⊢)
   | (exfalso; omega))
def impl_CanShrink.Fs : List (Spc env) := [impl_DropFrom.spec, impl_FeaturesMeet.spec]
def impl_CanShrink.fin : St eΓ → Option (HL eΓ [.b]) := finR env Try.f18.results.toList [.b]
def impl_CanShrink.cut : Nat → Option (List (Lv SC)) := lk [(5, [⟨3, none, false⟩, ⟨7, none, false⟩, ⟨19, none, false⟩, ⟨20, none, false⟩, ⟨21, none, false⟩])]
def impl_CanShrink.ret (r0 : Bool) : Option (HL eΓ [.b]) := some (r0, ())
def impl_CanShrink.p5 (k : Nat) (x20 : Int) (x21 : Int) (b0_0 : Int) (b0_1 : Int) (b0_2 : Int) (b0_3 : ByteArray) (b1_0 : Int) (b1_1 : Int) (b1_2 : Int) (b1_3 : ByteArray) (x19 : List S28) (b3 : List S77) (b4 : List S77) : Option (HL eΓ [.b]) := evM env impl_CanShrink.Fs Try.f18.ntmps impl_CanShrink.fin impl_CanShrink.cut k [.code (sub_ [1, 1, 1, 0, 1, 0, 0, 0] (bodyOf Try.f18)), .code (sub_ [1, 1, 1, 0, 1, 0, 0, 1] (bodyOf Try.f18)), .lp (sub_ [1, 1, 1, 0, 1, 0, 0] (bodyOf Try.f18)), .blk 0, .code (sub_ [1, 1, 1, 1] (bodyOf Try.f18))] (mkSt [(3, .c (.ptr 0 0)), (7, .c (.ptr 1 0)), (19, .c (.sl 2)), (20, .c (.v (.int .i64 x20))), (21, .c (.v (.int .i64 x21)))] [.box 28 [.v (.int .i64 b0_0), .v (.int .i64 b0_1), .v (.int .i64 b0_2), .v (.string b0_3), .sl 3], .box 28 [.v (.int .i64 b1_0), .v (.int .i64 b1_1), .v (.int .i64 b1_2), .v (.string b1_3), .sl 4], .row .ro 28 (.st .s28) x19, .row .ro 77 (.st .s77) b3, .row .own 77 (.st .s77) b4])
theorem impl_CanShrink.e5 (k : Nat) (x20 : Int) (x21 : Int) (b0_0 : Int) (b0_1 : Int) (b0_2 : Int) (b0_3 : ByteArray) (b1_0 : Int) (b1_1 : Int) (b1_2 : Int) (b1_3 : ByteArray) (x19 : List S28) (b3 : List S77) (b4 : List S77) : impl_CanShrink.p5 (k + 1) x20 x21 b0_0 b0_1 b0_2 b0_3 b1_0 b1_1 b1_2 b1_3 x19 b3 b4 = if x21 < x20 then (if 0 ≤ x21 then (if x21 < (x19.length : Int) then (impl_FeaturesMeet.ap k (⟨b1_0, b1_1, b1_2, b1_3, b4⟩ : S28) (⟨(rd_T28 x19 x21).f0, (rd_T28 x19 x21).f1, (rd_T28 x19 x21).f2, (rd_T28 x19 x21).f3, (rd_T28 x19 x21).f4⟩ : S28) fun r1 => impl_FeaturesMeet.ap k (⟨b0_0, b0_1, b0_2, b0_3, b3⟩ : S28) (⟨(rd_T28 x19 x21).f0, (rd_T28 x19 x21).f1, (rd_T28 x19 x21).f2, (rd_T28 x19 x21).f3, (rd_T28 x19 x21).f4⟩ : S28) fun r2 => if r1 > r2 then (impl_CanShrink.ret false) else (impl_CanShrink.p5 k x20 (wrap64 (x21 + 1)) b0_0 b0_1 b0_2 b0_3 b1_0 b1_1 b1_2 b1_3 x19 b3 b4)) else none) else none) else (impl_CanShrink.ret true) := by kernel_rfl
def impl_CanShrink.run (k : Nat) (h : HL eΓ [.st .s28, .i .i64, .l 28 (.st .s28)]) : Option (HL eΓ [.b]) := evF env impl_CanShrink.Fs Try.f18 impl_CanShrink.cut [.st .s28, .i .i64, .l 28 (.st .s28)] [.b] k h
theorem impl_CanShrink.ef (k : Nat) (h0 : S28) (h1 : Int) (h2 : List S28) : impl_CanShrink.run k (h0, h1, h2, ()) = impl_DropFrom.ap k (⟨h0.f0, h0.f1, h0.f2, h0.f3, h0.f4⟩ : S28) h1 fun r1_0 r1_1 => if (!r1_1) = true then (impl_CanShrink.ret false) else (impl_CanShrink.p5 k (h2.length : Int) 0 h0.f0 h0.f1 h0.f2 h0.f3 r1_0.f0 r1_0.f1 r1_0.f2 r1_0.f3 h2 h0.f4 r1_0.f4) := by kernel_rfl
def impl_CanShrink.toH (t : Bool) : HL eΓ [.b] := (t, ())
def impl_CanShrink.spec : Spc env := ⟨18, [.st .s28, .i .i64, .l 28 (.st .s28)], [.b], impl_CanShrink.run⟩
def impl_CanShrink.ap {R : Type} (k : Nat) (h0 : S28) (h1 : Int) (h2 : List S28) (K : Bool → Option R) : Option R := (impl_CanShrink.run k (h0, h1, h2, ())).bind fun r => K (r.1 : Bool)
theorem impl_CanShrink.ap_of {R : Type} {k : Nat} {h0 : S28} {h1 : Int} {h2 : List S28} {r0 : Bool} {K : Bool → Option R} (h : impl_CanShrink.run k (h0, h1, h2, ()) = some (r0, ())) : impl_CanShrink.ap k h0 h1 h2 K = K r0 := by unfold impl_CanShrink.ap; rw [h]; rfl
theorem impl_CanShrink.snd : Snd env impl_CanShrink.spec := evF_snd env_ok (sndC impl_DropFrom.snd (sndC impl_FeaturesMeet.snd (sndN)))
attribute [local irreducible] impl_CanShrink.run
theorem impl_CanShrink.rt (a0 : Bool) : impl_CanShrink.ret a0 = some (impl_CanShrink.toH (a0)) := rfl
theorem impl_CanShrink.br (n : Nat) : (∀ K, n ≤ K → ∀ (x20 : Int) (x21 : Int) (b0_0 : Int) (b0_1 : Int) (b0_2 : Int) (b0_3 : ByteArray) (b1_0 : Int) (b1_1 : Int) (b1_2 : Int) (b1_3 : ByteArray) (x19 : List S28) (b3 : List S77) (b4 : List S77) t, impl_CanShrink.l0 n x19 x20 x21 b0_0 b0_1 b0_2 b0_3 b3 b1_0 b1_1 b1_2 b1_3 b4 = some t → impl_CanShrink.p5 K x20 x21 b0_0 b0_1 b0_2 b0_3 b1_0 b1_1 b1_2 b1_3 x19 b3 b4 = some (impl_CanShrink.toH t)) := by
  induction n using Nat.strongRecOn with
  | _ n ih =>
  intro K hK x20 x21 b0_0 b0_1 b0_2 b0_3 b1_0 b1_1 b1_2 b1_3 x19 b3 b4 t h
  all_goals (rcases n with _ | k)
  all_goals (try (exact nos h))
  all_goals (obtain ⟨K, rfl⟩ : ∃ q, K = q + 1 := ⟨K - 1, by omega⟩)
  all_goals (first | rw [impl_CanShrink.e5])
  all_goals (simp only [impl_CanShrink.l0] at h)
  repeat' (with_reducible first
   | exact nos h
   | (cases some_inj h; exact impl_CanShrink.rt _)
   | exact (ih _ (by omega)) _ (by omega) _ _ _ _ _ _ _ _ _ _ _ _ _ _ h
   | (simp only [Option.bind_some] at h)
   | (refine ite_by h ?_ ?_ <;> (intro hc h; (try simp only [nrm] at hc)))
   | refine itT ?_
   | refine itF ?_
   | (refine bind_by h (fun t ht h => ?_); (first | refine (impl_DropFrom.ap_of (impl_DropFrom.go ht _ (by omega))).trans ?_ | refine (impl_FeaturesMeet.ap_of (impl_FeaturesMeet.go ht _ (by omega))).trans ?_); (try dsimp only at h ⊢))
   | (simp only [nr2] at h ⊢)
   | (exfalso; omega))
theorem impl_CanShrink.go {k : Nat} {a0_0 : Int} {a0_1 : Int} {a0_2 : Int} {a0_3 : ByteArray} {l0_4 : List S77} {a1 : Int} {l2 : List S28} {t} (h : impl_CanShrink.f k a0_0 a0_1 a0_2 a0_3 l0_4 a1 l2 = some t) (K : Nat) (hK : k ≤ K) : impl_CanShrink.run K ((⟨a0_0, a0_1, a0_2, a0_3, l0_4⟩ : S28), a1, l2, ()) = some (impl_CanShrink.toH t) := by
  rw [impl_CanShrink.ef]
  (try dsimp only)
  unfold impl_CanShrink.f at h
  repeat' (with_reducible first
   | exact nos h
   | (cases some_inj h; exact impl_CanShrink.rt _)
   | exact (impl_CanShrink.br _) _ (by omega) _ _ _ _ _ _ _ _ _ _ _ _ _ _ h
   | (simp only [Option.bind_some] at h)
   | (refine ite_by h ?_ ?_ <;> (intro hc h; (try simp only [nrm] at hc)))
   | refine itT ?_
   | refine itF ?_
   | (refine bind_by h (fun t ht h => ?_); (first | refine (impl_DropFrom.ap_of (impl_DropFrom.go ht _ (by omega))).trans ?_ | refine (impl_FeaturesMeet.ap_of (impl_FeaturesMeet.go ht _ (by omega))).trans ?_); (try dsimp only at h ⊢))
   | (simp only [nr2] at h ⊢)
   | (exfalso; omega))
def impl_twice.Fs : List (Spc env) := [impl_cross.spec]
def impl_twice.cut : Nat → Option (List (Lv SC)) := lk []
def impl_twice.ret (r0 : Int) : Option (HL eΓ [.i .i64]) := some (r0, ())
def impl_twice.run (k : Nat) (h : HL eΓ [.st .s77, .st .s77, .st .s77]) : Option (HL eΓ [.i .i64]) := evF env impl_twice.Fs Try.f99 impl_twice.cut [.st .s77, .st .s77, .st .s77] [.i .i64] k h
theorem impl_twice.ef (k : Nat) (h0 : S77) (h1 : S77) (h2 : S77) : impl_twice.run k (h0, h1, h2, ()) = impl_cross.ap k (⟨h0.f0, h0.f1⟩ : S77) (⟨h1.f0, h1.f1⟩ : S77) (⟨h2.f0, h2.f1⟩ : S77) fun r1 => impl_twice.ret (mx r1 (wrap64 (0 - r1))) := by kernel_rfl
def impl_twice.toH (t : Int) : HL eΓ [.i .i64] := (t, ())
def impl_twice.spec : Spc env := ⟨99, [.st .s77, .st .s77, .st .s77], [.i .i64], impl_twice.run⟩
def impl_twice.ap {R : Type} (k : Nat) (h0 : S77) (h1 : S77) (h2 : S77) (K : Int → Option R) : Option R := (impl_twice.run k (h0, h1, h2, ())).bind fun r => K (r.1 : Int)
theorem impl_twice.ap_of {R : Type} {k : Nat} {h0 : S77} {h1 : S77} {h2 : S77} {r0 : Int} {K : Int → Option R} (h : impl_twice.run k (h0, h1, h2, ()) = some (r0, ())) : impl_twice.ap k h0 h1 h2 K = K r0 := by unfold impl_twice.ap; rw [h]; rfl
theorem impl_twice.snd : Snd env impl_twice.spec := evF_snd env_ok (sndC impl_cross.snd (sndN))
attribute [local irreducible] impl_twice.run
theorem impl_twice.rt (a0 : Int) : impl_twice.ret a0 = some (impl_twice.toH (a0)) := rfl
theorem impl_twice.go {a0_0 : Int} {a0_1 : Int} {a1_0 : Int} {a1_1 : Int} {a2_0 : Int} {a2_1 : Int} {t} (h : impl_twice.f a0_0 a0_1 a1_0 a1_1 a2_0 a2_1 = some t) (K : Nat) : impl_twice.run K ((⟨a0_0, a0_1⟩ : S77), (⟨a1_0, a1_1⟩ : S77), (⟨a2_0, a2_1⟩ : S77), ()) = some (impl_twice.toH t) := by
  rw [impl_twice.ef]
  (try dsimp only)
  unfold impl_twice.f at h
  repeat' (with_reducible first
   | exact nos h
   | (cases some_inj h; exact impl_twice.rt _)
   | (simp only [Option.bind_some] at h)
   | (refine ite_by h ?_ ?_ <;> (intro hc h; (try simp only [nrm] at hc)))
   | refine itT ?_
   | refine itF ?_
   | (refine bind_by h (fun t ht h => ?_); refine (impl_cross.ap_of (impl_cross.go ht _)).trans ?_; (try dsimp only at h ⊢))
   | (simp only [nr2, Int.zero_sub] at h ⊢)
   | (exfalso; omega))
def impl_CornerArea.Fs : List (Spc env) := [impl_IsLine.spec, impl_InRange.spec, impl_twice.spec]
def impl_CornerArea.cut : Nat → Option (List (Lv SC)) := lk []
def impl_CornerArea.ret (r0 : Int) : Option (HL eΓ [.i .i64]) := some (r0, ())
def impl_CornerArea.run (k : Nat) (h : HL eΓ [.l 77 (.st .s77), .i .i64]) : Option (HL eΓ [.i .i64]) := evF env impl_CornerArea.Fs Try.f64 impl_CornerArea.cut [.l 77 (.st .s77), .i .i64] [.i .i64] k h
theorem impl_CornerArea.ef (k : Nat) (h0 : List S77) (h1 : Int) : impl_CornerArea.run k (h0, h1, ()) = impl_IsLine.ap k h0 fun r1 => if (!r1) = true then (impl_CornerArea.ret (-1)) else (impl_InRange.ap k h1 1 (wrap64 ((h0.length : Int) - 2)) fun r2 => if (!r2) = true then (impl_CornerArea.ret (-1)) else (if 0 ≤ (wrap64 (h1 - 1)) then (if (wrap64 (h1 - 1)) < (h0.length : Int) then (if 0 ≤ h1 then (if h1 < (h0.length : Int) then (if 0 ≤ (wrap64 (h1 + 1)) then (if (wrap64 (h1 + 1)) < (h0.length : Int) then (impl_twice.ap k (⟨(rd_T77 h0 (wrap64 (h1 - 1))).f0, (rd_T77 h0 (wrap64 (h1 - 1))).f1⟩ : S77) (⟨(rd_T77 h0 h1).f0, (rd_T77 h0 h1).f1⟩ : S77) (⟨(rd_T77 h0 (wrap64 (h1 + 1))).f0, (rd_T77 h0 (wrap64 (h1 + 1))).f1⟩ : S77) fun r3 => impl_CornerArea.ret r3) else none) else none) else none) else none) else none) else none)) := by kernel_rfl
def impl_CornerArea.toH (t : Int) : HL eΓ [.i .i64] := (t, ())
def impl_CornerArea.spec : Spc env := ⟨64, [.l 77 (.st .s77), .i .i64], [.i .i64], impl_CornerArea.run⟩
def impl_CornerArea.ap {R : Type} (k : Nat) (h0 : List S77) (h1 : Int) (K : Int → Option R) : Option R := (impl_CornerArea.run k (h0, h1, ())).bind fun r => K (r.1 : Int)
theorem impl_CornerArea.ap_of {R : Type} {k : Nat} {h0 : List S77} {h1 : Int} {r0 : Int} {K : Int → Option R} (h : impl_CornerArea.run k (h0, h1, ()) = some (r0, ())) : impl_CornerArea.ap k h0 h1 K = K r0 := by unfold impl_CornerArea.ap; rw [h]; rfl
theorem impl_CornerArea.snd : Snd env impl_CornerArea.spec := evF_snd env_ok (sndC impl_IsLine.snd (sndC impl_InRange.snd (sndC impl_twice.snd (sndN))))
attribute [local irreducible] impl_CornerArea.run
theorem impl_CornerArea.rt (a0 : Int) : impl_CornerArea.ret a0 = some (impl_CornerArea.toH (a0)) := rfl
theorem impl_CornerArea.go {k : Nat} {l0 : List S77} {a1 : Int} {t} (h : impl_CornerArea.f k l0 a1 = some t) (K : Nat) (hK : k ≤ K) : impl_CornerArea.run K (l0, a1, ()) = some (impl_CornerArea.toH t) := by
  rw [impl_CornerArea.ef]
  (try dsimp only)
  unfold impl_CornerArea.f at h
  repeat' (with_reducible first
   | exact nos h
   | (cases some_inj h; exact impl_CornerArea.rt _)
   | (simp only [Option.bind_some] at h)
   | (refine ite_by h ?_ ?_ <;> (intro hc h; (try simp only [nrm] at hc)))
   | refine itT ?_
   | refine itF ?_
   | (refine bind_by h (fun t ht h => ?_); (first | refine (impl_IsLine.ap_of (impl_IsLine.go ht _ (by omega))).trans ?_ | refine (impl_InRange.ap_of (impl_InRange.go ht _)).trans ?_ | refine (impl_twice.ap_of (impl_twice.go ht _)).trans ?_); (try dsimp only at h ⊢))
   | (simp only [nr2, Int.zero_sub] at h ⊢)
   | (exfalso; omega))
def impl_CornerSize.Fs : List (Spc env) := [impl_IsRing.spec, impl_InRange.spec, impl_twice.spec]
def impl_CornerSize.cut : Nat → Option (List (Lv SC)) := lk []
def impl_CornerSize.ret (r0 : Int) : Option (HL eΓ [.i .i64]) := some (r0, ())
def impl_CornerSize.run (k : Nat) (h : HL eΓ [.l 77 (.st .s77), .i .i64]) : Option (HL eΓ [.i .i64]) := evF env impl_CornerSize.Fs Try.f65 impl_CornerSize.cut [.l 77 (.st .s77), .i .i64] [.i .i64] k h
theorem impl_CornerSize.ef (k : Nat) (h0 : List S77) (h1 : Int) : impl_CornerSize.run k (h0, h1, ()) = impl_IsRing.ap k h0 fun r1 => if (!r1) = true then (impl_CornerSize.ret (-1)) else (impl_InRange.ap k h1 0 (wrap64 ((h0.length : Int) - 1)) fun r2 => if (!r2) = true then (impl_CornerSize.ret (-1)) else (if (h0.length : Int) = 0 then none else (if 0 ≤ (Int.tmod (wrap64 ((wrap64 (h1 + (h0.length : Int))) - 1)) (h0.length : Int)) then (if (Int.tmod (wrap64 ((wrap64 (h1 + (h0.length : Int))) - 1)) (h0.length : Int)) < (h0.length : Int) then (if 0 ≤ h1 then (if h1 < (h0.length : Int) then (if (h0.length : Int) = 0 then none else (if 0 ≤ (Int.tmod (wrap64 (h1 + 1)) (h0.length : Int)) then (if (Int.tmod (wrap64 (h1 + 1)) (h0.length : Int)) < (h0.length : Int) then (impl_twice.ap k (⟨(rd_T77 h0 (Int.tmod (wrap64 ((wrap64 (h1 + (h0.length : Int))) - 1)) (h0.length : Int))).f0, (rd_T77 h0 (Int.tmod (wrap64 ((wrap64 (h1 + (h0.length : Int))) - 1)) (h0.length : Int))).f1⟩ : S77) (⟨(rd_T77 h0 h1).f0, (rd_T77 h0 h1).f1⟩ : S77) (⟨(rd_T77 h0 (Int.tmod (wrap64 (h1 + 1)) (h0.length : Int))).f0, (rd_T77 h0 (Int.tmod (wrap64 (h1 + 1)) (h0.length : Int))).f1⟩ : S77) fun r3 => impl_CornerSize.ret r3) else none) else none)) else none) else none) else none) else none))) := by kernel_rfl
def impl_CornerSize.toH (t : Int) : HL eΓ [.i .i64] := (t, ())
def impl_CornerSize.spec : Spc env := ⟨65, [.l 77 (.st .s77), .i .i64], [.i .i64], impl_CornerSize.run⟩
def impl_CornerSize.ap {R : Type} (k : Nat) (h0 : List S77) (h1 : Int) (K : Int → Option R) : Option R := (impl_CornerSize.run k (h0, h1, ())).bind fun r => K (r.1 : Int)
theorem impl_CornerSize.ap_of {R : Type} {k : Nat} {h0 : List S77} {h1 : Int} {r0 : Int} {K : Int → Option R} (h : impl_CornerSize.run k (h0, h1, ()) = some (r0, ())) : impl_CornerSize.ap k h0 h1 K = K r0 := by unfold impl_CornerSize.ap; rw [h]; rfl
theorem impl_CornerSize.snd : Snd env impl_CornerSize.spec := evF_snd env_ok (sndC impl_IsRing.snd (sndC impl_InRange.snd (sndC impl_twice.snd (sndN))))
attribute [local irreducible] impl_CornerSize.run
theorem impl_CornerSize.rt (a0 : Int) : impl_CornerSize.ret a0 = some (impl_CornerSize.toH (a0)) := rfl
theorem impl_CornerSize.go {k : Nat} {l0 : List S77} {a1 : Int} {t} (h : impl_CornerSize.f k l0 a1 = some t) (K : Nat) (hK : k ≤ K) : impl_CornerSize.run K (l0, a1, ()) = some (impl_CornerSize.toH t) := by
  rw [impl_CornerSize.ef]
  (try dsimp only)
  unfold impl_CornerSize.f at h
  repeat' (with_reducible first
   | exact nos h
   | (cases some_inj h; exact impl_CornerSize.rt _)
   | (simp only [Option.bind_some] at h)
   | (refine ite_by h ?_ ?_ <;> (intro hc h; (try simp only [nrm] at hc)))
   | refine itT ?_
   | refine itF ?_
   | (refine bind_by h (fun t ht h => ?_); (first | refine (impl_IsRing.ap_of (impl_IsRing.go ht _ (by omega))).trans ?_ | refine (impl_InRange.ap_of (impl_InRange.go ht _)).trans ?_ | refine (impl_twice.ap_of (impl_twice.go ht _)).trans ?_); (try dsimp only at h ⊢))
   | (simp only [nr2, Int.zero_sub] at h ⊢)
   | (exfalso; omega))
def impl_SizeAt.Fs : List (Spc env) := [impl_CornerArea.spec, impl_CornerSize.spec]
def impl_SizeAt.cut : Nat → Option (List (Lv SC)) := lk []
def impl_SizeAt.ret (r0 : Int) : Option (HL eΓ [.i .i64]) := some (r0, ())
def impl_SizeAt.run (k : Nat) (h : HL eΓ [.st .s28, .i .i64]) : Option (HL eΓ [.i .i64]) := evF env impl_SizeAt.Fs Try.f35 impl_SizeAt.cut [.st .s28, .i .i64] [.i .i64] k h
theorem impl_SizeAt.ef (k : Nat) (h0 : S28) (h1 : Int) : impl_SizeAt.run k (h0, h1, ()) = if h0.f1 = 2 then (impl_CornerArea.ap k h0.f4 h1 fun r1 => impl_SizeAt.ret r1) else (if h0.f1 = 3 then (impl_CornerSize.ap k h0.f4 h1 fun r2 => impl_SizeAt.ret r2) else (impl_SizeAt.ret (-1))) := by kernel_rfl
def impl_SizeAt.toH (t : Int) : HL eΓ [.i .i64] := (t, ())
def impl_SizeAt.spec : Spc env := ⟨35, [.st .s28, .i .i64], [.i .i64], impl_SizeAt.run⟩
def impl_SizeAt.ap {R : Type} (k : Nat) (h0 : S28) (h1 : Int) (K : Int → Option R) : Option R := (impl_SizeAt.run k (h0, h1, ())).bind fun r => K (r.1 : Int)
theorem impl_SizeAt.ap_of {R : Type} {k : Nat} {h0 : S28} {h1 : Int} {r0 : Int} {K : Int → Option R} (h : impl_SizeAt.run k (h0, h1, ()) = some (r0, ())) : impl_SizeAt.ap k h0 h1 K = K r0 := by unfold impl_SizeAt.ap; rw [h]; rfl
theorem impl_SizeAt.snd : Snd env impl_SizeAt.spec := evF_snd env_ok (sndC impl_CornerArea.snd (sndC impl_CornerSize.snd (sndN)))
attribute [local irreducible] impl_SizeAt.run
theorem impl_SizeAt.rt (a0 : Int) : impl_SizeAt.ret a0 = some (impl_SizeAt.toH (a0)) := rfl
theorem impl_SizeAt.go {k : Nat} {a0_0 : Int} {a0_1 : Int} {a0_2 : Int} {a0_3 : ByteArray} {l0_4 : List S77} {a1 : Int} {t} (h : impl_SizeAt.f k a0_0 a0_1 a0_2 a0_3 l0_4 a1 = some t) (K : Nat) (hK : k ≤ K) : impl_SizeAt.run K ((⟨a0_0, a0_1, a0_2, a0_3, l0_4⟩ : S28), a1, ()) = some (impl_SizeAt.toH t) := by
  rw [impl_SizeAt.ef]
  (try dsimp only)
  unfold impl_SizeAt.f at h
  repeat' (with_reducible first
   | exact nos h
   | (cases some_inj h; exact impl_SizeAt.rt _)
   | (simp only [Option.bind_some] at h)
   | (refine ite_by h ?_ ?_ <;> (intro hc h; (try simp only [nrm] at hc)))
   | refine itT ?_
   | refine itF ?_
   | (refine bind_by h (fun t ht h => ?_); (first | refine (impl_CornerArea.ap_of (impl_CornerArea.go ht _ (by omega))).trans ?_ | refine (impl_CornerSize.ap_of (impl_CornerSize.go ht _ (by omega))).trans ?_); (try dsimp only at h ⊢))
   | (simp only [nr2] at h ⊢)
   | (exfalso; omega))
def impl_ShrinkFeature.Fs : List (Spc env) := [impl_cloneFeature.spec, impl_IsFeature.spec, impl_SizeAt.spec, impl_CanShrink.spec, impl_DropFrom.spec]
def impl_ShrinkFeature.fin : St eΓ → Option (HL eΓ [.st .s28]) := finR env Try.f21.results.toList [.st .s28]
def impl_ShrinkFeature.cut : Nat → Option (List (Lv SC)) := lk [(4, [⟨1, none, false⟩, ⟨2, none, false⟩, ⟨6, none, false⟩, ⟨7, none, false⟩]), (6, [⟨1, none, false⟩, ⟨2, none, false⟩, ⟨6, none, false⟩, ⟨7, none, false⟩, ⟨8, none, false⟩, ⟨19, none, false⟩, ⟨20, none, false⟩])]
def impl_ShrinkFeature.ret (r0 : S28) : Option (HL eΓ [.st .s28]) := some (r0, ())
def impl_ShrinkFeature.p4 (k : Nat) (x2 : Int) (x1 : List S28) (b1_0 : Int) (b1_1 : Int) (b1_2 : Int) (b1_3 : ByteArray) (b2_0 : Int) (b2_1 : Int) (b2_2 : Int) (b2_3 : ByteArray) (b3 : List S77) : Option (HL eΓ [.st .s28]) := evM env impl_ShrinkFeature.Fs Try.f21.ntmps impl_ShrinkFeature.fin impl_ShrinkFeature.cut k [.code (sub_ [1, 1, 1, 0, 0, 0, 0] (bodyOf Try.f21)), .code (sub_ [1, 1, 1, 0, 0, 0, 1] (bodyOf Try.f21)), .blk 1, .lp (sub_ [1, 1, 1, 0, 0] (bodyOf Try.f21)), .blk 0] (mkSt [(1, .c (.sl 0)), (2, .c (.v (.int .i64 x2))), (6, .c (.ptr 1 0)), (7, .c (.ptr 2 0))] [.row .ro 28 (.st .s28) x1, .box 28 [.v (.int .i64 b1_0), .v (.int .i64 b1_1), .v (.int .i64 b1_2), .v (.string b1_3), .v (.slice none 0 0)], .box 28 [.v (.int .i64 b2_0), .v (.int .i64 b2_1), .v (.int .i64 b2_2), .v (.string b2_3), .sl 3], .row .own 77 (.st .s77) b3])
def impl_ShrinkFeature.p6 (k : Nat) (x2 : Int) (x8 : Int) (x19 : Int) (x20 : Int) (x1 : List S28) (b1_0 : Int) (b1_1 : Int) (b1_2 : Int) (b1_3 : ByteArray) (b2_0 : Int) (b2_1 : Int) (b2_2 : Int) (b2_3 : ByteArray) (b3 : List S77) : Option (HL eΓ [.st .s28]) := evM env impl_ShrinkFeature.Fs Try.f21.ntmps impl_ShrinkFeature.fin impl_ShrinkFeature.cut k [.code (sub_ [1, 1, 1, 0, 0, 0, 1, 0, 1, 0, 0, 0] (bodyOf Try.f21)), .code (sub_ [1, 1, 1, 0, 0, 0, 1, 0, 1, 0, 0, 1] (bodyOf Try.f21)), .lp (sub_ [1, 1, 1, 0, 0, 0, 1, 0, 1, 0, 0] (bodyOf Try.f21)), .blk 2, .code (sub_ [1, 1, 1, 0, 0, 0, 1, 1] (bodyOf Try.f21)), .blk 1, .lp (sub_ [1, 1, 1, 0, 0] (bodyOf Try.f21)), .blk 0] (mkSt [(1, .c (.sl 0)), (2, .c (.v (.int .i64 x2))), (6, .c (.ptr 1 0)), (7, .c (.ptr 2 0)), (8, .c (.v (.int .i64 x8))), (19, .c (.v (.int .i64 x19))), (20, .c (.v (.int .i64 x20)))] [.row .ro 28 (.st .s28) x1, .box 28 [.v (.int .i64 b1_0), .v (.int .i64 b1_1), .v (.int .i64 b1_2), .v (.string b1_3), .v (.slice none 0 0)], .box 28 [.v (.int .i64 b2_0), .v (.int .i64 b2_1), .v (.int .i64 b2_2), .v (.string b2_3), .sl 3], .row .own 77 (.st .s77) b3])
theorem impl_ShrinkFeature.e4 (k : Nat) (x2 : Int) (x1 : List S28) (b1_0 : Int) (b1_1 : Int) (b1_2 : Int) (b1_3 : ByteArray) (b2_0 : Int) (b2_1 : Int) (b2_2 : Int) (b2_3 : ByteArray) (b3 : List S77) : impl_ShrinkFeature.p4 (k + 1) x2 x1 b1_0 b1_1 b1_2 b1_3 b2_0 b2_1 b2_2 b2_3 b3 = impl_ShrinkFeature.p6 k x2 (-1) (b3.length : Int) 0 x1 b1_0 b1_1 b1_2 b1_3 b2_0 b2_1 b2_2 b2_3 b3 := by kernel_rfl
theorem impl_ShrinkFeature.e6 (k : Nat) (x2 : Int) (x8 : Int) (x19 : Int) (x20 : Int) (x1 : List S28) (b1_0 : Int) (b1_1 : Int) (b1_2 : Int) (b1_3 : ByteArray) (b2_0 : Int) (b2_1 : Int) (b2_2 : Int) (b2_3 : ByteArray) (b3 : List S77) : impl_ShrinkFeature.p6 (k + 1) x2 x8 x19 x20 x1 b1_0 b1_1 b1_2 b1_3 b2_0 b2_1 b2_2 b2_3 b3 = if x20 < x19 then (impl_SizeAt.ap k (⟨b2_0, b2_1, b2_2, b2_3, b3⟩ : S28) x20 fun r1 => if r1 < x2 then (if x8 < 0 then (impl_CanShrink.ap k (⟨b2_0, b2_1, b2_2, b2_3, b3⟩ : S28) x20 x1 fun r2 => if r2 = true then (impl_ShrinkFeature.p6 k x2 x20 x19 (wrap64 (x20 + 1)) x1 b1_0 b1_1 b1_2 b1_3 b2_0 b2_1 b2_2 b2_3 b3) else (impl_ShrinkFeature.p6 k x2 x8 x19 (wrap64 (x20 + 1)) x1 b1_0 b1_1 b1_2 b1_3 b2_0 b2_1 b2_2 b2_3 b3)) else (impl_SizeAt.ap k (⟨b2_0, b2_1, b2_2, b2_3, b3⟩ : S28) x8 fun r3 => if r1 < r3 then (impl_CanShrink.ap k (⟨b2_0, b2_1, b2_2, b2_3, b3⟩ : S28) x20 x1 fun r4 => if r4 = true then (impl_ShrinkFeature.p6 k x2 x20 x19 (wrap64 (x20 + 1)) x1 b1_0 b1_1 b1_2 b1_3 b2_0 b2_1 b2_2 b2_3 b3) else (impl_ShrinkFeature.p6 k x2 x8 x19 (wrap64 (x20 + 1)) x1 b1_0 b1_1 b1_2 b1_3 b2_0 b2_1 b2_2 b2_3 b3)) else (impl_ShrinkFeature.p6 k x2 x8 x19 (wrap64 (x20 + 1)) x1 b1_0 b1_1 b1_2 b1_3 b2_0 b2_1 b2_2 b2_3 b3))) else (impl_ShrinkFeature.p6 k x2 x8 x19 (wrap64 (x20 + 1)) x1 b1_0 b1_1 b1_2 b1_3 b2_0 b2_1 b2_2 b2_3 b3)) else (if x8 < 0 then (impl_ShrinkFeature.ret (⟨b2_0, b2_1, b2_2, b2_3, b3⟩ : S28)) else (impl_DropFrom.ap k (⟨b2_0, b2_1, b2_2, b2_3, b3⟩ : S28) x8 fun r5_0 r5_1 => impl_ShrinkFeature.p4 k x2 x1 b1_0 b1_1 b1_2 b1_3 r5_0.f0 r5_0.f1 r5_0.f2 r5_0.f3 r5_0.f4)) := by kernel_rfl
def impl_ShrinkFeature.run (k : Nat) (h : HL eΓ [.st .s28, .l 28 (.st .s28), .i .i64]) : Option (HL eΓ [.st .s28]) := evF env impl_ShrinkFeature.Fs Try.f21 impl_ShrinkFeature.cut [.st .s28, .l 28 (.st .s28), .i .i64] [.st .s28] k h
theorem impl_ShrinkFeature.ef (k : Nat) (h0 : S28) (h1 : List S28) (h2 : Int) : impl_ShrinkFeature.run k (h0, h1, h2, ()) = impl_cloneFeature.ap k (⟨h0.f0, h0.f1, h0.f2, h0.f3, h0.f4⟩ : S28) fun r1 => impl_IsFeature.ap k (⟨h0.f0, h0.f1, h0.f2, h0.f3, h0.f4⟩ : S28) fun r2 => if (!r2) = true then (impl_ShrinkFeature.ret (⟨r1.f0, r1.f1, r1.f2, r1.f3, r1.f4⟩ : S28)) else (impl_ShrinkFeature.p4 k h2 h1 0 0 0 (⟨#[]⟩ : ByteArray) r1.f0 r1.f1 r1.f2 r1.f3 r1.f4) := by kernel_rfl
def impl_ShrinkFeature.toH (t : Int × Int × Int × ByteArray × (List (S77))) : HL eΓ [.st .s28] := ((⟨t.1, t.2.1, t.2.2.1, t.2.2.2.1, t.2.2.2.2⟩ : S28), ())
def impl_ShrinkFeature.spec : Spc env := ⟨21, [.st .s28, .l 28 (.st .s28), .i .i64], [.st .s28], impl_ShrinkFeature.run⟩
theorem impl_ShrinkFeature.snd : Snd env impl_ShrinkFeature.spec := evF_snd env_ok (sndC impl_cloneFeature.snd (sndC impl_IsFeature.snd (sndC impl_SizeAt.snd (sndC impl_CanShrink.snd (sndC impl_DropFrom.snd (sndN))))))
attribute [local irreducible] impl_ShrinkFeature.run
theorem impl_ShrinkFeature.rt (a0 : Int) (a1 : Int) (a2 : Int) (a3 : ByteArray) (a4 : List S77) : impl_ShrinkFeature.ret (⟨a0, a1, a2, a3, a4⟩ : S28) = some (impl_ShrinkFeature.toH (a0, a1, a2, a3, a4)) := rfl
theorem impl_ShrinkFeature.br (n : Nat) : (∀ K, n ≤ K → ∀ (x2 : Int) (x1 : List S28) (b1_0 : Int) (b1_1 : Int) (b1_2 : Int) (b1_3 : ByteArray) (b2_0 : Int) (b2_1 : Int) (b2_2 : Int) (b2_3 : ByteArray) (b3 : List S77) t, impl_ShrinkFeature.l0 n x1 x2 b2_0 b2_1 b2_2 b2_3 b3 = some t → impl_ShrinkFeature.p4 K x2 x1 b1_0 b1_1 b1_2 b1_3 b2_0 b2_1 b2_2 b2_3 b3 = some (impl_ShrinkFeature.toH t)) ∧ (∀ K, n ≤ K → ∀ (x2 : Int) (x8 : Int) (x19 : Int) (x20 : Int) (x1 : List S28) (b1_0 : Int) (b1_1 : Int) (b1_2 : Int) (b1_3 : ByteArray) (b2_0 : Int) (b2_1 : Int) (b2_2 : Int) (b2_3 : ByteArray) (b3 : List S77) t, impl_ShrinkFeature.l1 n x1 x2 x8 x19 x20 b2_0 b2_1 b2_2 b2_3 b3 = some t → impl_ShrinkFeature.p6 K x2 x8 x19 x20 x1 b1_0 b1_1 b1_2 b1_3 b2_0 b2_1 b2_2 b2_3 b3 = some (impl_ShrinkFeature.toH t)) := by
  induction n using Nat.strongRecOn with
  | _ n ih =>
  refine ⟨fun K hK x2 x1 b1_0 b1_1 b1_2 b1_3 b2_0 b2_1 b2_2 b2_3 b3 t h => ?_, fun K hK x2 x8 x19 x20 x1 b1_0 b1_1 b1_2 b1_3 b2_0 b2_1 b2_2 b2_3 b3 t h => ?_⟩
  all_goals (rcases n with _ | k)
  all_goals (try (exact nos h))
  all_goals (obtain ⟨K, rfl⟩ : ∃ q, K = q + 1 := ⟨K - 1, by omega⟩)
  all_goals (first | rw [impl_ShrinkFeature.e4] | rw [impl_ShrinkFeature.e6])
  all_goals (simp only [impl_ShrinkFeature.l0, impl_ShrinkFeature.l1] at h)
  repeat' (with_reducible first
   | exact nos h
   | (cases some_inj h; exact impl_ShrinkFeature.rt _ _ _ _ _)
   | exact (ih _ (by omega)).1 _ (by omega) _ _ _ _ _ _ _ _ _ _ _ _ h
   | exact (ih _ (by omega)).2 _ (by omega) _ _ _ _ _ _ _ _ _ _ _ _ _ _ _ h
   | (simp only [Option.bind_some] at h)
   | (refine ite_by h ?_ ?_ <;> (intro hc h; (try simp only [nrm] at hc)))
   | refine itT ?_
   | refine itF ?_
   | (refine bind_by h (fun t ht h => ?_); (first | refine (impl_cloneFeature.ap_of (impl_cloneFeature.go ht _)).trans ?_ | refine (impl_IsFeature.ap_of (impl_IsFeature.go ht _ (by omega))).trans ?_ | refine (impl_SizeAt.ap_of (impl_SizeAt.go ht _ (by omega))).trans ?_ | refine (impl_CanShrink.ap_of (impl_CanShrink.go ht _ (by omega))).trans ?_ | refine (impl_DropFrom.ap_of (impl_DropFrom.go ht _ (by omega))).trans ?_); (try dsimp only at h ⊢))
   | (simp only [nr2] at h ⊢)
   | (exfalso; omega))
theorem impl_ShrinkFeature.go {k : Nat} {a0_0 : Int} {a0_1 : Int} {a0_2 : Int} {a0_3 : ByteArray} {l0_4 : List S77} {l1 : List S28} {a2 : Int} {t} (h : impl_ShrinkFeature.f k a0_0 a0_1 a0_2 a0_3 l0_4 l1 a2 = some t) (K : Nat) (hK : k ≤ K) : impl_ShrinkFeature.run K ((⟨a0_0, a0_1, a0_2, a0_3, l0_4⟩ : S28), l1, a2, ()) = some (impl_ShrinkFeature.toH t) := by
  rw [impl_ShrinkFeature.ef]
  (try dsimp only)
  unfold impl_ShrinkFeature.f at h
  repeat' (with_reducible first
   | exact nos h
   | (cases some_inj h; exact impl_ShrinkFeature.rt _ _ _ _ _)
   | exact (impl_ShrinkFeature.br _).1 _ (by omega) _ _ _ _ _ _ _ _ _ _ _ _ h
   | exact (impl_ShrinkFeature.br _).2 _ (by omega) _ _ _ _ _ _ _ _ _ _ _ _ _ _ _ h
   | (simp only [Option.bind_some] at h)
   | (refine ite_by h ?_ ?_ <;> (intro hc h; (try simp only [nrm] at hc)))
   | refine itT ?_
   | refine itF ?_
   | (refine bind_by h (fun t ht h => ?_); (first | refine (impl_cloneFeature.ap_of (impl_cloneFeature.go ht _)).trans ?_ | refine (impl_IsFeature.ap_of (impl_IsFeature.go ht _ (by omega))).trans ?_ | refine (impl_SizeAt.ap_of (impl_SizeAt.go ht _ (by omega))).trans ?_ | refine (impl_CanShrink.ap_of (impl_CanShrink.go ht _ (by omega))).trans ?_ | refine (impl_DropFrom.ap_of (impl_DropFrom.go ht _ (by omega))).trans ?_); (try dsimp only at h ⊢))
   | (simp only [nr2] at h ⊢)
   | (exfalso; omega))
theorem impl_ShrinkFeature.calls (k : Nat) (a0_0 : Int) (a0_1 : Int) (a0_2 : Int) (a0_3 : ByteArray) (A0_4 : Option Addr) (c0_4 : Nat) (l0_4 : List (S77)) (A1 : Option Addr) (c1 : Nat) (l1 : List (S28)) (a2 : Int) (r1 : Int) (r2 : Int) (r3 : Int) (r4 : ByteArray) (r5 : List (S77)) (w : World) (hr0_4 : Kd.C k77 w A0_4 l0_4.length l0_4) (hc0_4 : l0_4.length ≤ c0_4) (hr1 : Kd.C k28 w A1 l1.length l1) (hc1 : l1.length ≤ c1) (h : impl_ShrinkFeature.f k a0_0 a0_1 a0_2 a0_3 l0_4 l1 a2 = some (r1, r2, r3, r4, r5)) :
  Calls Try.prog 21 #[.agg #[.int .i64 a0_0, .int .i64 a0_1, .int .i64 a0_2, .string a0_3, .slice A0_4 l0_4.length c0_4], .slice A1 l1.length c1, .int .i64 a2] w fun e w' => ∃ v4_ : Value, e = .returned (.agg #[.int .i64 r1, .int .i64 r2, .int .i64 r3, .string r4, v4_]) ∧ Kd.R k77 77 w' w.heap.size (fun _ => True) v4_ r5 ∧ Below w.heap.size w w' := by
  refine (impl_ShrinkFeature.snd.calls _ _ _ (impl_ShrinkFeature.go h k (Nat.le_refl k)) w [.agg #[.int .i64 a0_0, .int .i64 a0_1, .int .i64 a0_2, .string a0_3, .slice A0_4 l0_4.length c0_4], .slice A1 l1.length c1, .int .i64 a2] ⟨⟨_, rfl, (H28.K _ _ _).2 ⟨rfl, rfl, rfl, rfl, ⟨_, _, rfl, hc0_4, hr0_4⟩, trivial⟩⟩, ⟨_, _, rfl, hc1, hr1⟩, rfl, trivial⟩).mono ?_
  rintro e w' ⟨v, rfl, hB, vs, oks, rfl, hR, _⟩
  obtain ⟨x0_, vs, o0_, oks, rfl, rfl, m0_, hR⟩ := rmsC hR
  obtain rfl := rmsN hR
  obtain ⟨y0, rfl, m0_⟩ := m0_
  have m0_ := (H28.M _ _ _ _ _).1 m0_
  match e0 : y0.toList, m0_ with
  | [d0_0, d0_1, d0_2, d0_3, d0_4], ⟨n0_0, n0_1, n0_2, n0_3, n0_4, _⟩ =>
  obtain rfl : y0 = #[d0_0, d0_1, d0_2, d0_3, d0_4] := by rw [← Array.toArray_toList (xs := y0), e0]
  obtain rfl := List.singleton_inj.1 (show [d0_0] = [Value.int .i64 r1] from n0_0)
  obtain rfl := List.singleton_inj.1 (show [d0_1] = [Value.int .i64 r2] from n0_1)
  obtain rfl := List.singleton_inj.1 (show [d0_2] = [Value.int .i64 r3] from n0_2)
  obtain rfl := List.singleton_inj.1 (show [d0_3] = [Value.string r4] from n0_3)
  obtain ⟨d0_4v, d0_4e, d0_4R⟩ := n0_4
  obtain rfl := List.singleton_inj.1 d0_4e
  exact ⟨_, rfl, Kd.R_mono d0_4R (fun _ _ => trivial), hB⟩
def impl_IsSource.Fs : List (Spc env) := [impl_IsFeature.spec]
def impl_IsSource.fin : St eΓ → Option (HL eΓ [.b]) := finR env Try.f28.results.toList [.b]
def impl_IsSource.cut : Nat → Option (List (Lv SC)) := lk [(4, [⟨0, none, false⟩, ⟨8, none, false⟩, ⟨9, none, false⟩, ⟨10, none, false⟩])]
def impl_IsSource.ret (r0 : Bool) : Option (HL eΓ [.b]) := some (r0, ())
def impl_IsSource.p4 (k : Nat) (x9 : Int) (x10 : Int) (x0 : List S28) : Option (HL eΓ [.b]) := evM env impl_IsSource.Fs Try.f28.ntmps impl_IsSource.fin impl_IsSource.cut k [.code (sub_ [1, 1, 0, 1, 0, 0, 0] (bodyOf Try.f28)), .code (sub_ [1, 1, 0, 1, 0, 0, 1] (bodyOf Try.f28)), .lp (sub_ [1, 1, 0, 1, 0, 0] (bodyOf Try.f28)), .blk 0, .code (sub_ [1, 1, 1] (bodyOf Try.f28))] (mkSt [(0, .c (.sl 0)), (8, .c (.sl 0)), (9, .c (.v (.int .i64 x9))), (10, .c (.v (.int .i64 x10)))] [.row .ro 28 (.st .s28) x0])
theorem impl_IsSource.e4 (k : Nat) (x9 : Int) (x10 : Int) (x0 : List S28) : impl_IsSource.p4 (k + 1) x9 x10 x0 = if x10 < x9 then (if 0 ≤ x10 then (if x10 < (x0.length : Int) then (impl_IsFeature.ap k (⟨(rd_T28 x0 x10).f0, (rd_T28 x0 x10).f1, (rd_T28 x0 x10).f2, (rd_T28 x0 x10).f3, (rd_T28 x0 x10).f4⟩ : S28) fun r1 => if (!r1) = true then (impl_IsSource.ret false) else (if x10 > 0 then (if 0 ≤ (wrap64 (x10 - 1)) then (if (wrap64 (x10 - 1)) < (x0.length : Int) then (if ((rd_T28 x0 x10).f0) ≤ ((rd_T28 x0 (wrap64 (x10 - 1))).f0) then (impl_IsSource.ret false) else (impl_IsSource.p4 k x9 (wrap64 (x10 + 1)) x0)) else none) else none) else (impl_IsSource.p4 k x9 (wrap64 (x10 + 1)) x0))) else none) else none) else (impl_IsSource.ret true) := by kernel_rfl
def impl_IsSource.run (k : Nat) (h : HL eΓ [.l 28 (.st .s28)]) : Option (HL eΓ [.b]) := evF env impl_IsSource.Fs Try.f28 impl_IsSource.cut [.l 28 (.st .s28)] [.b] k h
theorem impl_IsSource.ef (k : Nat) (h0 : List S28) : impl_IsSource.run k (h0, ()) = if (h0.length : Int) > 16 then (impl_IsSource.ret false) else (impl_IsSource.p4 k (h0.length : Int) 0 h0) := by kernel_rfl
def impl_IsSource.toH (t : Bool) : HL eΓ [.b] := (t, ())
def impl_IsSource.spec : Spc env := ⟨28, [.l 28 (.st .s28)], [.b], impl_IsSource.run⟩
theorem impl_IsSource.snd : Snd env impl_IsSource.spec := evF_snd env_ok (sndC impl_IsFeature.snd (sndN))
attribute [local irreducible] impl_IsSource.run
theorem impl_IsSource.rt (a0 : Bool) : impl_IsSource.ret a0 = some (impl_IsSource.toH (a0)) := rfl
theorem impl_IsSource.br (n : Nat) : (∀ K, n ≤ K → ∀ (x9 : Int) (x10 : Int) (x0 : List S28) t, impl_IsSource.l0 n x0 x0 x9 x10 = some t → impl_IsSource.p4 K x9 x10 x0 = some (impl_IsSource.toH t)) := by
  induction n using Nat.strongRecOn with
  | _ n ih =>
  intro K hK x9 x10 x0 t h
  all_goals (rcases n with _ | k)
  all_goals (try (exact nos h))
  all_goals (obtain ⟨K, rfl⟩ : ∃ q, K = q + 1 := ⟨K - 1, by omega⟩)
  all_goals (first | rw [impl_IsSource.e4])
  all_goals (simp only [impl_IsSource.l0] at h)
  repeat' (with_reducible first
   | exact nos h
   | (cases some_inj h; exact impl_IsSource.rt _)
   | exact (ih _ (by omega)) _ (by omega) _ _ _ _ h
   | (simp only [Option.bind_some] at h)
   | (refine ite_by h ?_ ?_ <;> (intro hc h; (try simp only [nrm] at hc)))
   | refine itT ?_
   | refine itF ?_
   | (refine bind_by h (fun t ht h => ?_); refine (impl_IsFeature.ap_of (impl_IsFeature.go ht _ (by omega))).trans ?_; (try dsimp only at h ⊢))
   | (simp only [nr2] at h ⊢)
   | (exfalso; omega))
theorem impl_IsSource.go {k : Nat} {l0 : List S28} {t} (h : impl_IsSource.f k l0 = some t) (K : Nat) (hK : k ≤ K) : impl_IsSource.run K (l0, ()) = some (impl_IsSource.toH t) := by
  rw [impl_IsSource.ef]
  (try dsimp only)
  unfold impl_IsSource.f at h
  repeat' (with_reducible first
   | exact nos h
   | (cases some_inj h; exact impl_IsSource.rt _)
   | exact (impl_IsSource.br _) _ (by omega) _ _ _ _ h
   | (simp only [Option.bind_some] at h)
   | (refine ite_by h ?_ ?_ <;> (intro hc h; (try simp only [nrm] at hc)))
   | refine itT ?_
   | refine itF ?_
   | (refine bind_by h (fun t ht h => ?_); refine (impl_IsFeature.ap_of (impl_IsFeature.go ht _ (by omega))).trans ?_; (try dsimp only at h ⊢))
   | (simp only [nr2] at h ⊢)
   | (exfalso; omega))
theorem impl_IsSource.calls (k : Nat) (A0 : Option Addr) (c0 : Nat) (l0 : List (S28)) (r : Bool) (w : World) (hr0 : Kd.C k28 w A0 l0.length l0) (hc0 : l0.length ≤ c0) (h : impl_IsSource.f k l0 = some r) :
  Calls Try.prog 28 #[.slice A0 l0.length c0] w fun e w' => e = .returned (.bool r) ∧ Below w.heap.size w w' := by
  refine (impl_IsSource.snd.calls _ _ _ (impl_IsSource.go h k (Nat.le_refl k)) w [.slice A0 l0.length c0] ⟨⟨_, _, rfl, hc0, hr0⟩, trivial⟩).mono ?_
  rintro e w' ⟨v, rfl, hB, vs, oks, rfl, hR, _⟩
  obtain ⟨x0_, vs, o0_, oks, rfl, rfl, m0_, hR⟩ := rmsC hR
  obtain rfl := rmsN hR
  obtain rfl := List.singleton_inj.1 (show [x0_] = [Value.bool r] from m0_)
  exact ⟨rfl, hB⟩
set_option maxHeartbeats 8000000 in
set_option maxRecDepth 100000 in
theorem impl_cloneSource.calls (k : Nat) (A0 : Option Addr) (c0 : Nat) (l0 : List (S28)) (r : List (S28)) (w : World) (hr0 : Kd.C k28 w A0 l0.length l0) (hc0 : l0.length ≤ c0) (h : impl_cloneSource.f k l0 = some r) :
  Calls Try.prog 55 #[.slice A0 l0.length c0] w fun e w' => ∃ v0_ : Value, e = .returned (v0_) ∧ Kd.S k28 28 w' w.heap.size (fun _ => True) v0_ r ∧ Below w.heap.size w w' := by
 have hu28 := Try.underlying28; have HR0 := Aside0.mk hr0; have HC0 := Aside0.mk hc0; clear hr0 hc0; have HB := Aside0.mk (Below.refl w.heap.size w); have H : (impl_cloneSource.l0 k (([] : List (S28))) l0 (l0.length : Int) 0) = some r := h; clear h; obtain ⟨y633, hy633⟩ : ∃ y_ : List (S28), y_ = (([] : List (S28))) := ⟨_, rfl⟩
 replace H : (impl_cloneSource.l0 k y633 l0 (l0.length : Int) 0) = some r := by first | (rw [hy633]; with_reducible exact H) | (have H2_ := (Option.bind_some _ _).symm.trans H; rw [hy633]; with_reducible exact H2_) | (have H2_ := (Option.bind_some _ _).symm.trans H; with_reducible exact H2_) | with_reducible exact H | (rw [hy633]; exact H) | exact H
 have Ny633 := Aside0.mk hy633; clear hy633; have H' := Aside0.mk H; clear H
 go_enter Try.func55, Try.ntmps55; go_wp2_with (first | ((with_reducible refine gate_dst (N := 6) rfl ?_); refine Kd.S_lit k28 _ 28 ?hg (N := 6) ?hd (xs := ([] : List (S28))) (inner := []) (ok := fun _ => True) (okp := fun _ => True) ?hr ?hp (fun _ hk => hk) trivial (Below.refl _ _) (Nat.le_refl _) (by simp) ?_; (case hd => rfl); (case hg => rfl); (case hr => first | (go_simp; done) | (go_simp; rfl)); (case hp => exact (Reps.none _ _)); intro v634 w2 ho3 hb hg_ hnew_; clear hg_ hnew_; (first | rw [← Ny633.out] at ho3 | (simp only [Int.reduceToNat] at ho3; rw [← Ny633.out] at ho3)); have HO635 := Aside0.mk (Kd.S_lower ho3 (below_size bz)); replace HB := Aside0.mk (below_step bz hb); clear hb ho3))
 go_loopg [3, 9] k (fun kq v3 v9 w' => ∃ (x3_1 : List (S28)) (x9_1 : Int), v9 = .int .i64 x9_1 ∧ Aside0 (impl_cloneSource.l0 kq x3_1 l0 (l0.length : Int) x9_1 = some r) ∧ Aside0 (kq ≤ k) ∧ Aside0 (Kd.S k28 28 w' w.heap.size (fun _ => True) v3 x3_1) ∧ Aside0 (Below w.heap.size w w'))
 case atStart => exact ⟨(y633), (0), rz, H', ⟨Nat.le_refl _⟩, ⟨by (with_reducible repeat (first | apply Kd.S_alloc | apply Kd.S_drewN | apply Kd.S_drew)); exact HO635.out⟩, ⟨bz⟩⟩
 case round =>
  clear H'; (try clear p2); obtain ⟨x3_1, x9_1, rfl, HA, HK1, HO_3, HB⟩ := hrel
  cases gk with
  | zero => exact absurd HA.out (by simp [impl_cloneSource.l0])
  | succ k1 =>
   have H := HA.out; clear HA; simp only [impl_cloneSource.l0] at H
   by_cases c4 : x9_1 < (l0.length : Int)
   ·rw [if_pos c4] at H; have c4b0 := decide_eq_true c4; clear c4
    by_cases c5 : 0 ≤ x9_1
    ·rw [if_pos c5] at H; have c5b0 := decide_eq_true c5; clear c5
     by_cases c6 : x9_1 < (l0.length : Int)
     ·rw [if_pos c6] at H; have c6b0 := decide_eq_true c6; clear c6; replace H := Option.bind_eq_some_iff.mp H; obtain ⟨⟨t638, t639, t640, t641, t642⟩, A70, H⟩ := H; replace H : (if x3_1.length < 2199023255552 then (impl_cloneSource.l0 k1 (x3_1 ++ [(⟨t638, t639, t640, t641, t642⟩ : S28)]) l0 (l0.length : Int) (wrap64 (x9_1 + 1))) else (none)) = some r := H; have A7 := Aside0.mk A70; clear A70
      by_cases c8 : x3_1.length < 2199023255552
      ·rw [if_pos c8] at H; have LMc8 := Aside0.mk c8; clear c8; obtain ⟨y645, hy645⟩ : ∃ y_ : List (S28), y_ = (x3_1 ++ [(⟨t638, t639, t640, t641, t642⟩ : S28)]) := ⟨_, rfl⟩
       replace H : (impl_cloneSource.l0 k1 y645 l0 (l0.length : Int) (wrap64 (x9_1 + 1))) = some r := by first | (rw [hy645]; with_reducible exact H) | (have H2_ := (Option.bind_some _ _).symm.trans H; rw [hy645]; with_reducible exact H2_) | (have H2_ := (Option.bind_some _ _).symm.trans H; with_reducible exact H2_) | with_reducible exact H | (rw [hy645]; exact H) | exact H
       have Ny645 := Aside0.mk hy645; clear hy645; have H' := Aside0.mk H; clear H; have p636 : 0 ≤ (x9_1 : Int) := of_decide_eq_true az; have q636 : x9_1 < (l0.length : Int) := of_decide_eq_true az; obtain ⟨ad636, A636_4, c636_4, e636, hx636_0, hx636_1, hx636_2, hx636_3, hx636_4, hl636_4, hi636_4⟩ := at_T28 HR0.out x9_1 p636 q636
       cases e636
       replace hx636_0 := xz HB hx636_0; replace hx636_1 := xz HB hx636_1; replace hx636_2 := xz HB hx636_2; replace hx636_3 := xz HB hx636_3; replace hx636_4 := xz HB hx636_4; have HR636_4 := Aside0.mk hi636_4; have HC636_4 := Aside0.mk hl636_4; clear hi636_4 hl636_4; replace p636 := eq_true p636; replace q636 := eq_true q636; go_wp2_with (first | ((with_reducible refine gt (some 5) rfl ?_); refine bx #[.int .i64 0, .int .i64 0, .int .i64 0, .string (⟨#[]⟩ : ByteArray), .slice none 0 0] 28 ?_; intro gb637 hg w9 hbox hb; replace HO_3 := Aside0.mk (Kd.S_below (Kd.S_elderB (by (with_reducible repeat (first | apply Kd.S_alloc | apply Kd.S_drewN | apply Kd.S_drew)); exact HO_3.out) gb637 (Nat.le_of_eq hg.symm)) hb); have BK637 := Aside0.mk (hbox); have GW637 := Aside0.mk (gez HB hg); have GE637 := Aside0.mk (gez HB hg); replace HB := Aside0.mk (below_step bz hb); clear hb hbox hg; obtain ⟨hcz10_0, hcz10_1, hcz10_2, hcz10_3, hcz10_4, hfz10_0, hfz10_1, hfz10_2, hfz10_3, hfz10_4⟩ := cells5 BK637) | ((with_reducible refine gt (some 15) rfl ?_); refine gc Try.func42 (impl_cloneFeature.calls ((rd_T28 l0 x9_1).f0) ((rd_T28 l0 x9_1).f1) ((rd_T28 l0 x9_1).f2) ((rd_T28 l0 x9_1).f3) _ _ ((rd_T28 l0 x9_1).f4) t638 t639 t640 t641 t642 _ (Kd.C_below HR636_4.out bzs) HC636_4.out A7.out) ?_; rintro e w11 ⟨v643, rfl, ho0, hb⟩; refine ⟨_, rfl, ?_⟩; replace HO_3 := Aside0.mk (Kd.S_elder' (by (with_reducible repeat (first | apply Kd.S_alloc | apply Kd.S_drewN | apply Kd.S_drew)); exact (Kd.S_mono (Kd.S_far (p := ⟨gb637, 4, none⟩) (Kd.S_far (p := ⟨gb637, 3, none⟩) (Kd.S_far (p := ⟨gb637, 2, none⟩) (Kd.S_far (p := ⟨gb637, 1, none⟩) (Kd.S_far (p := ⟨gb637, 0, none⟩) (Kd.S_mono HO_3.out (fun k_ hk => (⟨hk, hk.2⟩ : _ ∧ k_ ≠ gb637))) (fun _ hk => hk.2) (.int .i64 ((rd_T28 l0 x9_1).f0))) (fun _ hk => hk.2) (.int .i64 ((rd_T28 l0 x9_1).f1))) (fun _ hk => hk.2) (.int .i64 ((rd_T28 l0 x9_1).f2))) (fun _ hk => hk.2) (.string ((rd_T28 l0 x9_1).f3))) (fun _ hk => hk.2) (.slice A636_4 ((rd_T28 l0 x9_1).f4).length c636_4)) (fun _ h_ => h_.1))) (Kd.R_base ho0) hb); have HO644 := Aside0.mk (Kd.R_lower ho0 (below_size bzs)); replace BK637 := Aside0.mk (blk_below (g := gb637) (o := .cells #[.int .i64 ((rd_T28 l0 x9_1).f0), .int .i64 ((rd_T28 l0 x9_1).f1), .int .i64 ((rd_T28 l0 x9_1).f2), .string ((rd_T28 l0 x9_1).f3), .slice A636_4 ((rd_T28 l0 x9_1).f4).length c636_4] 28 (0, 0)) (by (with_reducible repeat (first | refine blk_drewN ?_ _ | refine blk_drew ?_ | refine blk_alloc ?_ _)); refine blk_put (cs := #[.int .i64 ((rd_T28 l0 x9_1).f0), .int .i64 ((rd_T28 l0 x9_1).f1), .int .i64 ((rd_T28 l0 x9_1).f2), .string ((rd_T28 l0 x9_1).f3), .slice none 0 0]) ?_ 4 _ rfl; (with_reducible repeat (first | refine blk_drewN ?_ _ | refine blk_drew ?_ | refine blk_alloc ?_ _)); refine blk_put (cs := #[.int .i64 ((rd_T28 l0 x9_1).f0), .int .i64 ((rd_T28 l0 x9_1).f1), .int .i64 ((rd_T28 l0 x9_1).f2), .string (⟨#[]⟩ : ByteArray), .slice none 0 0]) ?_ 3 _ rfl; (with_reducible repeat (first | refine blk_drewN ?_ _ | refine blk_drew ?_ | refine blk_alloc ?_ _)); refine blk_put (cs := #[.int .i64 ((rd_T28 l0 x9_1).f0), .int .i64 ((rd_T28 l0 x9_1).f1), .int .i64 0, .string (⟨#[]⟩ : ByteArray), .slice none 0 0]) ?_ 2 _ rfl; (with_reducible repeat (first | refine blk_drewN ?_ _ | refine blk_drew ?_ | refine blk_alloc ?_ _)); refine blk_put (cs := #[.int .i64 ((rd_T28 l0 x9_1).f0), .int .i64 0, .int .i64 0, .string (⟨#[]⟩ : ByteArray), .slice none 0 0]) ?_ 1 _ rfl; (with_reducible repeat (first | refine blk_drewN ?_ _ | refine blk_drew ?_ | refine blk_alloc ?_ _)); refine blk_put (cs := #[.int .i64 0, .int .i64 0, .int .i64 0, .string (⟨#[]⟩ : ByteArray), .slice none 0 0]) ?_ 0 _ rfl; (with_reducible repeat (first | refine blk_drewN ?_ _ | refine blk_drew ?_ | refine blk_alloc ?_ _)); exact BK637.out) hb); replace HB := Aside0.mk (below_step bzs hb); (try clear ho0); obtain ⟨Ao13, co13, eo13⟩ := Kd.R_slice HO644.out; subst eo13) | ((with_reducible refine gate_builtin (b := .append) (xs := #[.tmp 13, .tmp 16]) rfl ?_); at_builtin; refine Kd.S_append k28 (w0 := w) w.heap.size rfl (.tmp 13) (.tmp 16) 38 28 (.agg #[(.int .i64 0), (.int .i64 0), (.int .i64 0), (.string ⟨#[]⟩), (.slice none 0 0)]) 64 rfl Try.underlying38 info28 rfl (by decide) (by omega) u3 x3_1 (⟨t638, t639, t640, t641, t642⟩ : S28) [.int .i64 t638, .int .i64 t639, .int .i64 t640, .string t641, .slice Ao13 t642.length co13] (fun k_ => k_ ≠ gb637) (fun k_ => some k_ = (.slice Ao13 t642.length co13 : Value).ownBlock) rfl rfl ?aP (fun k_ hk_ => ((Kd.R_mono (ok' := fun k_ => ((fun k_ => k_ ≠ gb637)) k_ ∧ some k_ ≠ (u3 : Value).ownBlock) (Kd.R_types (Kd.R_apart' (HO644.out) (Kd.S_typed HO_3.out) (by decide)) BK637.out (by decide)) (fun k_ hk => ⟨hk.2, hk.1.2⟩))).1 k_ hk_.symm) ?aF ?aO ?aB ?aS ?aL ?_; (case aP => exact k28_mkM _ _ _ (⟨t638, t639, t640, t641, t642⟩ : S28) (Kd.R_mono (Kd.R_tight rfl (Kd.R_mono (ok' := fun k_ => ((fun k_ => k_ ≠ gb637)) k_ ∧ some k_ ≠ (u3 : Value).ownBlock) (Kd.R_types (Kd.R_apart' (HO644.out) (Kd.S_typed HO_3.out) (by decide)) BK637.out (by decide)) (fun k_ hk => ⟨hk.2, hk.1.2⟩))) (fun _ h_ => h_))); (case aB => exact bzs); (case aF => exact (fun k_ hk => Kd.freshB (g := gb637) (o := .cells #[.int .i64 ((rd_T28 l0 x9_1).f0), .int .i64 ((rd_T28 l0 x9_1).f1), .int .i64 ((rd_T28 l0 x9_1).f2), .string ((rd_T28 l0 x9_1).f3), .slice A636_4 ((rd_T28 l0 x9_1).f4).length c636_4] 28 (0, 0)) (kz BK637) k_ hk)); (case aO => exact (by (with_reducible repeat (first | apply Kd.S_alloc | apply Kd.S_drewN | apply Kd.S_drew)); exact Kd.S_mono HO_3.out (fun k_ hk => ⟨hk.1.2, fun e_ => hk.2 e_⟩))); (case aS => exact (below_size bzs)); (case aL => have := LMc8.out; omega); intro v646 w12 ho hb hg hat; rw [← Ny645.out] at ho; have n0_ := Aside0.mk (blk_grown (g := gb637) (o := .cells #[.int .i64 ((rd_T28 l0 x9_1).f0), .int .i64 ((rd_T28 l0 x9_1).f1), .int .i64 ((rd_T28 l0 x9_1).f2), .string ((rd_T28 l0 x9_1).f3), .slice A636_4 ((rd_T28 l0 x9_1).f4).length c636_4] 28 (0, 0)) (kz BK637) hg (Kd.S_away HO_3.out (fun _ hk => hk.1.2))); have n1_ := Aside0.mk (hb); have n2_ := Aside0.mk (ho); clear BK637; clear HB; clear HO_3; clear HO644; have BK637 := n0_; have HB := n1_; have HO647 := n2_; clear n0_ n1_ n2_; clear ho hb hg hat))
       go_roundg k1
       case measure => have := HK1.out; omega
       case rel => exact ⟨(y645), (wrap64 (x9_1 + 1)), rz, H', ⟨by have := HK1.out; omega⟩, ⟨by (with_reducible repeat (first | apply Kd.S_alloc | apply Kd.S_drewN | apply Kd.S_drew)); exact Kd.S_mono HO647.out (fun _ hk => trivial)⟩, ⟨bzs⟩⟩
      ·rw [if_neg c8] at H
       exact absurd H (by simp)
     ·rw [if_neg c6] at H
      exact absurd H (by simp)
    ·rw [if_neg c5] at H
     exact absurd H (by simp)
   ·rw [if_neg c4] at H; have c4b0 := decide_eq_false c4; clear c4; obtain rfl := Option.some.inj H; go_wp2; go_ret
    exact ⟨_, ez, by (with_reducible repeat (first | apply Kd.S_alloc | apply Kd.S_drewN | apply Kd.S_drew)); exact HO_3.out, bz⟩
set_option maxHeartbeats 8000000 in
set_option maxRecDepth 100000 in
theorem impl_ShrinkAll.calls (k : Nat) (A0 : Option Addr) (c0 : Nat) (l0 : List (S28)) (a1 : Int) (r : List (S28)) (w : World) (hr0 : Kd.C k28 w A0 l0.length l0) (hc0 : l0.length ≤ c0) (h : impl_ShrinkAll.f k l0 a1 = some r) :
  Calls Try.prog 24 #[.slice A0 l0.length c0, .int .i64 a1] w fun e w' => ∃ v0_ : Value, e = .returned (v0_) ∧ Kd.S k28 28 w' w.heap.size (fun _ => True) v0_ r ∧ Below w.heap.size w w' := by
 have hu_ := Try.underlying28
 have HR0 := Aside0.mk hr0
 have HC0 := Aside0.mk hc0
 clear hr0 hc0
 have HB := Aside0.mk (Below.refl w.heap.size w)
 have H : ((impl_cloneSource.f k l0).bind fun t749 => ((impl_IsSource.f k l0).bind fun t752 => (if t752 = true then (impl_ShrinkAll.l0 k a1 t749 (t749.length : Int) 0) else (some t749)))) = some r := h
 clear h
 replace H := Option.bind_eq_some_iff.mp H
 obtain ⟨t749, A30, H⟩ := H
 have A3 := Aside0.mk A30
 clear A30
 replace H := Option.bind_eq_some_iff.mp H
 obtain ⟨t752, A40, H⟩ := H
 have A4 := Aside0.mk A40
 clear A40
 by_cases c5 : t752 = true
 ·subst c5
  rw [if_pos rfl] at H
  have H' := Aside0.mk H
  clear H
  go_enter Try.func24, Try.ntmps24
  go_wp2_with (first | ((with_reducible refine gate_callee (f := 55) rfl ?_); refine goesL_ (some 10) rfl rfl Try.func55 (by kernel_rfl) rfl #[.slice A0 l0.length c0] rfl (by (try simp only [List.map_toArray, List.map_cons, List.map_nil]); first | done | rfl) ?_; (with_reducible refine (impl_cloneSource.calls k _ _ l0 t749 _ ?side1 ?side2 A3.out).mono ?_); (case side1 => repeat (first | exact HR0.out | (with_reducible refine Kd.C_alloc ?_ _) | (with_reducible refine Kd.C_drewN ?_ _) | (with_reducible refine Kd.C_drew ?_))); (case side2 => exact HC0.out); rintro e w6 ⟨v750, rfl, ho0, hb⟩; refine ⟨_, rfl, ?_⟩; have n0_ := Aside0.mk (Kd.S_lower ho0 (below_size bz)); have n1_ := Aside0.mk (below_step bz hb); clear HB; have HO751 := n0_; have HB := n1_; clear n0_ n1_; clear hb ho0) | ((with_reducible refine gate_callee (f := 28) rfl ?_); refine goesL_ (some 12) rfl rfl Try.func28 (by kernel_rfl) rfl #[.slice A0 l0.length c0] rfl (by (try simp only [List.map_toArray, List.map_cons, List.map_nil]); first | done | rfl) ?_; (with_reducible refine (impl_IsSource.calls k _ _ l0 true _ ?side1 ?side2 A4.out).mono ?_); (case side1 => repeat (first | exact (Kd.C_below HR0.out HB.out) | (with_reducible refine Kd.C_alloc ?_ _) | (with_reducible refine Kd.C_drewN ?_ _) | (with_reducible refine Kd.C_drew ?_))); (case side2 => exact HC0.out); rintro e w7 ⟨rfl, hb⟩; refine ⟨_, rfl, ?_⟩; have n0_ := Aside0.mk (Kd.S_below (by (with_reducible repeat (first | apply Kd.S_alloc | apply Kd.S_drewN | apply Kd.S_drew)); exact HO751.out) hb); have n1_ := Aside0.mk (below_step bz hb); clear HO751; clear HB; have HO751 := n0_; have HB := n1_; clear n0_ n1_; clear hb; obtain ⟨Ao8, co8, eo8⟩ := Kd.S_slice HO751.out; subst eo8))
  go_loopg [17] k (fun kq v17 w' => ∃ (x5_1 : List (S28)) (x17_1 : Int), v17 = .int .i64 x17_1 ∧ Aside0 (impl_ShrinkAll.l0 kq a1 x5_1 (t749.length : Int) x17_1 = some r) ∧ Aside0 (kq ≤ k) ∧ Aside0 (Kd.S k28 28 w' w.heap.size (fun _ => True) (.slice Ao8 t749.length co8) x5_1) ∧ Aside0 (Below w.heap.size w w'))
  case atStart => exact ⟨(t749), (0), rz, H', ⟨Nat.le_refl _⟩, ⟨by (with_reducible repeat (first | apply Kd.S_alloc | apply Kd.S_drewN | apply Kd.S_drew)); exact HO751.out⟩, ⟨by repeat (first | (with_reducible first | exact HB.out | apply below_alloc | apply pw_below_drewN | apply below_drew1) | exact HB.out)⟩⟩
  case round =>
   clear H'
   obtain ⟨x5_1, x17_1, rfl, HA, HK1, HO_5, HB⟩ := hrel
   have hl5_1 := (Kd.S_reads' HO_5.out).1
   rw [hl5_1] at HO_5
   (try simp only [hl5_1])
   cases gk with
   | zero => exact absurd HA.out (by simp [impl_ShrinkAll.l0])
   | succ k1 =>
    have H := HA.out
    clear HA
    simp only [impl_ShrinkAll.l0] at H
    by_cases c9 : x17_1 < (t749.length : Int)
    ·rw [if_pos c9] at H
     have c9b0 : decide (x17_1 < (t749.length : Int)) = true := decide_eq_true c9
     have c9b0e_hl5_1 := c9b0
     simp only [hl5_1] at c9b0e_hl5_1
     clear c9
     by_cases c10 : 0 ≤ x17_1
     ·rw [if_pos c10] at H
      have c10b0 : decide (0 ≤ x17_1) = true := decide_eq_true c10
      by_cases c11 : x17_1 < (x5_1.length : Int)
      ·rw [if_pos c11] at H
       have c11b0 : decide (x17_1 < (x5_1.length : Int)) = true := decide_eq_true c11
       by_cases c14 : x5_1.length < 1099511627776
       ·rw [if_pos c14] at H
        have LMc14 := Aside0.mk c14
        have ew : wrap64 (x17_1 + 1) = x17_1 + 1 := by unfold wrap64; omega
        have c13b1 : decide (x17_1 ≤ (x5_1.length : Int)) = true := decide_eq_true (by omega)
        have c16b1 : decide (0 ≤ (wrap64 (x17_1 + 1))) = true := decide_eq_true (by omega)
        have c17b1 : decide (wrap64 (x17_1 + 1) ≤ (x5_1.length : Int)) = true := decide_eq_true (by omega)
        have ew2 : (wrap64 (x17_1 + 1)).toNat ≤ x5_1.length := by omega
        have EW := Aside0.mk ew2
        have E17 := Aside0.mk (show x17_1.toNat ≤ x5_1.length by omega)
        clear ew ew2
        obtain ⟨ji15, hji15⟩ : ∃ j_ : Int, (wrap64 (x17_1 + 1)) = j_ := ⟨_, rfl⟩
        rw [hji15] at H c16b1 c17b1 EW
        have hji15w : (IntKind.i64.wrap (x17_1 + 1)) = ji15 := (i64_w _).trans hji15
        obtain ⟨y758, hy758⟩ : ∃ y_ : List (S28), y_ = (x5_1.take (x17_1 : Int).toNat) := ⟨_, rfl⟩
        obtain ⟨y766, hy766⟩ : ∃ y_ : List (S28), y_ = (x5_1.drop ((ji15) : Int).toNat) := ⟨_, rfl⟩
        rw [← hy758, ← hy766] at H
        have Ny758 := Aside0.mk hy758
        have Ny766 := Aside0.mk hy766
        have hsum : y758.length + y766.length < 2199023255552 := by rw [hy758, hy766, List.length_take, List.length_drop]; omega
        have LMc18 := Aside0.mk hsum
        clear hy758 hy766 hsum c14
        obtain ⟨y771, hy771⟩ : ∃ y_ : List (S28), y_ = (y758 ++ y766) := ⟨_, rfl⟩
        rw [← hy771] at H
        have Ny771 := Aside0.mk hy771
        clear hy771
        replace H := Option.bind_eq_some_iff.mp H
        obtain ⟨⟨t774, t775, t776, t777, t778⟩, A190, H⟩ := H
        have A19 := Aside0.mk A190
        clear A190
        obtain ⟨y781, hy781⟩ : ∃ y_ : List (S28), y_ = (x5_1.set (x17_1 : Int).toNat (⟨t774, t775, t776, t777, t778⟩ : S28)) := ⟨_, rfl⟩
        replace H : (impl_ShrinkAll.l0 k1 a1 y781 (t749.length : Int) ji15) = some r := by rw [hy781]; exact H
        have Ny781 := Aside0.mk hy781
        clear hy781
        have H' := Aside0.mk H
        clear H c11 c10
        have HW := Aside0.mk (below_size HB.out)
        have HI := Aside0.mk (Below.refl wr.heap.size wr)
        have p753 : 0 ≤ (x17_1 : Int) := of_decide_eq_true az
        have q753 : x17_1 < (x5_1.length : Int) := of_decide_eq_true az
        obtain ⟨go10, co10, eo10, gb10, gl10, HG10⟩ := Kd.S_form HO_5.out (by omega)
        cases eo10
        have GB10 := Aside0.mk gb10
        have GL10 := Aside0.mk gl10
        clear gb10 gl10 HG10
        obtain ⟨_, ce10, hcl10, hM10, hcc10, hfr10, _, _⟩ := Kd.S_elem HO_5.out z28 (x17_1 : Int) p753 q753
        obtain ⟨ve10_4, rfl, ge10_4⟩ := k28_openM hM10
        obtain ⟨A753_4, c753_4, rfl⟩ := Kd.R_slice ge10_4
        have hx10_0 : wr.cell? ⟨go10, (x17_1 : Int).toNat * 5, none⟩ = some (.int .i64 ((rd_T28 x5_1 x17_1).f0)) := hcc10 0 _ rfl
        have hx10_1 : wr.cell? ⟨go10, (x17_1 : Int).toNat * 5 + 1, none⟩ = some (.int .i64 ((rd_T28 x5_1 x17_1).f1)) := hcc10 1 _ rfl
        have hx10_2 : wr.cell? ⟨go10, (x17_1 : Int).toNat * 5 + 2, none⟩ = some (.int .i64 ((rd_T28 x5_1 x17_1).f2)) := hcc10 2 _ rfl
        have hx10_3 : wr.cell? ⟨go10, (x17_1 : Int).toNat * 5 + 3, none⟩ = some (.string ((rd_T28 x5_1 x17_1).f3)) := hcc10 3 _ rfl
        have hx10_4 : wr.cell? ⟨go10, (x17_1 : Int).toNat * 5 + 4, none⟩ = some (.slice A753_4 ((rd_T28 x5_1 x17_1).f4).length c753_4) := hcc10 4 _ rfl
        have hf10_0 : wr.frozen? ⟨go10, (x17_1 : Int).toNat * 5, none⟩ = false := hfr10 0
        have hf10_1 : wr.frozen? ⟨go10, (x17_1 : Int).toNat * 5 + 1, none⟩ = false := hfr10 1
        have hf10_2 : wr.frozen? ⟨go10, (x17_1 : Int).toNat * 5 + 2, none⟩ = false := hfr10 2
        have hf10_3 : wr.frozen? ⟨go10, (x17_1 : Int).toNat * 5 + 3, none⟩ = false := hfr10 3
        have hf10_4 : wr.frozen? ⟨go10, (x17_1 : Int).toNat * 5 + 4, none⟩ = false := hfr10 4
        have HR753_4 := Aside0.mk (show Kd.C k77 wr A753_4 ((rd_T28 x5_1 x17_1).f4).length ((rd_T28 x5_1 x17_1).f4) from (Kd.R_reads' ge10_4).2.2)
        have HC753_4 := Aside0.mk (show ((rd_T28 x5_1 x17_1).f4).length ≤ c753_4 from (Kd.R_reads' ge10_4).2.1)
        clear hcl10 hcc10 hfr10 hM10 ge10_4
        replace p753 := eq_true p753
        replace q753 := eq_true q753
        try go_wp2_with (first | ((with_reducible refine gate_dst (N := 7) rfl ?_); refine box_event ?hg (N := 7) ?hd (cs := #[.int .i64 0, .int .i64 0, .int .i64 0, .string (⟨#[]⟩ : ByteArray), .slice none 0 0]) (t := 28) ?hr ?_; (case hd => rfl); (case hg => rfl); (case hr => first | (go_simp; done) | (go_simp; rfl)); intro gb754 hg w22 hbox hb; have n4_ := Aside0.mk (below_step (by repeat (first | (with_reducible first | exact HI.out | apply below_alloc | apply pw_below_drewN | apply below_drew1) | exact HI.out)) hb); have n5_ := Aside0.mk (hbox); have n6_ := Aside0.mk ((by rw [hg]; exact (below_size (by repeat (first | (with_reducible first | exact HI.out | apply below_alloc | apply pw_below_drewN | apply below_drew1) | exact HI.out))) : wr.heap.size ≤ gb754)); clear HI; have HI := n4_; have BK754 := n5_; have GE754 := n6_; clear n4_ n5_ n6_; clear hb hbox hg; have hcz23_0 : w22.cell? ⟨gb754, 0, none⟩ = some (.int .i64 0) := (blk_cell BK754.out 0).trans rfl; have hfz23_0 := blk_frozen BK754.out 0; have hcz23_1 : w22.cell? ⟨gb754, 1, none⟩ = some (.int .i64 0) := (blk_cell BK754.out 1).trans rfl; have hfz23_1 := blk_frozen BK754.out 1; have hcz23_2 : w22.cell? ⟨gb754, 2, none⟩ = some (.int .i64 0) := (blk_cell BK754.out 2).trans rfl; have hfz23_2 := blk_frozen BK754.out 2; have hcz23_3 : w22.cell? ⟨gb754, 3, none⟩ = some (.string (⟨#[]⟩ : ByteArray)) := (blk_cell BK754.out 3).trans rfl; have hfz23_3 := blk_frozen BK754.out 3; have hcz23_4 : w22.cell? ⟨gb754, 4, none⟩ = some (.slice none 0 0) := (blk_cell BK754.out 4).trans rfl; have hfz23_4 := blk_frozen BK754.out 4))
        have n3_ : Aside0 ((((((w22.setCell ⟨gb754, 0, none⟩ (.int .i64 ((rd_T28 x5_1 x17_1).f0))).setCell ⟨gb754, 1, none⟩ (.int .i64 ((rd_T28 x5_1 x17_1).f1))).setCell ⟨gb754, 2, none⟩ (.int .i64 ((rd_T28 x5_1 x17_1).f2))).setCell ⟨gb754, 3, none⟩ (.string ((rd_T28 x5_1 x17_1).f3))).setCell ⟨gb754, 4, none⟩ (.slice A753_4 ((rd_T28 x5_1 x17_1).f4).length c753_4)).heap[gb754]? = some (.cells #[.int .i64 ((rd_T28 x5_1 x17_1).f0), .int .i64 ((rd_T28 x5_1 x17_1).f1), .int .i64 ((rd_T28 x5_1 x17_1).f2), .string ((rd_T28 x5_1 x17_1).f3), .slice A753_4 ((rd_T28 x5_1 x17_1).f4).length c753_4] 28 (0, 0))) := ⟨by refine blk_put (cs := #[.int .i64 ((rd_T28 x5_1 x17_1).f0), .int .i64 ((rd_T28 x5_1 x17_1).f1), .int .i64 ((rd_T28 x5_1 x17_1).f2), .string ((rd_T28 x5_1 x17_1).f3), .slice none 0 0]) ?_ 4 _ rfl; refine blk_put (cs := #[.int .i64 ((rd_T28 x5_1 x17_1).f0), .int .i64 ((rd_T28 x5_1 x17_1).f1), .int .i64 ((rd_T28 x5_1 x17_1).f2), .string (⟨#[]⟩ : ByteArray), .slice none 0 0]) ?_ 3 _ rfl; refine blk_put (cs := #[.int .i64 ((rd_T28 x5_1 x17_1).f0), .int .i64 ((rd_T28 x5_1 x17_1).f1), .int .i64 0, .string (⟨#[]⟩ : ByteArray), .slice none 0 0]) ?_ 2 _ rfl; refine blk_put (cs := #[.int .i64 ((rd_T28 x5_1 x17_1).f0), .int .i64 0, .int .i64 0, .string (⟨#[]⟩ : ByteArray), .slice none 0 0]) ?_ 1 _ rfl; refine blk_put (cs := #[.int .i64 0, .int .i64 0, .int .i64 0, .string (⟨#[]⟩ : ByteArray), .slice none 0 0]) ?_ 0 _ rfl; exact BK754.out⟩
        have n4_ : Aside0 (Below wr.heap.size wr (((((w22.setCell ⟨gb754, 0, none⟩ (.int .i64 ((rd_T28 x5_1 x17_1).f0))).setCell ⟨gb754, 1, none⟩ (.int .i64 ((rd_T28 x5_1 x17_1).f1))).setCell ⟨gb754, 2, none⟩ (.int .i64 ((rd_T28 x5_1 x17_1).f2))).setCell ⟨gb754, 3, none⟩ (.string ((rd_T28 x5_1 x17_1).f3))).setCell ⟨gb754, 4, none⟩ (.slice A753_4 ((rd_T28 x5_1 x17_1).f4).length c753_4))) := ⟨by repeat (first | (with_reducible first | exact HI.out | apply below_alloc | apply pw_below_drewN | apply below_drew1 | refine below_set ?_ GE754.out) | exact HI.out)⟩
        (try clear BK754)
        (try clear HI)
        generalize (((((w22.setCell ⟨gb754, 0, none⟩ (.int .i64 ((rd_T28 x5_1 x17_1).f0))).setCell ⟨gb754, 1, none⟩ (.int .i64 ((rd_T28 x5_1 x17_1).f1))).setCell ⟨gb754, 2, none⟩ (.int .i64 ((rd_T28 x5_1 x17_1).f2))).setCell ⟨gb754, 3, none⟩ (.string ((rd_T28 x5_1 x17_1).f3))).setCell ⟨gb754, 4, none⟩ (.slice A753_4 ((rd_T28 x5_1 x17_1).f4).length c753_4)) = w24 at n3_ n4_ ⊢
        have BK754 := n3_
        have HI := n4_
        clear n3_ n4_
        have n3_ := Aside0.mk (blk_drew BK754.out)
        have n4_ := Aside0.mk (below_drew1 HI.out)
        clear BK754 HI
        have BK754 := n3_
        have HI := n4_
        clear n3_ n4_
        have hF0 : Kd.F k28 wr (fun k_ => k_ < wr.heap.size) (some ⟨go10, 0, none⟩) x5_1.length x5_1 := Kd.F_mono (Kd.F_bound (Kd.N_F (Kd.S_N HO_5.out))) (fun _ hk => hk.2)
        obtain ⟨i026, hi026, _, hsz26, _⟩ := info_parts info28
        have hroom26 : x5_1.length ≤ co8 := (Kd.S_reads' HO_5.out).2.1
        have q26 : (x17_1 : Int) ≤ ((x5_1.length : Int) : Int) := of_decide_eq_true az
        have hcut26 := cut_to (P := Try.prog) 38 28 .i64 Try.underlying38 hi026 (some ⟨go10, 0, none⟩) x5_1.length co8 x17_1 (of_decide_eq_true az) q26 hroom26
        have hr26 := Kd.F_take (m := (x17_1 : Int).toNat) hF0 (by omega)
        have hy26 : y758.length = (x17_1 : Int).toNat := (by rw [Ny758.out, List.length_take]; omega)
        rw [← Ny758.out] at hr26
        rw [← hy26] at hcut26
        have HF758 := Aside0.mk hr26
        have HC762 := Aside0.mk (show y758.length ≤ co8 from by omega)
        clear hr26
        have KY26 := Aside0.mk hy26
        clear hy26
        replace q26 := eq_true q26
        have q27 : ((ji15) : Int) ≤ ((x5_1.length : Int) : Int) := of_decide_eq_true az
        have q027 : (0 : Int) ≤ ((ji15) : Int) := of_decide_eq_true az
        have hcut27 := cut_from (P := Try.prog) 38 28 .i64 Try.underlying38 hi026 5 hsz26 (some ⟨go10, 0, none⟩) x5_1.length co8 (ji15) q027 q27
        have hr27 := Kd.F_cut (m := ((ji15) : Int).toNat) (c := co8) hF0 (by omega) hroom26
        obtain ⟨A27, hA27⟩ : ∃ A1, A1 = (if co8 = ((ji15) : Int).toNat then (some ⟨go10, 0, none⟩) else ((some ⟨go10, 0, none⟩) : Option Addr).map (·.add (((ji15) : Int).toNat * 5))) := ⟨_, rfl⟩
        obtain ⟨c27, hc27⟩ : ∃ c1, c1 = co8 - ((ji15) : Int).toNat := ⟨_, rfl⟩
        have hy27 : y766.length = x5_1.length - ((ji15) : Int).toNat := (by rw [Ny766.out, List.length_drop] <;> omega)
        rw [show (x5_1).drop ((ji15) : Int).toNat = y766 from Ny766.out.symm] at hr27
        replace hr27 : Kd.F k28 wr _ A27 y766.length y766 := (by rw [hA27]; exact hr27)
        rw [← hy27, ← hA27, ← hc27] at hcut27
        have HF766 := Aside0.mk hr27
        have HC770 := Aside0.mk (show y766.length ≤ c27 from by rw [hy27, hc27]; exact Nat.sub_le_sub_right hroom26 _)
        clear hr27 hF0 hroom26 hi026 hsz26 hc27
        have KY27 := Aside0.mk hy27
        have KA27 := Aside0.mk hA27
        clear hy27 hA27
        replace q27 := eq_true q27
        refine start_ (n := 11) (S := fun w' => True) (ds := []) #[F,F,F,F,F,F,F,F,F,F,F] (by kernel_rfl) rfl rfl trivial (fun hHeld => ?_); refine with_tabW impl_ShrinkAll.tab7 impl_ShrinkAll.bits7 (fun HT_ HW_ => ?_)
        generalize w24.drew = w25 at BK754 HI hHeld ⊢
        have n5_ := Aside0.mk (Kd.F_mono (Kd.F_bound (Kd.F_below HF758.out HI.out)) (ok' := fun k_ => k_ < w25.heap.size) (fun _ hk => hk.2))
        have n6_ := Aside0.mk (Kd.F_mono (Kd.F_bound (Kd.F_below HF766.out HI.out)) (ok' := fun k_ => k_ < w25.heap.size) (fun _ hk => hk.2))
        clear HF758 HF766
        have HF758 := n5_
        have HF766 := n6_
        clear n5_ n6_
        have HJ := Aside0.mk (Below.refl w25.heap.size w25)
        refine pz HT_ 1 23 ?_
        refine pz HT_ 2 24 ?_
        refine pz HT_ 3 25 ?_
        refine pz HT_ 5 27 ?_
        refine pz HT_ 6 28 ?_
        refine pz HT_ 7 29 ?_
        refine pz HT_ 8 30 ?_
        refine oz HT_ 0 (some 22) (fun K hK => ?_)
        refine Kd.N_lit_step k28 _ 28 ?hg (N' := 22) ?hd (xs := ([] : List (S28))) (inner := []) (ok := fun _ => True) (okp := fun _ => True) ?hr ?hp (fun _ hk => hk) trivial (Below.refl _ _) (Nat.le_refl _) (by simp) ?_; (case hd => rfl); (case hg => rfl); (case hr => first | (go_simp; done) | (go_simp; rfl)); (case hp => exact (Reps.none _ _))
        intro v756 w28 ho hb hg_ hnew_
        clear hg_ hnew_ HJ
        have HOo := Aside0.mk ho
        have HJ := Aside0.mk hb
        clear hb ho
        refine hK.out _ _ trivial (fun hHeld => ?_)
        clear hK K
        refine nz 22 ?_
        refine oz HT_ 4 (some 26) (fun K hK => ?_)
        refine Kd.N_append_rows_step k28 (w0 := w25) w25.heap.size (by rfl) (.tmp 22) (.tmp 25) 38 28 (.agg #[(.int .i64 0), (.int .i64 0), (.int .i64 0), (.string ⟨#[]⟩), (.slice none 0 0)]) 64 rfl Try.underlying38 info28 rfl (by decide) (by omega) v756 ([] : List S28) y758 _ _ _ (fun _ => True) (fun k_ => k_ < w25.heap.size) rfl rfl ?aO ?aR (fun k_ hk => ⟨trivial, fun e_ => Nat.lt_irrefl _ (Nat.lt_of_lt_of_le hk (Kd.N_base HOo.out k_ e_.symm))⟩) ?aF ?aB ?aS ?aL ?_
        (case aR => exact Kd.F_below HF758.out HJ.out)
        (case aB => exact HJ.out)
        (case aF => exact (fun _ _ => trivial))
        (case aO => exact HOo.out)
        (case aS => exact (below_size HJ.out))
        (case aL => exact (by have := LMc18.out; simp; omega))
        intro v764 w30 ho hb hg hat
        rw [List.nil_append] at ho
        clear hg hat HOo HJ
        have HOo := Aside0.mk ho
        have HJ := Aside0.mk hb
        clear ho hb
        refine hK.out _ _ trivial (fun hHeld => ?_)
        clear hK K
        refine nz 26 ?_
        refine oz HT_ 9 (some 31) (fun K hK => ?_)
        refine Kd.N_append_rows_step k28 (w0 := w25) w25.heap.size (by rfl) (.tmp 26) (.tmp 30) 38 28 (.agg #[(.int .i64 0), (.int .i64 0), (.int .i64 0), (.string ⟨#[]⟩), (.slice none 0 0)]) 64 rfl Try.underlying38 info28 rfl (by decide) (by omega) v764 y758 y766 _ _ _ (fun _ => True) (fun k_ => k_ < w25.heap.size) rfl rfl ?aO ?aR (fun k_ hk => ⟨trivial, fun e_ => Nat.lt_irrefl _ (Nat.lt_of_lt_of_le hk (Kd.N_base HOo.out k_ e_.symm))⟩) ?aF ?aB ?aS ?aL ?_
        (case aR => exact Kd.F_below HF766.out HJ.out)
        (case aB => exact HJ.out)
        (case aF => exact (fun _ _ => trivial))
        (case aO => exact HOo.out)
        (case aS => exact (below_size HJ.out))
        (case aL => exact (by have := LMc18.out; omega))
        intro v772 w31 ho hb hg hat
        rw [← Ny771.out] at ho
        clear hg hat HOo HJ
        have HOo := Aside0.mk ho
        have HJ := Aside0.mk hb
        clear ho hb
        refine hK.out _ _ trivial (fun hHeld => ?_)
        clear hK K
        refine nz 31 ?_
        refine pz HT_ 10 8 ?_
        refine dz HT_ ?_
        have n5_ := Aside0.mk (blk_below (g := gb754) (o := .cells #[.int .i64 ((rd_T28 x5_1 x17_1).f0), .int .i64 ((rd_T28 x5_1 x17_1).f1), .int .i64 ((rd_T28 x5_1 x17_1).f2), .string ((rd_T28 x5_1 x17_1).f3), .slice A753_4 ((rd_T28 x5_1 x17_1).f4).length c753_4] 28 (0, 0)) BK754.out HJ.out)
        have n6_ := Aside0.mk (below_step HI.out HJ.out)
        clear BK754 HI HF758 HF766
        have BK754 := n5_
        have HI := n6_
        clear n5_ n6_
        have hcz32_0 : w31.cell? ⟨gb754, 0, none⟩ = some (.int .i64 ((rd_T28 x5_1 x17_1).f0)) := (blk_cell BK754.out 0).trans rfl
        have hfz32_0 := blk_frozen BK754.out 0
        have hcz32_1 : w31.cell? ⟨gb754, 1, none⟩ = some (.int .i64 ((rd_T28 x5_1 x17_1).f1)) := (blk_cell BK754.out 1).trans rfl
        have hfz32_1 := blk_frozen BK754.out 1
        have hcz32_2 : w31.cell? ⟨gb754, 2, none⟩ = some (.int .i64 ((rd_T28 x5_1 x17_1).f2)) := (blk_cell BK754.out 2).trans rfl
        have hfz32_2 := blk_frozen BK754.out 2
        have hcz32_3 : w31.cell? ⟨gb754, 3, none⟩ = some (.string ((rd_T28 x5_1 x17_1).f3)) := (blk_cell BK754.out 3).trans rfl
        have hfz32_3 := blk_frozen BK754.out 3
        have hcz32_4 : w31.cell? ⟨gb754, 4, none⟩ = some (.slice A753_4 ((rd_T28 x5_1 x17_1).f4).length c753_4) := (blk_cell BK754.out 4).trans rfl
        have hfz32_4 := blk_frozen BK754.out 4
        obtain ⟨Ao33, co33, eo33⟩ := Kd.N_slice HOo.out
        subst eo33
        try go_wp2_with (first | ((with_reducible refine gate_callee (f := 21) rfl ?_); refine goesL_ (some 37) rfl rfl Try.func21 (by kernel_rfl) rfl #[.agg #[.int .i64 ((rd_T28 x5_1 x17_1).f0), .int .i64 ((rd_T28 x5_1 x17_1).f1), .int .i64 ((rd_T28 x5_1 x17_1).f2), .string ((rd_T28 x5_1 x17_1).f3), .slice A753_4 ((rd_T28 x5_1 x17_1).f4).length c753_4], .slice Ao33 y771.length co33, .int .i64 a1] rfl (by (try simp only [List.map_toArray, List.map_cons, List.map_nil]); first | done | rfl) ?_; (with_reducible refine (impl_ShrinkFeature.calls k1 ((rd_T28 x5_1 x17_1).f0) ((rd_T28 x5_1 x17_1).f1) ((rd_T28 x5_1 x17_1).f2) ((rd_T28 x5_1 x17_1).f3) _ _ ((rd_T28 x5_1 x17_1).f4) _ _ y771 a1 t774 t775 t776 t777 t778 _ ?side1 ?side2 ?side3 ?side4 A19.out).mono ?_); (case side1 => repeat (first | exact (Kd.C_below HR753_4.out HI.out) | (with_reducible refine Kd.C_alloc ?_ _) | (with_reducible refine Kd.C_drewN ?_ _) | (with_reducible refine Kd.C_drew ?_))); (case side2 => exact HC753_4.out); (case side3 => repeat (first | exact (Kd.N_reads' HOo.out).2.2 | (with_reducible refine Kd.C_alloc ?_ _) | (with_reducible refine Kd.C_drewN ?_ _) | (with_reducible refine Kd.C_drew ?_))); (case side4 => exact (Kd.N_reads' HOo.out).2.1); rintro e w34 ⟨v130, rfl, ho0, hb⟩; refine ⟨_, rfl, ?_⟩; have HJ2 := Aside0.mk (below_step HI.out hb); have HX12 := Aside0.mk (show Kd.S k28 28 w34 w.heap.size (fun k_ => ((fun _ => True)) k_ ∧ ¬ ((fun k_ => wr.heap.size ≤ k_)) k_) (.slice (some ⟨go10, 0, none⟩) x5_1.length co8) x5_1 from Kd.S_mono (Kd.S_below (Kd.S_bound HO_5.out) HJ2.out) (fun k_ hk => ⟨trivial, Nat.not_le.mpr hk.2.2.1⟩)); obtain ⟨oki12, ce12, hcl12, hM12, hcc12, hfr12, hoki12, hH12⟩ := Kd.S_elem HX12.out z28 (x17_1 : Int) (of_decide_eq_true az) (of_decide_eq_true az : x17_1 < (x5_1.length : Int)); obtain ⟨ve12_4, rfl, ge12_4⟩ := k28_openM hM12; have HP12 := Aside0.mk (Kd.S_seg hH12 (of_decide_eq_true az) (of_decide_eq_true az : x17_1 < (x5_1.length : Int)) (seg := [.int .i64 t774, .int .i64 t775, .int .i64 t776, .string t777, v130]) (j := 0) (show 5 ≤ 5 from by decide) (x' := (⟨t774, t775, t776, t777, t778⟩ : S28)) (k28_mkM _ _ _ (⟨t774, t775, t776, t777, t778⟩ : S28) (Kd.R_lower (Kd.R_mono (Kd.R_bound ho0) (ok' := fun k_ => False ∨ wr.heap.size ≤ k_) (fun k_ hk => .inr (Nat.le_trans (below_size HI.out) hk.2.1))) (Nat.le_trans HW.out (below_size HI.out)))) (fun _ hk => hk.elim (fun h => h.elim) .inr) (fun k_ hk_ => ⟨trivial, fun e_ => Nat.lt_irrefl _ (Nat.lt_of_lt_of_le GL10.out (e_ ▸ hk_))⟩)); have hx12_0 := hcc12 0 _ rfl; (try simp only [show (k28).sz = 5 from rfl, Nat.mul_one, Nat.add_zero] at hx12_0); have hf12_0 := hfr12 0; (try simp only [show (k28).sz = 5 from rfl, Nat.mul_one, Nat.add_zero] at hf12_0); have hx12_1 := hcc12 1 _ rfl; (try simp only [show (k28).sz = 5 from rfl, Nat.mul_one, Nat.add_zero] at hx12_1); have hf12_1 := hfr12 1; (try simp only [show (k28).sz = 5 from rfl, Nat.mul_one, Nat.add_zero] at hf12_1); have hx12_2 := hcc12 2 _ rfl; (try simp only [show (k28).sz = 5 from rfl, Nat.mul_one, Nat.add_zero] at hx12_2); have hf12_2 := hfr12 2; (try simp only [show (k28).sz = 5 from rfl, Nat.mul_one, Nat.add_zero] at hf12_2); have hx12_3 := hcc12 3 _ rfl; (try simp only [show (k28).sz = 5 from rfl, Nat.mul_one, Nat.add_zero] at hx12_3); have hf12_3 := hfr12 3; (try simp only [show (k28).sz = 5 from rfl, Nat.mul_one, Nat.add_zero] at hf12_3); have hx12_4 := hcc12 4 _ rfl; (try simp only [show (k28).sz = 5 from rfl, Nat.mul_one, Nat.add_zero] at hx12_4); have hf12_4 := hfr12 4; (try simp only [show (k28).sz = 5 from rfl, Nat.mul_one, Nat.add_zero] at hf12_4); clear hcl12 hcc12 hfr12 hM12 hoki12 hH12; have HS12_4 : ∀ (a_ : Addr) (m_ : Mode) (W_ : World), (store a_ (v130) m_).run Try.prog W_ = stored Try.prog W_ a_ (v130) m_ := by (obtain ⟨_, _, e_⟩ := Kd.R_slice ho0); intro a_ m_ W_; rw [e_]; exact run_store _ _ _ _ _ rfl) | ((with_reducible refine gate_store (t := 28) (p := 38) rfl ?_); refine store_event (t := 28) (p := 38) (v := ?vo_w13) (w1 := (((((w34.setCell ⟨go10, (x17_1 : Int).toNat * 5, none⟩ (.int .i64 t774)).setCell ⟨go10, (x17_1 : Int).toNat * 5 + 1, none⟩ (.int .i64 t775)).setCell ⟨go10, (x17_1 : Int).toNat * 5 + 2, none⟩ (.int .i64 t776)).setCell ⟨go10, (x17_1 : Int).toNat * 5 + 3, none⟩ (.string t777)).setCell ⟨go10, (x17_1 : Int).toNat * 5 + 4, none⟩ (v130))) ?hg ?ho ?hn ?hr ?_; (case ho => rfl); (case hg => rfl); (case hn => rfl); (case hr => first | (go_simp; done) | (go_simp; rfl)); intro w13 hw; have n0_ := Aside0.mk (show Kd.S k28 28 w13 w.heap.size (fun _ => True) (.slice (some ⟨go10, 0, none⟩) x5_1.length co8) y781 from (by rw [hw, Ny781.out]; exact HP12.out.1)); have n1_ := Aside0.mk ((by rw [hw]; exact below_set (below_set (below_set (below_set (below_set (below_step HB.out HJ2.out) GB10.out) GB10.out) GB10.out) GB10.out) GB10.out : Below w.heap.size w w13)); clear HO_5 HB; have HO_5 := n0_; have HB := n1_; clear n0_ n1_; clear hw))
        (try simp only [← hl5_1])
        go_roundg k1
        case measure => have := HK1.out; omega
        case rel => exact ⟨(y781), (ji15), (by first | rfl | (simp; done) | (simp only [← hji15] <;> (first | rfl | simp)) | (simp [*]; done)), H', ⟨by have := HK1.out; omega⟩, ⟨by (try simp only [hl5_1]); (with_reducible repeat (first | apply Kd.S_alloc | apply Kd.S_drewN | apply Kd.S_drew)); exact HO_5.out⟩, ⟨by repeat (first | (with_reducible first | exact HB.out | apply below_alloc | apply pw_below_drewN | apply below_drew1) | exact HB.out)⟩⟩
       ·rw [if_neg c14] at H
        exact absurd H (by simp)
      ·rw [if_neg c11] at H
       exact absurd H (by simp)
     ·rw [if_neg c10] at H
      exact absurd H (by simp)
    ·rw [if_neg c9] at H
     have c9b0 : decide (x17_1 < (t749.length : Int)) = false := decide_eq_false c9
     (try (have c9b0e_hl5_1 := c9b0; simp only [hl5_1] at c9b0e_hl5_1))
     clear c9
     obtain rfl := Option.some.inj H
     go_wp2
     go_ret
     exact ⟨_, ez, by (with_reducible repeat (first | apply Kd.S_alloc | apply Kd.S_drewN | apply Kd.S_drew)); exact HO_5.out, by repeat (first | (with_reducible first | exact HB.out | apply below_alloc | apply pw_below_drewN | apply below_drew1) | exact HB.out)⟩
 ·replace c5 := Bool.eq_false_iff.mpr c5
  subst c5
  have H1 : (some t749) = some r := by rw [if_neg (show ¬ (false = true) by decide)] at H; exact H
  clear H
  obtain rfl := Option.some.inj H1
  go_enter Try.func24, Try.ntmps24
  go_wp2_with (first | ((with_reducible refine gate_callee (f := 55) rfl ?_); refine goesL_ (some 10) rfl rfl Try.func55 (by kernel_rfl) rfl #[.slice A0 l0.length c0] rfl (by (try simp only [List.map_toArray, List.map_cons, List.map_nil]); first | done | rfl) ?_; (with_reducible refine (impl_cloneSource.calls k _ _ l0 t749 _ ?side1 ?side2 A3.out).mono ?_); (case side1 => repeat (first | exact HR0.out | (with_reducible refine Kd.C_alloc ?_ _) | (with_reducible refine Kd.C_drewN ?_ _) | (with_reducible refine Kd.C_drew ?_))); (case side2 => exact HC0.out); rintro e w6 ⟨v750, rfl, ho0, hb⟩; refine ⟨_, rfl, ?_⟩; have n0_ := Aside0.mk (Kd.S_lower ho0 (below_size bz)); have n1_ := Aside0.mk (below_step bz hb); clear HB; have HO751 := n0_; have HB := n1_; clear n0_ n1_; clear hb ho0) | ((with_reducible refine gate_callee (f := 28) rfl ?_); refine goesL_ (some 12) rfl rfl Try.func28 (by kernel_rfl) rfl #[.slice A0 l0.length c0] rfl (by (try simp only [List.map_toArray, List.map_cons, List.map_nil]); first | done | rfl) ?_; (with_reducible refine (impl_IsSource.calls k _ _ l0 false _ ?side1 ?side2 A4.out).mono ?_); (case side1 => repeat (first | exact (Kd.C_below HR0.out HB.out) | (with_reducible refine Kd.C_alloc ?_ _) | (with_reducible refine Kd.C_drewN ?_ _) | (with_reducible refine Kd.C_drew ?_))); (case side2 => exact HC0.out); rintro e w7 ⟨rfl, hb⟩; refine ⟨_, rfl, ?_⟩; have n0_ := Aside0.mk (Kd.S_below (by (with_reducible repeat (first | apply Kd.S_alloc | apply Kd.S_drewN | apply Kd.S_drew)); exact HO751.out) hb); have n1_ := Aside0.mk (below_step bz hb); clear HO751; clear HB; have HO751 := n0_; have HB := n1_; clear n0_ n1_; clear hb))
  go_ret
  exact ⟨_, ez, by (with_reducible repeat (first | apply Kd.S_alloc | apply Kd.S_drewN | apply Kd.S_drew)); exact HO751.out, by repeat (first | (with_reducible first | exact HB.out | apply below_alloc | apply pw_below_drewN | apply below_drew1) | exact HB.out)⟩
set_option maxHeartbeats 8000000 in
set_option maxRecDepth 100000 in
theorem laws_FnExactShrinkAll.calls (k : Nat) (A0 : Option Addr) (c0 : Nat) (l0 : List (S24)) (a1 : Int) (r : Bool) (w : World) (hr0 : Kd.C k24 w A0 l0.length l0) (hc0 : l0.length ≤ c0) (h : laws_FnExactShrinkAll.f k l0 a1 = some r) :
    Calls Try.prog 6 #[.slice A0 l0.length c0, .int .i64 a1] w fun e w' => e = .returned (.bool r) ∧ Below w.heap.size w w' := by
  have HR0 := Aside0.mk hr0; have HC0 := Aside0.mk hc0; have HB := Aside0.mk (Below.refl w.heap.size w); clear hr0 hc0
  unfold laws_FnExactShrinkAll.f at h
  obtain ⟨left, hA1, h⟩ := Option.bind_eq_some_iff.mp h; have A1 := Aside0.mk hA1; clear hA1
  by_cases c1 : left < 0
  · rw [if_pos c1] at h; obtain rfl := Option.some.inj h; have c1b : decide (left < 0) = true := decide_eq_true c1; clear c1 h
    go_enter Try.func6, Try.ntmps6; go_wp2_with (fail); go_at_call 15; refine (laws_szFeatureS.calls k A0 c0 l0 1048576 left _ HR0.out HC0.out A1.out).mono ?_; rintro e w1 ⟨rfl, hb⟩; have HB1 := Aside0.mk hb; clear hb; go_wp2_with (fail); go_ret
    exact ⟨rfl, HB1.out⟩
  rw [if_neg c1] at h; have c1b : decide (left < 0) = false := decide_eq_false c1; clear c1; obtain ⟨x, hA2, h⟩ := Option.bind_eq_some_iff.mp h; obtain ⟨s, hA3, h⟩ := Option.bind_eq_some_iff.mp h; obtain ⟨g, hA4, h⟩ := Option.bind_eq_some_iff.mp h; obtain ⟨e1, hA5, h⟩ := Option.bind_eq_some_iff.mp h; obtain ⟨e2, hA6, h⟩ := Option.bind_eq_some_iff.mp h; obtain ⟨q, hA7, h⟩ := Option.bind_eq_some_iff.mp h
  by_cases hc : e1 = true ∧ e2 = true ∧ 1 + (mfT x : Int) < 4611686018427387904 ∧ 1 + (mfT g : Int) < 4611686018427387904 ∧ q = 1 + (mfT g : Int)
  case neg => rw [if_neg hc] at h; cases h
  rw [if_pos hc] at h; obtain rfl := Option.some.inj h; obtain ⟨rfl, rfl, hmx, hmg, rfl⟩ := hc; have A2 := Aside0.mk hA2; have A3 := Aside0.mk hA3; have A4 := Aside0.mk hA4; have A5 := Aside0.mk hA5; have A6 := Aside0.mk hA6; have A7 := Aside0.mk hA7; have MX := Aside0.mk hmx; have MG := Aside0.mk hmg; clear h hA2 hA3 hA4 hA5 hA6 hA7 hmx hmg; have k1 : decide (1 + (mfT x : Int) < 0) = false := decide_eq_false (by omega); have k2 : decide (1 + (mfT g : Int) < 0) = false := decide_eq_false (by omega)
  go_enter Try.func6, Try.ntmps6; go_wp2_with (fail); go_at_call 15; refine (laws_szFeatureS.calls k A0 c0 l0 1048576 left _ HR0.out HC0.out A1.out).mono ?_; rintro e w1 ⟨rfl, hb⟩; have HB1 := Aside0.mk hb; clear hb; go_wp2_with (fail); go_at_call 17; refine (laws_toFeatureS.calls k A0 c0 l0 x _ (Kd.C_below HR0.out HB1.out) HC0.out A2.out).mono ?_; rintro e w2 ⟨v2, rfl, ho2, hb2⟩; obtain ⟨X2, d2, e2⟩ := Kd.S_slice ho2; subst e2; have R2 := Aside0.mk (Kd.S_reads' ho2).2; have HB2 := Aside0.mk (below_step HB1.out hb2); clear ho2 hb2; go_wp2_with (fail); go_at_call 23; refine (spec_ShrinkAll.calls k X2 d2 x a1 s _ R2.out.2 R2.out.1 A3.out).mono ?_; rintro e w3 ⟨v3, rfl, ho3, hb3⟩; obtain ⟨X3, d3, e3⟩ := Kd.N_slice ho3; subst e3; have L3 := Aside0.mk (Kd.N_reads' ho3).2.1; have F3 := Aside0.mk (Kd.F_mono (Kd.F_bound (Kd.N_F ho3)) (ok' := fun k_ => k_ < w3.heap.size) (fun _ hk => hk.2)); have HB3 := Aside0.mk (below_step HB2.out hb3); clear ho3 hb3 R2; go_wp2_with (fail); go_at_call 17; refine (laws_toFeatureS.calls k A0 c0 l0 x _ (Kd.C_below HR0.out HB3.out) HC0.out A2.out).mono ?_; rintro e w4 ⟨v4, rfl, ho4, hb4⟩; obtain ⟨X4, d4, e4⟩ := Kd.S_slice ho4; subst e4; have S4 := Aside0.mk (Kd.S_mono (Kd.S_bound ho4) (ok' := fun k_ => w3.heap.size ≤ k_ ∧ k_ < w4.heap.size) (fun _ hk => And.intro hk.2.1 hk.2.2.1)); have HX := Aside0.mk hb4; clear ho4 hb4; go_wp2_with (fail); go_at_call 24; refine (impl_ShrinkAll.calls k X4 d4 x a1 g _ (Kd.S_reads' S4.out).2.2 (Kd.S_reads' S4.out).2.1 A4.out).mono ?_
  rintro e w5 ⟨v5, rfl, ho5, hb5⟩; obtain ⟨X5, d5, e5⟩ := Kd.S_slice ho5; subst e5; have S5 := Aside0.mk (Kd.S_mono (Kd.S_bound ho5) (ok' := fun k_ => w4.heap.size ≤ k_ ∧ k_ < w5.heap.size) (fun _ hk => And.intro hk.2.1 hk.2.2.1)); have T4 := Aside0.mk (Kd.S_below S4.out hb5); have T3 := Aside0.mk (Kd.F_below (Kd.F_below F3.out HX.out) hb5); have HY := Aside0.mk (below_step HX.out hb5); clear ho5 hb5 S4 F3; have SZ4 := Aside0.mk (below_size HX.out); clear HX; go_wp2_with (fail); go_at_call 19; refine (laws_eqFeatureS.calls k X5 d5 g X3 d3 s true _ (Kd.S_reads' S5.out).2.2 (Kd.S_reads' S5.out).2.1 (Kd.F_now T3.out) L3.out A5.out).mono ?_; rintro e w6 ⟨rfl, hb6⟩; have U5 := Aside0.mk (Kd.S_below S5.out hb6); have U4 := Aside0.mk (Kd.S_below T4.out hb6); have U3 := Aside0.mk (Kd.F_below T3.out hb6); have HX := Aside0.mk (below_step HY.out hb6); clear hb6 S5 T4 T3 HY; go_wp2_with (fail); go_at_call 17; refine (laws_toFeatureS.calls k A0 c0 l0 x _ (Kd.C_below HR0.out (below_step HB3.out HX.out)) HC0.out A2.out).mono ?_; rintro e w7 ⟨v7, rfl, ho7, hb7⟩; obtain ⟨X7, d7, e7⟩ := Kd.S_slice ho7; subst e7; have R7 := Aside0.mk (Kd.S_reads' ho7).2; have S5 := Aside0.mk (Kd.S_below U5.out hb7); have S4 := Aside0.mk (Kd.S_below U4.out hb7); have S3 := Aside0.mk (Kd.F_below U3.out hb7); have HY := Aside0.mk (below_step HX.out hb7); clear ho7 hb7 U5 U4 U3 HX; go_wp2_with (fail); go_at_call 19; refine (laws_eqFeatureS.calls k X4 d4 x X7 d7 x true _ (Kd.S_reads' S4.out).2.2 (Kd.S_reads' S4.out).2.1 R7.out.2 R7.out.1 A6.out).mono ?_
  rintro e w8 ⟨rfl, hb8⟩; have U5 := Aside0.mk (Kd.S_below S5.out hb8); have U4 := Aside0.mk (Kd.S_below S4.out hb8); have U3 := Aside0.mk (Kd.F_below S3.out hb8); have HX := Aside0.mk (below_step HY.out hb8); clear hb8 S5 S4 S3 HY R7; go_wp2_with (fail); go_at_call 22; refine (mfm_any (fun k_ => w3.heap.size ≤ k_ ∧ k_ < w4.heap.size) (.slice X4 x.length d4) x 1 w3 _ HX.out U4.out (by omega) MX.out).mono ?_; rintro e w9 ⟨rfl, hb9, hk9, _⟩; have S5 := Aside0.mk (Kd.S_step U5.out (fun k_ hk hlt => hk9.2 k_ hlt (fun h => by have h1 := hk.1; have h2 := h.2; omega))); have S3 := Aside0.mk (Kd.F_step U3.out (fun k_ hk hlt => hk9.2 k_ hlt (fun h => by have h1 := h.1; omega))); have HY := Aside0.mk hb9; clear hb9 hk9 U5 U4 U3 HX; go_wp2_with (fail); go_at_call 19; refine (laws_eqFeatureS.calls k X5 d5 g X3 d3 s true _ (Kd.S_reads' S5.out).2.2 (Kd.S_reads' S5.out).2.1 (Kd.F_now S3.out) L3.out A5.out).mono ?_; rintro e w10 ⟨rfl, hb10⟩; have U5 := Aside0.mk (Kd.S_below S5.out hb10); have U3 := Aside0.mk (Kd.F_below S3.out hb10); have HX := Aside0.mk (below_step HY.out hb10); clear hb10 S5 S3 HY; go_wp2_with (fail); go_at_call 22; refine (mfm_any (fun k_ => w4.heap.size ≤ k_ ∧ k_ < w5.heap.size) (.slice X5 g.length d5) g 1 w3 _ HX.out (Kd.S_lower U5.out SZ4.out) (by omega) MG.out).mono ?_; rintro e w11 ⟨rfl, hb11, hk11, A_, c_, e_, hl_, hC_⟩; obtain ⟨rfl, rfl⟩ : A_ = X5 ∧ c_ = d5 := by injection e_ with h1 h2 h3; exact ⟨h1.symm, h3.symm⟩
  have lM := mkL_len g 1; have C5 := Aside0.mk (show Kd.C k28 w11 A_ (mkL g 1).length (mkL g 1) from by rw [lM]; exact hC_); have L5 := Aside0.mk (show (mkL g 1).length ≤ c_ from by rw [lM]; exact hl_); have S3 := Aside0.mk (Kd.F_step U3.out (fun k_ hk hlt => hk11.2 k_ hlt (fun h => by have h1 := h.1; have h2 := SZ4.out; omega))); have HY := Aside0.mk hb11; clear hb11 hk11 e_ hl_ hC_ U5 U3 HX; rw [← lM]; clear lM; go_wp2_with (fail); go_at_call 25; refine (laws_heldFeatureS.calls k A_ c_ (mkL g 1) 1 (1 + (mfT g : Int)) _ C5.out L5.out A7.out).mono ?_; rintro e w12 ⟨rfl, hb12⟩; have D5 := Aside0.mk (Kd.C_below C5.out hb12); have U3 := Aside0.mk (Kd.F_below S3.out hb12); have HX := Aside0.mk (below_step HY.out hb12); clear hb12 C5 S3 HY; go_wp2_with (fail); go_at_call 17; refine (laws_toFeatureS.calls k A0 c0 l0 x _ (Kd.C_below HR0.out (below_step HB3.out HX.out)) HC0.out A2.out).mono ?_; rintro e w13 ⟨v13, rfl, ho13, hb13⟩; obtain ⟨X13, d13, e13⟩ := Kd.S_slice ho13; subst e13; have R13 := Aside0.mk (Kd.S_reads' ho13).2; have C5 := Aside0.mk (Kd.C_below D5.out hb13); have S3 := Aside0.mk (Kd.F_below U3.out hb13); have HY := Aside0.mk (below_step HX.out hb13); clear ho13 hb13 D5 U3 HX; go_wp2_with (fail); go_at_call 24; refine (impl_ShrinkAll.calls k X13 d13 x a1 g _ R13.out.2 R13.out.1 A4.out).mono ?_; rintro e w14 ⟨v14, rfl, ho14, hb14⟩; obtain ⟨X14, d14, e14⟩ := Kd.S_slice ho14; subst e14; have R14 := Aside0.mk (Kd.S_reads' ho14).2; have D5 := Aside0.mk (Kd.C_below C5.out hb14)
  have U3 := Aside0.mk (Kd.F_below S3.out hb14); have HX := Aside0.mk (below_step HY.out hb14); clear ho14 hb14 C5 S3 HY R13; go_wp2_with (fail); go_at_call 19; refine (laws_eqFeatureS.calls k X14 d14 g X3 d3 s true _ R14.out.2 R14.out.1 (Kd.F_now U3.out) L3.out A5.out).mono ?_; rintro e w15 ⟨rfl, hb15⟩; have C5 := Aside0.mk (Kd.C_below D5.out hb15); have HY := Aside0.mk (below_step HX.out hb15); clear hb15 D5 U3 HX R14; go_wp2_with (fail); go_at_call 25; refine (laws_heldFeatureS.calls k A_ c_ (mkL g 1) 1 (1 + (mfT g : Int)) _ C5.out L5.out A7.out).mono ?_; rintro e w16 ⟨rfl, hb16⟩; have HX := Aside0.mk (below_step HY.out hb16); clear hb16 C5 HY; go_wp2_with (fail); go_ret
  exact ⟨rfl, below_step HB3.out HX.out⟩
end
end Go.Proofs.Ytkebhlkbnnlegaa.PFnExactShrinkAll
