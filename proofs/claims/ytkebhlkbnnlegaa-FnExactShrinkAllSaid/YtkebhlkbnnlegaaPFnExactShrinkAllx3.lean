-- Written by a program of this session's (evlaw.py).
import Derived.Test.YtkebhlkbnnlegaaPFnExactShrinkAllx2
namespace Go.Proofs.Ytkebhlkbnnlegaa.PFnExactShrinkAll
open Go.RowKit Go.Proofs.YtkebhlkbnnlegaaW.PrintWords Go.Proofs.YtkebhlkbnnlegaaW.PrintLast Go.Proofs.YtkebhlkbnnlegaaW.PrintMore Go.Proofs.YtkebhlkbnnlegaaGeo Go.Proofs.YtkebhlkbnnlegaaHand Go.Proofs.YtkebhlkbnnlegaaMeet Go.Proofs.YtkebhlkbnnlegaaQuiet Go.Proofs.YtkebhlkbnnlegaaZ
open Go Go.Proofs.YtkebhlkbnnlegaaEv
attribute [local go_sem] max2_int min2_int max_two min_two max_three min_three max_four min_four   -- for this text's walks alone
set_option linter.unusedVariables false
set_option linter.unusedSimpArgs false



set_option linter.unusedSimpArgs false

attribute [local go_sem high] eqA77
set_option linter.unusedVariables false
set_option linter.unusedSimpArgs false
set_option maxRecDepth 100000
noncomputable section
def spec_DropCorner.toH (t : (List (S77)) × Bool) : HL eΓ [.l 77 (.st .s77), .b] := (t.1, t.2, ())
def spec_DropCorner.run (k : Nat) (h : HL eΓ [.l 77 (.st .s77), .i .i64]) : Option (HL eΓ [.l 77 (.st .s77), .b]) := (spec_DropCorner.f k (h.1 : List S77) (h.2.1 : Int)).map spec_DropCorner.toH
def spec_DropCorner.spec : Spc env := ⟨39, [.l 77 (.st .s77), .i .i64], [.l 77 (.st .s77), .b], spec_DropCorner.run⟩
def spec_DropCorner.ap {R : Type} (k : Nat) (h0 : List S77) (h1 : Int) (K : (List S77) → Bool → Option R) : Option R := (spec_DropCorner.run k (h0, h1, ())).bind fun r => K (r.1 : List S77) (r.2.1 : Bool)
theorem spec_DropCorner.ap_of {R : Type} {k : Nat} {h0 : List S77} {h1 : Int} {r0 : List S77} {r1 : Bool} {K : (List S77) → Bool → Option R} (h : spec_DropCorner.run k (h0, h1, ()) = some (r0, r1, ())) : spec_DropCorner.ap k h0 h1 K = K r0 r1 := by unfold spec_DropCorner.ap; rw [h]; rfl
theorem spec_DropCorner.go {k : Nat} {l0 : List S77} {a1 : Int} {t} (h : spec_DropCorner.f k l0 a1 = some t) (K : Nat) (hk : k ≤ K) : spec_DropCorner.run K (l0, a1, ()) = some (spec_DropCorner.toH t) := by
  show Option.map _ (spec_DropCorner.f K l0 a1) = _
  rw [leo_le (f := fun k => spec_DropCorner.f k l0 a1) (fun k => spec_DropCorner.mono l0 a1 k) hk h]; rfl
theorem spec_DropCorner.snd : Snd env spec_DropCorner.spec := ⟨⟨Try.f39, by kernel_rfl, by kernel_rfl, by kernel_rfl⟩, fun k h r he w us hA => by
  obtain ⟨t, ht, rfl⟩ := Option.map_eq_some_iff.1 (show (spec_DropCorner.f k (h.1 : List S77) (h.2.1 : Int)).map spec_DropCorner.toH = some r from he)
  match us, hA with
  | [u0, u1], ⟨q0, q1, _⟩ =>
  obtain ⟨A0, c0, e0, l0, g0⟩ := q0
  obtain rfl := List.singleton_inj.1 e0
  obtain rfl := List.singleton_inj.1 (show [u1] = [Value.int .i64 (h.2.1 : Int)] from q1)
  refine (spec_DropCorner.calls (w := w) (h := ht) (hr0 := g0) (hc0 := l0)).mono ?_
  rintro e w' ⟨v0_, he, hR, hw⟩
  exact ⟨_, he, hw, [v0_, .bool t.2], [fun _ => True, fun _ => False], rfl, ⟨⟨v0_, rfl, hR⟩, rfl, trivial⟩, by simp [DJ]⟩⟩
def spec_IsName.Fs : List (Spc env) := [spec_l1In.spec]
def spec_IsName.fin : St eΓ → Option (HL eΓ [.b]) := finR env Try.f70.results.toList [.b]
def spec_IsName.cut : Nat → Option (List (Lv SC)) := lk [(2, [⟨0, none, false⟩, ⟨3, none, false⟩])]
def spec_IsName.ret (r0 : Bool) : Option (HL eΓ [.b]) := some (r0, ())
def spec_IsName.p2 (k : Nat) (x0 : ByteArray) (x3 : Int) : Option (HL eΓ [.b]) := evM env spec_IsName.Fs Try.f70.ntmps spec_IsName.fin spec_IsName.cut k [.code (sub_ [1, 0, 1, 0, 0, 0, 0] (bodyOf Try.f70)), .code (sub_ [1, 0, 1, 0, 0, 0, 1] (bodyOf Try.f70)), .code (sub_ [1, 0, 1, 0, 0, 1] (bodyOf Try.f70)), .lp (sub_ [1, 0, 1, 0, 0] (bodyOf Try.f70)), .blk 0, .code (sub_ [1, 1] (bodyOf Try.f70))] (mkSt [(0, .c (.v (.string x0))), (3, .c (.v (.int .i64 x3)))] [])
theorem spec_IsName.e2 (k : Nat) (x0 : ByteArray) (x3 : Int) : spec_IsName.p2 (k + 1) x0 x3 = if x3 < (x0.size : Int) then (if 0 ≤ x3 then (if x3 < (x0.size : Int) then (if (bt x0 x3) < 97 then (spec_IsName.ret false) else (if 0 ≤ x3 then (if x3 < (x0.size : Int) then (if (bt x0 x3) > 122 then (spec_IsName.ret false) else (spec_IsName.p2 k x0 (wrap64 (x3 + 1)))) else none) else none)) else none) else none) else (spec_l1In.ap k (x0.size : Int) 1 8 fun r1 => spec_IsName.ret r1) := by kernel_rfl
def spec_IsName.run (k : Nat) (h : HL eΓ [.s]) : Option (HL eΓ [.b]) := evF env spec_IsName.Fs Try.f70 spec_IsName.cut [.s] [.b] k h
theorem spec_IsName.ef (k : Nat) (h0 : ByteArray) : spec_IsName.run k (h0, ()) = spec_IsName.p2 k h0 0 := by kernel_rfl
def spec_IsName.toH (t : Bool) : HL eΓ [.b] := (t, ())
def spec_IsName.spec : Spc env := ⟨70, [.s], [.b], spec_IsName.run⟩
def spec_IsName.ap {R : Type} (k : Nat) (h0 : ByteArray) (K : Bool → Option R) : Option R := (spec_IsName.run k (h0, ())).bind fun r => K (r.1 : Bool)
theorem spec_IsName.ap_of {R : Type} {k : Nat} {h0 : ByteArray} {r0 : Bool} {K : Bool → Option R} (h : spec_IsName.run k (h0, ()) = some (r0, ())) : spec_IsName.ap k h0 K = K r0 := by unfold spec_IsName.ap; rw [h]; rfl
theorem spec_IsName.snd : Snd env spec_IsName.spec := evF_snd env_ok (sndC spec_l1In.snd (sndN))
attribute [local irreducible] spec_IsName.run
theorem spec_IsName.rt (a0 : Bool) : spec_IsName.ret a0 = some (spec_IsName.toH (a0)) := rfl
theorem spec_IsName.br (n : Nat) : (∀ K, n ≤ K → ∀ (x0 : ByteArray) (x3 : Int) t, spec_IsName.l0 n x0 x3 = some t → spec_IsName.p2 K x0 x3 = some (spec_IsName.toH t)) := by
  induction n using Nat.strongRecOn with
  | _ n ih =>
  intro K hK x0 x3 t h
  all_goals (rcases n with _ | k)
  all_goals (try (exact nos h))
  all_goals (obtain ⟨K, rfl⟩ : ∃ q, K = q + 1 := ⟨K - 1, by omega⟩)
  all_goals (first | rw [spec_IsName.e2])
  all_goals (simp only [spec_IsName.l0] at h)
  repeat' (with_reducible first
   | exact nos h
   | (cases some_inj h; exact spec_IsName.rt _)
   | exact (ih _ (by omega)) _ (by omega) _ _ _ h
   | (simp only [Option.bind_some] at h)
   | (refine ite_by h ?_ ?_ <;> (intro hc h; (try simp only [nrm] at hc)))
   | refine itT ?_
   | refine itF ?_
   | (refine bind_by h (fun t ht h => ?_); refine (spec_l1In.ap_of (spec_l1In.go ht _)).trans ?_; (try dsimp only at h ⊢))
   | (simp only [nr2] at h ⊢)
   | (exfalso; omega))
theorem spec_IsName.go {k : Nat} {a0 : ByteArray} {t} (h : spec_IsName.f k a0 = some t) (K : Nat) (hK : k ≤ K) : spec_IsName.run K (a0, ()) = some (spec_IsName.toH t) := by
  rw [spec_IsName.ef]
  (try dsimp only)
  unfold spec_IsName.f at h
  repeat' (with_reducible first
   | exact nos h
   | (cases some_inj h; exact spec_IsName.rt _)
   | exact (spec_IsName.br _) _ (by omega) _ _ _ h
   | (simp only [Option.bind_some] at h)
   | (refine ite_by h ?_ ?_ <;> (intro hc h; (try simp only [nrm] at hc)))
   | refine itT ?_
   | refine itF ?_
   | (refine bind_by h (fun t ht h => ?_); refine (spec_l1In.ap_of (spec_l1In.go ht _)).trans ?_; (try dsimp only at h ⊢))
   | (simp only [nr2] at h ⊢)
   | (exfalso; omega))
def spec_SegmentsOf.Fs : List (Spc env) := [spec_IsLine.spec]
def spec_SegmentsOf.fin : St eΓ → Option (HL eΓ [.l 95 (.st .s95)]) := finR env Try.f103.results.toList [.l 95 (.st .s95)]
def spec_SegmentsOf.cut : Nat → Option (List (Lv SC)) := lk [(3, [⟨0, none, false⟩, ⟨3, none, false⟩, ⟨4, none, false⟩])]
def spec_SegmentsOf.ret (r0 : List S95) : Option (HL eΓ [.l 95 (.st .s95)]) := some (r0, ())
def spec_SegmentsOf.p3 (k : Nat) (x4 : Int) (x0 : List S77) (x3 : List S95) : Option (HL eΓ [.l 95 (.st .s95)]) := evM env spec_SegmentsOf.Fs Try.f103.ntmps spec_SegmentsOf.fin spec_SegmentsOf.cut k [.code (sub_ [1, 1, 0, 1, 0, 0, 0, 0] (bodyOf Try.f103)), .code (sub_ [1, 1, 0, 1, 0, 0, 0, 1] (bodyOf Try.f103)), .code (sub_ [1, 1, 0, 1, 0, 0, 1] (bodyOf Try.f103)), .lp (sub_ [1, 1, 0, 1, 0, 0] (bodyOf Try.f103)), .blk 0, .code (sub_ [1, 1, 1] (bodyOf Try.f103))] (mkSt [(0, .c (.sl 0)), (3, .c (.sl 1)), (4, .c (.v (.int .i64 x4)))] [.row .ro 77 (.st .s77) x0, .row .own 95 (.st .s95) x3])
theorem spec_SegmentsOf.e3 (k : Nat) (x4 : Int) (x0 : List S77) (x3 : List S95) : spec_SegmentsOf.p3 (k + 1) x4 x0 x3 = if x4 < (x0.length : Int) then (spec_IsLine.ap k x0 fun r1 => if r1 = true then (if 0 ≤ (wrap64 (x4 - 1)) then (if (wrap64 (x4 - 1)) < (x0.length : Int) then (if 0 ≤ x4 then (if x4 < (x0.length : Int) then (if (x3.length + 1) * 32 ≤ 140737488355328 then (spec_SegmentsOf.p3 k (wrap64 (x4 + 1)) x0 (x3 ++ [(⟨(⟨(rd_T77 x0 (wrap64 (x4 - 1))).f0, (rd_T77 x0 (wrap64 (x4 - 1))).f1⟩ : S77), (⟨(rd_T77 x0 x4).f0, (rd_T77 x0 x4).f1⟩ : S77)⟩ : S95)])) else none) else none) else none) else none) else none) else (spec_SegmentsOf.ret x3)) else (spec_SegmentsOf.ret x3) := by kernel_rfl
def spec_SegmentsOf.run (k : Nat) (h : HL eΓ [.l 77 (.st .s77)]) : Option (HL eΓ [.l 95 (.st .s95)]) := evF env spec_SegmentsOf.Fs Try.f103 spec_SegmentsOf.cut [.l 77 (.st .s77)] [.l 95 (.st .s95)] k h
theorem spec_SegmentsOf.ef (k : Nat) (h0 : List S77) : spec_SegmentsOf.run k (h0, ()) = spec_SegmentsOf.p3 k 1 h0 ([] : List S95) := by kernel_rfl
def spec_SegmentsOf.toH (t : (List (S95))) : HL eΓ [.l 95 (.st .s95)] := (t, ())
def spec_SegmentsOf.spec : Spc env := ⟨103, [.l 77 (.st .s77)], [.l 95 (.st .s95)], spec_SegmentsOf.run⟩
def spec_SegmentsOf.ap {R : Type} (k : Nat) (h0 : List S77) (K : (List S95) → Option R) : Option R := (spec_SegmentsOf.run k (h0, ())).bind fun r => K (r.1 : List S95)
theorem spec_SegmentsOf.ap_of {R : Type} {k : Nat} {h0 : List S77} {r0 : List S95} {K : (List S95) → Option R} (h : spec_SegmentsOf.run k (h0, ()) = some (r0, ())) : spec_SegmentsOf.ap k h0 K = K r0 := by unfold spec_SegmentsOf.ap; rw [h]; rfl
theorem spec_SegmentsOf.snd : Snd env spec_SegmentsOf.spec := evF_snd env_ok (sndC spec_IsLine.snd (sndN))
attribute [local irreducible] spec_SegmentsOf.run
theorem spec_SegmentsOf.rt (a0 : List S95) : spec_SegmentsOf.ret a0 = some (spec_SegmentsOf.toH (a0)) := rfl
theorem spec_SegmentsOf.br (n : Nat) : (∀ K, n ≤ K → ∀ (x4 : Int) (x0 : List S77) (x3 : List S95) t, spec_SegmentsOf.l0 n x0 x3 x4 = some t → spec_SegmentsOf.p3 K x4 x0 x3 = some (spec_SegmentsOf.toH t)) := by
  induction n using Nat.strongRecOn with
  | _ n ih =>
  intro K hK x4 x0 x3 t h
  all_goals (rcases n with _ | k)
  all_goals (try (exact nos h))
  all_goals (obtain ⟨K, rfl⟩ : ∃ q, K = q + 1 := ⟨K - 1, by omega⟩)
  all_goals (first | rw [spec_SegmentsOf.e3])
  all_goals (simp only [spec_SegmentsOf.l0] at h)
  repeat' (with_reducible first
   | exact nos h
   | (cases some_inj h; exact spec_SegmentsOf.rt _)
   | exact (ih _ (by omega)) _ (by omega) _ _ _ _ h
   | (simp only [Option.bind_some] at h)
   | (refine ite_by h ?_ ?_ <;> (intro hc h; (try simp only [nrm] at hc)))
   | refine itT ?_
   | refine itF ?_
   | (refine bind_by h (fun t ht h => ?_); refine (spec_IsLine.ap_of (spec_IsLine.go ht _ (by omega))).trans ?_; (try dsimp only at h ⊢))
   | (simp only [nr2] at h ⊢)
   | (exfalso; omega))
theorem spec_SegmentsOf.go {k : Nat} {l0 : List S77} {t} (h : spec_SegmentsOf.f k l0 = some t) (K : Nat) (hK : k ≤ K) : spec_SegmentsOf.run K (l0, ()) = some (spec_SegmentsOf.toH t) := by
  rw [spec_SegmentsOf.ef]
  (try dsimp only)
  unfold spec_SegmentsOf.f at h
  repeat' (with_reducible first
   | exact nos h
   | (cases some_inj h; exact spec_SegmentsOf.rt _)
   | exact (spec_SegmentsOf.br _) _ (by omega) _ _ _ _ h
   | (simp only [Option.bind_some] at h)
   | (refine ite_by h ?_ ?_ <;> (intro hc h; (try simp only [nrm] at hc)))
   | refine itT ?_
   | refine itF ?_
   | (refine bind_by h (fun t ht h => ?_); refine (spec_IsLine.ap_of (spec_IsLine.go ht _ (by omega))).trans ?_; (try dsimp only at h ⊢))
   | (simp only [nr2] at h ⊢)
   | (exfalso; omega))
def spec_IsSimple.Fs : List (Spc env) := [spec_SegmentsOf.spec, spec_IsLine.spec, spec_HowMeet.spec]
def spec_IsSimple.fin : St eΓ → Option (HL eΓ [.b]) := finR env Try.f72.results.toList [.b]
def spec_IsSimple.cut : Nat → Option (List (Lv SC)) := lk [(3, [⟨0, none, false⟩, ⟨3, none, false⟩, ⟨4, none, false⟩]), (6, [⟨0, none, false⟩, ⟨3, none, false⟩, ⟨4, none, false⟩, ⟨5, none, false⟩])]
def spec_IsSimple.ret (r0 : Bool) : Option (HL eΓ [.b]) := some (r0, ())
def spec_IsSimple.p3 (k : Nat) (x4 : Int) (x0 : List S77) (x3 : List S95) : Option (HL eΓ [.b]) := evM env spec_IsSimple.Fs Try.f72.ntmps spec_IsSimple.fin spec_IsSimple.cut k [.code (sub_ [1, 1, 0, 1, 0, 0, 0, 0] (bodyOf Try.f72)), .code (sub_ [1, 1, 0, 1, 0, 0, 0, 1] (bodyOf Try.f72)), .code (sub_ [1, 1, 0, 1, 0, 0, 1] (bodyOf Try.f72)), .lp (sub_ [1, 1, 0, 1, 0, 0] (bodyOf Try.f72)), .blk 0, .code (sub_ [1, 1, 1] (bodyOf Try.f72))] (mkSt [(0, .c (.sl 0)), (3, .c (.sl 1)), (4, .c (.v (.int .i64 x4)))] [.row .ro 77 (.st .s77) x0, .row .own 95 (.st .s95) x3])
def spec_IsSimple.p6 (k : Nat) (x4 : Int) (x5 : Int) (x0 : List S77) (x3 : List S95) : Option (HL eΓ [.b]) := evM env spec_IsSimple.Fs Try.f72.ntmps spec_IsSimple.fin spec_IsSimple.cut k [.code (sub_ [1, 1, 0, 1, 0, 0, 1, 0, 0, 1, 0, 0, 0, 0] (bodyOf Try.f72)), .code (sub_ [1, 1, 0, 1, 0, 0, 1, 0, 0, 1, 0, 0, 0, 1] (bodyOf Try.f72)), .code (sub_ [1, 1, 0, 1, 0, 0, 1, 0, 0, 1, 0, 0, 1] (bodyOf Try.f72)), .lp (sub_ [1, 1, 0, 1, 0, 0, 1, 0, 0, 1, 0, 0] (bodyOf Try.f72)), .blk 2, .blk 1, .code (sub_ [1, 1, 0, 1, 0, 0, 1, 1] (bodyOf Try.f72)), .lp (sub_ [1, 1, 0, 1, 0, 0] (bodyOf Try.f72)), .blk 0, .code (sub_ [1, 1, 1] (bodyOf Try.f72))] (mkSt [(0, .c (.sl 0)), (3, .c (.sl 1)), (4, .c (.v (.int .i64 x4))), (5, .c (.v (.int .i64 x5)))] [.row .ro 77 (.st .s77) x0, .row .own 95 (.st .s95) x3])
theorem spec_IsSimple.e3 (k : Nat) (x4 : Int) (x0 : List S77) (x3 : List S95) : spec_IsSimple.p3 (k + 1) x4 x0 x3 = if x4 < (x3.length : Int) then (spec_IsSimple.p6 k x4 0 x0 x3) else (spec_IsLine.ap k x0 fun r1 => spec_IsSimple.ret r1) := by kernel_rfl
theorem spec_IsSimple.e6 (k : Nat) (x4 : Int) (x5 : Int) (x0 : List S77) (x3 : List S95) : spec_IsSimple.p6 (k + 1) x4 x5 x0 x3 = if x5 < x4 then (if (wrap64 (x5 + 1)) = x4 then (if 0 ≤ x4 then (if x4 < (x3.length : Int) then (if 0 ≤ x5 then (if x5 < (x3.length : Int) then (spec_HowMeet.ap k (⟨(⟨(rd_T95 x3 x4).f0.f0, (rd_T95 x3 x4).f0.f1⟩ : S77), (⟨(rd_T95 x3 x4).f1.f0, (rd_T95 x3 x4).f1.f1⟩ : S77)⟩ : S95) (⟨(⟨(rd_T95 x3 x5).f0.f0, (rd_T95 x3 x5).f0.f1⟩ : S77), (⟨(rd_T95 x3 x5).f1.f0, (rd_T95 x3 x5).f1.f1⟩ : S77)⟩ : S95) fun r1 => if ¬ r1 = 1 then (spec_IsSimple.ret false) else (spec_IsSimple.p6 k x4 (wrap64 (x5 + 1)) x0 x3)) else none) else none) else none) else none) else (if 0 ≤ x4 then (if x4 < (x3.length : Int) then (if 0 ≤ x5 then (if x5 < (x3.length : Int) then (spec_HowMeet.ap k (⟨(⟨(rd_T95 x3 x4).f0.f0, (rd_T95 x3 x4).f0.f1⟩ : S77), (⟨(rd_T95 x3 x4).f1.f0, (rd_T95 x3 x4).f1.f1⟩ : S77)⟩ : S95) (⟨(⟨(rd_T95 x3 x5).f0.f0, (rd_T95 x3 x5).f0.f1⟩ : S77), (⟨(rd_T95 x3 x5).f1.f0, (rd_T95 x3 x5).f1.f1⟩ : S77)⟩ : S95) fun r2 => if ¬ r2 = 0 then (spec_IsSimple.ret false) else (spec_IsSimple.p6 k x4 (wrap64 (x5 + 1)) x0 x3)) else none) else none) else none) else none)) else (spec_IsSimple.p3 k (wrap64 (x4 + 1)) x0 x3) := by kernel_rfl
def spec_IsSimple.run (k : Nat) (h : HL eΓ [.l 77 (.st .s77)]) : Option (HL eΓ [.b]) := evF env spec_IsSimple.Fs Try.f72 spec_IsSimple.cut [.l 77 (.st .s77)] [.b] k h
theorem spec_IsSimple.ef (k : Nat) (h0 : List S77) : spec_IsSimple.run k (h0, ()) = spec_SegmentsOf.ap k h0 fun r1 => spec_IsSimple.p3 k 0 h0 r1 := by kernel_rfl
def spec_IsSimple.toH (t : Bool) : HL eΓ [.b] := (t, ())
def spec_IsSimple.spec : Spc env := ⟨72, [.l 77 (.st .s77)], [.b], spec_IsSimple.run⟩
def spec_IsSimple.ap {R : Type} (k : Nat) (h0 : List S77) (K : Bool → Option R) : Option R := (spec_IsSimple.run k (h0, ())).bind fun r => K (r.1 : Bool)
theorem spec_IsSimple.ap_of {R : Type} {k : Nat} {h0 : List S77} {r0 : Bool} {K : Bool → Option R} (h : spec_IsSimple.run k (h0, ()) = some (r0, ())) : spec_IsSimple.ap k h0 K = K r0 := by unfold spec_IsSimple.ap; rw [h]; rfl
theorem spec_IsSimple.snd : Snd env spec_IsSimple.spec := evF_snd env_ok (sndC spec_SegmentsOf.snd (sndC spec_IsLine.snd (sndC spec_HowMeet.snd (sndN))))
attribute [local irreducible] spec_IsSimple.run
theorem spec_IsSimple.rt (a0 : Bool) : spec_IsSimple.ret a0 = some (spec_IsSimple.toH (a0)) := rfl
theorem spec_IsSimple.br (n : Nat) : (∀ K, n ≤ K → ∀ (x4 : Int) (x0 : List S77) (x3 : List S95) t, spec_IsSimple.l0 n x0 x3 x4 = some t → spec_IsSimple.p3 K x4 x0 x3 = some (spec_IsSimple.toH t)) ∧ (∀ K, n ≤ K → ∀ (x4 : Int) (x5 : Int) (x0 : List S77) (x3 : List S95) t, spec_IsSimple.l1 n x0 x3 x4 x5 = some t → spec_IsSimple.p6 K x4 x5 x0 x3 = some (spec_IsSimple.toH t)) := by
  induction n using Nat.strongRecOn with
  | _ n ih =>
  refine ⟨fun K hK x4 x0 x3 t h => ?_, fun K hK x4 x5 x0 x3 t h => ?_⟩
  all_goals (rcases n with _ | k)
  all_goals (try (exact nos h))
  all_goals (obtain ⟨K, rfl⟩ : ∃ q, K = q + 1 := ⟨K - 1, by omega⟩)
  all_goals (first | rw [spec_IsSimple.e3] | rw [spec_IsSimple.e6])
  all_goals (simp only [spec_IsSimple.l0, spec_IsSimple.l1] at h)
  repeat' (with_reducible first
   | exact nos h
   | (cases some_inj h; exact spec_IsSimple.rt _)
   | exact (ih _ (by omega)).1 _ (by omega) _ _ _ _ h
   | exact (ih _ (by omega)).2 _ (by omega) _ _ _ _ _ h
   | (simp only [Option.bind_some] at h)
   | (refine ite_by h ?_ ?_ <;> (intro hc h; (try simp only [nrm] at hc)))
   | refine itT ?_
   | refine itF ?_
   | (refine bind_by h (fun t ht h => ?_); (first | refine (spec_SegmentsOf.ap_of (spec_SegmentsOf.go ht _ (by omega))).trans ?_ | refine (spec_IsLine.ap_of (spec_IsLine.go ht _ (by omega))).trans ?_ | refine (spec_HowMeet.ap_of (spec_HowMeet.go ht _)).trans ?_); (try dsimp only at h ⊢))
   | (simp only [nr2] at h ⊢)
   | (exfalso; omega))
theorem spec_IsSimple.go {k : Nat} {l0 : List S77} {t} (h : spec_IsSimple.f k l0 = some t) (K : Nat) (hK : k ≤ K) : spec_IsSimple.run K (l0, ()) = some (spec_IsSimple.toH t) := by
  rw [spec_IsSimple.ef]
  (try dsimp only)
  unfold spec_IsSimple.f at h
  repeat' (with_reducible first
   | exact nos h
   | (cases some_inj h; exact spec_IsSimple.rt _)
   | exact (spec_IsSimple.br _).1 _ (by omega) _ _ _ _ h
   | exact (spec_IsSimple.br _).2 _ (by omega) _ _ _ _ _ h
   | (simp only [Option.bind_some] at h)
   | (refine ite_by h ?_ ?_ <;> (intro hc h; (try simp only [nrm] at hc)))
   | refine itT ?_
   | refine itF ?_
   | (refine bind_by h (fun t ht h => ?_); (first | refine (spec_SegmentsOf.ap_of (spec_SegmentsOf.go ht _ (by omega))).trans ?_ | refine (spec_IsLine.ap_of (spec_IsLine.go ht _ (by omega))).trans ?_ | refine (spec_HowMeet.ap_of (spec_HowMeet.go ht _)).trans ?_); (try dsimp only at h ⊢))
   | (simp only [nr2] at h ⊢)
   | (exfalso; omega))
def spec_IsFeature.Fs : List (Spc env) := [spec_l1In.spec, spec_IsName.spec, spec_IsPoint.spec, spec_IsSimple.spec, spec_IsRing.spec]
def spec_IsFeature.cut : Nat → Option (List (Lv SC)) := lk []
def spec_IsFeature.ret (r0 : Bool) : Option (HL eΓ [.b]) := some (r0, ())
def spec_IsFeature.run (k : Nat) (h : HL eΓ [.st .s28]) : Option (HL eΓ [.b]) := evF env spec_IsFeature.Fs Try.f40 spec_IsFeature.cut [.st .s28] [.b] k h
theorem spec_IsFeature.ef (k : Nat) (h0 : S28) : spec_IsFeature.run k (h0, ()) = spec_l1In.ap k h0.f0 1 99 fun r1 => if (!r1) = true then (spec_IsFeature.ret false) else (spec_l1In.ap k h0.f2 0 9 fun r2 => if (!r2) = true then (spec_IsFeature.ret false) else (if ¬ h0.f3.toList = [] then (spec_IsName.ap k h0.f3 fun r3 => if (!r3) = true then (spec_IsFeature.ret false) else (if h0.f1 = 1 then (if (h0.f4.length : Int) = 1 then (if 0 < (h0.f4.length : Int) then (spec_IsPoint.ap k (⟨(rd_T77 h0.f4 0).f0, (rd_T77 h0.f4 0).f1⟩ : S77) fun r4 => spec_IsFeature.ret r4) else none) else (spec_IsFeature.ret false)) else (if h0.f1 = 2 then (spec_IsSimple.ap k h0.f4 fun r5 => spec_IsFeature.ret r5) else (if h0.f1 = 3 then (spec_IsRing.ap k h0.f4 fun r6 => spec_IsFeature.ret r6) else (spec_IsFeature.ret false))))) else (if h0.f1 = 1 then (if (h0.f4.length : Int) = 1 then (if 0 < (h0.f4.length : Int) then (spec_IsPoint.ap k (⟨(rd_T77 h0.f4 0).f0, (rd_T77 h0.f4 0).f1⟩ : S77) fun r7 => spec_IsFeature.ret r7) else none) else (spec_IsFeature.ret false)) else (if h0.f1 = 2 then (spec_IsSimple.ap k h0.f4 fun r8 => spec_IsFeature.ret r8) else (if h0.f1 = 3 then (spec_IsRing.ap k h0.f4 fun r9 => spec_IsFeature.ret r9) else (spec_IsFeature.ret false)))))) := by kernel_rfl
def spec_IsFeature.toH (t : Bool) : HL eΓ [.b] := (t, ())
def spec_IsFeature.spec : Spc env := ⟨40, [.st .s28], [.b], spec_IsFeature.run⟩
def spec_IsFeature.ap {R : Type} (k : Nat) (h0 : S28) (K : Bool → Option R) : Option R := (spec_IsFeature.run k (h0, ())).bind fun r => K (r.1 : Bool)
theorem spec_IsFeature.ap_of {R : Type} {k : Nat} {h0 : S28} {r0 : Bool} {K : Bool → Option R} (h : spec_IsFeature.run k (h0, ()) = some (r0, ())) : spec_IsFeature.ap k h0 K = K r0 := by unfold spec_IsFeature.ap; rw [h]; rfl
theorem spec_IsFeature.snd : Snd env spec_IsFeature.spec := evF_snd env_ok (sndC spec_l1In.snd (sndC spec_IsName.snd (sndC spec_IsPoint.snd (sndC spec_IsSimple.snd (sndC spec_IsRing.snd (sndN))))))
attribute [local irreducible] spec_IsFeature.run
theorem spec_IsFeature.rt (a0 : Bool) : spec_IsFeature.ret a0 = some (spec_IsFeature.toH (a0)) := rfl
theorem spec_IsFeature.go {k : Nat} {a0_0 : Int} {a0_1 : Int} {a0_2 : Int} {a0_3 : ByteArray} {l0_4 : List S77} {t} (h : spec_IsFeature.f k a0_0 a0_1 a0_2 a0_3 l0_4 = some t) (K : Nat) (hK : k ≤ K) : spec_IsFeature.run K ((⟨a0_0, a0_1, a0_2, a0_3, l0_4⟩ : S28), ()) = some (spec_IsFeature.toH t) := by
  rw [spec_IsFeature.ef]
  (try dsimp only)
  unfold spec_IsFeature.f at h
  repeat' (with_reducible first
   | exact nos h
   | (cases some_inj h; exact spec_IsFeature.rt _)
   | ((have q : spec_IsFeature.j0 k _ _ _ _ _ _ = some _ := h; clear q); rcases k with _ | k <;> simp only [spec_IsFeature.j0, reduceCtorEq] at h)
   | (simp only [Option.bind_some] at h)
   | (refine ite_by h ?_ ?_ <;> (intro hc h; (try simp only [nrm] at hc)))
   | refine itT ?_
   | refine itF ?_
   | (refine bind_by h (fun t ht h => ?_); (first | refine (spec_l1In.ap_of (spec_l1In.go ht _)).trans ?_ | refine (spec_IsName.ap_of (spec_IsName.go ht _ (by omega))).trans ?_ | refine (spec_IsPoint.ap_of (spec_IsPoint.go ht _)).trans ?_ | refine (spec_IsSimple.ap_of (spec_IsSimple.go ht _ (by omega))).trans ?_ | refine (spec_IsRing.ap_of (spec_IsRing.go ht _ (by omega))).trans ?_); (try dsimp only at h ⊢))
   | (simp only [nr2] at h ⊢)
   | (exfalso; omega))
def spec_DropFrom.Fs : List (Spc env) := [spec_l9Feature.spec, spec_DropPoint.spec, spec_IsFeature.spec, spec_DropCorner.spec]
def spec_DropFrom.cut : Nat → Option (List (Lv SC)) := lk []
def spec_DropFrom.ret (r0 : S28) (r1 : Bool) : Option (HL eΓ [.st .s28, .b]) := some (r0, r1, ())
def spec_DropFrom.run (k : Nat) (h : HL eΓ [.st .s28, .i .i64]) : Option (HL eΓ [.st .s28, .b]) := evF env spec_DropFrom.Fs Try.f9 spec_DropFrom.cut [.st .s28, .i .i64] [.st .s28, .b] k h
theorem spec_DropFrom.ef (k : Nat) (h0 : S28) (h1 : Int) : spec_DropFrom.run k (h0, h1, ()) = spec_l9Feature.ap k (⟨h0.f0, h0.f1, h0.f2, h0.f3, h0.f4⟩ : S28) fun r1 => if h0.f1 = 2 then (spec_DropPoint.ap k h0.f4 h1 fun r2_0 r2_1 => if (!r2_1) = true then (spec_l9Feature.ap k (⟨h0.f0, h0.f1, h0.f2, h0.f3, h0.f4⟩ : S28) fun r3 => spec_DropFrom.ret (⟨r3.f0, r3.f1, r3.f2, r3.f3, r3.f4⟩ : S28) false) else (spec_IsFeature.ap k (⟨r1.f0, r1.f1, r1.f2, r1.f3, r2_0⟩ : S28) fun r4 => if (!r4) = true then (spec_l9Feature.ap k (⟨h0.f0, h0.f1, h0.f2, h0.f3, h0.f4⟩ : S28) fun r5 => spec_DropFrom.ret (⟨r5.f0, r5.f1, r5.f2, r5.f3, r5.f4⟩ : S28) false) else (spec_DropFrom.ret (⟨r1.f0, r1.f1, r1.f2, r1.f3, r2_0⟩ : S28) true))) else (if h0.f1 = 3 then (spec_DropCorner.ap k h0.f4 h1 fun r6_0 r6_1 => if (!r6_1) = true then (spec_l9Feature.ap k (⟨h0.f0, h0.f1, h0.f2, h0.f3, h0.f4⟩ : S28) fun r7 => spec_DropFrom.ret (⟨r7.f0, r7.f1, r7.f2, r7.f3, r7.f4⟩ : S28) false) else (spec_IsFeature.ap k (⟨r1.f0, r1.f1, r1.f2, r1.f3, r6_0⟩ : S28) fun r8 => if (!r8) = true then (spec_l9Feature.ap k (⟨h0.f0, h0.f1, h0.f2, h0.f3, h0.f4⟩ : S28) fun r9 => spec_DropFrom.ret (⟨r9.f0, r9.f1, r9.f2, r9.f3, r9.f4⟩ : S28) false) else (spec_DropFrom.ret (⟨r1.f0, r1.f1, r1.f2, r1.f3, r6_0⟩ : S28) true))) else (spec_l9Feature.ap k (⟨h0.f0, h0.f1, h0.f2, h0.f3, h0.f4⟩ : S28) fun r10 => spec_DropFrom.ret (⟨r10.f0, r10.f1, r10.f2, r10.f3, r10.f4⟩ : S28) false)) := by kernel_rfl
def spec_DropFrom.toH (t : Int × Int × Int × ByteArray × (List (S77)) × Bool) : HL eΓ [.st .s28, .b] := ((⟨t.1, t.2.1, t.2.2.1, t.2.2.2.1, t.2.2.2.2.1⟩ : S28), t.2.2.2.2.2, ())
def spec_DropFrom.spec : Spc env := ⟨9, [.st .s28, .i .i64], [.st .s28, .b], spec_DropFrom.run⟩
def spec_DropFrom.ap {R : Type} (k : Nat) (h0 : S28) (h1 : Int) (K : S28 → Bool → Option R) : Option R := (spec_DropFrom.run k (h0, h1, ())).bind fun r => K (r.1 : S28) (r.2.1 : Bool)
theorem spec_DropFrom.ap_of {R : Type} {k : Nat} {h0 : S28} {h1 : Int} {r0 : S28} {r1 : Bool} {K : S28 → Bool → Option R} (h : spec_DropFrom.run k (h0, h1, ()) = some (r0, r1, ())) : spec_DropFrom.ap k h0 h1 K = K r0 r1 := by unfold spec_DropFrom.ap; rw [h]; rfl
theorem spec_DropFrom.snd : Snd env spec_DropFrom.spec := evF_snd env_ok (sndC spec_l9Feature.snd (sndC spec_DropPoint.snd (sndC spec_IsFeature.snd (sndC spec_DropCorner.snd (sndN)))))
attribute [local irreducible] spec_DropFrom.run
theorem spec_DropFrom.rt (a0 : Int) (a1 : Int) (a2 : Int) (a3 : ByteArray) (a4 : List S77) (a5 : Bool) : spec_DropFrom.ret (⟨a0, a1, a2, a3, a4⟩ : S28) a5 = some (spec_DropFrom.toH (a0, a1, a2, a3, a4, a5)) := rfl
theorem spec_DropFrom.go {k : Nat} {a0_0 : Int} {a0_1 : Int} {a0_2 : Int} {a0_3 : ByteArray} {l0_4 : List S77} {a1 : Int} {t} (h : spec_DropFrom.f k a0_0 a0_1 a0_2 a0_3 l0_4 a1 = some t) (K : Nat) (hK : k ≤ K) : spec_DropFrom.run K ((⟨a0_0, a0_1, a0_2, a0_3, l0_4⟩ : S28), a1, ()) = some (spec_DropFrom.toH t) := by
  rw [spec_DropFrom.ef]
  (try dsimp only)
  unfold spec_DropFrom.f at h
  repeat' (with_reducible first
   | exact nos h
   | (cases some_inj h; exact spec_DropFrom.rt _ _ _ _ _ _)
   | ((have q : spec_DropFrom.j0 k _ _ _ _ _ _ _ _ _ _ _ = some _ := h; clear q); rcases k with _ | k <;> simp only [spec_DropFrom.j0, reduceCtorEq] at h)
   | (simp only [Option.bind_some] at h)
   | (refine ite_by h ?_ ?_ <;> (intro hc h; (try simp only [nrm] at hc)))
   | refine itT ?_
   | refine itF ?_
   | (refine bind_by h (fun t ht h => ?_); (first | refine (spec_l9Feature.ap_of (spec_l9Feature.go ht _)).trans ?_ | refine (spec_DropPoint.ap_of (spec_DropPoint.go ht _ (by omega))).trans ?_ | refine (spec_IsFeature.ap_of (spec_IsFeature.go ht _ (by omega))).trans ?_ | refine (spec_DropCorner.ap_of (spec_DropCorner.go ht _ (by omega))).trans ?_); (try dsimp only at h ⊢))
   | (simp only [nr2] at h ⊢)
   | (exfalso; omega))
def spec_RingSegments.Fs : List (Spc env) := [spec_IsRing.spec, spec_l7Segments.spec]
def spec_RingSegments.cut : Nat → Option (List (Lv SC)) := lk []
def spec_RingSegments.ret (r0 : List S95) : Option (HL eΓ [.l 95 (.st .s95)]) := some (r0, ())
def spec_RingSegments.run (k : Nat) (h : HL eΓ [.l 77 (.st .s77)]) : Option (HL eΓ [.l 95 (.st .s95)]) := evF env spec_RingSegments.Fs Try.f111 spec_RingSegments.cut [.l 77 (.st .s77)] [.l 95 (.st .s95)] k h
theorem spec_RingSegments.ef (k : Nat) (h0 : List S77) : spec_RingSegments.run k (h0, ()) = spec_IsRing.ap k h0 fun r1 => if (!r1) = true then (spec_RingSegments.ret ([] : List S95)) else (spec_l7Segments.ap k h0 fun r2 => spec_RingSegments.ret r2) := by kernel_rfl
def spec_RingSegments.toH (t : (List (S95))) : HL eΓ [.l 95 (.st .s95)] := (t, ())
def spec_RingSegments.spec : Spc env := ⟨111, [.l 77 (.st .s77)], [.l 95 (.st .s95)], spec_RingSegments.run⟩
def spec_RingSegments.ap {R : Type} (k : Nat) (h0 : List S77) (K : (List S95) → Option R) : Option R := (spec_RingSegments.run k (h0, ())).bind fun r => K (r.1 : List S95)
theorem spec_RingSegments.ap_of {R : Type} {k : Nat} {h0 : List S77} {r0 : List S95} {K : (List S95) → Option R} (h : spec_RingSegments.run k (h0, ()) = some (r0, ())) : spec_RingSegments.ap k h0 K = K r0 := by unfold spec_RingSegments.ap; rw [h]; rfl
theorem spec_RingSegments.snd : Snd env spec_RingSegments.spec := evF_snd env_ok (sndC spec_IsRing.snd (sndC spec_l7Segments.snd (sndN)))
attribute [local irreducible] spec_RingSegments.run
theorem spec_RingSegments.rt (a0 : List S95) : spec_RingSegments.ret a0 = some (spec_RingSegments.toH (a0)) := rfl
theorem spec_RingSegments.go {k : Nat} {l0 : List S77} {t} (h : spec_RingSegments.f k l0 = some t) (K : Nat) (hK : k ≤ K) : spec_RingSegments.run K (l0, ()) = some (spec_RingSegments.toH t) := by
  rw [spec_RingSegments.ef]
  (try dsimp only)
  unfold spec_RingSegments.f at h
  repeat' (with_reducible first
   | exact nos h
   | (cases some_inj h; exact spec_RingSegments.rt _)
   | (simp only [Option.bind_some] at h)
   | (refine ite_by h ?_ ?_ <;> (intro hc h; (try simp only [nrm] at hc)))
   | refine itT ?_
   | refine itF ?_
   | (refine bind_by h (fun t ht h => ?_); (first | refine (spec_IsRing.ap_of (spec_IsRing.go ht _ (by omega))).trans ?_ | refine (spec_l7Segments.ap_of (spec_l7Segments.go ht _ (by omega))).trans ?_); (try dsimp only at h ⊢))
   | (simp only [nr2] at h ⊢)
   | (exfalso; omega))
def spec_PartsOf.Fs : List (Spc env) := [spec_IsFeature.spec, spec_SegmentsOf.spec, spec_RingSegments.spec]
def spec_PartsOf.cut : Nat → Option (List (Lv SC)) := lk []
def spec_PartsOf.ret (r0 : List S95) : Option (HL eΓ [.l 95 (.st .s95)]) := some (r0, ())
def spec_PartsOf.run (k : Nat) (h : HL eΓ [.st .s28]) : Option (HL eΓ [.l 95 (.st .s95)]) := evF env spec_PartsOf.Fs Try.f85 spec_PartsOf.cut [.st .s28] [.l 95 (.st .s95)] k h
theorem spec_PartsOf.ef (k : Nat) (h0 : S28) : spec_PartsOf.run k (h0, ()) = spec_IsFeature.ap k (⟨h0.f0, h0.f1, h0.f2, h0.f3, h0.f4⟩ : S28) fun r1 => if (!r1) = true then (spec_PartsOf.ret ([] : List S95)) else (if h0.f1 = 2 then (spec_SegmentsOf.ap k h0.f4 fun r2 => spec_PartsOf.ret r2) else (if h0.f1 = 3 then (spec_RingSegments.ap k h0.f4 fun r3 => spec_PartsOf.ret r3) else (spec_PartsOf.ret ([] : List S95)))) := by kernel_rfl
def spec_PartsOf.toH (t : (List (S95))) : HL eΓ [.l 95 (.st .s95)] := (t, ())
def spec_PartsOf.spec : Spc env := ⟨85, [.st .s28], [.l 95 (.st .s95)], spec_PartsOf.run⟩
def spec_PartsOf.ap {R : Type} (k : Nat) (h0 : S28) (K : (List S95) → Option R) : Option R := (spec_PartsOf.run k (h0, ())).bind fun r => K (r.1 : List S95)
theorem spec_PartsOf.ap_of {R : Type} {k : Nat} {h0 : S28} {r0 : List S95} {K : (List S95) → Option R} (h : spec_PartsOf.run k (h0, ()) = some (r0, ())) : spec_PartsOf.ap k h0 K = K r0 := by unfold spec_PartsOf.ap; rw [h]; rfl
theorem spec_PartsOf.snd : Snd env spec_PartsOf.spec := evF_snd env_ok (sndC spec_IsFeature.snd (sndC spec_SegmentsOf.snd (sndC spec_RingSegments.snd (sndN))))
attribute [local irreducible] spec_PartsOf.run
theorem spec_PartsOf.rt (a0 : List S95) : spec_PartsOf.ret a0 = some (spec_PartsOf.toH (a0)) := rfl
theorem spec_PartsOf.go {k : Nat} {a0_0 : Int} {a0_1 : Int} {a0_2 : Int} {a0_3 : ByteArray} {l0_4 : List S77} {t} (h : spec_PartsOf.f k a0_0 a0_1 a0_2 a0_3 l0_4 = some t) (K : Nat) (hK : k ≤ K) : spec_PartsOf.run K ((⟨a0_0, a0_1, a0_2, a0_3, l0_4⟩ : S28), ()) = some (spec_PartsOf.toH t) := by
  rw [spec_PartsOf.ef]
  (try dsimp only)
  unfold spec_PartsOf.f at h
  repeat' (with_reducible first
   | exact nos h
   | (cases some_inj h; exact spec_PartsOf.rt _)
   | (simp only [Option.bind_some] at h)
   | (refine ite_by h ?_ ?_ <;> (intro hc h; (try simp only [nrm] at hc)))
   | refine itT ?_
   | refine itF ?_
   | (refine bind_by h (fun t ht h => ?_); (first | refine (spec_IsFeature.ap_of (spec_IsFeature.go ht _ (by omega))).trans ?_ | refine (spec_SegmentsOf.ap_of (spec_SegmentsOf.go ht _ (by omega))).trans ?_ | refine (spec_RingSegments.ap_of (spec_RingSegments.go ht _ (by omega))).trans ?_); (try dsimp only at h ⊢))
   | (simp only [nr2] at h ⊢)
   | (exfalso; omega))
def spec_FeaturesMeet.Fs : List (Spc env) := [spec_PartsOf.spec, spec_HowMeet.spec, spec_Max.spec]
def spec_FeaturesMeet.fin : St eΓ → Option (HL eΓ [.i .i64]) := finR env Try.f49.results.toList [.i .i64]
def spec_FeaturesMeet.cut : Nat → Option (List (Lv SC)) := lk [(5, [⟨5, none, false⟩, ⟨6, none, false⟩, ⟨7, none, false⟩, ⟨8, none, false⟩]), (8, [⟨5, none, false⟩, ⟨6, none, false⟩, ⟨7, none, false⟩, ⟨8, none, false⟩, ⟨9, none, false⟩])]
def spec_FeaturesMeet.ret (r0 : Int) : Option (HL eΓ [.i .i64]) := some (r0, ())
def spec_FeaturesMeet.p5 (k : Nat) (x5 : Int) (x8 : Int) (x6 : List S95) (x7 : List S95) : Option (HL eΓ [.i .i64]) := evM env spec_FeaturesMeet.Fs Try.f49.ntmps spec_FeaturesMeet.fin spec_FeaturesMeet.cut k [.code (sub_ [1, 1, 1, 1, 0, 1, 0, 0, 0, 0] (bodyOf Try.f49)), .code (sub_ [1, 1, 1, 1, 0, 1, 0, 0, 0, 1] (bodyOf Try.f49)), .code (sub_ [1, 1, 1, 1, 0, 1, 0, 0, 1] (bodyOf Try.f49)), .lp (sub_ [1, 1, 1, 1, 0, 1, 0, 0] (bodyOf Try.f49)), .blk 0, .code (sub_ [1, 1, 1, 1, 1] (bodyOf Try.f49))] (mkSt [(5, .c (.v (.int .i64 x5))), (6, .c (.sl 0)), (7, .c (.sl 1)), (8, .c (.v (.int .i64 x8)))] [.row .own 95 (.st .s95) x6, .row .own 95 (.st .s95) x7])
def spec_FeaturesMeet.p8 (k : Nat) (x5 : Int) (x8 : Int) (x9 : Int) (x6 : List S95) (x7 : List S95) : Option (HL eΓ [.i .i64]) := evM env spec_FeaturesMeet.Fs Try.f49.ntmps spec_FeaturesMeet.fin spec_FeaturesMeet.cut k [.code (sub_ [1, 1, 1, 1, 0, 1, 0, 0, 1, 0, 0, 1, 0, 0, 0, 0] (bodyOf Try.f49)), .code (sub_ [1, 1, 1, 1, 0, 1, 0, 0, 1, 0, 0, 1, 0, 0, 0, 1] (bodyOf Try.f49)), .code (sub_ [1, 1, 1, 1, 0, 1, 0, 0, 1, 0, 0, 1, 0, 0, 1] (bodyOf Try.f49)), .lp (sub_ [1, 1, 1, 1, 0, 1, 0, 0, 1, 0, 0, 1, 0, 0] (bodyOf Try.f49)), .blk 2, .blk 1, .code (sub_ [1, 1, 1, 1, 0, 1, 0, 0, 1, 1] (bodyOf Try.f49)), .lp (sub_ [1, 1, 1, 1, 0, 1, 0, 0] (bodyOf Try.f49)), .blk 0, .code (sub_ [1, 1, 1, 1, 1] (bodyOf Try.f49))] (mkSt [(5, .c (.v (.int .i64 x5))), (6, .c (.sl 0)), (7, .c (.sl 1)), (8, .c (.v (.int .i64 x8))), (9, .c (.v (.int .i64 x9)))] [.row .own 95 (.st .s95) x6, .row .own 95 (.st .s95) x7])
theorem spec_FeaturesMeet.e5 (k : Nat) (x5 : Int) (x8 : Int) (x6 : List S95) (x7 : List S95) : spec_FeaturesMeet.p5 (k + 1) x5 x8 x6 x7 = if x8 < (x6.length : Int) then (spec_FeaturesMeet.p8 k x5 x8 0 x6 x7) else (spec_FeaturesMeet.ret x5) := by kernel_rfl
theorem spec_FeaturesMeet.e8 (k : Nat) (x5 : Int) (x8 : Int) (x9 : Int) (x6 : List S95) (x7 : List S95) : spec_FeaturesMeet.p8 (k + 1) x5 x8 x9 x6 x7 = if x9 < (x7.length : Int) then (if 0 ≤ x8 then (if x8 < (x6.length : Int) then (if 0 ≤ x9 then (if x9 < (x7.length : Int) then (spec_HowMeet.ap k (⟨(⟨(rd_T95 x6 x8).f0.f0, (rd_T95 x6 x8).f0.f1⟩ : S77), (⟨(rd_T95 x6 x8).f1.f0, (rd_T95 x6 x8).f1.f1⟩ : S77)⟩ : S95) (⟨(⟨(rd_T95 x7 x9).f0.f0, (rd_T95 x7 x9).f0.f1⟩ : S77), (⟨(rd_T95 x7 x9).f1.f0, (rd_T95 x7 x9).f1.f1⟩ : S77)⟩ : S95) fun r1 => spec_Max.ap k x5 r1 fun r2 => spec_FeaturesMeet.p8 k r2 x8 (wrap64 (x9 + 1)) x6 x7) else none) else none) else none) else none) else (spec_FeaturesMeet.p5 k x5 (wrap64 (x8 + 1)) x6 x7) := by kernel_rfl
def spec_FeaturesMeet.run (k : Nat) (h : HL eΓ [.st .s28, .st .s28]) : Option (HL eΓ [.i .i64]) := evF env spec_FeaturesMeet.Fs Try.f49 spec_FeaturesMeet.cut [.st .s28, .st .s28] [.i .i64] k h
theorem spec_FeaturesMeet.ef (k : Nat) (h0 : S28) (h1 : S28) : spec_FeaturesMeet.run k (h0, h1, ()) = spec_PartsOf.ap k (⟨h0.f0, h0.f1, h0.f2, h0.f3, h0.f4⟩ : S28) fun r1 => spec_PartsOf.ap k (⟨h1.f0, h1.f1, h1.f2, h1.f3, h1.f4⟩ : S28) fun r2 => spec_FeaturesMeet.p5 k 0 0 r1 r2 := by kernel_rfl
def spec_FeaturesMeet.toH (t : Int) : HL eΓ [.i .i64] := (t, ())
def spec_FeaturesMeet.spec : Spc env := ⟨49, [.st .s28, .st .s28], [.i .i64], spec_FeaturesMeet.run⟩
def spec_FeaturesMeet.ap {R : Type} (k : Nat) (h0 : S28) (h1 : S28) (K : Int → Option R) : Option R := (spec_FeaturesMeet.run k (h0, h1, ())).bind fun r => K (r.1 : Int)
theorem spec_FeaturesMeet.ap_of {R : Type} {k : Nat} {h0 : S28} {h1 : S28} {r0 : Int} {K : Int → Option R} (h : spec_FeaturesMeet.run k (h0, h1, ()) = some (r0, ())) : spec_FeaturesMeet.ap k h0 h1 K = K r0 := by unfold spec_FeaturesMeet.ap; rw [h]; rfl
theorem spec_FeaturesMeet.snd : Snd env spec_FeaturesMeet.spec := evF_snd env_ok (sndC spec_PartsOf.snd (sndC spec_HowMeet.snd (sndC spec_Max.snd (sndN))))
attribute [local irreducible] spec_FeaturesMeet.run
theorem spec_FeaturesMeet.rt (a0 : Int) : spec_FeaturesMeet.ret a0 = some (spec_FeaturesMeet.toH (a0)) := rfl
theorem spec_FeaturesMeet.br (n : Nat) : (∀ K, n ≤ K → ∀ (x5 : Int) (x8 : Int) (x6 : List S95) (x7 : List S95) t, spec_FeaturesMeet.l0 n x5 x6 x7 x8 = some t → spec_FeaturesMeet.p5 K x5 x8 x6 x7 = some (spec_FeaturesMeet.toH t)) ∧ (∀ K, n ≤ K → ∀ (x5 : Int) (x8 : Int) (x9 : Int) (x6 : List S95) (x7 : List S95) t, spec_FeaturesMeet.l1 n x5 x6 x7 x8 x9 = some t → spec_FeaturesMeet.p8 K x5 x8 x9 x6 x7 = some (spec_FeaturesMeet.toH t)) := by
  induction n using Nat.strongRecOn with
  | _ n ih =>
  refine ⟨fun K hK x5 x8 x6 x7 t h => ?_, fun K hK x5 x8 x9 x6 x7 t h => ?_⟩
  all_goals (rcases n with _ | k)
  all_goals (try (exact nos h))
  all_goals (obtain ⟨K, rfl⟩ : ∃ q, K = q + 1 := ⟨K - 1, by omega⟩)
  all_goals (first | rw [spec_FeaturesMeet.e5] | rw [spec_FeaturesMeet.e8])
  all_goals (simp only [spec_FeaturesMeet.l0, spec_FeaturesMeet.l1] at h)
  repeat' (with_reducible first
   | exact nos h
   | (cases some_inj h; exact spec_FeaturesMeet.rt _)
   | exact (ih _ (by omega)).1 _ (by omega) _ _ _ _ _ h
   | exact (ih _ (by omega)).2 _ (by omega) _ _ _ _ _ _ h
   | (simp only [Option.bind_some] at h)
   | (refine ite_by h ?_ ?_ <;> (intro hc h; (try simp only [nrm] at hc)))
   | refine itT ?_
   | refine itF ?_
   | (refine bind_by h (fun t ht h => ?_); (first | refine (spec_PartsOf.ap_of (spec_PartsOf.go ht _ (by omega))).trans ?_ | refine (spec_HowMeet.ap_of (spec_HowMeet.go ht _)).trans ?_ | refine (spec_Max.ap_of (spec_Max.go ht _)).trans ?_); (try dsimp only at h ⊢))
   | (simp only [nr2] at h ⊢)
   | (exfalso; omega))
theorem spec_FeaturesMeet.go {k : Nat} {a0_0 : Int} {a0_1 : Int} {a0_2 : Int} {a0_3 : ByteArray} {l0_4 : List S77} {a1_0 : Int} {a1_1 : Int} {a1_2 : Int} {a1_3 : ByteArray} {l1_4 : List S77} {t} (h : spec_FeaturesMeet.f k a0_0 a0_1 a0_2 a0_3 l0_4 a1_0 a1_1 a1_2 a1_3 l1_4 = some t) (K : Nat) (hK : k ≤ K) : spec_FeaturesMeet.run K ((⟨a0_0, a0_1, a0_2, a0_3, l0_4⟩ : S28), (⟨a1_0, a1_1, a1_2, a1_3, l1_4⟩ : S28), ()) = some (spec_FeaturesMeet.toH t) := by
  rw [spec_FeaturesMeet.ef]
  (try dsimp only)
  unfold spec_FeaturesMeet.f at h
  repeat' (with_reducible first
   | exact nos h
   | (cases some_inj h; exact spec_FeaturesMeet.rt _)
   | exact (spec_FeaturesMeet.br _).1 _ (by omega) _ _ _ _ _ h
   | exact (spec_FeaturesMeet.br _).2 _ (by omega) _ _ _ _ _ _ h
   | (simp only [Option.bind_some] at h)
   | (refine ite_by h ?_ ?_ <;> (intro hc h; (try simp only [nrm] at hc)))
   | refine itT ?_
   | refine itF ?_
   | (refine bind_by h (fun t ht h => ?_); (first | refine (spec_PartsOf.ap_of (spec_PartsOf.go ht _ (by omega))).trans ?_ | refine (spec_HowMeet.ap_of (spec_HowMeet.go ht _)).trans ?_ | refine (spec_Max.ap_of (spec_Max.go ht _)).trans ?_); (try dsimp only at h ⊢))
   | (simp only [nr2] at h ⊢)
   | (exfalso; omega))
def spec_CanShrink.Fs : List (Spc env) := [spec_DropFrom.spec, spec_FeaturesMeet.spec]
def spec_CanShrink.fin : St eΓ → Option (HL eΓ [.b]) := finR env Try.f16.results.toList [.b]
def spec_CanShrink.cut : Nat → Option (List (Lv SC)) := lk [(3, [⟨2, none, false⟩, ⟨3, none, false⟩, ⟨7, none, false⟩, ⟨8, none, false⟩, ⟨9, none, false⟩])]
def spec_CanShrink.ret (r0 : Bool) : Option (HL eΓ [.b]) := some (r0, ())
def spec_CanShrink.p3 (k : Nat) (x8 : Bool) (x9 : Int) (x2 : List S28) (b1_0 : Int) (b1_1 : Int) (b1_2 : Int) (b1_3 : ByteArray) (b2_0 : Int) (b2_1 : Int) (b2_2 : Int) (b2_3 : ByteArray) (b3 : List S77) (b4 : List S77) : Option (HL eΓ [.b]) := evM env spec_CanShrink.Fs Try.f16.ntmps spec_CanShrink.fin spec_CanShrink.cut k [.code (sub_ [1, 1, 0, 1, 0, 0, 0, 0] (bodyOf Try.f16)), .code (sub_ [1, 1, 0, 1, 0, 0, 0, 1] (bodyOf Try.f16)), .code (sub_ [1, 1, 0, 1, 0, 0, 1] (bodyOf Try.f16)), .lp (sub_ [1, 1, 0, 1, 0, 0] (bodyOf Try.f16)), .blk 0, .code (sub_ [1, 1, 1] (bodyOf Try.f16))] (mkSt [(2, .c (.sl 0)), (3, .c (.ptr 1 0)), (7, .c (.ptr 2 0)), (8, .c (.v (.bool x8))), (9, .c (.v (.int .i64 x9)))] [.row .ro 28 (.st .s28) x2, .box 28 [.v (.int .i64 b1_0), .v (.int .i64 b1_1), .v (.int .i64 b1_2), .v (.string b1_3), .sl 3], .box 28 [.v (.int .i64 b2_0), .v (.int .i64 b2_1), .v (.int .i64 b2_2), .v (.string b2_3), .sl 4], .row .ro 77 (.st .s77) b3, .row .own 77 (.st .s77) b4])
theorem spec_CanShrink.e3 (k : Nat) (x8 : Bool) (x9 : Int) (x2 : List S28) (b1_0 : Int) (b1_1 : Int) (b1_2 : Int) (b1_3 : ByteArray) (b2_0 : Int) (b2_1 : Int) (b2_2 : Int) (b2_3 : ByteArray) (b3 : List S77) (b4 : List S77) : spec_CanShrink.p3 (k + 1) x8 x9 x2 b1_0 b1_1 b1_2 b1_3 b2_0 b2_1 b2_2 b2_3 b3 b4 = if x9 < (x2.length : Int) then (if x8 = true then (if 0 ≤ x9 then (if x9 < (x2.length : Int) then (spec_FeaturesMeet.ap k (⟨b2_0, b2_1, b2_2, b2_3, b4⟩ : S28) (⟨(rd_T28 x2 x9).f0, (rd_T28 x2 x9).f1, (rd_T28 x2 x9).f2, (rd_T28 x2 x9).f3, (rd_T28 x2 x9).f4⟩ : S28) fun r1 => if 0 ≤ x9 then (if x9 < (x2.length : Int) then (spec_FeaturesMeet.ap k (⟨b1_0, b1_1, b1_2, b1_3, b3⟩ : S28) (⟨(rd_T28 x2 x9).f0, (rd_T28 x2 x9).f1, (rd_T28 x2 x9).f2, (rd_T28 x2 x9).f3, (rd_T28 x2 x9).f4⟩ : S28) fun r2 => spec_CanShrink.p3 k (decide (r1 ≤ r2)) (wrap64 (x9 + 1)) x2 b1_0 b1_1 b1_2 b1_3 b2_0 b2_1 b2_2 b2_3 b3 b4) else none) else none) else none) else none) else (spec_CanShrink.ret x8)) else (spec_CanShrink.ret x8) := by kernel_rfl
def spec_CanShrink.run (k : Nat) (h : HL eΓ [.st .s28, .i .i64, .l 28 (.st .s28)]) : Option (HL eΓ [.b]) := evF env spec_CanShrink.Fs Try.f16 spec_CanShrink.cut [.st .s28, .i .i64, .l 28 (.st .s28)] [.b] k h
theorem spec_CanShrink.ef (k : Nat) (h0 : S28) (h1 : Int) (h2 : List S28) : spec_CanShrink.run k (h0, h1, h2, ()) = spec_DropFrom.ap k (⟨h0.f0, h0.f1, h0.f2, h0.f3, h0.f4⟩ : S28) h1 fun r1_0 r1_1 => spec_CanShrink.p3 k r1_1 0 h2 h0.f0 h0.f1 h0.f2 h0.f3 r1_0.f0 r1_0.f1 r1_0.f2 r1_0.f3 h0.f4 r1_0.f4 := by kernel_rfl
def spec_CanShrink.toH (t : Bool) : HL eΓ [.b] := (t, ())
def spec_CanShrink.spec : Spc env := ⟨16, [.st .s28, .i .i64, .l 28 (.st .s28)], [.b], spec_CanShrink.run⟩
def spec_CanShrink.ap {R : Type} (k : Nat) (h0 : S28) (h1 : Int) (h2 : List S28) (K : Bool → Option R) : Option R := (spec_CanShrink.run k (h0, h1, h2, ())).bind fun r => K (r.1 : Bool)
theorem spec_CanShrink.ap_of {R : Type} {k : Nat} {h0 : S28} {h1 : Int} {h2 : List S28} {r0 : Bool} {K : Bool → Option R} (h : spec_CanShrink.run k (h0, h1, h2, ()) = some (r0, ())) : spec_CanShrink.ap k h0 h1 h2 K = K r0 := by unfold spec_CanShrink.ap; rw [h]; rfl
theorem spec_CanShrink.snd : Snd env spec_CanShrink.spec := evF_snd env_ok (sndC spec_DropFrom.snd (sndC spec_FeaturesMeet.snd (sndN)))
attribute [local irreducible] spec_CanShrink.run
theorem spec_CanShrink.rt (a0 : Bool) : spec_CanShrink.ret a0 = some (spec_CanShrink.toH (a0)) := rfl
theorem spec_CanShrink.br (n : Nat) : (∀ K, n ≤ K → ∀ (x8 : Bool) (x9 : Int) (x2 : List S28) (b1_0 : Int) (b1_1 : Int) (b1_2 : Int) (b1_3 : ByteArray) (b2_0 : Int) (b2_1 : Int) (b2_2 : Int) (b2_3 : ByteArray) (b3 : List S77) (b4 : List S77) t, spec_CanShrink.l0 n x2 x8 x9 b1_0 b1_1 b1_2 b1_3 b3 b2_0 b2_1 b2_2 b2_3 b4 = some t → spec_CanShrink.p3 K x8 x9 x2 b1_0 b1_1 b1_2 b1_3 b2_0 b2_1 b2_2 b2_3 b3 b4 = some (spec_CanShrink.toH t)) := by
  induction n using Nat.strongRecOn with
  | _ n ih =>
  intro K hK x8 x9 x2 b1_0 b1_1 b1_2 b1_3 b2_0 b2_1 b2_2 b2_3 b3 b4 t h
  all_goals (rcases n with _ | k)
  all_goals (try (exact nos h))
  all_goals (obtain ⟨K, rfl⟩ : ∃ q, K = q + 1 := ⟨K - 1, by omega⟩)
  all_goals (first | rw [spec_CanShrink.e3])
  all_goals (simp only [spec_CanShrink.l0] at h)
  repeat' (with_reducible first
   | exact nos h
   | (cases some_inj h; exact spec_CanShrink.rt _)
   | exact (ih _ (by omega)) _ (by omega) _ _ _ _ _ _ _ _ _ _ _ _ _ _ h
   | ((have q : spec_CanShrink.j1 k _ _ _ _ _ _ _ _ _ _ _ _ _ _ = some _ := h; clear q); rcases k with _ | k <;> simp only [spec_CanShrink.j1, reduceCtorEq] at h)
   | (simp only [Option.bind_some] at h)
   | (refine ite_by h ?_ ?_ <;> (intro hc h; (try simp only [nrm] at hc)))
   | refine itT ?_
   | refine itF ?_
   | (refine bind_by h (fun t ht h => ?_); (first | refine (spec_DropFrom.ap_of (spec_DropFrom.go ht _ (by omega))).trans ?_ | refine (spec_FeaturesMeet.ap_of (spec_FeaturesMeet.go ht _ (by omega))).trans ?_); (try dsimp only at h ⊢))
   | (simp only [nr2] at h ⊢)
   | (exfalso; omega))
theorem spec_CanShrink.go {k : Nat} {a0_0 : Int} {a0_1 : Int} {a0_2 : Int} {a0_3 : ByteArray} {l0_4 : List S77} {a1 : Int} {l2 : List S28} {t} (h : spec_CanShrink.f k a0_0 a0_1 a0_2 a0_3 l0_4 a1 l2 = some t) (K : Nat) (hK : k ≤ K) : spec_CanShrink.run K ((⟨a0_0, a0_1, a0_2, a0_3, l0_4⟩ : S28), a1, l2, ()) = some (spec_CanShrink.toH t) := by
  rw [spec_CanShrink.ef]
  (try dsimp only)
  unfold spec_CanShrink.f at h
  repeat' (with_reducible first
   | exact nos h
   | (cases some_inj h; exact spec_CanShrink.rt _)
   | exact (spec_CanShrink.br _) _ (by omega) _ _ _ _ _ _ _ _ _ _ _ _ _ _ h
   | ((have q : spec_CanShrink.j1 k _ _ _ _ _ _ _ _ _ _ _ _ _ _ = some _ := h; clear q); rcases k with _ | k <;> simp only [spec_CanShrink.j1, reduceCtorEq] at h)
   | (simp only [Option.bind_some] at h)
   | (refine ite_by h ?_ ?_ <;> (intro hc h; (try simp only [nrm] at hc)))
   | refine itT ?_
   | refine itF ?_
   | (refine bind_by h (fun t ht h => ?_); (first | refine (spec_DropFrom.ap_of (spec_DropFrom.go ht _ (by omega))).trans ?_ | refine (spec_FeaturesMeet.ap_of (spec_FeaturesMeet.go ht _ (by omega))).trans ?_); (try dsimp only at h ⊢))
   | (simp only [nr2] at h ⊢)
   | (exfalso; omega))
def spec_CornerArea.Fs : List (Spc env) := [spec_IsLine.spec, spec_l1In.spec, spec_l4Cross.spec, spec_Max.spec]
def spec_CornerArea.cut : Nat → Option (List (Lv SC)) := lk []
def spec_CornerArea.ret (r0 : Int) : Option (HL eΓ [.i .i64]) := some (r0, ())
def spec_CornerArea.run (k : Nat) (h : HL eΓ [.l 77 (.st .s77), .i .i64]) : Option (HL eΓ [.i .i64]) := evF env spec_CornerArea.Fs Try.f90 spec_CornerArea.cut [.l 77 (.st .s77), .i .i64] [.i .i64] k h
theorem spec_CornerArea.ef (k : Nat) (h0 : List S77) (h1 : Int) : spec_CornerArea.run k (h0, h1, ()) = spec_IsLine.ap k h0 fun r1 => if (!r1) = true then (spec_CornerArea.ret (-1)) else (spec_l1In.ap k h1 1 (wrap64 ((h0.length : Int) - 2)) fun r2 => if (!r2) = true then (spec_CornerArea.ret (-1)) else (if 0 ≤ (wrap64 (h1 - 1)) then (if (wrap64 (h1 - 1)) < (h0.length : Int) then (if 0 ≤ h1 then (if h1 < (h0.length : Int) then (if 0 ≤ (wrap64 (h1 + 1)) then (if (wrap64 (h1 + 1)) < (h0.length : Int) then (spec_l4Cross.ap k (⟨(rd_T77 h0 (wrap64 (h1 - 1))).f0, (rd_T77 h0 (wrap64 (h1 - 1))).f1⟩ : S77) (⟨(rd_T77 h0 h1).f0, (rd_T77 h0 h1).f1⟩ : S77) (⟨(rd_T77 h0 (wrap64 (h1 + 1))).f0, (rd_T77 h0 (wrap64 (h1 + 1))).f1⟩ : S77) fun r3 => spec_Max.ap k r3 (wrap64 (0 - r3)) fun r4 => spec_CornerArea.ret r4) else none) else none) else none) else none) else none) else none)) := by kernel_rfl
def spec_CornerArea.toH (t : Int) : HL eΓ [.i .i64] := (t, ())
def spec_CornerArea.spec : Spc env := ⟨90, [.l 77 (.st .s77), .i .i64], [.i .i64], spec_CornerArea.run⟩
def spec_CornerArea.ap {R : Type} (k : Nat) (h0 : List S77) (h1 : Int) (K : Int → Option R) : Option R := (spec_CornerArea.run k (h0, h1, ())).bind fun r => K (r.1 : Int)
theorem spec_CornerArea.ap_of {R : Type} {k : Nat} {h0 : List S77} {h1 : Int} {r0 : Int} {K : Int → Option R} (h : spec_CornerArea.run k (h0, h1, ()) = some (r0, ())) : spec_CornerArea.ap k h0 h1 K = K r0 := by unfold spec_CornerArea.ap; rw [h]; rfl
theorem spec_CornerArea.snd : Snd env spec_CornerArea.spec := evF_snd env_ok (sndC spec_IsLine.snd (sndC spec_l1In.snd (sndC spec_l4Cross.snd (sndC spec_Max.snd (sndN)))))
attribute [local irreducible] spec_CornerArea.run
theorem spec_CornerArea.rt (a0 : Int) : spec_CornerArea.ret a0 = some (spec_CornerArea.toH (a0)) := rfl
theorem spec_CornerArea.go {k : Nat} {l0 : List S77} {a1 : Int} {t} (h : spec_CornerArea.f k l0 a1 = some t) (K : Nat) (hK : k ≤ K) : spec_CornerArea.run K (l0, a1, ()) = some (spec_CornerArea.toH t) := by
  rw [spec_CornerArea.ef]
  (try dsimp only)
  unfold spec_CornerArea.f at h
  repeat' (with_reducible first
   | exact nos h
   | (cases some_inj h; exact spec_CornerArea.rt _)
   | ((have q : spec_CornerArea.j0 k _ _ _ = some _ := h; clear q); rcases k with _ | k <;> simp only [spec_CornerArea.j0, reduceCtorEq] at h)
   | (simp only [Option.bind_some] at h)
   | (refine ite_by h ?_ ?_ <;> (intro hc h; (try simp only [nrm] at hc)))
   | refine itT ?_
   | refine itF ?_
   | (refine bind_by h (fun t ht h => ?_); (first | refine (spec_IsLine.ap_of (spec_IsLine.go ht _ (by omega))).trans ?_ | refine (spec_l1In.ap_of (spec_l1In.go ht _)).trans ?_ | refine (spec_l4Cross.ap_of (spec_l4Cross.go ht _)).trans ?_ | refine (spec_Max.ap_of (spec_Max.go ht _)).trans ?_); (try dsimp only at h ⊢))
   | (simp only [nr2, Int.zero_sub] at h ⊢)
   | (exfalso; omega))
def spec_CornerSize.Fs : List (Spc env) := [spec_IsRing.spec, spec_l1In.spec, spec_l4Cross.spec, spec_Max.spec]
def spec_CornerSize.cut : Nat → Option (List (Lv SC)) := lk []
def spec_CornerSize.ret (r0 : Int) : Option (HL eΓ [.i .i64]) := some (r0, ())
def spec_CornerSize.run (k : Nat) (h : HL eΓ [.l 77 (.st .s77), .i .i64]) : Option (HL eΓ [.i .i64]) := evF env spec_CornerSize.Fs Try.f91 spec_CornerSize.cut [.l 77 (.st .s77), .i .i64] [.i .i64] k h
theorem spec_CornerSize.ef (k : Nat) (h0 : List S77) (h1 : Int) : spec_CornerSize.run k (h0, h1, ()) = spec_IsRing.ap k h0 fun r1 => if (!r1) = true then (spec_CornerSize.ret (-1)) else (spec_l1In.ap k h1 0 (wrap64 ((h0.length : Int) - 1)) fun r2 => if (!r2) = true then (spec_CornerSize.ret (-1)) else (if (h0.length : Int) = 0 then none else (if 0 ≤ (Int.tmod (wrap64 ((wrap64 (h1 + (h0.length : Int))) - 1)) (h0.length : Int)) then (if (Int.tmod (wrap64 ((wrap64 (h1 + (h0.length : Int))) - 1)) (h0.length : Int)) < (h0.length : Int) then (if 0 ≤ h1 then (if h1 < (h0.length : Int) then (if (h0.length : Int) = 0 then none else (if 0 ≤ (Int.tmod (wrap64 (h1 + 1)) (h0.length : Int)) then (if (Int.tmod (wrap64 (h1 + 1)) (h0.length : Int)) < (h0.length : Int) then (spec_l4Cross.ap k (⟨(rd_T77 h0 (Int.tmod (wrap64 ((wrap64 (h1 + (h0.length : Int))) - 1)) (h0.length : Int))).f0, (rd_T77 h0 (Int.tmod (wrap64 ((wrap64 (h1 + (h0.length : Int))) - 1)) (h0.length : Int))).f1⟩ : S77) (⟨(rd_T77 h0 h1).f0, (rd_T77 h0 h1).f1⟩ : S77) (⟨(rd_T77 h0 (Int.tmod (wrap64 (h1 + 1)) (h0.length : Int))).f0, (rd_T77 h0 (Int.tmod (wrap64 (h1 + 1)) (h0.length : Int))).f1⟩ : S77) fun r3 => spec_Max.ap k r3 (wrap64 (0 - r3)) fun r4 => spec_CornerSize.ret r4) else none) else none)) else none) else none) else none) else none))) := by kernel_rfl
def spec_CornerSize.toH (t : Int) : HL eΓ [.i .i64] := (t, ())
def spec_CornerSize.spec : Spc env := ⟨91, [.l 77 (.st .s77), .i .i64], [.i .i64], spec_CornerSize.run⟩
def spec_CornerSize.ap {R : Type} (k : Nat) (h0 : List S77) (h1 : Int) (K : Int → Option R) : Option R := (spec_CornerSize.run k (h0, h1, ())).bind fun r => K (r.1 : Int)
theorem spec_CornerSize.ap_of {R : Type} {k : Nat} {h0 : List S77} {h1 : Int} {r0 : Int} {K : Int → Option R} (h : spec_CornerSize.run k (h0, h1, ()) = some (r0, ())) : spec_CornerSize.ap k h0 h1 K = K r0 := by unfold spec_CornerSize.ap; rw [h]; rfl
theorem spec_CornerSize.snd : Snd env spec_CornerSize.spec := evF_snd env_ok (sndC spec_IsRing.snd (sndC spec_l1In.snd (sndC spec_l4Cross.snd (sndC spec_Max.snd (sndN)))))
attribute [local irreducible] spec_CornerSize.run
theorem spec_CornerSize.rt (a0 : Int) : spec_CornerSize.ret a0 = some (spec_CornerSize.toH (a0)) := rfl
theorem spec_CornerSize.go {k : Nat} {l0 : List S77} {a1 : Int} {t} (h : spec_CornerSize.f k l0 a1 = some t) (K : Nat) (hK : k ≤ K) : spec_CornerSize.run K (l0, a1, ()) = some (spec_CornerSize.toH t) := by
  rw [spec_CornerSize.ef]
  (try dsimp only)
  unfold spec_CornerSize.f at h
  repeat' (with_reducible first
   | exact nos h
   | (cases some_inj h; exact spec_CornerSize.rt _)
   | ((have q : spec_CornerSize.j0 k _ _ _ = some _ := h; clear q); rcases k with _ | k <;> simp only [spec_CornerSize.j0, reduceCtorEq] at h)
   | (simp only [Option.bind_some] at h)
   | (refine ite_by h ?_ ?_ <;> (intro hc h; (try simp only [nrm] at hc)))
   | refine itT ?_
   | refine itF ?_
   | (refine bind_by h (fun t ht h => ?_); (first | refine (spec_IsRing.ap_of (spec_IsRing.go ht _ (by omega))).trans ?_ | refine (spec_l1In.ap_of (spec_l1In.go ht _)).trans ?_ | refine (spec_l4Cross.ap_of (spec_l4Cross.go ht _)).trans ?_ | refine (spec_Max.ap_of (spec_Max.go ht _)).trans ?_); (try dsimp only at h ⊢))
   | (simp only [nr2, Int.zero_sub] at h ⊢)
   | (exfalso; omega))
def spec_SizeAt.Fs : List (Spc env) := [spec_CornerArea.spec, spec_CornerSize.spec]
def spec_SizeAt.cut : Nat → Option (List (Lv SC)) := lk []
def spec_SizeAt.ret (r0 : Int) : Option (HL eΓ [.i .i64]) := some (r0, ())
def spec_SizeAt.run (k : Nat) (h : HL eΓ [.st .s28, .i .i64]) : Option (HL eΓ [.i .i64]) := evF env spec_SizeAt.Fs Try.f51 spec_SizeAt.cut [.st .s28, .i .i64] [.i .i64] k h
theorem spec_SizeAt.ef (k : Nat) (h0 : S28) (h1 : Int) : spec_SizeAt.run k (h0, h1, ()) = if h0.f1 = 2 then (spec_CornerArea.ap k h0.f4 h1 fun r1 => spec_SizeAt.ret r1) else (if h0.f1 = 3 then (spec_CornerSize.ap k h0.f4 h1 fun r2 => spec_SizeAt.ret r2) else (spec_SizeAt.ret (-1))) := by kernel_rfl
def spec_SizeAt.toH (t : Int) : HL eΓ [.i .i64] := (t, ())
def spec_SizeAt.spec : Spc env := ⟨51, [.st .s28, .i .i64], [.i .i64], spec_SizeAt.run⟩
def spec_SizeAt.ap {R : Type} (k : Nat) (h0 : S28) (h1 : Int) (K : Int → Option R) : Option R := (spec_SizeAt.run k (h0, h1, ())).bind fun r => K (r.1 : Int)
theorem spec_SizeAt.ap_of {R : Type} {k : Nat} {h0 : S28} {h1 : Int} {r0 : Int} {K : Int → Option R} (h : spec_SizeAt.run k (h0, h1, ()) = some (r0, ())) : spec_SizeAt.ap k h0 h1 K = K r0 := by unfold spec_SizeAt.ap; rw [h]; rfl
theorem spec_SizeAt.snd : Snd env spec_SizeAt.spec := evF_snd env_ok (sndC spec_CornerArea.snd (sndC spec_CornerSize.snd (sndN)))
attribute [local irreducible] spec_SizeAt.run
theorem spec_SizeAt.rt (a0 : Int) : spec_SizeAt.ret a0 = some (spec_SizeAt.toH (a0)) := rfl
theorem spec_SizeAt.go {k : Nat} {a0_0 : Int} {a0_1 : Int} {a0_2 : Int} {a0_3 : ByteArray} {l0_4 : List S77} {a1 : Int} {t} (h : spec_SizeAt.f k a0_0 a0_1 a0_2 a0_3 l0_4 a1 = some t) (K : Nat) (hK : k ≤ K) : spec_SizeAt.run K ((⟨a0_0, a0_1, a0_2, a0_3, l0_4⟩ : S28), a1, ()) = some (spec_SizeAt.toH t) := by
  rw [spec_SizeAt.ef]
  (try dsimp only)
  unfold spec_SizeAt.f at h
  repeat' (with_reducible first
   | exact nos h
   | (cases some_inj h; exact spec_SizeAt.rt _)
   | (simp only [Option.bind_some] at h)
   | (refine ite_by h ?_ ?_ <;> (intro hc h; (try simp only [nrm] at hc)))
   | refine itT ?_
   | refine itF ?_
   | (refine bind_by h (fun t ht h => ?_); (first | refine (spec_CornerArea.ap_of (spec_CornerArea.go ht _ (by omega))).trans ?_ | refine (spec_CornerSize.ap_of (spec_CornerSize.go ht _ (by omega))).trans ?_); (try dsimp only at h ⊢))
   | (simp only [nr2] at h ⊢)
   | (exfalso; omega))
def spec_ShrinkFeature.Fs : List (Spc env) := [spec_l9Feature.spec, spec_IsFeature.spec, spec_SizeAt.spec, spec_CanShrink.spec, spec_DropFrom.spec]
def spec_ShrinkFeature.fin : St eΓ → Option (HL eΓ [.st .s28]) := finR env Try.f20.results.toList [.st .s28]
def spec_ShrinkFeature.cut : Nat → Option (List (Lv SC)) := lk [(2, [⟨1, none, false⟩, ⟨2, none, false⟩, ⟨3, none, false⟩, ⟨6, none, false⟩, ⟨7, none, false⟩]), (5, [⟨1, none, false⟩, ⟨2, none, false⟩, ⟨3, none, false⟩, ⟨6, none, false⟩, ⟨7, none, false⟩, ⟨8, none, false⟩, ⟨9, none, false⟩])]
def spec_ShrinkFeature.ret (r0 : S28) : Option (HL eΓ [.st .s28]) := some (r0, ())
def spec_ShrinkFeature.p2 (k : Nat) (x2 : Int) (x1 : List S28) (b1_0 : Int) (b1_1 : Int) (b1_2 : Int) (b1_3 : ByteArray) (b2_0 : Int) (b2_1 : Int) (b2_2 : Int) (b2_3 : ByteArray) (b3_0 : Int) (b3_1 : Int) (b3_2 : Int) (b3_3 : ByteArray) (b4 : List S77) (b5 : List S77) : Option (HL eΓ [.st .s28]) := evM env spec_ShrinkFeature.Fs Try.f20.ntmps spec_ShrinkFeature.fin spec_ShrinkFeature.cut k [.code (sub_ [1, 1, 0, 0, 0, 0, 0] (bodyOf Try.f20)), .code (sub_ [1, 1, 0, 0, 0, 0, 1] (bodyOf Try.f20)), .code (sub_ [1, 1, 0, 0, 0, 1] (bodyOf Try.f20)), .lp (sub_ [1, 1, 0, 0, 0] (bodyOf Try.f20)), .blk 0, .code (sub_ [1, 1, 1] (bodyOf Try.f20))] (mkSt [(1, .c (.sl 0)), (2, .c (.v (.int .i64 x2))), (3, .c (.ptr 1 0)), (6, .c (.ptr 2 0)), (7, .c (.ptr 3 0))] [.row .ro 28 (.st .s28) x1, .box 28 [.v (.int .i64 b1_0), .v (.int .i64 b1_1), .v (.int .i64 b1_2), .v (.string b1_3), .sl 4], .box 28 [.v (.int .i64 b2_0), .v (.int .i64 b2_1), .v (.int .i64 b2_2), .v (.string b2_3), .v (.slice none 0 0)], .box 28 [.v (.int .i64 b3_0), .v (.int .i64 b3_1), .v (.int .i64 b3_2), .v (.string b3_3), .sl 5], .row .ro 77 (.st .s77) b4, .row .own 77 (.st .s77) b5])
def spec_ShrinkFeature.p5 (k : Nat) (x2 : Int) (x8 : Int) (x9 : Int) (x1 : List S28) (b1_0 : Int) (b1_1 : Int) (b1_2 : Int) (b1_3 : ByteArray) (b2_0 : Int) (b2_1 : Int) (b2_2 : Int) (b2_3 : ByteArray) (b3_0 : Int) (b3_1 : Int) (b3_2 : Int) (b3_3 : ByteArray) (b4 : List S77) (b5 : List S77) : Option (HL eΓ [.st .s28]) := evM env spec_ShrinkFeature.Fs Try.f20.ntmps spec_ShrinkFeature.fin spec_ShrinkFeature.cut k [.code (sub_ [1, 1, 0, 0, 0, 1, 0, 1, 0, 1, 0, 0, 0, 0] (bodyOf Try.f20)), .code (sub_ [1, 1, 0, 0, 0, 1, 0, 1, 0, 1, 0, 0, 0, 1] (bodyOf Try.f20)), .code (sub_ [1, 1, 0, 0, 0, 1, 0, 1, 0, 1, 0, 0, 1] (bodyOf Try.f20)), .lp (sub_ [1, 1, 0, 0, 0, 1, 0, 1, 0, 1, 0, 0] (bodyOf Try.f20)), .blk 2, .code (sub_ [1, 1, 0, 0, 0, 1, 0, 1, 1] (bodyOf Try.f20)), .blk 1, .lp (sub_ [1, 1, 0, 0, 0] (bodyOf Try.f20)), .blk 0, .code (sub_ [1, 1, 1] (bodyOf Try.f20))] (mkSt [(1, .c (.sl 0)), (2, .c (.v (.int .i64 x2))), (3, .c (.ptr 1 0)), (6, .c (.ptr 2 0)), (7, .c (.ptr 3 0)), (8, .c (.v (.int .i64 x8))), (9, .c (.v (.int .i64 x9)))] [.row .ro 28 (.st .s28) x1, .box 28 [.v (.int .i64 b1_0), .v (.int .i64 b1_1), .v (.int .i64 b1_2), .v (.string b1_3), .sl 4], .box 28 [.v (.int .i64 b2_0), .v (.int .i64 b2_1), .v (.int .i64 b2_2), .v (.string b2_3), .v (.slice none 0 0)], .box 28 [.v (.int .i64 b3_0), .v (.int .i64 b3_1), .v (.int .i64 b3_2), .v (.string b3_3), .sl 5], .row .ro 77 (.st .s77) b4, .row .own 77 (.st .s77) b5])
theorem spec_ShrinkFeature.e2 (k : Nat) (x2 : Int) (x1 : List S28) (b1_0 : Int) (b1_1 : Int) (b1_2 : Int) (b1_3 : ByteArray) (b2_0 : Int) (b2_1 : Int) (b2_2 : Int) (b2_3 : ByteArray) (b3_0 : Int) (b3_1 : Int) (b3_2 : Int) (b3_3 : ByteArray) (b4 : List S77) (b5 : List S77) : spec_ShrinkFeature.p2 (k + 1) x2 x1 b1_0 b1_1 b1_2 b1_3 b2_0 b2_1 b2_2 b2_3 b3_0 b3_1 b3_2 b3_3 b4 b5 = spec_IsFeature.ap k (⟨b1_0, b1_1, b1_2, b1_3, b4⟩ : S28) fun r1 => if r1 = true then (spec_ShrinkFeature.p5 k x2 (-1) 0 x1 b1_0 b1_1 b1_2 b1_3 b2_0 b2_1 b2_2 b2_3 b3_0 b3_1 b3_2 b3_3 b4 b5) else (spec_ShrinkFeature.ret (⟨b3_0, b3_1, b3_2, b3_3, b5⟩ : S28)) := by kernel_rfl
theorem spec_ShrinkFeature.e5 (k : Nat) (x2 : Int) (x8 : Int) (x9 : Int) (x1 : List S28) (b1_0 : Int) (b1_1 : Int) (b1_2 : Int) (b1_3 : ByteArray) (b2_0 : Int) (b2_1 : Int) (b2_2 : Int) (b2_3 : ByteArray) (b3_0 : Int) (b3_1 : Int) (b3_2 : Int) (b3_3 : ByteArray) (b4 : List S77) (b5 : List S77) : spec_ShrinkFeature.p5 (k + 1) x2 x8 x9 x1 b1_0 b1_1 b1_2 b1_3 b2_0 b2_1 b2_2 b2_3 b3_0 b3_1 b3_2 b3_3 b4 b5 = if x9 < (b5.length : Int) then (spec_SizeAt.ap k (⟨b3_0, b3_1, b3_2, b3_3, b5⟩ : S28) x9 fun r1 => if r1 ≥ 0 then (if r1 < x2 then (if x8 < 0 then (spec_CanShrink.ap k (⟨b3_0, b3_1, b3_2, b3_3, b5⟩ : S28) x9 x1 fun r2 => if r2 = true then (spec_ShrinkFeature.p5 k x2 x9 (wrap64 (x9 + 1)) x1 b1_0 b1_1 b1_2 b1_3 b2_0 b2_1 b2_2 b2_3 b3_0 b3_1 b3_2 b3_3 b4 b5) else (spec_ShrinkFeature.p5 k x2 x8 (wrap64 (x9 + 1)) x1 b1_0 b1_1 b1_2 b1_3 b2_0 b2_1 b2_2 b2_3 b3_0 b3_1 b3_2 b3_3 b4 b5)) else (spec_SizeAt.ap k (⟨b3_0, b3_1, b3_2, b3_3, b5⟩ : S28) x8 fun r3 => if r1 < r3 then (spec_CanShrink.ap k (⟨b3_0, b3_1, b3_2, b3_3, b5⟩ : S28) x9 x1 fun r4 => if r4 = true then (spec_ShrinkFeature.p5 k x2 x9 (wrap64 (x9 + 1)) x1 b1_0 b1_1 b1_2 b1_3 b2_0 b2_1 b2_2 b2_3 b3_0 b3_1 b3_2 b3_3 b4 b5) else (spec_ShrinkFeature.p5 k x2 x8 (wrap64 (x9 + 1)) x1 b1_0 b1_1 b1_2 b1_3 b2_0 b2_1 b2_2 b2_3 b3_0 b3_1 b3_2 b3_3 b4 b5)) else (spec_ShrinkFeature.p5 k x2 x8 (wrap64 (x9 + 1)) x1 b1_0 b1_1 b1_2 b1_3 b2_0 b2_1 b2_2 b2_3 b3_0 b3_1 b3_2 b3_3 b4 b5))) else (spec_ShrinkFeature.p5 k x2 x8 (wrap64 (x9 + 1)) x1 b1_0 b1_1 b1_2 b1_3 b2_0 b2_1 b2_2 b2_3 b3_0 b3_1 b3_2 b3_3 b4 b5)) else (spec_ShrinkFeature.p5 k x2 x8 (wrap64 (x9 + 1)) x1 b1_0 b1_1 b1_2 b1_3 b2_0 b2_1 b2_2 b2_3 b3_0 b3_1 b3_2 b3_3 b4 b5)) else (if x8 < 0 then (spec_ShrinkFeature.ret (⟨b3_0, b3_1, b3_2, b3_3, b5⟩ : S28)) else (spec_DropFrom.ap k (⟨b3_0, b3_1, b3_2, b3_3, b5⟩ : S28) x8 fun r5_0 r5_1 => spec_ShrinkFeature.p2 k x2 x1 b1_0 b1_1 b1_2 b1_3 b2_0 b2_1 b2_2 b2_3 r5_0.f0 r5_0.f1 r5_0.f2 r5_0.f3 b4 r5_0.f4)) := by kernel_rfl
def spec_ShrinkFeature.run (k : Nat) (h : HL eΓ [.st .s28, .l 28 (.st .s28), .i .i64]) : Option (HL eΓ [.st .s28]) := evF env spec_ShrinkFeature.Fs Try.f20 spec_ShrinkFeature.cut [.st .s28, .l 28 (.st .s28), .i .i64] [.st .s28] k h
theorem spec_ShrinkFeature.ef (k : Nat) (h0 : S28) (h1 : List S28) (h2 : Int) : spec_ShrinkFeature.run k (h0, h1, h2, ()) = spec_l9Feature.ap k (⟨h0.f0, h0.f1, h0.f2, h0.f3, h0.f4⟩ : S28) fun r1 => spec_ShrinkFeature.p2 k h2 h1 h0.f0 h0.f1 h0.f2 h0.f3 0 0 0 (⟨#[]⟩ : ByteArray) r1.f0 r1.f1 r1.f2 r1.f3 h0.f4 r1.f4 := by kernel_rfl
def spec_ShrinkFeature.toH (t : Int × Int × Int × ByteArray × (List (S77))) : HL eΓ [.st .s28] := ((⟨t.1, t.2.1, t.2.2.1, t.2.2.2.1, t.2.2.2.2⟩ : S28), ())
def spec_ShrinkFeature.spec : Spc env := ⟨20, [.st .s28, .l 28 (.st .s28), .i .i64], [.st .s28], spec_ShrinkFeature.run⟩
theorem spec_ShrinkFeature.snd : Snd env spec_ShrinkFeature.spec := evF_snd env_ok (sndC spec_l9Feature.snd (sndC spec_IsFeature.snd (sndC spec_SizeAt.snd (sndC spec_CanShrink.snd (sndC spec_DropFrom.snd (sndN))))))
attribute [local irreducible] spec_ShrinkFeature.run
theorem spec_ShrinkFeature.rt (a0 : Int) (a1 : Int) (a2 : Int) (a3 : ByteArray) (a4 : List S77) : spec_ShrinkFeature.ret (⟨a0, a1, a2, a3, a4⟩ : S28) = some (spec_ShrinkFeature.toH (a0, a1, a2, a3, a4)) := rfl
theorem spec_ShrinkFeature.br (n : Nat) : (∀ K, n ≤ K → ∀ (x2 : Int) (x1 : List S28) (b1_0 : Int) (b1_1 : Int) (b1_2 : Int) (b1_3 : ByteArray) (b2_0 : Int) (b2_1 : Int) (b2_2 : Int) (b2_3 : ByteArray) (b3_0 : Int) (b3_1 : Int) (b3_2 : Int) (b3_3 : ByteArray) (b4 : List S77) (b5 : List S77) t, spec_ShrinkFeature.l0 n x1 x2 b1_0 b1_1 b1_2 b1_3 b4 b3_0 b3_1 b3_2 b3_3 b5 = some t → spec_ShrinkFeature.p2 K x2 x1 b1_0 b1_1 b1_2 b1_3 b2_0 b2_1 b2_2 b2_3 b3_0 b3_1 b3_2 b3_3 b4 b5 = some (spec_ShrinkFeature.toH t)) ∧ (∀ K, n ≤ K → ∀ (x2 : Int) (x8 : Int) (x9 : Int) (x1 : List S28) (b1_0 : Int) (b1_1 : Int) (b1_2 : Int) (b1_3 : ByteArray) (b2_0 : Int) (b2_1 : Int) (b2_2 : Int) (b2_3 : ByteArray) (b3_0 : Int) (b3_1 : Int) (b3_2 : Int) (b3_3 : ByteArray) (b4 : List S77) (b5 : List S77) t, spec_ShrinkFeature.l1 n x1 x2 x8 x9 b1_0 b1_1 b1_2 b1_3 b4 b3_0 b3_1 b3_2 b3_3 b5 = some t → spec_ShrinkFeature.p5 K x2 x8 x9 x1 b1_0 b1_1 b1_2 b1_3 b2_0 b2_1 b2_2 b2_3 b3_0 b3_1 b3_2 b3_3 b4 b5 = some (spec_ShrinkFeature.toH t)) := by
  induction n using Nat.strongRecOn with
  | _ n ih =>
  refine ⟨fun K hK x2 x1 b1_0 b1_1 b1_2 b1_3 b2_0 b2_1 b2_2 b2_3 b3_0 b3_1 b3_2 b3_3 b4 b5 t h => ?_, fun K hK x2 x8 x9 x1 b1_0 b1_1 b1_2 b1_3 b2_0 b2_1 b2_2 b2_3 b3_0 b3_1 b3_2 b3_3 b4 b5 t h => ?_⟩
  all_goals (rcases n with _ | k)
  all_goals (try (exact nos h))
  all_goals (obtain ⟨K, rfl⟩ : ∃ q, K = q + 1 := ⟨K - 1, by omega⟩)
  all_goals (first | rw [spec_ShrinkFeature.e2] | rw [spec_ShrinkFeature.e5])
  all_goals (simp only [spec_ShrinkFeature.l0, spec_ShrinkFeature.l1] at h)
  repeat' (with_reducible first
   | exact nos h
   | (cases some_inj h; exact spec_ShrinkFeature.rt _ _ _ _ _)
   | exact (ih _ (by omega)).1 _ (by omega) _ _ _ _ _ _ _ _ _ _ _ _ _ _ _ _ _ h
   | exact (ih _ (by omega)).2 _ (by omega) _ _ _ _ _ _ _ _ _ _ _ _ _ _ _ _ _ _ _ h
   | (simp only [Option.bind_some] at h)
   | (refine ite_by h ?_ ?_ <;> (intro hc h; (try simp only [nrm] at hc)))
   | refine itT ?_
   | refine itF ?_
   | (refine bind_by h (fun t ht h => ?_); (first | refine (spec_l9Feature.ap_of (spec_l9Feature.go ht _)).trans ?_ | refine (spec_IsFeature.ap_of (spec_IsFeature.go ht _ (by omega))).trans ?_ | refine (spec_SizeAt.ap_of (spec_SizeAt.go ht _ (by omega))).trans ?_ | refine (spec_CanShrink.ap_of (spec_CanShrink.go ht _ (by omega))).trans ?_ | refine (spec_DropFrom.ap_of (spec_DropFrom.go ht _ (by omega))).trans ?_); (try dsimp only at h ⊢))
   | (simp only [nr2] at h ⊢)
   | (exfalso; omega))
theorem spec_ShrinkFeature.go {k : Nat} {a0_0 : Int} {a0_1 : Int} {a0_2 : Int} {a0_3 : ByteArray} {l0_4 : List S77} {l1 : List S28} {a2 : Int} {t} (h : spec_ShrinkFeature.f k a0_0 a0_1 a0_2 a0_3 l0_4 l1 a2 = some t) (K : Nat) (hK : k ≤ K) : spec_ShrinkFeature.run K ((⟨a0_0, a0_1, a0_2, a0_3, l0_4⟩ : S28), l1, a2, ()) = some (spec_ShrinkFeature.toH t) := by
  rw [spec_ShrinkFeature.ef]
  (try dsimp only)
  unfold spec_ShrinkFeature.f at h
  repeat' (with_reducible first
   | exact nos h
   | (cases some_inj h; exact spec_ShrinkFeature.rt _ _ _ _ _)
   | exact (spec_ShrinkFeature.br _).1 _ (by omega) _ _ _ _ _ _ _ _ _ _ _ _ _ _ _ _ _ h
   | exact (spec_ShrinkFeature.br _).2 _ (by omega) _ _ _ _ _ _ _ _ _ _ _ _ _ _ _ _ _ _ _ h
   | (simp only [Option.bind_some] at h)
   | (refine ite_by h ?_ ?_ <;> (intro hc h; (try simp only [nrm] at hc)))
   | refine itT ?_
   | refine itF ?_
   | (refine bind_by h (fun t ht h => ?_); (first | refine (spec_l9Feature.ap_of (spec_l9Feature.go ht _)).trans ?_ | refine (spec_IsFeature.ap_of (spec_IsFeature.go ht _ (by omega))).trans ?_ | refine (spec_SizeAt.ap_of (spec_SizeAt.go ht _ (by omega))).trans ?_ | refine (spec_CanShrink.ap_of (spec_CanShrink.go ht _ (by omega))).trans ?_ | refine (spec_DropFrom.ap_of (spec_DropFrom.go ht _ (by omega))).trans ?_); (try dsimp only at h ⊢))
   | (simp only [nr2] at h ⊢)
   | (exfalso; omega))
theorem spec_ShrinkFeature.calls (k : Nat) (a0_0 : Int) (a0_1 : Int) (a0_2 : Int) (a0_3 : ByteArray) (A0_4 : Option Addr) (c0_4 : Nat) (l0_4 : List (S77)) (A1 : Option Addr) (c1 : Nat) (l1 : List (S28)) (a2 : Int) (r1 : Int) (r2 : Int) (r3 : Int) (r4 : ByteArray) (r5 : List (S77)) (w : World) (hr0_4 : Kd.C k77 w A0_4 l0_4.length l0_4) (hc0_4 : l0_4.length ≤ c0_4) (hr1 : Kd.C k28 w A1 l1.length l1) (hc1 : l1.length ≤ c1) (h : spec_ShrinkFeature.f k a0_0 a0_1 a0_2 a0_3 l0_4 l1 a2 = some (r1, r2, r3, r4, r5)) :
  Calls Try.prog 20 #[.agg #[.int .i64 a0_0, .int .i64 a0_1, .int .i64 a0_2, .string a0_3, .slice A0_4 l0_4.length c0_4], .slice A1 l1.length c1, .int .i64 a2] w fun e w' => ∃ v4_ : Value, e = .returned (.agg #[.int .i64 r1, .int .i64 r2, .int .i64 r3, .string r4, v4_]) ∧ Kd.R k77 77 w' w.heap.size (fun _ => True) v4_ r5 ∧ Below w.heap.size w w' := by
  refine (spec_ShrinkFeature.snd.calls _ _ _ (spec_ShrinkFeature.go h k (Nat.le_refl k)) w [.agg #[.int .i64 a0_0, .int .i64 a0_1, .int .i64 a0_2, .string a0_3, .slice A0_4 l0_4.length c0_4], .slice A1 l1.length c1, .int .i64 a2] ⟨⟨_, rfl, (H28.K _ _ _).2 ⟨rfl, rfl, rfl, rfl, ⟨_, _, rfl, hc0_4, hr0_4⟩, trivial⟩⟩, ⟨_, _, rfl, hc1, hr1⟩, rfl, trivial⟩).mono ?_
  rintro e w' ⟨v, rfl, hB, vs, oks, rfl, hR, _⟩
  obtain ⟨x0_, vs, o0_, oks, rfl, rfl, m0_, hR⟩ := rmsC hR
  obtain rfl := rmsN hR
  obtain ⟨y0, rfl, m0_⟩ := m0_
  have m0_ := (H28.M _ _ _ _ _).1 m0_
  match e0 : y0.toList, m0_ with
  | [d0_0, d0_1, d0_2, d0_3, d0_4], ⟨n0_0, n0_1, n0_2, n0_3, n0_4, _⟩ =>
  obtain rfl : y0 = #[d0_0, d0_1, d0_2, d0_3, d0_4] := by rw [← Array.toArray_toList (xs := y0), e0]
  obtain rfl := List.singleton_inj.1 (show [d0_0] = [Value.int .i64 r1] from n0_0)
  obtain rfl := List.singleton_inj.1 (show [d0_1] = [Value.int .i64 r2] from n0_1)
  obtain rfl := List.singleton_inj.1 (show [d0_2] = [Value.int .i64 r3] from n0_2)
  obtain rfl := List.singleton_inj.1 (show [d0_3] = [Value.string r4] from n0_3)
  obtain ⟨d0_4v, d0_4e, d0_4R⟩ := n0_4
  obtain rfl := List.singleton_inj.1 d0_4e
  exact ⟨_, rfl, Kd.R_mono d0_4R (fun _ _ => trivial), hB⟩
set_option maxHeartbeats 8000000 in
set_option maxRecDepth 100000 in
theorem spec_l9Copy.calls (k : Nat) (A0 : Option Addr) (c0 : Nat) (l0 : List (S28)) (r : List (S28)) (w : World) (hr0 : Kd.C k28 w A0 l0.length l0) (hc0 : l0.length ≤ c0) (h : spec_l9Copy.f k l0 = some r) :
  Calls Try.prog 53 #[.slice A0 l0.length c0] w fun e w' => ∃ v0_ : Value, e = .returned (v0_) ∧ Kd.S k28 28 w' w.heap.size (fun _ => True) v0_ r ∧ Below w.heap.size w w' := by
 have hu28 := Try.underlying28; have HR0 := Aside0.mk hr0; have HC0 := Aside0.mk hc0; clear hr0 hc0; have HB := Aside0.mk (Below.refl w.heap.size w); have H : (spec_l9Copy.l0 k l0 (([] : List (S28))) 0) = some r := h; clear h; obtain ⟨y360, hy360⟩ : ∃ y_ : List (S28), y_ = (([] : List (S28))) := ⟨_, rfl⟩
 replace H : (spec_l9Copy.l0 k l0 y360 0) = some r := by first | (rw [hy360]; with_reducible exact H) | (have H2_ := (Option.bind_some _ _).symm.trans H; rw [hy360]; with_reducible exact H2_) | (have H2_ := (Option.bind_some _ _).symm.trans H; with_reducible exact H2_) | with_reducible exact H | (rw [hy360]; exact H) | exact H
 have Ny360 := Aside0.mk hy360; clear hy360; have H' := Aside0.mk H; clear H
 go_enter Try.func53, Try.ntmps53; go_wp2_with (first | ((with_reducible refine gate_dst (N := 5) rfl ?_); refine Kd.S_lit k28 _ 28 ?hg (N := 5) ?hd (xs := ([] : List (S28))) (inner := []) (ok := fun _ => True) (okp := fun _ => True) ?hr ?hp (fun _ hk => hk) trivial (Below.refl _ _) (Nat.le_refl _) (by simp) ?_; (case hd => rfl); (case hg => rfl); (case hr => first | (go_simp; done) | (go_simp; rfl)); (case hp => exact (Reps.none _ _)); intro v361 w2 ho3 hb hg_ hnew_; clear hg_ hnew_; (first | rw [← Ny360.out] at ho3 | (simp only [Int.reduceToNat] at ho3; rw [← Ny360.out] at ho3)); have HO362 := Aside0.mk (Kd.S_lower ho3 (below_size bz)); replace HB := Aside0.mk (below_step bz hb); clear hb ho3))
 go_loopg [3, 4] k (fun kq v3 v4 w' => ∃ (x3_1 : List (S28)) (x4_1 : Int), v4 = .int .i64 x4_1 ∧ Aside0 (spec_l9Copy.l0 kq l0 x3_1 x4_1 = some r) ∧ Aside0 (kq ≤ k) ∧ Aside0 (Kd.S k28 28 w' w.heap.size (fun _ => True) v3 x3_1) ∧ Aside0 (Below w.heap.size w w'))
 case atStart => exact ⟨(y360), (0), rz, H', ⟨Nat.le_refl _⟩, ⟨by (with_reducible repeat (first | apply Kd.S_alloc | apply Kd.S_drewN | apply Kd.S_drew)); exact HO362.out⟩, ⟨bz⟩⟩
 case round =>
  clear H'; (try clear p2); obtain ⟨x3_1, x4_1, rfl, HA, HK1, HO_3, HB⟩ := hrel
  cases gk with
  | zero => exact absurd HA.out (by simp [spec_l9Copy.l0])
  | succ k1 =>
   have H := HA.out; clear HA; simp only [spec_l9Copy.l0] at H
   by_cases c4 : x4_1 < (l0.length : Int)
   ·rw [if_pos c4] at H; have c4b0 := decide_eq_true c4; clear c4
    by_cases c5 : 0 ≤ x4_1
    ·rw [if_pos c5] at H; have c5b0 := decide_eq_true c5; clear c5; replace H := Option.bind_eq_some_iff.mp H; obtain ⟨⟨t364, t365, t366, t367, t368⟩, A60, H⟩ := H; replace H : (if x3_1.length < 2199023255552 then (spec_l9Copy.l0 k1 l0 (x3_1 ++ [(⟨t364, t365, t366, t367, t368⟩ : S28)]) (wrap64 (x4_1 + 1))) else (none)) = some r := H; have A6 := Aside0.mk A60; clear A60
     by_cases c7 : x3_1.length < 2199023255552
     ·rw [if_pos c7] at H; have LMc7 := Aside0.mk c7; clear c7; obtain ⟨y371, hy371⟩ : ∃ y_ : List (S28), y_ = (x3_1 ++ [(⟨t364, t365, t366, t367, t368⟩ : S28)]) := ⟨_, rfl⟩
      replace H : (spec_l9Copy.l0 k1 l0 y371 (wrap64 (x4_1 + 1))) = some r := by first | (rw [hy371]; with_reducible exact H) | (have H2_ := (Option.bind_some _ _).symm.trans H; rw [hy371]; with_reducible exact H2_) | (have H2_ := (Option.bind_some _ _).symm.trans H; with_reducible exact H2_) | with_reducible exact H | (rw [hy371]; exact H) | exact H
      have Ny371 := Aside0.mk hy371; clear hy371; have H' := Aside0.mk H; clear H; have p363 : 0 ≤ (x4_1 : Int) := of_decide_eq_true az; have q363 : x4_1 < (l0.length : Int) := of_decide_eq_true az; obtain ⟨ad363, A363_4, c363_4, e363, hx363_0, hx363_1, hx363_2, hx363_3, hx363_4, hl363_4, hi363_4⟩ := at_T28 HR0.out x4_1 p363 q363
      cases e363
      replace hx363_0 := xz HB hx363_0; replace hx363_1 := xz HB hx363_1; replace hx363_2 := xz HB hx363_2; replace hx363_3 := xz HB hx363_3; replace hx363_4 := xz HB hx363_4; have HR363_4 := Aside0.mk hi363_4; have HC363_4 := Aside0.mk hl363_4; clear hi363_4 hl363_4; replace p363 := eq_true p363; replace q363 := eq_true q363; go_wp2_with (first | ((with_reducible refine gt (some 17) rfl ?_); refine gc Try.func37 (spec_l9Feature.calls ((rd_T28 l0 x4_1).f0) ((rd_T28 l0 x4_1).f1) ((rd_T28 l0 x4_1).f2) ((rd_T28 l0 x4_1).f3) _ _ ((rd_T28 l0 x4_1).f4) t364 t365 t366 t367 t368 _ (cz (Kd.C_below HR363_4.out HB.out)) HC363_4.out A6.out) ?_; rintro e w8 ⟨v369, rfl, ho0, hb⟩; refine ⟨_, rfl, ?_⟩; replace HO_3 := Aside0.mk (Kd.S_elder' (by (with_reducible repeat (first | apply Kd.S_alloc | apply Kd.S_drewN | apply Kd.S_drew)); exact HO_3.out) (Kd.R_base ho0) hb); have HO370 := Aside0.mk (Kd.R_lower ho0 (below_size bz)); replace HB := Aside0.mk (below_step bz hb); (try clear hb); (try clear ho0); obtain ⟨Ao10, co10, eo10⟩ := Kd.R_slice HO370.out; subst eo10) | ((with_reducible refine gate_builtin (b := .append) (xs := #[.tmp 12, .tmp 18]) rfl ?_); at_builtin; refine Kd.S_append k28 (w0 := w) w.heap.size rfl (.tmp 12) (.tmp 18) 38 28 (.agg #[(.int .i64 0), (.int .i64 0), (.int .i64 0), (.string ⟨#[]⟩), (.slice none 0 0)]) 64 rfl Try.underlying38 info28 rfl (by decide) (by omega) u3 x3_1 (⟨t364, t365, t366, t367, t368⟩ : S28) [.int .i64 t364, .int .i64 t365, .int .i64 t366, .string t367, .slice Ao10 t368.length co10] (fun _ => True) (fun k_ => some k_ = (.slice Ao10 t368.length co10 : Value).ownBlock) rfl rfl ?aP (fun k_ hk_ => ((Kd.R_mono (ok' := fun k_ => ((fun _ => True)) k_ ∧ some k_ ≠ (u3 : Value).ownBlock) (Kd.R_apart' (HO370.out) (Kd.S_typed HO_3.out) (by decide)) (fun k_ hk => ⟨trivial, hk.2⟩))).1 k_ hk_.symm) ?aF ?aO ?aB ?aS ?aL ?_; (case aP => exact k28_mkM _ _ _ (⟨t364, t365, t366, t367, t368⟩ : S28) (Kd.R_mono (Kd.R_tight rfl (Kd.R_mono (ok' := fun k_ => ((fun _ => True)) k_ ∧ some k_ ≠ (u3 : Value).ownBlock) (Kd.R_apart' (HO370.out) (Kd.S_typed HO_3.out) (by decide)) (fun k_ hk => ⟨trivial, hk.2⟩))) (fun _ h_ => h_))); (case aB => exact bz); (case aF => exact (fun _ _ => trivial)); (case aO => exact (by (with_reducible repeat (first | apply Kd.S_alloc | apply Kd.S_drewN | apply Kd.S_drew)); exact Kd.S_mono HO_3.out (fun k_ hk => ⟨trivial, fun e_ => hk.2 e_⟩))); (case aS => exact (below_size bz)); (case aL => have := LMc7.out; omega); intro v372 w9 ho hb hg hat; rw [← Ny371.out] at ho; have n0_ := Aside0.mk (hb); have n1_ := Aside0.mk (ho); clear HB; clear HO_3; clear HO370; have HB := n0_; have HO373 := n1_; clear n0_ n1_; clear ho hb hg hat))
      go_roundg k1
      case measure => have := HK1.out; omega
      case rel => exact ⟨(y371), (wrap64 (x4_1 + 1)), rz, H', ⟨by have := HK1.out; omega⟩, ⟨by (with_reducible repeat (first | apply Kd.S_alloc | apply Kd.S_drewN | apply Kd.S_drew)); exact HO373.out⟩, ⟨bz⟩⟩
     ·rw [if_neg c7] at H
      exact absurd H (by simp)
    ·rw [if_neg c5] at H
     exact absurd H (by simp)
   ·rw [if_neg c4] at H; have c4b0 := decide_eq_false c4; clear c4; obtain rfl := Option.some.inj H; go_wp2; go_ret
    exact ⟨_, ez, by (with_reducible repeat (first | apply Kd.S_alloc | apply Kd.S_drewN | apply Kd.S_drew)); exact HO_3.out, bz⟩
def spec_IsSource.Fs : List (Spc env) := [spec_IsFeature.spec]
def spec_IsSource.fin : St eΓ → Option (HL eΓ [.b]) := finR env Try.f54.results.toList [.b]
def spec_IsSource.cut : Nat → Option (List (Lv SC)) := lk [(2, [⟨0, none, false⟩, ⟨3, none, false⟩])]
def spec_IsSource.ret (r0 : Bool) : Option (HL eΓ [.b]) := some (r0, ())
def spec_IsSource.p2 (k : Nat) (x3 : Int) (x0 : List S28) : Option (HL eΓ [.b]) := evM env spec_IsSource.Fs Try.f54.ntmps spec_IsSource.fin spec_IsSource.cut k [.code (sub_ [1, 0, 1, 0, 0, 0, 0] (bodyOf Try.f54)), .code (sub_ [1, 0, 1, 0, 0, 0, 1] (bodyOf Try.f54)), .code (sub_ [1, 0, 1, 0, 0, 1] (bodyOf Try.f54)), .lp (sub_ [1, 0, 1, 0, 0] (bodyOf Try.f54)), .blk 0, .code (sub_ [1, 1] (bodyOf Try.f54))] (mkSt [(0, .c (.sl 0)), (3, .c (.v (.int .i64 x3)))] [.row .ro 28 (.st .s28) x0])
theorem spec_IsSource.e2 (k : Nat) (x3 : Int) (x0 : List S28) : spec_IsSource.p2 (k + 1) x3 x0 = if x3 < (x0.length : Int) then (if 0 ≤ x3 then (if x3 < (x0.length : Int) then (spec_IsFeature.ap k (⟨(rd_T28 x0 x3).f0, (rd_T28 x0 x3).f1, (rd_T28 x0 x3).f2, (rd_T28 x0 x3).f3, (rd_T28 x0 x3).f4⟩ : S28) fun r1 => if (!r1) = true then (spec_IsSource.ret false) else (if x3 > 0 then (if 0 ≤ (wrap64 (x3 - 1)) then (if (wrap64 (x3 - 1)) < (x0.length : Int) then (if 0 ≤ x3 then (if x3 < (x0.length : Int) then (if ((rd_T28 x0 (wrap64 (x3 - 1))).f0) ≥ ((rd_T28 x0 x3).f0) then (spec_IsSource.ret false) else (spec_IsSource.p2 k (wrap64 (x3 + 1)) x0)) else none) else none) else none) else none) else (spec_IsSource.p2 k (wrap64 (x3 + 1)) x0))) else none) else none) else (spec_IsSource.ret (decide ((x0.length : Int) ≤ 16))) := by kernel_rfl
def spec_IsSource.run (k : Nat) (h : HL eΓ [.l 28 (.st .s28)]) : Option (HL eΓ [.b]) := evF env spec_IsSource.Fs Try.f54 spec_IsSource.cut [.l 28 (.st .s28)] [.b] k h
theorem spec_IsSource.ef (k : Nat) (h0 : List S28) : spec_IsSource.run k (h0, ()) = spec_IsSource.p2 k 0 h0 := by kernel_rfl
def spec_IsSource.toH (t : Bool) : HL eΓ [.b] := (t, ())
def spec_IsSource.spec : Spc env := ⟨54, [.l 28 (.st .s28)], [.b], spec_IsSource.run⟩
theorem spec_IsSource.snd : Snd env spec_IsSource.spec := evF_snd env_ok (sndC spec_IsFeature.snd (sndN))
attribute [local irreducible] spec_IsSource.run
theorem spec_IsSource.rt (a0 : Bool) : spec_IsSource.ret a0 = some (spec_IsSource.toH (a0)) := rfl
theorem spec_IsSource.br (n : Nat) : (∀ K, n ≤ K → ∀ (x3 : Int) (x0 : List S28) t, spec_IsSource.l0 n x0 x3 = some t → spec_IsSource.p2 K x3 x0 = some (spec_IsSource.toH t)) := by
  induction n using Nat.strongRecOn with
  | _ n ih =>
  intro K hK x3 x0 t h
  all_goals (rcases n with _ | k)
  all_goals (try (exact nos h))
  all_goals (obtain ⟨K, rfl⟩ : ∃ q, K = q + 1 := ⟨K - 1, by omega⟩)
  all_goals (first | rw [spec_IsSource.e2])
  all_goals (simp only [spec_IsSource.l0] at h)
  repeat' (with_reducible first
   | exact nos h
   | (cases some_inj h; exact spec_IsSource.rt _)
   | exact (ih _ (by omega)) _ (by omega) _ _ _ h
   | (simp only [Option.bind_some] at h)
   | (refine ite_by h ?_ ?_ <;> (intro hc h; (try simp only [nrm] at hc)))
   | refine itT ?_
   | refine itF ?_
   | (refine bind_by h (fun t ht h => ?_); refine (spec_IsFeature.ap_of (spec_IsFeature.go ht _ (by omega))).trans ?_; (try dsimp only at h ⊢))
   | (simp only [nr2] at h ⊢)
   | (exfalso; omega))
theorem spec_IsSource.go {k : Nat} {l0 : List S28} {t} (h : spec_IsSource.f k l0 = some t) (K : Nat) (hK : k ≤ K) : spec_IsSource.run K (l0, ()) = some (spec_IsSource.toH t) := by
  rw [spec_IsSource.ef]
  (try dsimp only)
  unfold spec_IsSource.f at h
  repeat' (with_reducible first
   | exact nos h
   | (cases some_inj h; exact spec_IsSource.rt _)
   | exact (spec_IsSource.br _) _ (by omega) _ _ _ h
   | (simp only [Option.bind_some] at h)
   | (refine ite_by h ?_ ?_ <;> (intro hc h; (try simp only [nrm] at hc)))
   | refine itT ?_
   | refine itF ?_
   | (refine bind_by h (fun t ht h => ?_); refine (spec_IsFeature.ap_of (spec_IsFeature.go ht _ (by omega))).trans ?_; (try dsimp only at h ⊢))
   | (simp only [nr2] at h ⊢)
   | (exfalso; omega))
theorem spec_IsSource.calls (k : Nat) (A0 : Option Addr) (c0 : Nat) (l0 : List (S28)) (r : Bool) (w : World) (hr0 : Kd.C k28 w A0 l0.length l0) (hc0 : l0.length ≤ c0) (h : spec_IsSource.f k l0 = some r) :
  Calls Try.prog 54 #[.slice A0 l0.length c0] w fun e w' => e = .returned (.bool r) ∧ Below w.heap.size w w' := by
  refine (spec_IsSource.snd.calls _ _ _ (spec_IsSource.go h k (Nat.le_refl k)) w [.slice A0 l0.length c0] ⟨⟨_, _, rfl, hc0, hr0⟩, trivial⟩).mono ?_
  rintro e w' ⟨v, rfl, hB, vs, oks, rfl, hR, _⟩
  obtain ⟨x0_, vs, o0_, oks, rfl, rfl, m0_, hR⟩ := rmsC hR
  obtain rfl := rmsN hR
  obtain rfl := List.singleton_inj.1 (show [x0_] = [Value.bool r] from m0_)
  exact ⟨rfl, hB⟩
set_option maxHeartbeats 8000000 in
set_option maxRecDepth 100000 in
theorem spec_ShrinkAll.calls (k : Nat) (A0 : Option Addr) (c0 : Nat) (l0 : List (S28)) (a1 : Int) (r : List (S28)) (w : World) (hr0 : Kd.C k28 w A0 l0.length l0) (hc0 : l0.length ≤ c0) (h : spec_ShrinkAll.f k l0 a1 = some r) :
  Calls Try.prog 23 #[.slice A0 l0.length c0, .int .i64 a1] w fun e w' => ∃ v0_ : Value, e = .returned (v0_) ∧ Kd.N k28 28 w' w.heap.size (fun k_ => (w.heap.size ≤ k_)) v0_ r ∧ Below w.heap.size w w' := by
 have hu_ := Try.underlying28; have HR0 := Aside0.mk hr0; have HC0 := Aside0.mk hc0; clear hr0 hc0; have HB := Aside0.mk (Below.refl w.heap.size w); have H : ((spec_l9Copy.f k l0).bind fun t447 => (spec_ShrinkAll.l0 k l0 a1 t447 0)) = some r := h; clear h; replace H := Option.bind_eq_some_iff.mp H; obtain ⟨t749, A30, H⟩ := H; have A3 := Aside0.mk A30; clear A30; have H' := Aside0.mk H; clear H
 go_enter Try.func23, Try.ntmps23; go_wp2_with (first | ((with_reducible refine gate_callee (f := 53) rfl ?_); refine gl (some 9) Try.func53 #[.slice A0 l0.length c0] ?_ (hargs := by (try simp only [List.map_toArray, List.map_cons, List.map_nil]); first | done | rfl); (with_reducible refine (spec_l9Copy.calls k _ _ l0 t749 _ ?side1 ?side2 A3.out).mono ?_); (case side1 => repeat (first | exact HR0.out | (with_reducible refine Kd.C_alloc ?_ _) | (with_reducible refine Kd.C_drewN ?_ _) | (with_reducible refine Kd.C_drew ?_))); (case side2 => exact HC0.out); rintro e w6 ⟨v750, rfl, ho0, hb⟩; refine ⟨_, rfl, ?_⟩; have HO751 := Aside0.mk (Kd.S_lower ho0 (below_size bz)); replace HB := Aside0.mk (below_step bz hb); clear hb ho0; obtain ⟨Ao8, co8, eo8⟩ := Kd.S_slice HO751.out; subst eo8))
 go_loopg [6] k (fun kq v6 w' => ∃ (x5_1 : List (S28)) (x17_1 : Int), v6 = .int .i64 x17_1 ∧ Aside0 (spec_ShrinkAll.l0 kq l0 a1 x5_1 x17_1 = some r) ∧ Aside0 (kq ≤ k) ∧ Aside0 (Kd.S k28 28 w' w.heap.size (fun _ => True) (.slice Ao8 t749.length co8) x5_1) ∧ Aside0 (Below w.heap.size w w'))
 case atStart => exact ⟨(t749), (0), rz, H', ⟨Nat.le_refl _⟩, ⟨by (with_reducible repeat (first | apply Kd.S_alloc | apply Kd.S_drewN | apply Kd.S_drew)); exact HO751.out⟩, ⟨bz⟩⟩
 case round =>
  clear H'; obtain ⟨x5_1, x17_1, rfl, HA, HK1, HO_5, HB⟩ := hrel; have hl5_1 := (Kd.S_reads' HO_5.out).1; rw [hl5_1] at HO_5; (try simp only [hl5_1])
  cases gk with
  | zero => exact absurd HA.out (by simp [spec_ShrinkAll.l0])
  | succ k1 =>
   have H := HA.out; clear HA; simp only [spec_ShrinkAll.l0] at H; have HC5 := Aside0.mk H; clear H
   go_upto_region 3 with (fail)
   go_cut [17] (fun v17 wc => ∃ (kq : Nat) (x17_4 : Bool), v17 = .bool x17_4 ∧ Aside0 (spec_ShrinkAll.j1 kq l0 a1 x5_1 x17_1 x17_4 = some r) ∧ Aside0 (kq ≤ k1) ∧ Aside0 (Kd.S k28 28 wc w.heap.size (fun _ => True) (.slice Ao8 x5_1.length co8) x5_1) ∧ Aside0 (Below w.heap.size w wc))
   case first =>
    have H := HC5.out; clear HC5
    by_cases c6 : x17_1 < (x5_1.length : Int)
    ·rw [if_pos c6] at H; have c6b0 := decide_eq_true c6; clear c6
     (first | rw [c6b0] | (simp only [i64_w, i32_w]; rw [c6b0]) | skip)
     replace H := Option.bind_eq_some_iff.mp H; obtain ⟨t450, A70, H⟩ := H; have A7 := Aside0.mk A70; clear A70; have H' := Aside0.mk H; clear H; go_wp2_with (first | (go_at_call 54; (with_reducible refine (spec_IsSource.calls k1 _ _ l0 t450 _ ?side1 ?side2 A7.out).mono ?_); (case side1 => exact cz0); (case side2 => exact HC0.out); rintro e w9 ⟨rfl, hb⟩; replace HO_5 := Aside0.mk (Kd.S_below (by (with_reducible repeat (first | apply Kd.S_alloc | apply Kd.S_drewN | apply Kd.S_drew)); exact HO_5.out) hb); replace HB := Aside0.mk (below_step bz hb); clear hb))
     go_meet
     case rel => exact ⟨_, (t450), rz, H', ⟨by have := HK1.out; first | omega | exact Nat.le_refl _⟩, ⟨by (with_reducible repeat (first | apply Kd.S_alloc | apply Kd.S_drewN | apply Kd.S_drew)); exact HO_5.out⟩, ⟨bz⟩⟩
    ·rw [if_neg c6] at H; have c6b0 := decide_eq_false c6; clear c6
     (first | rw [c6b0] | (simp only [i64_w, i32_w]; rw [c6b0]) | skip)
     have H' := Aside0.mk H; clear H; go_wp2
     go_meet
     case rel => exact ⟨_, (false), rz, H', ⟨by have := HK1.out; first | omega | exact Nat.le_refl _⟩, ⟨by (with_reducible repeat (first | apply Kd.S_alloc | apply Kd.S_drewN | apply Kd.S_drew)); exact HO_5.out⟩, ⟨bz⟩⟩
   case rest =>
    clear HC5; clear HO_5 HB; obtain ⟨kq, x17_4, rfl, HA, HJ4, HO_5, HB⟩ := hcut
    cases kq with
    | zero => exact absurd HA.out (by simp [spec_ShrinkAll.j1])
    | succ kj4 =>
     have H := HA.out; clear HA; simp only [spec_ShrinkAll.j1] at H
     by_cases c11 : x17_4 = true
     ·subst c11; simp only [if_true] at H
      by_cases c10 : 0 ≤ x17_1
      rotate_left
      ·rw [if_neg c10] at H; exact absurd H (by simp)
      rw [if_pos c10] at H
      by_cases c13 : x17_1 ≤ (x5_1.length : Int)
      rotate_left
      ·rw [if_neg c13] at H; exact absurd H (by simp)
      rw [if_pos c13] at H; obtain ⟨t456, B1, H⟩ := Option.bind_eq_some_iff.mp H
      by_cases c16 : 0 ≤ wrap64 (x17_1 + 1)
      rotate_left
      ·rw [if_neg c16] at H; exact absurd H (by simp)
      rw [if_pos c16] at H
      by_cases c17 : wrap64 (x17_1 + 1) ≤ (x5_1.length : Int)
      rotate_left
      ·rw [if_neg c17] at H; exact absurd H (by simp)
      rw [if_pos c17] at H; obtain ⟨t464, B2, H⟩ := Option.bind_eq_some_iff.mp H
      by_cases c18 : t456.length + t464.length < 2199023255552
      rotate_left
      ·rw [if_neg c18] at H; exact absurd H (by simp)
      rw [if_pos c18] at H
      by_cases c20 : x17_1 < (x5_1.length : Int)
      rotate_left
      ·rw [if_neg c20] at H; exact absurd H (by simp)
      rw [if_pos c20] at H; have c10b0 := decide_eq_true c10; have c11b0 := decide_eq_true c20; have c13b1 := decide_eq_true c13; have c16b1 := decide_eq_true c16; have c17b1 := decide_eq_true c17; have EW := Aside0.mk (show (wrap64 (x17_1 + 1)).toNat ≤ x5_1.length by omega); have E17 := Aside0.mk (show x17_1.toNat ≤ x5_1.length by omega); have LMc18 := Aside0.mk c18; obtain ⟨ji15, hji15⟩ : ∃ j_ : Int, (wrap64 (x17_1 + 1)) = j_ := ⟨_, rfl⟩
      rw [hji15] at H c16b1 c17b1 EW B2 c16 c17; have hji15w : (IntKind.i64.wrap (x17_1 + 1)) = ji15 := (i64_w _).trans hji15; obtain ⟨y758, hy758⟩ : ∃ y_ : List (S28), y_ = (x5_1.take (x17_1 : Int).toNat) := ⟨_, rfl⟩
      obtain ⟨y766, hy766⟩ : ∃ y_ : List (S28), y_ = (x5_1.drop ((ji15) : Int).toNat) := ⟨_, rfl⟩
      rw [← hy758] at B1; rw [← hy766] at B2; have Ny758 := Aside0.mk hy758; have Ny766 := Aside0.mk hy766; have A14 := Aside0.mk B1; have A18 := Aside0.mk B2; clear hy758 hy766 B1 B2 c18; obtain ⟨y771, hy771⟩ : ∃ y_ : List (S28), y_ = (t456 ++ t464) := ⟨_, rfl⟩
      rw [← hy771] at H; have Ny771 := Aside0.mk hy771; clear hy771; replace H := Option.bind_eq_some_iff.mp H; obtain ⟨⟨t774, t775, t776, t777, t778⟩, A190, H⟩ := H; have A19 := Aside0.mk A190; clear A190; obtain ⟨y781, hy781⟩ : ∃ y_ : List (S28), y_ = (x5_1.set (x17_1 : Int).toNat (⟨t774, t775, t776, t777, t778⟩ : S28)) := ⟨_, rfl⟩
      replace H : (spec_ShrinkAll.l0 kj4 l0 a1 y781 ji15) = some r := by rw [hy781]; exact H
      have Ny781 := Aside0.mk hy781; clear hy781; have H' := Aside0.mk H; clear H c10 c13 c16 c17 c20; (try go_wp2); have HW := Aside0.mk (below_size HB.out); have HI := Aside0.mk (below_drew1 (Below.refl wc.heap.size wc)); obtain ⟨go10, co10, eo10, gb10, gl10, HG10⟩ := Kd.S_form HO_5.out (by have h_ : x17_1 < (x5_1.length : Int) := (of_decide_eq_true az); have h2_ : 0 ≤ x17_1 := (of_decide_eq_true az); omega)
      cases eo10
      have GB10 := Aside0.mk gb10; have GL10 := Aside0.mk gl10; clear gb10 gl10 HG10; have hF0 : Kd.F k28 wc (fun k_ => k_ < wc.heap.size) (some ⟨go10, 0, none⟩) x5_1.length x5_1 := Kd.F_mono (Kd.F_bound (Kd.N_F (Kd.S_N HO_5.out))) (fun _ hk => hk.2); obtain ⟨i026, hi026, _, hsz26, _⟩ := info_parts info28; have hroom26 : x5_1.length ≤ co8 := (Kd.S_reads' HO_5.out).2.1; have q26 : (x17_1 : Int) ≤ ((x5_1.length : Int) : Int) := (of_decide_eq_true az)
      have hcut26 := cut_to (P := Try.prog) 38 28 .i64 Try.underlying38 hi026 (some ⟨go10, 0, none⟩) x5_1.length co8 x17_1 (of_decide_eq_true az) q26 hroom26; have hr26 := Kd.F_take (m := (x17_1 : Int).toNat) hF0 E17.out; have hy26 : y758.length = (x17_1 : Int).toNat := (by rw [Ny758.out, List.length_take]; have := E17.out; omega)
      rw [← Ny758.out] at hr26; rw [← hy26] at hcut26; have HC762 := Aside0.mk (show y758.length ≤ co8 from by have := E17.out; omega); have q27 : ((ji15) : Int) ≤ ((x5_1.length : Int) : Int) := (of_decide_eq_true az)
      have q027 : (0 : Int) ≤ ((ji15) : Int) := (of_decide_eq_true az)
      have hcut27 := cut_from (P := Try.prog) 38 28 .i64 Try.underlying38 hi026 5 hsz26 (some ⟨go10, 0, none⟩) x5_1.length co8 (ji15) q027 q27; have hr27 := Kd.F_cut (m := ((ji15) : Int).toNat) (c := co8) hF0 EW.out hroom26; obtain ⟨A27, hA27⟩ : ∃ A1, A1 = (if co8 = ((ji15) : Int).toNat then (some ⟨go10, 0, none⟩) else ((some ⟨go10, 0, none⟩) : Option Addr).map (·.add (((ji15) : Int).toNat * 5))) := ⟨_, rfl⟩
      obtain ⟨c27, hc27⟩ : ∃ c1, c1 = co8 - ((ji15) : Int).toNat := ⟨_, rfl⟩
      have hy27 : y766.length = x5_1.length - ((ji15) : Int).toNat := (by rw [Ny766.out, List.length_drop])
      rw [show (x5_1).drop ((ji15) : Int).toNat = y766 from Ny766.out.symm] at hr27; replace hr27 : Kd.F k28 wc _ A27 y766.length y766 := (by rw [hA27]; exact hr27)
      rw [← hy27, ← hA27, ← hc27] at hcut27; have HC770 := Aside0.mk (show y766.length ≤ c27 from by rw [hy27, hc27]; exact Nat.sub_le_sub_right hroom26 _); have HF758 := Aside0.mk (Kd.F_below hr26 HI.out); have HF766 := Aside0.mk (Kd.F_below hr27 HI.out); clear hr26 hr27 hF0 hroom26 hi026 hsz26 hc27; have KY26 := Aside0.mk hy26; clear hy26; have KY27 := Aside0.mk hy27; have KA27 := Aside0.mk hA27; clear hy27 hA27; replace q26 := eq_true q26; replace q27 := eq_true q27; refine start_ (n := 11) (S := fun w' => True) (ds := []) #[F,F,F,F,F,F,F,F,F,F,F] (by kernel_rfl) rfl rfl trivial (fun hHeld => ?_); refine with_tabW spec_ShrinkAll.tab5 spec_ShrinkAll.bits5 (fun HT_ HW_ => ?_); generalize wc.drew = w25 at HI HF758 HF766 hHeld ⊢; refine pz HT_ 0 20 ?_; refine pz HT_ 1 21 ?_; refine pz HT_ 2 22 ?_; refine pz HT_ 4 24 ?_; refine pz HT_ 5 25 ?_; refine pz HT_ 6 26 ?_; refine pz HT_ 7 27 ?_; refine oz HT_ 3 (some 23) (fun K hK => ?_); refine gz Try.func53 #[.slice (some ⟨go10, 0, none⟩) y758.length co8] ?_
      with_reducible refine (spec_l9Copy.calls kj4 _ _ y758 t456 _ (Kd.F_now HF758.out) HC762.out A14.out).mono ?_
      rintro e w27 ⟨v457, rfl, ho0, hb⟩; refine ⟨_, rfl, ?_⟩; have HOa := Aside0.mk ho0; have LTa := Aside0.mk (Kd.S_lt ho0); have HJ := Aside0.mk hb; have n5_ := Aside0.mk (Kd.F_below HF766.out hb); clear HF758 HF766 ho0 hb; have HF766 := n5_; clear n5_; refine hK.out _ _ trivial (fun hHeld => ?_); clear hK K; refine nz 23 ?_; refine oz HT_ 8 (some 28) (fun K hK => ?_); refine gz Try.func53 #[.slice A27 y766.length c27] ?_
      with_reducible refine (spec_l9Copy.calls kj4 _ _ y766 t464 _ (Kd.F_now HF766.out) HC770.out A18.out).mono ?_
      rintro e w28 ⟨v467, rfl, ho0, hb⟩; refine ⟨_, rfl, ?_⟩; obtain ⟨Ao30, co30, eo30⟩ := Kd.S_slice ho0; subst eo30; have HFb := Aside0.mk (Kd.N_F (Kd.S_N (Kd.S_mono (Kd.S_bound ho0) (ok' := fun k_ => w27.heap.size ≤ k_) (fun _ hk => hk.2.1)))); have n5_ := Aside0.mk (Kd.S_below HOa.out hb); have n6_ := Aside0.mk (below_step HJ.out hb); clear HOa HJ HF766 ho0 hb; have HOa := n5_; have HJ := n6_; clear n5_ n6_; refine hK.out _ _ trivial (fun hHeld => ?_); clear hK K; refine nz 28 ?_; refine oz HT_ 9 (some 29) (fun K hK => ?_); refine Kd.N_append_rows_step k28 (w0 := w25) w25.heap.size (by rfl) (.tmp 23) (.tmp 28) 38 28 (.agg #[(.int .i64 0), (.int .i64 0), (.int .i64 0), (.string ⟨#[]⟩), (.slice none 0 0)]) 64 rfl Try.underlying38 info28 rfl (by decide) (by omega) v457 t456 t464 _ _ _ (fun _ => True) (fun k_ => w27.heap.size ≤ k_) rfl rfl ?aO ?aR (fun k_ hk => ⟨trivial, fun e_ => Nat.lt_irrefl _ (Nat.lt_of_le_of_lt hk (LTa.out k_ e_.symm))⟩) ?aF ?aB ?aS ?aL ?_
      (case aR => exact HFb.out)
      (case aB => exact HJ.out)
      (case aF => exact (fun _ _ => trivial))
      (case aO => exact Kd.S_N HOa.out)
      (case aS => exact (below_size HJ.out))
      (case aL => have := LMc18.out; omega)
      intro v772 w31 ho hb hg hat; rw [← Ny771.out] at ho; clear hg hat HOa HJ HFb LTa; have HOo := Aside0.mk ho; have HJ := Aside0.mk hb; clear ho hb; refine hK.out _ _ trivial (fun hHeld => ?_); clear hK K; refine nz 29 ?_; refine pz HT_ 10 7 ?_; refine dz HT_ ?_; have n6_ := Aside0.mk (below_step HI.out HJ.out); clear HI HJ; have HI := n6_; clear n6_; have HOW := Aside0.mk (Kd.S_below HO_5.out HI.out); have p753 : 0 ≤ (x17_1 : Int) := (of_decide_eq_true az)
      have q753 : x17_1 < (x5_1.length : Int) := (of_decide_eq_true az)
      obtain ⟨_, ce10, hcl10, hM10, hcc10, hfr10, _, _⟩ := Kd.S_elem HOW.out z28 (x17_1 : Int) p753 q753; obtain ⟨ve10_4, rfl, ge10_4⟩ := k28_openM hM10; obtain ⟨A753_4, c753_4, rfl⟩ := Kd.R_slice ge10_4; have hx10_0 : w31.cell? ⟨go10, (x17_1 : Int).toNat * 5, none⟩ = some (.int .i64 ((rd_T28 x5_1 x17_1).f0)) := hcc10 0 _ rfl; have hx10_1 : w31.cell? ⟨go10, (x17_1 : Int).toNat * 5 + 1, none⟩ = some (.int .i64 ((rd_T28 x5_1 x17_1).f1)) := hcc10 1 _ rfl; have hx10_2 : w31.cell? ⟨go10, (x17_1 : Int).toNat * 5 + 2, none⟩ = some (.int .i64 ((rd_T28 x5_1 x17_1).f2)) := hcc10 2 _ rfl; have hx10_3 : w31.cell? ⟨go10, (x17_1 : Int).toNat * 5 + 3, none⟩ = some (.string ((rd_T28 x5_1 x17_1).f3)) := hcc10 3 _ rfl; have hx10_4 : w31.cell? ⟨go10, (x17_1 : Int).toNat * 5 + 4, none⟩ = some (.slice A753_4 ((rd_T28 x5_1 x17_1).f4).length c753_4) := hcc10 4 _ rfl; have hf10_0 : w31.frozen? ⟨go10, (x17_1 : Int).toNat * 5, none⟩ = false := hfr10 0; have hf10_1 : w31.frozen? ⟨go10, (x17_1 : Int).toNat * 5 + 1, none⟩ = false := hfr10 1; have hf10_2 : w31.frozen? ⟨go10, (x17_1 : Int).toNat * 5 + 2, none⟩ = false := hfr10 2; have hf10_3 : w31.frozen? ⟨go10, (x17_1 : Int).toNat * 5 + 3, none⟩ = false := hfr10 3; have hf10_4 : w31.frozen? ⟨go10, (x17_1 : Int).toNat * 5 + 4, none⟩ = false := hfr10 4; have HR753_4 := Aside0.mk (show Kd.C k77 w31 A753_4 ((rd_T28 x5_1 x17_1).f4).length ((rd_T28 x5_1 x17_1).f4) from (Kd.R_reads' ge10_4).2.2); have HC753_4 := Aside0.mk (show ((rd_T28 x5_1 x17_1).f4).length ≤ c753_4 from (Kd.R_reads' ge10_4).2.1)
      clear hcl10 hcc10 hfr10 hM10 ge10_4 HOW; replace p753 := eq_true p753; replace q753 := eq_true q753; obtain ⟨Ao33, co33, eo33⟩ := Kd.N_slice HOo.out; subst eo33; (try go_wp2_with (first | ((with_reducible refine gate_callee (f := 20) rfl ?_); refine gl (some 38) Try.func20 #[.agg #[.int .i64 ((rd_T28 x5_1 x17_1).f0), .int .i64 ((rd_T28 x5_1 x17_1).f1), .int .i64 ((rd_T28 x5_1 x17_1).f2), .string ((rd_T28 x5_1 x17_1).f3), .slice A753_4 ((rd_T28 x5_1 x17_1).f4).length c753_4], .slice Ao33 y771.length co33, .int .i64 a1] ?_ (hargs := by (try simp only [List.map_toArray, List.map_cons, List.map_nil]); first | done | rfl); (with_reducible refine (spec_ShrinkFeature.calls kj4 ((rd_T28 x5_1 x17_1).f0) ((rd_T28 x5_1 x17_1).f1) ((rd_T28 x5_1 x17_1).f2) ((rd_T28 x5_1 x17_1).f3) _ _ ((rd_T28 x5_1 x17_1).f4) _ _ y771 a1 t774 t775 t776 t777 t778 _ ?side1 ?side2 ?side3 ?side4 A19.out).mono ?_); (case side1 => repeat (first | exact HR753_4.out | (with_reducible refine Kd.C_alloc ?_ _) | (with_reducible refine Kd.C_drewN ?_ _) | (with_reducible refine Kd.C_drew ?_))); (case side2 => exact HC753_4.out); (case side3 => repeat (first | exact (Kd.N_reads' HOo.out).2.2 | (with_reducible refine Kd.C_alloc ?_ _) | (with_reducible refine Kd.C_drewN ?_ _) | (with_reducible refine Kd.C_drew ?_))); (case side4 => exact (Kd.N_reads' HOo.out).2.1); rintro e w34 ⟨v130, rfl, ho0, hb⟩; refine ⟨_, rfl, ?_⟩; have HJ2 := Aside0.mk (below_step HI.out hb); have HX12 := Aside0.mk (show Kd.S k28 28 w34 w.heap.size (fun k_ => ((fun _ => True)) k_ ∧ ¬ ((fun k_ => wc.heap.size ≤ k_)) k_) (.slice (some ⟨go10, 0, none⟩) x5_1.length co8) x5_1 from Kd.S_mono (Kd.S_below (Kd.S_bound HO_5.out) HJ2.out) (fun k_ hk => ⟨trivial, Nat.not_le.mpr hk.2.2.1⟩)); obtain ⟨oki12, ce12, hcl12, hM12, hcc12, hfr12, hoki12, hH12⟩ := Kd.S_elem HX12.out z28 (x17_1 : Int) (of_decide_eq_true az) (of_decide_eq_true az : x17_1 < (x5_1.length : Int)); obtain ⟨ve12_4, rfl, ge12_4⟩ := k28_openM hM12; have HP12 := Aside0.mk (Kd.S_seg hH12 (of_decide_eq_true az) (of_decide_eq_true az : x17_1 < (x5_1.length : Int)) (seg := [.int .i64 t774, .int .i64 t775, .int .i64 t776, .string t777, v130]) (j := 0) (show 5 ≤ 5 from by decide) (x' := (⟨t774, t775, t776, t777, t778⟩ : S28)) (k28_mkM _ _ _ (⟨t774, t775, t776, t777, t778⟩ : S28) (Kd.R_lower (Kd.R_mono (Kd.R_bound ho0) (ok' := fun k_ => False ∨ wc.heap.size ≤ k_) (fun k_ hk => .inr (Nat.le_trans (below_size HI.out) hk.2.1))) (Nat.le_trans HW.out (below_size HI.out)))) (fun _ hk => hk.elim (fun h => h.elim) .inr) (fun k_ hk_ => ⟨trivial, fun e_ => Nat.lt_irrefl _ (Nat.lt_of_lt_of_le GL10.out (e_ ▸ hk_))⟩)); have hx12_0 := hcc12 0 _ rfl; (try simp only [show (k28).sz = 5 from rfl, Nat.mul_one, Nat.add_zero] at hx12_0); have hf12_0 := hfr12 0; (try simp only [show (k28).sz = 5 from rfl, Nat.mul_one, Nat.add_zero] at hf12_0); have hx12_1 := hcc12 1 _ rfl; (try simp only [show (k28).sz = 5 from rfl, Nat.mul_one, Nat.add_zero] at hx12_1); have hf12_1 := hfr12 1; (try simp only [show (k28).sz = 5 from rfl, Nat.mul_one, Nat.add_zero] at hf12_1); have hx12_2 := hcc12 2 _ rfl; (try simp only [show (k28).sz = 5 from rfl, Nat.mul_one, Nat.add_zero] at hx12_2); have hf12_2 := hfr12 2; (try simp only [show (k28).sz = 5 from rfl, Nat.mul_one, Nat.add_zero] at hf12_2); have hx12_3 := hcc12 3 _ rfl; (try simp only [show (k28).sz = 5 from rfl, Nat.mul_one, Nat.add_zero] at hx12_3); have hf12_3 := hfr12 3; (try simp only [show (k28).sz = 5 from rfl, Nat.mul_one, Nat.add_zero] at hf12_3); have hx12_4 := hcc12 4 _ rfl; (try simp only [show (k28).sz = 5 from rfl, Nat.mul_one, Nat.add_zero] at hx12_4); have hf12_4 := hfr12 4; (try simp only [show (k28).sz = 5 from rfl, Nat.mul_one, Nat.add_zero] at hf12_4); clear hcl12 hcc12 hfr12 hM12 hoki12 hH12; have HS12_4 : ∀ (a_ : Addr) (m_ : Mode) (W_ : World), (store a_ (v130) m_).run Try.prog W_ = stored Try.prog W_ a_ (v130) m_ := by (obtain ⟨_, _, e_⟩ := Kd.R_slice ho0); intro a_ m_ W_; rw [e_]; exact run_store _ _ _ _ _ rfl) | ((with_reducible refine gate_store (t := 28) (p := 39) rfl ?_); refine store_event (t := 28) (p := 39) (v := ?vo_w13) (w1 := (((((w34.setCell ⟨go10, (x17_1 : Int).toNat * 5, none⟩ (.int .i64 t774)).setCell ⟨go10, (x17_1 : Int).toNat * 5 + 1, none⟩ (.int .i64 t775)).setCell ⟨go10, (x17_1 : Int).toNat * 5 + 2, none⟩ (.int .i64 t776)).setCell ⟨go10, (x17_1 : Int).toNat * 5 + 3, none⟩ (.string t777)).setCell ⟨go10, (x17_1 : Int).toNat * 5 + 4, none⟩ (v130))) ?hg ?ho ?hn ?hr ?_; (case ho => rfl); (case hg => rfl); (case hn => rfl); (case hr => first | (go_simp; done) | (go_simp; rfl)); intro w13 hw; have n0_ := Aside0.mk (show Kd.S k28 28 w13 w.heap.size (fun _ => True) (.slice (some ⟨go10, 0, none⟩) x5_1.length co8) y781 from (by rw [hw, Ny781.out]; exact HP12.out.1)); have n1_ := Aside0.mk ((by rw [hw]; exact below_set (below_set (below_set (below_set (below_set (below_step HB.out HJ2.out) GB10.out) GB10.out) GB10.out) GB10.out) GB10.out : Below w.heap.size w w13)); clear HO_5 HB; have HO_5 := n0_; have HB := n1_; clear n0_ n1_; clear hw)))
      (try simp only [← hl5_1])
      go_roundg kj4
      case measure => have := HK1.out; have := HJ4.out; omega
      case rel => exact ⟨(y781), (ji15), (by first | rfl | (simp; done) | (simp only [← hji15] <;> (first | rfl | simp)) | (simp [*]; done)), H', ⟨by have := HK1.out; have := HJ4.out; omega⟩, ⟨by (try simp only [hl5_1]); (with_reducible repeat (first | apply Kd.S_alloc | apply Kd.S_drewN | apply Kd.S_drew)); exact HO_5.out⟩, ⟨bz⟩⟩
     ·replace c11 := Bool.eq_false_iff.mpr c11; subst c11; have H1 : (some x5_1) = some r := by rw [if_neg (show ¬ (false = true) by decide)] at H; exact H
      clear H; obtain rfl := Option.some.inj H1; go_wp2; go_ret
      exact ⟨_, ez, Kd.N_mono (Kd.S_N (Kd.S_bound (by (with_reducible repeat (first | apply Kd.S_alloc | apply Kd.S_drewN | apply Kd.S_drew)); exact HO_5.out))) (fun _ hk => hk.2.1), bz⟩
def impl_Point.toH (t : List S77) : HL eΓ [.l 77 (.st .s77)] := (t, ())
def impl_Point.run (k : Nat) (h : HL eΓ [.l 77 (.st .s77)]) : Option (HL eΓ [.l 77 (.st .s77)]) := (impl_Point.f (h.1 : List S77)).map impl_Point.toH
def impl_Point.spec : Spc env := ⟨74, [.l 77 (.st .s77)], [.l 77 (.st .s77)], impl_Point.run⟩
def impl_Point.ap {R : Type} (k : Nat) (h0 : List S77) (K : (List S77) → Option R) : Option R := (impl_Point.run k (h0, ())).bind fun r => K (r.1 : List S77)
theorem impl_Point.ap_of {R : Type} {k : Nat} {h0 : List S77} {r0 : List S77} {K : (List S77) → Option R} (h : impl_Point.run k (h0, ()) = some (r0, ())) : impl_Point.ap k h0 K = K r0 := by unfold impl_Point.ap; rw [h]; rfl
theorem impl_Point.go {l0 : List S77} {t} (h : impl_Point.f l0 = some t) (K : Nat) : impl_Point.run K (l0, ()) = some (impl_Point.toH t) := by
  show Option.map _ (impl_Point.f l0) = _
  rw [h]; rfl
theorem impl_Point.snd : Snd env impl_Point.spec := ⟨⟨Try.f74, by kernel_rfl, by kernel_rfl, by kernel_rfl⟩, fun k h r he w us hA => by
  obtain ⟨t, ht, rfl⟩ := Option.map_eq_some_iff.1 (show (impl_Point.f (h.1 : List S77)).map impl_Point.toH = some r from he)
  match us, hA with
  | [u0], ⟨q0, _⟩ =>
  obtain ⟨A0, c0, e0, l0, g0⟩ := q0
  obtain rfl := List.singleton_inj.1 e0
  refine (impl_Point.calls (w := w) (h := ht) (hr0 := g0) (hc0 := l0)).mono ?_
  rintro e w' ⟨v0_, he, hR, hw⟩
  exact ⟨_, he, hw, [v0_], [fun _ => True], rfl, ⟨⟨v0_, rfl, hR⟩, trivial⟩, by simp [DJ]⟩⟩
def impl_cloneFeature.Fs : List (Spc env) := [impl_Point.spec]
def impl_cloneFeature.cut : Nat → Option (List (Lv SC)) := lk []
def impl_cloneFeature.ret (r0 : S28) : Option (HL eΓ [.st .s28]) := some (r0, ())
def impl_cloneFeature.run (k : Nat) (h : HL eΓ [.st .s28]) : Option (HL eΓ [.st .s28]) := evF env impl_cloneFeature.Fs Try.f42 impl_cloneFeature.cut [.st .s28] [.st .s28] k h
theorem impl_cloneFeature.ef (k : Nat) (h0 : S28) : impl_cloneFeature.run k (h0, ()) = impl_Point.ap k h0.f4 fun r1 => impl_cloneFeature.ret (⟨h0.f0, h0.f1, h0.f2, h0.f3, r1⟩ : S28) := by kernel_rfl
def impl_cloneFeature.toH (t : Int × Int × Int × ByteArray × (List (S77))) : HL eΓ [.st .s28] := ((⟨t.1, t.2.1, t.2.2.1, t.2.2.2.1, t.2.2.2.2⟩ : S28), ())
def impl_cloneFeature.spec : Spc env := ⟨42, [.st .s28], [.st .s28], impl_cloneFeature.run⟩
def impl_cloneFeature.ap {R : Type} (k : Nat) (h0 : S28) (K : S28 → Option R) : Option R := (impl_cloneFeature.run k (h0, ())).bind fun r => K (r.1 : S28)
theorem impl_cloneFeature.ap_of {R : Type} {k : Nat} {h0 : S28} {r0 : S28} {K : S28 → Option R} (h : impl_cloneFeature.run k (h0, ()) = some (r0, ())) : impl_cloneFeature.ap k h0 K = K r0 := by unfold impl_cloneFeature.ap; rw [h]; rfl
theorem impl_cloneFeature.snd : Snd env impl_cloneFeature.spec := evF_snd env_ok (sndC impl_Point.snd (sndN))
attribute [local irreducible] impl_cloneFeature.run
theorem impl_cloneFeature.rt (a0 : Int) (a1 : Int) (a2 : Int) (a3 : ByteArray) (a4 : List S77) : impl_cloneFeature.ret (⟨a0, a1, a2, a3, a4⟩ : S28) = some (impl_cloneFeature.toH (a0, a1, a2, a3, a4)) := rfl
theorem impl_cloneFeature.go {a0_0 : Int} {a0_1 : Int} {a0_2 : Int} {a0_3 : ByteArray} {l0_4 : List S77} {t} (h : impl_cloneFeature.f a0_0 a0_1 a0_2 a0_3 l0_4 = some t) (K : Nat) : impl_cloneFeature.run K ((⟨a0_0, a0_1, a0_2, a0_3, l0_4⟩ : S28), ()) = some (impl_cloneFeature.toH t) := by
  rw [impl_cloneFeature.ef]
  (try dsimp only)
  unfold impl_cloneFeature.f at h
  repeat' (with_reducible first
   | exact nos h
   | (cases some_inj h; exact impl_cloneFeature.rt _ _ _ _ _)
   | (simp only [Option.bind_some] at h)
   | (refine ite_by h ?_ ?_ <;> (intro hc h; (try simp only [nrm] at hc)))
   | refine itT ?_
   | refine itF ?_
   | (refine bind_by h (fun t ht h => ?_); refine (impl_Point.ap_of (impl_Point.go ht _)).trans ?_; (try dsimp only at h ⊢))
   | (simp only [nr2] at h ⊢)
   | (exfalso; omega))
theorem impl_cloneFeature.calls (a0_0 : Int) (a0_1 : Int) (a0_2 : Int) (a0_3 : ByteArray) (A0_4 : Option Addr) (c0_4 : Nat) (l0_4 : List (S77)) (r1 : Int) (r2 : Int) (r3 : Int) (r4 : ByteArray) (r5 : List (S77)) (w : World) (hr0_4 : Kd.C k77 w A0_4 l0_4.length l0_4) (hc0_4 : l0_4.length ≤ c0_4) (h : impl_cloneFeature.f a0_0 a0_1 a0_2 a0_3 l0_4 = some (r1, r2, r3, r4, r5)) :
  Calls Try.prog 42 #[.agg #[.int .i64 a0_0, .int .i64 a0_1, .int .i64 a0_2, .string a0_3, .slice A0_4 l0_4.length c0_4]] w fun e w' => ∃ v4_ : Value, e = .returned (.agg #[.int .i64 r1, .int .i64 r2, .int .i64 r3, .string r4, v4_]) ∧ Kd.R k77 77 w' w.heap.size (fun _ => True) v4_ r5 ∧ Below w.heap.size w w' := by
  refine (impl_cloneFeature.snd.calls _ _ _ (impl_cloneFeature.go h 0) w [.agg #[.int .i64 a0_0, .int .i64 a0_1, .int .i64 a0_2, .string a0_3, .slice A0_4 l0_4.length c0_4]] ⟨⟨_, rfl, (H28.K _ _ _).2 ⟨rfl, rfl, rfl, rfl, ⟨_, _, rfl, hc0_4, hr0_4⟩, trivial⟩⟩, trivial⟩).mono ?_
  rintro e w' ⟨v, rfl, hB, vs, oks, rfl, hR, _⟩
  obtain ⟨x0_, vs, o0_, oks, rfl, rfl, m0_, hR⟩ := rmsC hR
  obtain rfl := rmsN hR
  obtain ⟨y0, rfl, m0_⟩ := m0_
  have m0_ := (H28.M _ _ _ _ _).1 m0_
  match e0 : y0.toList, m0_ with
  | [d0_0, d0_1, d0_2, d0_3, d0_4], ⟨n0_0, n0_1, n0_2, n0_3, n0_4, _⟩ =>
  obtain rfl : y0 = #[d0_0, d0_1, d0_2, d0_3, d0_4] := by rw [← Array.toArray_toList (xs := y0), e0]
  obtain rfl := List.singleton_inj.1 (show [d0_0] = [Value.int .i64 r1] from n0_0)
  obtain rfl := List.singleton_inj.1 (show [d0_1] = [Value.int .i64 r2] from n0_1)
  obtain rfl := List.singleton_inj.1 (show [d0_2] = [Value.int .i64 r3] from n0_2)
  obtain rfl := List.singleton_inj.1 (show [d0_3] = [Value.string r4] from n0_3)
  obtain ⟨d0_4v, d0_4e, d0_4R⟩ := n0_4
  obtain rfl := List.singleton_inj.1 d0_4e
  exact ⟨_, rfl, Kd.R_mono d0_4R (fun _ _ => trivial), hB⟩
def impl_InRange.toH (t : Bool) : HL eΓ [.b] := (t, ())
def impl_InRange.run (k : Nat) (h : HL eΓ [.i .i64, .i .i64, .i .i64]) : Option (HL eΓ [.b]) := (impl_InRange.f (h.1 : Int) (h.2.1 : Int) (h.2.2.1 : Int)).map impl_InRange.toH
def impl_InRange.spec : Spc env := ⟨76, [.i .i64, .i .i64, .i .i64], [.b], impl_InRange.run⟩
def impl_InRange.ap {R : Type} (k : Nat) (h0 : Int) (h1 : Int) (h2 : Int) (K : Bool → Option R) : Option R := (impl_InRange.run k (h0, h1, h2, ())).bind fun r => K (r.1 : Bool)
theorem impl_InRange.ap_of {R : Type} {k : Nat} {h0 : Int} {h1 : Int} {h2 : Int} {r0 : Bool} {K : Bool → Option R} (h : impl_InRange.run k (h0, h1, h2, ()) = some (r0, ())) : impl_InRange.ap k h0 h1 h2 K = K r0 := by unfold impl_InRange.ap; rw [h]; rfl
theorem impl_InRange.go {a0 : Int} {a1 : Int} {a2 : Int} {t} (h : impl_InRange.f a0 a1 a2 = some t) (K : Nat) : impl_InRange.run K (a0, a1, a2, ()) = some (impl_InRange.toH t) := by
  show Option.map _ (impl_InRange.f a0 a1 a2) = _
  rw [h]; rfl
theorem impl_InRange.snd : Snd env impl_InRange.spec := ⟨⟨Try.f76, by kernel_rfl, by kernel_rfl, by kernel_rfl⟩, fun k h r he w us hA => by
  obtain ⟨t, ht, rfl⟩ := Option.map_eq_some_iff.1 (show (impl_InRange.f (h.1 : Int) (h.2.1 : Int) (h.2.2.1 : Int)).map impl_InRange.toH = some r from he)
  match us, hA with
  | [u0, u1, u2], ⟨q0, q1, q2, _⟩ =>
  obtain rfl := List.singleton_inj.1 (show [u0] = [Value.int .i64 (h.1 : Int)] from q0)
  obtain rfl := List.singleton_inj.1 (show [u1] = [Value.int .i64 (h.2.1 : Int)] from q1)
  obtain rfl := List.singleton_inj.1 (show [u2] = [Value.int .i64 (h.2.2.1 : Int)] from q2)
  refine (impl_InRange.calls (w := w) (h := ht) ).mono ?_
  rintro e w' ⟨he, hw⟩
  exact ⟨_, he, (by obtain ⟨_, rfl⟩ := hw; exact Below.refl _ _), [.bool t], [fun _ => False], rfl, ⟨rfl, trivial⟩, by simp [DJ]⟩⟩
def impl_IsPoint.toH (t : Bool) : HL eΓ [.b] := (t, ())
def impl_IsPoint.run (k : Nat) (h : HL eΓ [.st .s77]) : Option (HL eΓ [.b]) := (impl_IsPoint.f ((h.1 : S77).f0) ((h.1 : S77).f1)).map impl_IsPoint.toH
def impl_IsPoint.spec : Spc env := ⟨82, [.st .s77], [.b], impl_IsPoint.run⟩
def impl_IsPoint.ap {R : Type} (k : Nat) (h0 : S77) (K : Bool → Option R) : Option R := (impl_IsPoint.run k (h0, ())).bind fun r => K (r.1 : Bool)
theorem impl_IsPoint.ap_of {R : Type} {k : Nat} {h0 : S77} {r0 : Bool} {K : Bool → Option R} (h : impl_IsPoint.run k (h0, ()) = some (r0, ())) : impl_IsPoint.ap k h0 K = K r0 := by unfold impl_IsPoint.ap; rw [h]; rfl
theorem impl_IsPoint.go {a0_0 : Int} {a0_1 : Int} {t} (h : impl_IsPoint.f a0_0 a0_1 = some t) (K : Nat) : impl_IsPoint.run K ((⟨a0_0, a0_1⟩ : S77), ()) = some (impl_IsPoint.toH t) := by
  show Option.map _ (impl_IsPoint.f a0_0 a0_1) = _
  rw [h]; rfl
theorem impl_IsPoint.snd : Snd env impl_IsPoint.spec := ⟨⟨Try.f82, by kernel_rfl, by kernel_rfl, by kernel_rfl⟩, fun k h r he w us hA => by
  obtain ⟨t, ht, rfl⟩ := Option.map_eq_some_iff.1 (show (impl_IsPoint.f ((h.1 : S77).f0) ((h.1 : S77).f1)).map impl_IsPoint.toH = some r from he)
  match us, hA with
  | [u0], ⟨q0, _⟩ =>
  obtain ⟨v0, rfl, q0⟩ := q0
  have q0 := (H77.K _ _ _).1 q0
  match e0 : v0.toList, q0 with
  | [c0_0, c0_1], ⟨p0_0, p0_1, _⟩ =>
  obtain rfl : v0 = #[c0_0, c0_1] := by rw [← Array.toArray_toList (xs := v0), e0]
  obtain rfl := List.singleton_inj.1 (show [c0_0] = [Value.int .i64 ((h.1 : S77).f0)] from p0_0)
  obtain rfl := List.singleton_inj.1 (show [c0_1] = [Value.int .i64 ((h.1 : S77).f1)] from p0_1)
  refine (impl_IsPoint.calls (w := w) (h := ht) ).mono ?_
  rintro e w' ⟨he, hw⟩
  exact ⟨_, he, hw, [.bool t], [fun _ => False], rfl, ⟨rfl, trivial⟩, by simp [DJ]⟩⟩
def impl_IsLine.Fs : List (Spc env) := [impl_IsPoint.spec]
def impl_IsLine.fin : St eΓ → Option (HL eΓ [.b]) := finR env Try.f75.results.toList [.b]
def impl_IsLine.cut : Nat → Option (List (Lv SC)) := lk [(4, [⟨0, none, false⟩, ⟨13, none, false⟩, ⟨14, none, false⟩, ⟨15, none, false⟩])]
def impl_IsLine.ret (r0 : Bool) : Option (HL eΓ [.b]) := some (r0, ())
def impl_IsLine.p4 (k : Nat) (x14 : Int) (x15 : Int) (x0 : List S77) : Option (HL eΓ [.b]) := evM env impl_IsLine.Fs Try.f75.ntmps impl_IsLine.fin impl_IsLine.cut k [.code (sub_ [1, 1, 0, 1, 0, 0, 0] (bodyOf Try.f75)), .code (sub_ [1, 1, 0, 1, 0, 0, 1] (bodyOf Try.f75)), .lp (sub_ [1, 1, 0, 1, 0, 0] (bodyOf Try.f75)), .blk 0, .code (sub_ [1, 1, 1] (bodyOf Try.f75))] (mkSt [(0, .c (.sl 0)), (13, .c (.sl 0)), (14, .c (.v (.int .i64 x14))), (15, .c (.v (.int .i64 x15)))] [.row .ro 77 (.st .s77) x0])
theorem impl_IsLine.e4 (k : Nat) (x14 : Int) (x15 : Int) (x0 : List S77) : impl_IsLine.p4 (k + 1) x14 x15 x0 = if x15 < x14 then (if 0 ≤ x15 then (if x15 < (x0.length : Int) then (impl_IsPoint.ap k (⟨(rd_T77 x0 x15).f0, (rd_T77 x0 x15).f1⟩ : S77) fun r1 => if (!r1) = true then (impl_IsLine.ret false) else (if x15 > 0 then (if 0 ≤ (wrap64 (x15 - 1)) then (if (wrap64 (x15 - 1)) < (x0.length : Int) then (if ((rd_T77 x0 x15).f0) = ((rd_T77 x0 (wrap64 (x15 - 1))).f0) ∧ (((rd_T77 x0 x15).f1) = ((rd_T77 x0 (wrap64 (x15 - 1))).f1) ∧ True) then (impl_IsLine.ret false) else (impl_IsLine.p4 k x14 (wrap64 (x15 + 1)) x0)) else none) else none) else (impl_IsLine.p4 k x14 (wrap64 (x15 + 1)) x0))) else none) else none) else (impl_IsLine.ret true) := by kernel_rfl
def impl_IsLine.run (k : Nat) (h : HL eΓ [.l 77 (.st .s77)]) : Option (HL eΓ [.b]) := evF env impl_IsLine.Fs Try.f75 impl_IsLine.cut [.l 77 (.st .s77)] [.b] k h
theorem impl_IsLine.ef (k : Nat) (h0 : List S77) : impl_IsLine.run k (h0, ()) = if (h0.length : Int) < 2 then (impl_IsLine.ret false) else (if (h0.length : Int) > 10 then (impl_IsLine.ret false) else (impl_IsLine.p4 k (h0.length : Int) 0 h0)) := by kernel_rfl
def impl_IsLine.toH (t : Bool) : HL eΓ [.b] := (t, ())
def impl_IsLine.spec : Spc env := ⟨75, [.l 77 (.st .s77)], [.b], impl_IsLine.run⟩
def impl_IsLine.ap {R : Type} (k : Nat) (h0 : List S77) (K : Bool → Option R) : Option R := (impl_IsLine.run k (h0, ())).bind fun r => K (r.1 : Bool)
theorem impl_IsLine.ap_of {R : Type} {k : Nat} {h0 : List S77} {r0 : Bool} {K : Bool → Option R} (h : impl_IsLine.run k (h0, ()) = some (r0, ())) : impl_IsLine.ap k h0 K = K r0 := by unfold impl_IsLine.ap; rw [h]; rfl
theorem impl_IsLine.snd : Snd env impl_IsLine.spec := evF_snd env_ok (sndC impl_IsPoint.snd (sndN))
attribute [local irreducible] impl_IsLine.run
theorem impl_IsLine.rt (a0 : Bool) : impl_IsLine.ret a0 = some (impl_IsLine.toH (a0)) := rfl
theorem impl_IsLine.br (n : Nat) : (∀ K, n ≤ K → ∀ (x14 : Int) (x15 : Int) (x0 : List S77) t, impl_IsLine.l0 n x0 x0 x14 x15 = some t → impl_IsLine.p4 K x14 x15 x0 = some (impl_IsLine.toH t)) := by
  induction n using Nat.strongRecOn with
  | _ n ih =>
  intro K hK x14 x15 x0 t h
  all_goals (rcases n with _ | k)
  all_goals (try (exact nos h))
  all_goals (obtain ⟨K, rfl⟩ : ∃ q, K = q + 1 := ⟨K - 1, by omega⟩)
  all_goals (first | rw [impl_IsLine.e4])
  all_goals (simp only [impl_IsLine.l0] at h)
  repeat' (with_reducible first
   | exact nos h
   | (cases some_inj h; exact impl_IsLine.rt _)
   | exact (ih _ (by omega)) _ (by omega) _ _ _ _ h
   | ((have q : impl_IsLine.j0 k _ _ = some _ := h; clear q); rcases k with _ | k <;> simp only [impl_IsLine.j0, reduceCtorEq] at h)
   | (simp only [Option.bind_some] at h)
   | (refine ite_by h ?_ ?_ <;> (intro hc h; (try simp only [nrm] at hc)))
   | refine itT ?_
   | refine itF ?_
   | (refine bind_by h (fun t ht h => ?_); refine (impl_IsPoint.ap_of (impl_IsPoint.go ht _)).trans ?_; (try dsimp only at h ⊢))
   | (simp only [nr2] at h ⊢)
   | (exfalso; omega))
theorem impl_IsLine.go {k : Nat} {l0 : List S77} {t} (h : impl_IsLine.f k l0 = some t) (K : Nat) (hK : k ≤ K) : impl_IsLine.run K (l0, ()) = some (impl_IsLine.toH t) := by
  rw [impl_IsLine.ef]
  (try dsimp only)
  unfold impl_IsLine.f at h
  repeat' (with_reducible first
   | exact nos h
   | (cases some_inj h; exact impl_IsLine.rt _)
   | exact (impl_IsLine.br _) _ (by omega) _ _ _ _ h
   | ((have q : impl_IsLine.j0 k _ _ = some _ := h; clear q); rcases k with _ | k <;> simp only [impl_IsLine.j0, reduceCtorEq] at h)
   | (simp only [Option.bind_some] at h)
   | (refine ite_by h ?_ ?_ <;> (intro hc h; (try simp only [nrm] at hc)))
   | refine itT ?_
   | refine itF ?_
   | (refine bind_by h (fun t ht h => ?_); refine (impl_IsPoint.ap_of (impl_IsPoint.go ht _)).trans ?_; (try dsimp only at h ⊢))
   | (simp only [nr2] at h ⊢)
   | (exfalso; omega))
set_option maxHeartbeats 4000000 in
set_option maxRecDepth 100000 in
theorem impl_without.calls (A0 : Option Addr) (c0 : Nat) (l0 : List S77) (a1 : Int) (r : List S77) (w : World) (hr0 : Kd.C k77 w A0 l0.length l0) (hc0 : l0.length ≤ c0) (h : impl_without.f l0 a1 = some r) :
    Calls Try.prog 77 #[.slice A0 l0.length c0, .int .i64 a1] w fun e w' => ∃ v0_ : Value, e = .returned (v0_) ∧ Kd.R k77 77 w' w.heap.size (fun _ => True) v0_ r ∧ Below w.heap.size w w' := by
  unfold impl_without.f at h
  by_cases h0 : 0 ≤ a1
  case neg => rw [if_neg h0] at h; cases h
  rw [if_pos h0] at h
  by_cases h1 : a1 < (l0.length : Int)
  case neg => rw [if_neg h1] at h; cases h
  rw [if_pos h1] at h
  by_cases h2 : l0.length < 8796093022208
  case neg => rw [if_neg h2] at h; cases h
  rw [if_pos h2] at h; obtain rfl := Option.some.inj h; clear h; obtain ⟨i0, hi0, _, hsz0, _⟩ := info_parts info77; have cutA := cut_to (P := Try.prog) 26 77 .i64 Try.underlying26 hi0 A0 l0.length c0 a1 h0 (by omega) hc0; have ew : wrap64 (a1 + 1) = a1 + 1 := by unfold wrap64; omega
  have cutB := cut_from (P := Try.prog) 26 77 .i64 Try.underlying26 hi0 2 hsz0 A0 l0.length c0 (wrap64 (a1 + 1)) (by omega) (by omega); have hA := Kd.C_take (m := a1.toNat) hr0 (by omega); have hB := Kd.C_drop (m := (wrap64 (a1 + 1)).toNat) (c := c0) hr0 (by omega) hc0; rw [show (l0.drop (a1.toNat + 1)) = l0.drop (wrap64 (a1 + 1)).toNat by rw [ew]; congr 1; omega]; obtain ⟨xs, hxs⟩ : ∃ xs, xs = l0.take a1.toNat := ⟨_, rfl⟩
  obtain ⟨ys, hys⟩ : ∃ ys, ys = l0.drop (wrap64 (a1 + 1)).toNat := ⟨_, rfl⟩
  have lx : xs.length = a1.toNat := by rw [hxs, List.length_take]; omega
  have ly : ys.length = l0.length - (wrap64 (a1 + 1)).toNat := by rw [hys, List.length_drop]
  rw [← hxs] at hA; rw [← hys] at hB; rw [← lx] at cutA; rw [← ly] at cutB; rw [← hxs, ← hys]; have hl : xs.length + ys.length < 8796093022208 := by omega
  obtain ⟨B0, hB0⟩ : ∃ B0, B0 = (if c0 = (wrap64 (a1 + 1)).toNat then A0 else A0.map (·.add ((wrap64 (a1 + 1)).toNat * 2))) := ⟨_, rfl⟩
  obtain ⟨cb, hcb⟩ : ∃ cb, cb = c0 - (wrap64 (a1 + 1)).toNat := ⟨_, rfl⟩
  rw [← hB0, ← hcb] at cutB; replace hB : Kd.C k77 w B0 ys.length ys := by rw [hB0]; exact hB
  have HA := Aside0.mk hA; have HB2 := Aside0.mk hB; have HL := Aside0.mk hl; have hcat := fun (g : Nat) (W : World) (hb : Below w.heap.size w W) => concat_P g A0 B0 c0 cb xs ys W (Kd.C_below HA.out hb) (Kd.C_below HB2.out hb)
  clear hr0 hc0 hA hB hB0 hcb hi0 hsz0 lx ly hxs hys h0 h1 h2 hl

  obtain ⟨z, hz⟩ : ∃ z : Int, wrap64 (a1 + 1) = z := ⟨_, rfl⟩
  rw [hz] at cutB; have hzw : (IntKind.i64.wrap (a1 + 1)) = z := (i64_w _).trans hz; clear ew; have HW := Aside0.mk (below_drew1 (Below.refl w.heap.size w))
  go_enter Try.func77, Try.ntmps77; go_wp2; refine start_ (n := 10) (S := fun w' => True) (ds := []) #[F,F,F,F,F,F,F,F,F,F] (by kernel_rfl) rfl rfl trivial (fun hHeld => ?_); refine with_tabW impl_without.tab1 impl_without.bits1 (fun HT_ HW_ => ?_); generalize w.drew = w23 at HW hHeld ⊢; refine pz HT_ 0 5 ?_; refine pz HT_ 1 6 ?_; refine pz HT_ 2 7 ?_; refine pz HT_ 3 8 ?_; refine pz HT_ 4 9 ?_; refine pz HT_ 5 10 ?_; refine pz HT_ 6 11 ?_; refine oz HT_ 7 (some 12) (fun K hK => ?_); refine event_step (v := .slice (some ⟨w23.heap.size, 0, none⟩) 2 2) (w1 := w23.alloc (.cells #[.slice A0 xs.length c0, .slice B0 ys.length cb] 26 (0, 0))) (by rfl) (by go_simp) ?_; refine hK.out _ _ trivial (fun hHeld => ?_); clear hK K; refine nz 12 ?_; refine oz HT_ 8 (some 13) (fun K hK => ?_); have hnew := blk_new w23 (.cells #[.slice A0 xs.length c0, .slice B0 ys.length cb] 26 (0, 0)); have g0 := blk_cell hnew 0; have g1 := blk_cell hnew 1; have hb9 := below_alloc HW.out (.cells #[.slice A0 xs.length c0, .slice B0 ys.length cb] 26 (0, 0)); refine goes_ (f := 104) Try.func104 (by kernel_rfl) rfl #[.slice (some ⟨w23.heap.size, 0, none⟩) 2 2] (by rfl) rfl rfl (by (try simp only [List.map_toArray, List.map_cons, List.map_nil]); first | done | rfl) ?_; refine (hcat w23.heap.size _ hb9 g0 g1 HL.out).mono ?_; rintro e w24 ⟨v24, rfl, ho, hb⟩; refine ⟨_, rfl, ?_⟩; have HO := Aside0.mk (Kd.R_lower ho hb9.size); have HX := Aside0.mk (below_then hb9 hb9.size hb); clear hnew g0 g1 hb9 ho hb HW; refine hK.out _ _ trivial (fun hHeld => ?_)
  clear hK K; refine nz 13 ?_; refine pz HT_ 9 4 ?_; refine dz HT_ ?_; go_wp2; go_ret
  exact ⟨_, rfl, HO.out, HX.out⟩
def impl_without.toH (t : List S77) : HL eΓ [.l 77 (.st .s77)] := (t, ())
def impl_without.run (k : Nat) (h : HL eΓ [.l 77 (.st .s77), .i .i64]) : Option (HL eΓ [.l 77 (.st .s77)]) := (impl_without.f (h.1 : List S77) (h.2.1 : Int)).map impl_without.toH
def impl_without.spec : Spc env := ⟨77, [.l 77 (.st .s77), .i .i64], [.l 77 (.st .s77)], impl_without.run⟩
def impl_without.ap {R : Type} (k : Nat) (h0 : List S77) (h1 : Int) (K : (List S77) → Option R) : Option R := (impl_without.run k (h0, h1, ())).bind fun r => K (r.1 : List S77)
theorem impl_without.ap_of {R : Type} {k : Nat} {h0 : List S77} {h1 : Int} {r0 : List S77} {K : (List S77) → Option R} (h : impl_without.run k (h0, h1, ()) = some (r0, ())) : impl_without.ap k h0 h1 K = K r0 := by unfold impl_without.ap; rw [h]; rfl
theorem impl_without.go {l0 : List S77} {a1 : Int} {t} (h : impl_without.f l0 a1 = some t) (K : Nat) : impl_without.run K (l0, a1, ()) = some (impl_without.toH t) := by
  show Option.map _ (impl_without.f l0 a1) = _
  rw [h]; rfl
theorem impl_without.snd : Snd env impl_without.spec := ⟨⟨Try.f77, by kernel_rfl, by kernel_rfl, by kernel_rfl⟩, fun k h r he w us hA => by
  obtain ⟨t, ht, rfl⟩ := Option.map_eq_some_iff.1 (show (impl_without.f (h.1 : List S77) (h.2.1 : Int)).map impl_without.toH = some r from he)
  match us, hA with
  | [u0, u1], ⟨q0, q1, _⟩ =>
  obtain ⟨A0, c0, e0, l0, g0⟩ := q0
  obtain rfl := List.singleton_inj.1 e0
  obtain rfl := List.singleton_inj.1 (show [u1] = [Value.int .i64 (h.2.1 : Int)] from q1)
  refine (impl_without.calls (w := w) (h := ht) (hr0 := g0) (hc0 := l0)).mono ?_
  rintro e w' ⟨v0_, he, hR, hw⟩
  exact ⟨_, he, hw, [v0_], [fun _ => True], rfl, ⟨⟨v0_, rfl, hR⟩, trivial⟩, by simp [DJ]⟩⟩
def impl_DropPoint.Fs : List (Spc env) := [impl_IsLine.spec, impl_Point.spec, impl_InRange.spec, impl_without.spec]
def impl_DropPoint.cut : Nat → Option (List (Lv SC)) := lk []
def impl_DropPoint.ret (r0 : List S77) (r1 : Bool) : Option (HL eΓ [.l 77 (.st .s77), .b]) := some (r0, r1, ())
def impl_DropPoint.run (k : Nat) (h : HL eΓ [.l 77 (.st .s77), .i .i64]) : Option (HL eΓ [.l 77 (.st .s77), .b]) := evF env impl_DropPoint.Fs Try.f43 impl_DropPoint.cut [.l 77 (.st .s77), .i .i64] [.l 77 (.st .s77), .b] k h
theorem impl_DropPoint.ef (k : Nat) (h0 : List S77) (h1 : Int) : impl_DropPoint.run k (h0, h1, ()) = impl_IsLine.ap k h0 fun r1 => if (!r1) = true then (impl_Point.ap k h0 fun r2 => impl_DropPoint.ret r2 false) else (impl_InRange.ap k h1 1 (wrap64 ((h0.length : Int) - 2)) fun r3 => if (!r3) = true then (impl_Point.ap k h0 fun r4 => impl_DropPoint.ret r4 false) else (impl_without.ap k h0 h1 fun r5 => impl_IsLine.ap k r5 fun r6 => if (!r6) = true then (impl_Point.ap k h0 fun r7 => impl_DropPoint.ret r7 false) else (impl_DropPoint.ret r5 true))) := by kernel_rfl
def impl_DropPoint.toH (t : (List (S77)) × Bool) : HL eΓ [.l 77 (.st .s77), .b] := (t.1, t.2, ())
def impl_DropPoint.spec : Spc env := ⟨43, [.l 77 (.st .s77), .i .i64], [.l 77 (.st .s77), .b], impl_DropPoint.run⟩
def impl_DropPoint.ap {R : Type} (k : Nat) (h0 : List S77) (h1 : Int) (K : (List S77) → Bool → Option R) : Option R := (impl_DropPoint.run k (h0, h1, ())).bind fun r => K (r.1 : List S77) (r.2.1 : Bool)
theorem impl_DropPoint.ap_of {R : Type} {k : Nat} {h0 : List S77} {h1 : Int} {r0 : List S77} {r1 : Bool} {K : (List S77) → Bool → Option R} (h : impl_DropPoint.run k (h0, h1, ()) = some (r0, r1, ())) : impl_DropPoint.ap k h0 h1 K = K r0 r1 := by unfold impl_DropPoint.ap; rw [h]; rfl
theorem impl_DropPoint.snd : Snd env impl_DropPoint.spec := evF_snd env_ok (sndC impl_IsLine.snd (sndC impl_Point.snd (sndC impl_InRange.snd (sndC impl_without.snd (sndN)))))
attribute [local irreducible] impl_DropPoint.run
theorem impl_DropPoint.rt (a0 : List S77) (a1 : Bool) : impl_DropPoint.ret a0 a1 = some (impl_DropPoint.toH (a0, a1)) := rfl
theorem impl_DropPoint.go {k : Nat} {l0 : List S77} {a1 : Int} {t} (h : impl_DropPoint.f k l0 a1 = some t) (K : Nat) (hK : k ≤ K) : impl_DropPoint.run K (l0, a1, ()) = some (impl_DropPoint.toH t) := by
  rw [impl_DropPoint.ef]
  (try dsimp only)
  unfold impl_DropPoint.f at h
  repeat' (with_reducible first
   | exact nos h
   | (cases some_inj h; exact impl_DropPoint.rt _ _)
   | ((have q : impl_DropPoint.j0 k _ _ _ = some _ := h; clear q); rcases k with _ | k <;> simp only [impl_DropPoint.j0, reduceCtorEq] at h)
   | (simp only [Option.bind_some] at h)
   | (refine ite_by h ?_ ?_ <;> (intro hc h; (try simp only [nrm] at hc)))
   | refine itT ?_
   | refine itF ?_
   | (refine bind_by h (fun t ht h => ?_); (first | refine (impl_IsLine.ap_of (impl_IsLine.go ht _ (by omega))).trans ?_ | refine (impl_Point.ap_of (impl_Point.go ht _)).trans ?_ | refine (impl_InRange.ap_of (impl_InRange.go ht _)).trans ?_ | refine (impl_without.ap_of (impl_without.go ht _)).trans ?_); (try dsimp only at h ⊢))
   | (simp only [nr2] at h ⊢)
   | (exfalso; omega))
def impl_around.Fs : List (Spc env) := []
def impl_around.fin : St eΓ → Option (HL eΓ [.l 95 (.st .s95)]) := finR env Try.f105.results.toList [.l 95 (.st .s95)]
def impl_around.cut : Nat → Option (List (Lv SC)) := lk [(3, [⟨0, none, false⟩, ⟨3, none, false⟩, ⟨7, none, false⟩, ⟨8, none, false⟩, ⟨9, none, false⟩])]
def impl_around.ret (r0 : List S95) : Option (HL eΓ [.l 95 (.st .s95)]) := some (r0, ())
def impl_around.p3 (k : Nat) (x8 : Int) (x9 : Int) (x0 : List S77) (x3 : List S95) : Option (HL eΓ [.l 95 (.st .s95)]) := evM env impl_around.Fs Try.f105.ntmps impl_around.fin impl_around.cut k [.code (sub_ [1, 1, 0, 1, 0, 0, 0] (bodyOf Try.f105)), .code (sub_ [1, 1, 0, 1, 0, 0, 1] (bodyOf Try.f105)), .lp (sub_ [1, 1, 0, 1, 0, 0] (bodyOf Try.f105)), .blk 0, .code (sub_ [1, 1, 1] (bodyOf Try.f105))] (mkSt [(0, .c (.sl 0)), (3, .c (.sl 1)), (7, .c (.sl 0)), (8, .c (.v (.int .i64 x8))), (9, .c (.v (.int .i64 x9)))] [.row .ro 77 (.st .s77) x0, .row .own 95 (.st .s95) x3])
theorem impl_around.e3 (k : Nat) (x8 : Int) (x9 : Int) (x0 : List S77) (x3 : List S95) : impl_around.p3 (k + 1) x8 x9 x0 x3 = if x9 < x8 then (if 0 ≤ x9 then (if x9 < (x0.length : Int) then (if (x0.length : Int) = 0 then none else (if 0 ≤ (Int.tmod (wrap64 (x9 + 1)) (x0.length : Int)) then (if (Int.tmod (wrap64 (x9 + 1)) (x0.length : Int)) < (x0.length : Int) then (if (x3.length + 1) * 32 ≤ 140737488355328 then (impl_around.p3 k x8 (wrap64 (x9 + 1)) x0 (x3 ++ [(⟨(⟨(rd_T77 x0 x9).f0, (rd_T77 x0 x9).f1⟩ : S77), (⟨(rd_T77 x0 (Int.tmod (wrap64 (x9 + 1)) (x0.length : Int))).f0, (rd_T77 x0 (Int.tmod (wrap64 (x9 + 1)) (x0.length : Int))).f1⟩ : S77)⟩ : S95)])) else none) else none) else none)) else none) else none) else (impl_around.ret x3) := by kernel_rfl
def impl_around.run (k : Nat) (h : HL eΓ [.l 77 (.st .s77)]) : Option (HL eΓ [.l 95 (.st .s95)]) := evF env impl_around.Fs Try.f105 impl_around.cut [.l 77 (.st .s77)] [.l 95 (.st .s95)] k h
theorem impl_around.ef (k : Nat) (h0 : List S77) : impl_around.run k (h0, ()) = impl_around.p3 k (h0.length : Int) 0 h0 ([] : List S95) := by kernel_rfl
def impl_around.toH (t : (List (S95))) : HL eΓ [.l 95 (.st .s95)] := (t, ())
def impl_around.spec : Spc env := ⟨105, [.l 77 (.st .s77)], [.l 95 (.st .s95)], impl_around.run⟩
def impl_around.ap {R : Type} (k : Nat) (h0 : List S77) (K : (List S95) → Option R) : Option R := (impl_around.run k (h0, ())).bind fun r => K (r.1 : List S95)
theorem impl_around.ap_of {R : Type} {k : Nat} {h0 : List S77} {r0 : List S95} {K : (List S95) → Option R} (h : impl_around.run k (h0, ()) = some (r0, ())) : impl_around.ap k h0 K = K r0 := by unfold impl_around.ap; rw [h]; rfl
theorem impl_around.snd : Snd env impl_around.spec := evF_snd env_ok (sndN)
attribute [local irreducible] impl_around.run
theorem impl_around.rt (a0 : List S95) : impl_around.ret a0 = some (impl_around.toH (a0)) := rfl
theorem impl_around.br (n : Nat) : (∀ K, n ≤ K → ∀ (x8 : Int) (x9 : Int) (x0 : List S77) (x3 : List S95) t, impl_around.l0 n x0 x3 x0 x8 x9 = some t → impl_around.p3 K x8 x9 x0 x3 = some (impl_around.toH t)) := by
  induction n using Nat.strongRecOn with
  | _ n ih =>
  intro K hK x8 x9 x0 x3 t h
  all_goals (rcases n with _ | k)
  all_goals (try (exact nos h))
  all_goals (obtain ⟨K, rfl⟩ : ∃ q, K = q + 1 := ⟨K - 1, by omega⟩)
  all_goals (first | rw [impl_around.e3])
  all_goals (simp only [impl_around.l0] at h)
  repeat' (with_reducible first
   | exact nos h
   | (cases some_inj h; exact impl_around.rt _)
   | exact (ih _ (by omega)) _ (by omega) _ _ _ _ _ h
   | (simp only [Option.bind_some] at h)
   | (refine ite_by h ?_ ?_ <;> (intro hc h; (try simp only [nrm] at hc)))
   | refine itT ?_
   | refine itF ?_
   | (simp only [nr2] at h ⊢)
   | (exfalso; omega))
theorem impl_around.go {k : Nat} {l0 : List S77} {t} (h : impl_around.f k l0 = some t) (K : Nat) (hK : k ≤ K) : impl_around.run K (l0, ()) = some (impl_around.toH t) := by
  rw [impl_around.ef]
  (try dsimp only)
  unfold impl_around.f at h
  repeat' (with_reducible first
   | exact nos h
   | (cases some_inj h; exact impl_around.rt _)
   | exact (impl_around.br _) _ (by omega) _ _ _ _ _ h
   | (simp only [Option.bind_some] at h)
   | (refine ite_by h ?_ ?_ <;> (intro hc h; (try simp only [nrm] at hc)))
   | refine itT ?_
   | refine itF ?_
   | (simp only [nr2] at h ⊢)
   | (exfalso; omega))
def impl_IsSegment.toH (t : Bool) : HL eΓ [.b] := (t, ())
def impl_IsSegment.run (k : Nat) (h : HL eΓ [.st .s95]) : Option (HL eΓ [.b]) := (impl_IsSegment.f ((h.1 : S95).f0.f0) ((h.1 : S95).f0.f1) ((h.1 : S95).f1.f0) ((h.1 : S95).f1.f1)).map impl_IsSegment.toH
def impl_IsSegment.spec : Spc env := ⟨106, [.st .s95], [.b], impl_IsSegment.run⟩
def impl_IsSegment.ap {R : Type} (k : Nat) (h0 : S95) (K : Bool → Option R) : Option R := (impl_IsSegment.run k (h0, ())).bind fun r => K (r.1 : Bool)
theorem impl_IsSegment.ap_of {R : Type} {k : Nat} {h0 : S95} {r0 : Bool} {K : Bool → Option R} (h : impl_IsSegment.run k (h0, ()) = some (r0, ())) : impl_IsSegment.ap k h0 K = K r0 := by unfold impl_IsSegment.ap; rw [h]; rfl
theorem impl_IsSegment.go {a0_0 : Int} {a0_1 : Int} {a0_2 : Int} {a0_3 : Int} {t} (h : impl_IsSegment.f a0_0 a0_1 a0_2 a0_3 = some t) (K : Nat) : impl_IsSegment.run K ((⟨(⟨a0_0, a0_1⟩ : S77), (⟨a0_2, a0_3⟩ : S77)⟩ : S95), ()) = some (impl_IsSegment.toH t) := by
  show Option.map _ (impl_IsSegment.f a0_0 a0_1 a0_2 a0_3) = _
  rw [h]; rfl
theorem impl_IsSegment.snd : Snd env impl_IsSegment.spec := ⟨⟨Try.f106, by kernel_rfl, by kernel_rfl, by kernel_rfl⟩, fun k h r he w us hA => by
  obtain ⟨t, ht, rfl⟩ := Option.map_eq_some_iff.1 (show (impl_IsSegment.f ((h.1 : S95).f0.f0) ((h.1 : S95).f0.f1) ((h.1 : S95).f1.f0) ((h.1 : S95).f1.f1)).map impl_IsSegment.toH = some r from he)
  match us, hA with
  | [u0], ⟨q0, _⟩ =>
  obtain ⟨v0, rfl, q0⟩ := q0
  have q0 := (H95.K _ _ _).1 q0
  match e0 : v0.toList, q0 with
  | [c0_0, c0_1, c0_2, c0_3], ⟨p0_0, p0_1, p0_2, p0_3, _⟩ =>
  obtain rfl : v0 = #[c0_0, c0_1, c0_2, c0_3] := by rw [← Array.toArray_toList (xs := v0), e0]
  obtain rfl := List.singleton_inj.1 (show [c0_0] = [Value.int .i64 ((h.1 : S95).f0.f0)] from p0_0)
  obtain rfl := List.singleton_inj.1 (show [c0_1] = [Value.int .i64 ((h.1 : S95).f0.f1)] from p0_1)
  obtain rfl := List.singleton_inj.1 (show [c0_2] = [Value.int .i64 ((h.1 : S95).f1.f0)] from p0_2)
  obtain rfl := List.singleton_inj.1 (show [c0_3] = [Value.int .i64 ((h.1 : S95).f1.f1)] from p0_3)
  refine (impl_IsSegment.calls (w := w) (h := ht) ).mono ?_
  rintro e w' ⟨he, hw⟩
  exact ⟨_, he, hw, [.bool t], [fun _ => False], rfl, ⟨rfl, trivial⟩, by simp [DJ]⟩⟩
def cmp_Compare_int.toH (t : Int) : HL eΓ [.i .i64] := (t, ())
def cmp_Compare_int.run (k : Nat) (h : HL eΓ [.i .i64, .i .i64]) : Option (HL eΓ [.i .i64]) := (cmp_Compare_int.f (h.1 : Int) (h.2.1 : Int)).map cmp_Compare_int.toH
def cmp_Compare_int.spec : Spc env := ⟨79, [.i .i64, .i .i64], [.i .i64], cmp_Compare_int.run⟩
def cmp_Compare_int.ap {R : Type} (k : Nat) (h0 : Int) (h1 : Int) (K : Int → Option R) : Option R := (cmp_Compare_int.run k (h0, h1, ())).bind fun r => K (r.1 : Int)
theorem cmp_Compare_int.ap_of {R : Type} {k : Nat} {h0 : Int} {h1 : Int} {r0 : Int} {K : Int → Option R} (h : cmp_Compare_int.run k (h0, h1, ()) = some (r0, ())) : cmp_Compare_int.ap k h0 h1 K = K r0 := by unfold cmp_Compare_int.ap; rw [h]; rfl
theorem cmp_Compare_int.go {a0 : Int} {a1 : Int} {t} (h : cmp_Compare_int.f a0 a1 = some t) (K : Nat) : cmp_Compare_int.run K (a0, a1, ()) = some (cmp_Compare_int.toH t) := by
  show Option.map _ (cmp_Compare_int.f a0 a1) = _
  rw [h]; rfl
theorem cmp_Compare_int.snd : Snd env cmp_Compare_int.spec := ⟨⟨Try.f79, by kernel_rfl, by kernel_rfl, by kernel_rfl⟩, fun k h r he w us hA => by
  obtain ⟨t, ht, rfl⟩ := Option.map_eq_some_iff.1 (show (cmp_Compare_int.f (h.1 : Int) (h.2.1 : Int)).map cmp_Compare_int.toH = some r from he)
  match us, hA with
  | [u0, u1], ⟨q0, q1, _⟩ =>
  obtain rfl := List.singleton_inj.1 (show [u0] = [Value.int .i64 (h.1 : Int)] from q0)
  obtain rfl := List.singleton_inj.1 (show [u1] = [Value.int .i64 (h.2.1 : Int)] from q1)
  refine (cmp_Compare_int.calls (w := w) (h := ht) ).mono ?_
  rintro e w' ⟨he, hw⟩
  exact ⟨_, he, (by obtain ⟨_, rfl⟩ := hw; exact Below.refl _ _), [.int .i64 t], [fun _ => False], rfl, ⟨rfl, trivial⟩, by simp [DJ]⟩⟩
def impl_cross.toH (t : Int) : HL eΓ [.i .i64] := (t, ())
def impl_cross.run (k : Nat) (h : HL eΓ [.st .s77, .st .s77, .st .s77]) : Option (HL eΓ [.i .i64]) := (impl_cross.f ((h.1 : S77).f0) ((h.1 : S77).f1) ((h.2.1 : S77).f0) ((h.2.1 : S77).f1) ((h.2.2.1 : S77).f0) ((h.2.2.1 : S77).f1)).map impl_cross.toH
def impl_cross.spec : Spc env := ⟨121, [.st .s77, .st .s77, .st .s77], [.i .i64], impl_cross.run⟩
def impl_cross.ap {R : Type} (k : Nat) (h0 : S77) (h1 : S77) (h2 : S77) (K : Int → Option R) : Option R := (impl_cross.run k (h0, h1, h2, ())).bind fun r => K (r.1 : Int)
theorem impl_cross.ap_of {R : Type} {k : Nat} {h0 : S77} {h1 : S77} {h2 : S77} {r0 : Int} {K : Int → Option R} (h : impl_cross.run k (h0, h1, h2, ()) = some (r0, ())) : impl_cross.ap k h0 h1 h2 K = K r0 := by unfold impl_cross.ap; rw [h]; rfl
theorem impl_cross.go {a0_0 : Int} {a0_1 : Int} {a1_0 : Int} {a1_1 : Int} {a2_0 : Int} {a2_1 : Int} {t} (h : impl_cross.f a0_0 a0_1 a1_0 a1_1 a2_0 a2_1 = some t) (K : Nat) : impl_cross.run K ((⟨a0_0, a0_1⟩ : S77), (⟨a1_0, a1_1⟩ : S77), (⟨a2_0, a2_1⟩ : S77), ()) = some (impl_cross.toH t) := by
  show Option.map _ (impl_cross.f a0_0 a0_1 a1_0 a1_1 a2_0 a2_1) = _
  rw [h]; rfl
theorem impl_cross.snd : Snd env impl_cross.spec := ⟨⟨Try.f121, by kernel_rfl, by kernel_rfl, by kernel_rfl⟩, fun k h r he w us hA => by
  obtain ⟨t, ht, rfl⟩ := Option.map_eq_some_iff.1 (show (impl_cross.f ((h.1 : S77).f0) ((h.1 : S77).f1) ((h.2.1 : S77).f0) ((h.2.1 : S77).f1) ((h.2.2.1 : S77).f0) ((h.2.2.1 : S77).f1)).map impl_cross.toH = some r from he)
  match us, hA with
  | [u0, u1, u2], ⟨q0, q1, q2, _⟩ =>
  obtain ⟨v0, rfl, q0⟩ := q0
  have q0 := (H77.K _ _ _).1 q0
  match e0 : v0.toList, q0 with
  | [c0_0, c0_1], ⟨p0_0, p0_1, _⟩ =>
  obtain rfl : v0 = #[c0_0, c0_1] := by rw [← Array.toArray_toList (xs := v0), e0]
  obtain rfl := List.singleton_inj.1 (show [c0_0] = [Value.int .i64 ((h.1 : S77).f0)] from p0_0)
  obtain rfl := List.singleton_inj.1 (show [c0_1] = [Value.int .i64 ((h.1 : S77).f1)] from p0_1)
  obtain ⟨v1, rfl, q1⟩ := q1
  have q1 := (H77.K _ _ _).1 q1
  match e1 : v1.toList, q1 with
  | [c1_0, c1_1], ⟨p1_0, p1_1, _⟩ =>
  obtain rfl : v1 = #[c1_0, c1_1] := by rw [← Array.toArray_toList (xs := v1), e1]
  obtain rfl := List.singleton_inj.1 (show [c1_0] = [Value.int .i64 ((h.2.1 : S77).f0)] from p1_0)
  obtain rfl := List.singleton_inj.1 (show [c1_1] = [Value.int .i64 ((h.2.1 : S77).f1)] from p1_1)
  obtain ⟨v2, rfl, q2⟩ := q2
  have q2 := (H77.K _ _ _).1 q2
  match e2 : v2.toList, q2 with
  | [c2_0, c2_1], ⟨p2_0, p2_1, _⟩ =>
  obtain rfl : v2 = #[c2_0, c2_1] := by rw [← Array.toArray_toList (xs := v2), e2]
  obtain rfl := List.singleton_inj.1 (show [c2_0] = [Value.int .i64 ((h.2.2.1 : S77).f0)] from p2_0)
  obtain rfl := List.singleton_inj.1 (show [c2_1] = [Value.int .i64 ((h.2.2.1 : S77).f1)] from p2_1)
  refine (impl_cross.calls (w := w) (h := ht) ).mono ?_
  rintro e w' ⟨he, hw⟩
  exact ⟨_, he, hw, [.int .i64 t], [fun _ => False], rfl, ⟨rfl, trivial⟩, by simp [DJ]⟩⟩
def impl_SideOf.toH (t : Int) : HL eΓ [.i .i64] := (t, ())
def impl_SideOf.run (k : Nat) (h : HL eΓ [.st .s77, .st .s77, .st .s77]) : Option (HL eΓ [.i .i64]) := (impl_SideOf.f ((h.1 : S77).f0) ((h.1 : S77).f1) ((h.2.1 : S77).f0) ((h.2.1 : S77).f1) ((h.2.2.1 : S77).f0) ((h.2.2.1 : S77).f1)).map impl_SideOf.toH
def impl_SideOf.spec : Spc env := ⟨123, [.st .s77, .st .s77, .st .s77], [.i .i64], impl_SideOf.run⟩
def impl_SideOf.ap {R : Type} (k : Nat) (h0 : S77) (h1 : S77) (h2 : S77) (K : Int → Option R) : Option R := (impl_SideOf.run k (h0, h1, h2, ())).bind fun r => K (r.1 : Int)
theorem impl_SideOf.ap_of {R : Type} {k : Nat} {h0 : S77} {h1 : S77} {h2 : S77} {r0 : Int} {K : Int → Option R} (h : impl_SideOf.run k (h0, h1, h2, ()) = some (r0, ())) : impl_SideOf.ap k h0 h1 h2 K = K r0 := by unfold impl_SideOf.ap; rw [h]; rfl
theorem impl_SideOf.go {a0_0 : Int} {a0_1 : Int} {a1_0 : Int} {a1_1 : Int} {a2_0 : Int} {a2_1 : Int} {t} (h : impl_SideOf.f a0_0 a0_1 a1_0 a1_1 a2_0 a2_1 = some t) (K : Nat) : impl_SideOf.run K ((⟨a0_0, a0_1⟩ : S77), (⟨a1_0, a1_1⟩ : S77), (⟨a2_0, a2_1⟩ : S77), ()) = some (impl_SideOf.toH t) := by
  show Option.map _ (impl_SideOf.f a0_0 a0_1 a1_0 a1_1 a2_0 a2_1) = _
  rw [h]; rfl
theorem impl_SideOf.snd : Snd env impl_SideOf.spec := ⟨⟨Try.f123, by kernel_rfl, by kernel_rfl, by kernel_rfl⟩, fun k h r he w us hA => by
  obtain ⟨t, ht, rfl⟩ := Option.map_eq_some_iff.1 (show (impl_SideOf.f ((h.1 : S77).f0) ((h.1 : S77).f1) ((h.2.1 : S77).f0) ((h.2.1 : S77).f1) ((h.2.2.1 : S77).f0) ((h.2.2.1 : S77).f1)).map impl_SideOf.toH = some r from he)
  match us, hA with
  | [u0, u1, u2], ⟨q0, q1, q2, _⟩ =>
  obtain ⟨v0, rfl, q0⟩ := q0
  have q0 := (H77.K _ _ _).1 q0
  match e0 : v0.toList, q0 with
  | [c0_0, c0_1], ⟨p0_0, p0_1, _⟩ =>
  obtain rfl : v0 = #[c0_0, c0_1] := by rw [← Array.toArray_toList (xs := v0), e0]
  obtain rfl := List.singleton_inj.1 (show [c0_0] = [Value.int .i64 ((h.1 : S77).f0)] from p0_0)
  obtain rfl := List.singleton_inj.1 (show [c0_1] = [Value.int .i64 ((h.1 : S77).f1)] from p0_1)
  obtain ⟨v1, rfl, q1⟩ := q1
  have q1 := (H77.K _ _ _).1 q1
  match e1 : v1.toList, q1 with
  | [c1_0, c1_1], ⟨p1_0, p1_1, _⟩ =>
  obtain rfl : v1 = #[c1_0, c1_1] := by rw [← Array.toArray_toList (xs := v1), e1]
  obtain rfl := List.singleton_inj.1 (show [c1_0] = [Value.int .i64 ((h.2.1 : S77).f0)] from p1_0)
  obtain rfl := List.singleton_inj.1 (show [c1_1] = [Value.int .i64 ((h.2.1 : S77).f1)] from p1_1)
  obtain ⟨v2, rfl, q2⟩ := q2
  have q2 := (H77.K _ _ _).1 q2
  match e2 : v2.toList, q2 with
  | [c2_0, c2_1], ⟨p2_0, p2_1, _⟩ =>
  obtain rfl : v2 = #[c2_0, c2_1] := by rw [← Array.toArray_toList (xs := v2), e2]
  obtain rfl := List.singleton_inj.1 (show [c2_0] = [Value.int .i64 ((h.2.2.1 : S77).f0)] from p2_0)
  obtain rfl := List.singleton_inj.1 (show [c2_1] = [Value.int .i64 ((h.2.2.1 : S77).f1)] from p2_1)
  refine (impl_SideOf.calls (w := w) (h := ht) ).mono ?_
  rintro e w' ⟨he, hw⟩
  exact ⟨_, he, hw, [.int .i64 t], [fun _ => False], rfl, ⟨rfl, trivial⟩, by simp [DJ]⟩⟩
def impl_BeforePoint.toH (t : Bool) : HL eΓ [.b] := (t, ())
def impl_BeforePoint.run (k : Nat) (h : HL eΓ [.st .s77, .st .s77]) : Option (HL eΓ [.b]) := (impl_BeforePoint.f ((h.1 : S77).f0) ((h.1 : S77).f1) ((h.2.1 : S77).f0) ((h.2.1 : S77).f1)).map impl_BeforePoint.toH
def impl_BeforePoint.spec : Spc env := ⟨125, [.st .s77, .st .s77], [.b], impl_BeforePoint.run⟩
def impl_BeforePoint.ap {R : Type} (k : Nat) (h0 : S77) (h1 : S77) (K : Bool → Option R) : Option R := (impl_BeforePoint.run k (h0, h1, ())).bind fun r => K (r.1 : Bool)
theorem impl_BeforePoint.ap_of {R : Type} {k : Nat} {h0 : S77} {h1 : S77} {r0 : Bool} {K : Bool → Option R} (h : impl_BeforePoint.run k (h0, h1, ()) = some (r0, ())) : impl_BeforePoint.ap k h0 h1 K = K r0 := by unfold impl_BeforePoint.ap; rw [h]; rfl
theorem impl_BeforePoint.go {a0_0 : Int} {a0_1 : Int} {a1_0 : Int} {a1_1 : Int} {t} (h : impl_BeforePoint.f a0_0 a0_1 a1_0 a1_1 = some t) (K : Nat) : impl_BeforePoint.run K ((⟨a0_0, a0_1⟩ : S77), (⟨a1_0, a1_1⟩ : S77), ()) = some (impl_BeforePoint.toH t) := by
  show Option.map _ (impl_BeforePoint.f a0_0 a0_1 a1_0 a1_1) = _
  rw [h]; rfl
theorem impl_BeforePoint.snd : Snd env impl_BeforePoint.spec := ⟨⟨Try.f125, by kernel_rfl, by kernel_rfl, by kernel_rfl⟩, fun k h r he w us hA => by
  obtain ⟨t, ht, rfl⟩ := Option.map_eq_some_iff.1 (show (impl_BeforePoint.f ((h.1 : S77).f0) ((h.1 : S77).f1) ((h.2.1 : S77).f0) ((h.2.1 : S77).f1)).map impl_BeforePoint.toH = some r from he)
  match us, hA with
  | [u0, u1], ⟨q0, q1, _⟩ =>
  obtain ⟨v0, rfl, q0⟩ := q0
  have q0 := (H77.K _ _ _).1 q0
  match e0 : v0.toList, q0 with
  | [c0_0, c0_1], ⟨p0_0, p0_1, _⟩ =>
  obtain rfl : v0 = #[c0_0, c0_1] := by rw [← Array.toArray_toList (xs := v0), e0]
  obtain rfl := List.singleton_inj.1 (show [c0_0] = [Value.int .i64 ((h.1 : S77).f0)] from p0_0)
  obtain rfl := List.singleton_inj.1 (show [c0_1] = [Value.int .i64 ((h.1 : S77).f1)] from p0_1)
  obtain ⟨v1, rfl, q1⟩ := q1
  have q1 := (H77.K _ _ _).1 q1
  match e1 : v1.toList, q1 with
  | [c1_0, c1_1], ⟨p1_0, p1_1, _⟩ =>
  obtain rfl : v1 = #[c1_0, c1_1] := by rw [← Array.toArray_toList (xs := v1), e1]
  obtain rfl := List.singleton_inj.1 (show [c1_0] = [Value.int .i64 ((h.2.1 : S77).f0)] from p1_0)
  obtain rfl := List.singleton_inj.1 (show [c1_1] = [Value.int .i64 ((h.2.1 : S77).f1)] from p1_1)
  refine (impl_BeforePoint.calls (w := w) (h := ht) ).mono ?_
  rintro e w' ⟨he, hw⟩
  exact ⟨_, he, hw, [.bool t], [fun _ => False], rfl, ⟨rfl, trivial⟩, by simp [DJ]⟩⟩
def impl_TurnSegment.Fs : List (Spc env) := []
def impl_TurnSegment.cut : Nat → Option (List (Lv SC)) := lk []
def impl_TurnSegment.ret (r0 : S95) : Option (HL eΓ [.st .s95]) := some (r0, ())
def impl_TurnSegment.run (k : Nat) (h : HL eΓ [.st .s95]) : Option (HL eΓ [.st .s95]) := evF env impl_TurnSegment.Fs Try.f130 impl_TurnSegment.cut [.st .s95] [.st .s95] k h
theorem impl_TurnSegment.ef (k : Nat) (h0 : S95) : impl_TurnSegment.run k (h0, ()) = impl_TurnSegment.ret (⟨(⟨h0.f1.f0, h0.f1.f1⟩ : S77), (⟨h0.f0.f0, h0.f0.f1⟩ : S77)⟩ : S95) := by kernel_rfl
def impl_TurnSegment.toH (t : Int × Int × Int × Int) : HL eΓ [.st .s95] := ((⟨(⟨t.1, t.2.1⟩ : S77), (⟨t.2.2.1, t.2.2.2⟩ : S77)⟩ : S95), ())
def impl_TurnSegment.spec : Spc env := ⟨130, [.st .s95], [.st .s95], impl_TurnSegment.run⟩
def impl_TurnSegment.ap {R : Type} (k : Nat) (h0 : S95) (K : S95 → Option R) : Option R := (impl_TurnSegment.run k (h0, ())).bind fun r => K (r.1 : S95)
theorem impl_TurnSegment.ap_of {R : Type} {k : Nat} {h0 : S95} {r0 : S95} {K : S95 → Option R} (h : impl_TurnSegment.run k (h0, ()) = some (r0, ())) : impl_TurnSegment.ap k h0 K = K r0 := by unfold impl_TurnSegment.ap; rw [h]; rfl
theorem impl_TurnSegment.snd : Snd env impl_TurnSegment.spec := evF_snd env_ok (sndN)
attribute [local irreducible] impl_TurnSegment.run
theorem impl_TurnSegment.rt (a0 : Int) (a1 : Int) (a2 : Int) (a3 : Int) : impl_TurnSegment.ret (⟨(⟨a0, a1⟩ : S77), (⟨a2, a3⟩ : S77)⟩ : S95) = some (impl_TurnSegment.toH (a0, a1, a2, a3)) := rfl
theorem impl_TurnSegment.go {a0_0 : Int} {a0_1 : Int} {a0_2 : Int} {a0_3 : Int} {t} (h : impl_TurnSegment.f a0_0 a0_1 a0_2 a0_3 = some t) (K : Nat) : impl_TurnSegment.run K ((⟨(⟨a0_0, a0_1⟩ : S77), (⟨a0_2, a0_3⟩ : S77)⟩ : S95), ()) = some (impl_TurnSegment.toH t) := by
  rw [impl_TurnSegment.ef]
  (try dsimp only)
  unfold impl_TurnSegment.f at h
  repeat' (with_reducible first
   | exact nos h
   | (cases some_inj h; exact impl_TurnSegment.rt _ _ _ _)
   | (simp only [Option.bind_some] at h)
   | (refine ite_by h ?_ ?_ <;> (intro hc h; (try simp only [nrm] at hc)))
   | refine itT ?_
   | refine itF ?_
   | (simp only [nr2] at h ⊢)
   | (exfalso; omega))
def impl_forward.Fs : List (Spc env) := [impl_BeforePoint.spec, impl_TurnSegment.spec]
def impl_forward.cut : Nat → Option (List (Lv SC)) := lk []
def impl_forward.ret (r0 : S95) : Option (HL eΓ [.st .s95]) := some (r0, ())
def impl_forward.run (k : Nat) (h : HL eΓ [.st .s95]) : Option (HL eΓ [.st .s95]) := evF env impl_forward.Fs Try.f124 impl_forward.cut [.st .s95] [.st .s95] k h
theorem impl_forward.ef (k : Nat) (h0 : S95) : impl_forward.run k (h0, ()) = impl_BeforePoint.ap k (⟨h0.f1.f0, h0.f1.f1⟩ : S77) (⟨h0.f0.f0, h0.f0.f1⟩ : S77) fun r1 => if r1 = true then (impl_TurnSegment.ap k (⟨(⟨h0.f0.f0, h0.f0.f1⟩ : S77), (⟨h0.f1.f0, h0.f1.f1⟩ : S77)⟩ : S95) fun r2 => impl_forward.ret (⟨(⟨r2.f0.f0, r2.f0.f1⟩ : S77), (⟨r2.f1.f0, r2.f1.f1⟩ : S77)⟩ : S95)) else (impl_forward.ret (⟨(⟨h0.f0.f0, h0.f0.f1⟩ : S77), (⟨h0.f1.f0, h0.f1.f1⟩ : S77)⟩ : S95)) := by kernel_rfl
def impl_forward.toH (t : Int × Int × Int × Int) : HL eΓ [.st .s95] := ((⟨(⟨t.1, t.2.1⟩ : S77), (⟨t.2.2.1, t.2.2.2⟩ : S77)⟩ : S95), ())
def impl_forward.spec : Spc env := ⟨124, [.st .s95], [.st .s95], impl_forward.run⟩
def impl_forward.ap {R : Type} (k : Nat) (h0 : S95) (K : S95 → Option R) : Option R := (impl_forward.run k (h0, ())).bind fun r => K (r.1 : S95)
theorem impl_forward.ap_of {R : Type} {k : Nat} {h0 : S95} {r0 : S95} {K : S95 → Option R} (h : impl_forward.run k (h0, ()) = some (r0, ())) : impl_forward.ap k h0 K = K r0 := by unfold impl_forward.ap; rw [h]; rfl
theorem impl_forward.snd : Snd env impl_forward.spec := evF_snd env_ok (sndC impl_BeforePoint.snd (sndC impl_TurnSegment.snd (sndN)))
attribute [local irreducible] impl_forward.run
theorem impl_forward.rt (a0 : Int) (a1 : Int) (a2 : Int) (a3 : Int) : impl_forward.ret (⟨(⟨a0, a1⟩ : S77), (⟨a2, a3⟩ : S77)⟩ : S95) = some (impl_forward.toH (a0, a1, a2, a3)) := rfl
theorem impl_forward.go {a0_0 : Int} {a0_1 : Int} {a0_2 : Int} {a0_3 : Int} {t} (h : impl_forward.f a0_0 a0_1 a0_2 a0_3 = some t) (K : Nat) : impl_forward.run K ((⟨(⟨a0_0, a0_1⟩ : S77), (⟨a0_2, a0_3⟩ : S77)⟩ : S95), ()) = some (impl_forward.toH t) := by
  rw [impl_forward.ef]
  (try dsimp only)
  unfold impl_forward.f at h
  repeat' (with_reducible first
   | exact nos h
   | (cases some_inj h; exact impl_forward.rt _ _ _ _)
   | (simp only [Option.bind_some] at h)
   | (refine ite_by h ?_ ?_ <;> (intro hc h; (try simp only [nrm] at hc)))
   | refine itT ?_
   | refine itF ?_
   | (refine bind_by h (fun t ht h => ?_); (first | refine (impl_BeforePoint.ap_of (impl_BeforePoint.go ht _)).trans ?_ | refine (impl_TurnSegment.ap_of (impl_TurnSegment.go ht _)).trans ?_); (try dsimp only at h ⊢))
   | (simp only [nr2] at h ⊢)
   | (exfalso; omega))
def impl_IsOn.toH (t : Bool) : HL eΓ [.b] := (t, ())
def impl_IsOn.run (k : Nat) (h : HL eΓ [.st .s95, .st .s77]) : Option (HL eΓ [.b]) := (impl_IsOn.f ((h.1 : S95).f0.f0) ((h.1 : S95).f0.f1) ((h.1 : S95).f1.f0) ((h.1 : S95).f1.f1) ((h.2.1 : S77).f0) ((h.2.1 : S77).f1)).map impl_IsOn.toH
def impl_IsOn.spec : Spc env := ⟨126, [.st .s95, .st .s77], [.b], impl_IsOn.run⟩
def impl_IsOn.ap {R : Type} (k : Nat) (h0 : S95) (h1 : S77) (K : Bool → Option R) : Option R := (impl_IsOn.run k (h0, h1, ())).bind fun r => K (r.1 : Bool)
theorem impl_IsOn.ap_of {R : Type} {k : Nat} {h0 : S95} {h1 : S77} {r0 : Bool} {K : Bool → Option R} (h : impl_IsOn.run k (h0, h1, ()) = some (r0, ())) : impl_IsOn.ap k h0 h1 K = K r0 := by unfold impl_IsOn.ap; rw [h]; rfl
theorem impl_IsOn.go {a0_0 : Int} {a0_1 : Int} {a0_2 : Int} {a0_3 : Int} {a1_0 : Int} {a1_1 : Int} {t} (h : impl_IsOn.f a0_0 a0_1 a0_2 a0_3 a1_0 a1_1 = some t) (K : Nat) : impl_IsOn.run K ((⟨(⟨a0_0, a0_1⟩ : S77), (⟨a0_2, a0_3⟩ : S77)⟩ : S95), (⟨a1_0, a1_1⟩ : S77), ()) = some (impl_IsOn.toH t) := by
  show Option.map _ (impl_IsOn.f a0_0 a0_1 a0_2 a0_3 a1_0 a1_1) = _
  rw [h]; rfl
theorem impl_IsOn.snd : Snd env impl_IsOn.spec := ⟨⟨Try.f126, by kernel_rfl, by kernel_rfl, by kernel_rfl⟩, fun k h r he w us hA => by
  obtain ⟨t, ht, rfl⟩ := Option.map_eq_some_iff.1 (show (impl_IsOn.f ((h.1 : S95).f0.f0) ((h.1 : S95).f0.f1) ((h.1 : S95).f1.f0) ((h.1 : S95).f1.f1) ((h.2.1 : S77).f0) ((h.2.1 : S77).f1)).map impl_IsOn.toH = some r from he)
  match us, hA with
  | [u0, u1], ⟨q0, q1, _⟩ =>
  obtain ⟨v0, rfl, q0⟩ := q0
  have q0 := (H95.K _ _ _).1 q0
  match e0 : v0.toList, q0 with
  | [c0_0, c0_1, c0_2, c0_3], ⟨p0_0, p0_1, p0_2, p0_3, _⟩ =>
  obtain rfl : v0 = #[c0_0, c0_1, c0_2, c0_3] := by rw [← Array.toArray_toList (xs := v0), e0]
  obtain rfl := List.singleton_inj.1 (show [c0_0] = [Value.int .i64 ((h.1 : S95).f0.f0)] from p0_0)
  obtain rfl := List.singleton_inj.1 (show [c0_1] = [Value.int .i64 ((h.1 : S95).f0.f1)] from p0_1)
  obtain rfl := List.singleton_inj.1 (show [c0_2] = [Value.int .i64 ((h.1 : S95).f1.f0)] from p0_2)
  obtain rfl := List.singleton_inj.1 (show [c0_3] = [Value.int .i64 ((h.1 : S95).f1.f1)] from p0_3)
  obtain ⟨v1, rfl, q1⟩ := q1
  have q1 := (H77.K _ _ _).1 q1
  match e1 : v1.toList, q1 with
  | [c1_0, c1_1], ⟨p1_0, p1_1, _⟩ =>
  obtain rfl : v1 = #[c1_0, c1_1] := by rw [← Array.toArray_toList (xs := v1), e1]
  obtain rfl := List.singleton_inj.1 (show [c1_0] = [Value.int .i64 ((h.2.1 : S77).f0)] from p1_0)
  obtain rfl := List.singleton_inj.1 (show [c1_1] = [Value.int .i64 ((h.2.1 : S77).f1)] from p1_1)
  refine (impl_IsOn.calls (w := w) (h := ht) ).mono ?_
  rintro e w' ⟨he, hw⟩
  exact ⟨_, he, hw, [.bool t], [fun _ => False], rfl, ⟨rfl, trivial⟩, by simp [DJ]⟩⟩
def impl_HowMeet.Fs : List (Spc env) := [impl_IsSegment.spec, impl_SideOf.spec, impl_forward.spec, impl_BeforePoint.spec, impl_IsOn.spec]
def impl_HowMeet.cut : Nat → Option (List (Lv SC)) := lk []
def impl_HowMeet.ret (r0 : Int) : Option (HL eΓ [.i .i64]) := some (r0, ())
def impl_HowMeet.run (k : Nat) (h : HL eΓ [.st .s95, .st .s95]) : Option (HL eΓ [.i .i64]) := evF env impl_HowMeet.Fs Try.f107 impl_HowMeet.cut [.st .s95, .st .s95] [.i .i64] k h
end
end Go.Proofs.Ytkebhlkbnnlegaa.PFnExactShrinkAll
