-- Written by a program of this session's (evlaw.py).
import Derived.Test.YtkebhlkbnnlegaaPFnExactDropFromx1
namespace Go.Proofs.Ytkebhlkbnnlegaa.PFnExactDropFrom
open Go.RowKit Go.Proofs.YtkebhlkbnnlegaaW.PrintWords Go.Proofs.YtkebhlkbnnlegaaW.PrintLast Go.Proofs.YtkebhlkbnnlegaaW.PrintMore Go.Proofs.YtkebhlkbnnlegaaGeo Go.Proofs.YtkebhlkbnnlegaaHand Go.Proofs.YtkebhlkbnnlegaaMeet Go.Proofs.YtkebhlkbnnlegaaQuiet Go.Proofs.YtkebhlkbnnlegaaZ
open Go Go.Proofs.YtkebhlkbnnlegaaEv
attribute [local go_sem] max2_int min2_int max_two min_two max_three min_three max_four min_four   -- for this text's walks alone
set_option linter.unusedVariables false
set_option linter.unusedSimpArgs false



set_option linter.unusedSimpArgs false

attribute [local go_sem high] eqA77
set_option linter.unusedVariables false
set_option linter.unusedSimpArgs false
set_option maxRecDepth 100000
noncomputable section
structure S24 where
  f0 : Int
  f1 : Int
  f2 : Int
  f3 : ByteArray
  f4 : List S85
def z24 : S24 := ⟨(0 : Int), (0 : Int), (0 : Int), (⟨#[]⟩ : ByteArray), []⟩
def k24 : Kd S24 := Kd.iso (Kd.pair (Kd.int .i64) (Kd.pair (Kd.int .i64) (Kd.pair (Kd.int .i64) (Kd.pair Kd.string (Kd.slice 85 k85))))) (fun x : S24 => (x.f0, x.f1, x.f2, x.f3, x.f4))
structure S28 where
  f0 : Int
  f1 : Int
  f2 : Int
  f3 : ByteArray
  f4 : List S77
def z28 : S28 := ⟨(0 : Int), (0 : Int), (0 : Int), (⟨#[]⟩ : ByteArray), []⟩
def k28 : Kd S28 := Kd.iso (Kd.pair (Kd.int .i64) (Kd.pair (Kd.int .i64) (Kd.pair (Kd.int .i64) (Kd.pair Kd.string (Kd.slice 77 k77))))) (fun x : S28 => (x.f0, x.f1, x.f2, x.f3, x.f4))
inductive SC where
  | s24
  | s28
  | s77
  | s85
  | s95
def scb : SC → SC → Bool
  | .s24, .s24 => true
  | .s28, .s28 => true
  | .s77, .s77 => true
  | .s85, .s85 => true
  | .s95, .s95 => true
  | _, _ => false
theorem scbe : ∀ a b, scb a b = true → a = b := by intro a b; cases a <;> cases b <;> first | (intro _; rfl) | (intro h; cases h)
noncomputable def eΓ : SC → Type
  | .s24 => S24
  | .s28 => S28
  | .s77 => S77
  | .s85 => S85
  | .s95 => S95
def eFs : SC → List (Ty SC)
  | .s24 => [.i .i64, .i .i64, .i .i64, .s, .l 85 (.st .s85)]
  | .s28 => [.i .i64, .i .i64, .i .i64, .s, .l 77 (.st .s77)]
  | .s77 => [.i .i64, .i .i64]
  | .s85 => [.i .i64, .i .i64]
  | .s95 => [.i .i64, .i .i64, .i .i64, .i .i64]
noncomputable def eOpn : (n : SC) → eΓ n → HL eΓ (eFs n)
  | .s24 => fun (x : S24) => (x.f0, x.f1, x.f2, x.f3, x.f4, ())
  | .s28 => fun (x : S28) => (x.f0, x.f1, x.f2, x.f3, x.f4, ())
  | .s77 => fun (x : S77) => (x.f0, x.f1, ())
  | .s85 => fun (x : S85) => (x.f0, x.f1, ())
  | .s95 => fun (x : S95) => (x.f0.f0, x.f0.f1, x.f1.f0, x.f1.f1, ())
noncomputable def eSht : (n : SC) → HL eΓ (eFs n) → eΓ n
  | .s24 => fun h => (⟨h.1, h.2.1, h.2.2.1, h.2.2.2.1, h.2.2.2.2.1⟩ : S24)
  | .s28 => fun h => (⟨h.1, h.2.1, h.2.2.1, h.2.2.2.1, h.2.2.2.2.1⟩ : S28)
  | .s77 => fun h => (⟨h.1, h.2.1⟩ : S77)
  | .s85 => fun h => (⟨h.1, h.2.1⟩ : S85)
  | .s95 => fun h => (⟨⟨h.1, h.2.1⟩, ⟨h.2.2.1, h.2.2.2.1⟩⟩ : S95)
noncomputable def eZ : (n : SC) → eΓ n
  | .s24 => z24
  | .s28 => z28
  | .s77 => z77
  | .s85 => z85
  | .s95 => z95
noncomputable def eK : (n : SC) → Kd (eΓ n)
  | .s24 => k24
  | .s28 => k28
  | .s77 => k77
  | .s85 => k85
  | .s95 => k95
def tSh : List (Nat × (Bool × Nat)) := [(2, (false, 1)), (3, (false, 1)), (4, (false, 1)), (5, (false, 1)), (6, (false, 1)), (9, (false, 1)), (10, (false, 1)), (11, (false, 1)), (12, (false, 1)), (21, (false, 1)), (22, (false, 1)), (24, (true, 5)), (26, (false, 1)), (28, (true, 5)), (35, (false, 1)), (38, (false, 1)), (47, (false, 1)), (77, (true, 2)), (85, (true, 2)), (91, (false, 1)), (95, (true, 4)), (100, (false, 1)), (102, (false, 1)), (114, (false, 1)), (115, (false, 1)), (126, (false, 1)), (127, (false, 1)), (128, (false, 1)), (131, (false, 1)), (132, (false, 1))]
def tZc : List (Nat × List Value) := [(2, [.int .i64 0]), (3, [.int .i64 0]), (4, [.bool false]), (5, [.int .u8 0]), (6, [.int .u8 0]), (9, [.string ⟨#[]⟩]), (10, [.string ⟨#[]⟩]), (11, [.string ⟨#[]⟩]), (12, [.int .u64 0]), (21, [.int .i32 0]), (22, [.slice none 0 0]), (24, [.int .i64 0, .int .i64 0, .int .i64 0, .string ⟨#[]⟩, .slice none 0 0]), (26, [.slice none 0 0]), (28, [.int .i64 0, .int .i64 0, .int .i64 0, .string ⟨#[]⟩, .slice none 0 0]), (35, [.slice none 0 0]), (38, [.slice none 0 0]), (47, [.slice none 0 0]), (77, [.int .i64 0, .int .i64 0]), (85, [.int .i64 0, .int .i64 0]), (91, [.slice none 0 0]), (95, [.int .i64 0, .int .i64 0, .int .i64 0, .int .i64 0]), (100, [.slice none 0 0]), (102, [.slice none 0 0]), (114, [.int .u64 0]), (115, [.slice none 0 0]), (126, [.int .u32 0]), (127, [.int .u8 0]), (128, [.int .u8 0]), (131, [.int .i32 0]), (132, [.int .i32 0])]
def tFld : List (Nat × List (Nat × Nat × Bool)) := [(24, [(0, 1, false), (1, 1, false), (2, 1, false), (3, 1, false), (4, 1, false)]), (28, [(0, 1, false), (1, 1, false), (2, 1, false), (3, 1, false), (4, 1, false)]), (77, [(0, 1, false), (1, 1, false)]), (85, [(0, 1, false), (1, 1, false)]), (95, [(0, 2, true), (2, 2, true)])]
def tSl : List (Nat × (Nat × Ty SC × Nat × Nat × List Value)) := [(22, (85, .st .s85, 2, 16, [.int .i64 0, .int .i64 0])), (26, (77, .st .s77, 2, 16, [.int .i64 0, .int .i64 0])), (35, (24, .st .s24, 5, 64, [.int .i64 0, .int .i64 0, .int .i64 0, .string ⟨#[]⟩, .slice none 0 0])), (38, (28, .st .s28, 5, 64, [.int .i64 0, .int .i64 0, .int .i64 0, .string ⟨#[]⟩, .slice none 0 0])), (47, (5, .i .u8, 1, 1, [.int .u8 0])), (91, (95, .st .s95, 4, 32, [.int .i64 0, .int .i64 0, .int .i64 0, .int .i64 0])), (100, (3, .i .i64, 1, 8, [.int .i64 0])), (102, (9, .s, 1, 16, [.string ⟨#[]⟩])), (115, (26, .l 77 (.st .s77), 1, 24, [.slice none 0 0]))]
def tIk : List (Nat × IntKind) := [(2, .i64), (3, .i64), (5, .u8), (6, .u8), (12, .u64), (21, .i32), (114, .u64), (126, .u32), (127, .u8), (128, .u8), (131, .i32), (132, .i32)]
def tStr : List Nat := [9, 10, 11]
def tEq : List (Nat × Nat) := [(77, 2), (85, 2)]
noncomputable def env : Env where
  P := Try.prog
  C := SC
  cb := scb
  cbe := scbe
  Γ := eΓ
  fs := eFs
  opn := eOpn
  sht := eSht
  z := eZ
  kst := eK
  sh := lk tSh
  zc := lk tZc
  sl := lk tSl
  ik := lk tIk
  fld := fun t i => (lkF tFld t i).map (·.1)
  pl := fun t => (lk tFld t).map fun l => l.map fun x => (x.1, x.2.1)
  str := fun t => tStr.any (Nat.beq t)
  eqt := fun t n => tEq.any fun p => Nat.beq p.1 t && Nat.beq p.2 n
theorem H24 : KH env k24 (eFs .s24) (eOpn .s24) := KH.iso (KH.pair (KH.one (E := env) (t := (.i .i64)) rfl) (KH.pair (KH.one (E := env) (t := (.i .i64)) rfl) (KH.pair (KH.one (E := env) (t := (.i .i64)) rfl) (KH.pair (KH.one (E := env) (t := .s) rfl) (KH.one (E := env) (t := (.l 85 (.st .s85))) rfl))))) _
theorem H28 : KH env k28 (eFs .s28) (eOpn .s28) := KH.iso (KH.pair (KH.one (E := env) (t := (.i .i64)) rfl) (KH.pair (KH.one (E := env) (t := (.i .i64)) rfl) (KH.pair (KH.one (E := env) (t := (.i .i64)) rfl) (KH.pair (KH.one (E := env) (t := .s) rfl) (KH.one (E := env) (t := (.l 77 (.st .s77))) rfl))))) _
theorem H77 : KH env k77 (eFs .s77) (eOpn .s77) := KH.iso (KH.pair (KH.one (E := env) (t := (.i .i64)) rfl) (KH.one (E := env) (t := (.i .i64)) rfl)) _
theorem H85 : KH env k85 (eFs .s85) (eOpn .s85) := KH.iso (KH.pair (KH.one (E := env) (t := (.i .i64)) rfl) (KH.one (E := env) (t := (.i .i64)) rfl)) _
theorem H95 : KH env k95 (eFs .s95) (eOpn .s95) := KH.iso (KH.pair (H77) (H77)) _
theorem env_ok : env.Ok := Env.ok_of (E := env) (tSh := tSh) (tZc := tZc) (tFld := tFld) (tSl := tSl) (tIk := tIk) (tStr := tStr) (tEq := tEq) (by kernel_rfl) (by intro n; cases n <;> rfl) (fun n => match n with | .s24 => H24 | .s28 => H28 | .s77 => H77 | .s85 => H85 | .s95 => H95) (by intro n h; cases n <;> rfl) (by intro n x; cases n <;> rfl) (by intro n; cases n <;> rfl) rfl (by kernel_rfl) rfl (by kernel_rfl) (by kernel_rfl) rfl (by kernel_rfl) (by kernel_rfl) (by kernel_rfl) (by kernel_rfl) (by kernel_rfl) rfl rfl (by kernel_rfl) (by kernel_rfl) rfl (by kernel_rfl) rfl (by kernel_rfl) rfl (by kernel_rfl)
set_option maxRecDepth 100000
noncomputable def bodyOf (f : Func) : Code := match f.body with | some c => c | none => .skip
noncomputable def sub_ : List Nat → Code → Code
  | [], c => c
  | i :: r, c => match c with
    | .seq a b => sub_ r (match i with | 0 => a | _ => b)
    | .cond _ a b => sub_ r (match i with | 0 => a | _ => b)
    | .block _ a => sub_ r a
    | .loop a => sub_ r a
    | c => c
theorem sndN : ∀ s ∈ ([] : List (Spc env)), Snd env s := fun _ h => nomatch h
theorem sndC {s : Spc env} {l : List (Spc env)} (h : Snd env s) (hl : ∀ s ∈ l, Snd env s) : ∀ x ∈ s :: l, Snd env x := fun x hx => by rcases List.mem_cons.1 hx with rfl | hx; exact h; exact hl x hx
theorem ite_by {α : Type} {c : Prop} {d : Decidable c} {a b r : α} {p : Prop} (h : @ite α c d a b = r) (x : c → a = r → p) (y : ¬ c → b = r → p) : p := by by_cases q : c; exact x q (by rw [← h, if_pos q]); exact y q (by rw [← h, if_neg q])
theorem bind_by {α β : Type} {x : Option α} {f : α → Option β} {r : β} {p : Prop} (h : x.bind f = some r) (k : ∀ t, x = some t → f t = some r → p) : p := by obtain ⟨t, h1, h2⟩ := Option.bind_eq_some_iff.1 h; exact k t h1 h2
theorem evF_snd {E : Env} (hE : E.Ok) {F : List (Spc E)} (hF : ∀ s ∈ F, Snd E s) {id : FuncId} {fn : Func} {cut : Nat → Option (List (Lv E.C))} {pts rts : List (Ty E.C)} (hf : E.P.funcs[id]? = some fn := by kernel_rfl) (h1 : (fn.name == "runtime.NumGoroutine") = false := by kernel_rfl) (h2 : fn.body.isNone = false := by kernel_rfl) : Snd E ⟨id, pts, rts, fun k h => evF E F fn cut pts rts k h⟩ := ⟨⟨fn, hf, h1, h2⟩, fun k h r he w us hA => evF_calls hE hF hf he w us hA⟩
theorem beqI (a b : Int) : (a == b) = decide (a = b) := by by_cases h : a = b <;> simp [h]
theorem rmsC {E : Env} {w : World} {b : Nat} {t : Ty E.C} {ts : List (Ty E.C)} {h : HL E.Γ (t :: ts)} {vs : List Value} {oks : List (Nat → Prop)} (hR : RMs E w b (t :: ts) h vs oks) : ∃ u us ok os, vs = u :: us ∧ oks = ok :: os ∧ AK E (fun t x cs => (kd E t).M w b ok x cs) t h.1 u ∧ RMs E w b ts h.2 us os := by
  match vs, oks, hR with
  | u :: us, ok :: os, h => exact ⟨u, us, ok, os, rfl, rfl, h.1, h.2⟩
theorem rmsN {E : Env} {w : World} {b : Nat} {h : HL E.Γ ([] : List (Ty E.C))} {vs : List Value} {oks : List (Nat → Prop)} (hR : RMs E w b [] h vs oks) : vs = [] := by
  match vs, oks, hR with
  | [], _, _ => rfl
theorem some_inj {α : Type} {a b : α} (h : some a = some b) : a = b := Option.some.inj h
theorem nos {α : Type} {r : α} {p : Prop} (h : none = some r) : p := nomatch h
theorem leo_le {α : Type} {f : Nat → Option α} (h : ∀ k, LeO (f k) (f (k + 1))) {k K : Nat} (hk : k ≤ K) {r : α} (hr : f k = some r) : f K = some r := by
  induction hk with
  | refl => exact hr
  | step _ ih => exact h _ _ ih
theorem nln : (∀ {α : Type} (a b : List α), (a ++ b).length = a.length + b.length) ∧ (∀ {α : Type} (a : α) (l : List α), (a :: l).length = l.length + 1) ∧ (∀ {α : Type}, ([] : List α).length = 0) := ⟨fun a b => List.length_append, fun a l => rfl, rfl⟩
theorem nrm : (∀ (p : Prop) [Decidable p], (decide p = true) = p) ∧ (∀ a b : Bool, ((a && b) = true) = (a = true ∧ b = true)) ∧ (∀ {α : Type} [BEq α] [LawfulBEq α] (a b : α), (a == b) = true ↔ a = b) ∧ (∀ a : Bool, ((!a) = true) = (a = false)) ∧ (∀ b : Bool, (¬ b = true) = (b = false)) ∧ (∀ b : Bool, (¬ b = false) = (b = true)) ∧ (∀ (p : Prop) [Decidable p], (decide p = false) = ¬ p) ∧ (∀ a b : Bool, ((a || b) = true) = (a = true ∨ b = true)) ∧ ((false = true) = False) ∧ ((true = false) = False) ∧ ((¬ True) = False) ∧ ((¬ False) = True) ∧ (∀ p : Prop, (¬ ¬ p) = p) ∧ (∀ p : Prop, (p ∧ True) = p) :=
  ⟨fun p _ => decide_eq_true_eq, fun a b => Bool.and_eq_true a b, fun a b => beq_iff_eq, by simp, by simp, by simp, fun p _ => by simp, fun a b => Bool.or_eq_true a b, by simp, by simp, by simp, by simp, fun p => by simp [Classical.not_not], by simp⟩
theorem itT {α : Type} {c : Prop} {d : Decidable c} {a b r : α} (h : a = r) (hc : c := by first | assumption | omega | (simp only [nrm]; first | done | assumption | omega) | (simp only [nln] at hc ⊢; omega)) : @ite α c d a b = r := (if_pos hc).trans h
theorem itF {α : Type} {c : Prop} {d : Decidable c} {a b r : α} (h : b = r) (hc : ¬ c := by first | assumption | omega | (simp only [nrm]; first | done | assumption | omega) | (simp only [nln] at hc ⊢; omega)) : @ite α c d a b = r := (if_neg hc).trans h
theorem nr2 : (∀ (p : Prop) [Decidable p], decide (¬ p) = !decide p) ∧ (∀ (p q : Prop) [Decidable p] [Decidable q], decide (p ∧ q) = (decide p && decide q)) ∧ (decide True = true) ∧ (∀ b : Bool, (b && true) = b) ∧ (∀ a b : Bool, (!(a && b)) = (!a || !b)) ∧ (∀ a b : Int, (a == b) = decide (a = b)) ∧ (∀ n : Nat, ((n : Int)).toNat = n) ∧ (∀ {α : Type} (l : List α), l.take l.length = l) := ⟨fun p _ => by simp, fun p q _ _ => by simp, by simp, by simp, by simp, beqI, fun n => Int.toNat_natCast n, fun l => List.take_length⟩
def laws_szPointS.Fs : List (Spc env) := []
def laws_szPointS.cut : Nat → Option (List (Lv SC)) := lk []
def laws_szPointS.ret (r0 : Int) : Option (HL eΓ [.i .i64]) := some (r0, ())
def laws_szPointS.run (k : Nat) (h : HL eΓ [.l 85 (.st .s85), .i .i64]) : Option (HL eΓ [.i .i64]) := evF env laws_szPointS.Fs Try.f36 laws_szPointS.cut [.l 85 (.st .s85), .i .i64] [.i .i64] k h
theorem laws_szPointS.ef (k : Nat) (h0 : List S85) (h1 : Int) : laws_szPointS.run k (h0, h1, ()) = if (wrap64 (h1 - (h0.length : Int))) < 0 then (laws_szPointS.ret (-1)) else (laws_szPointS.ret (wrap64 (h1 - (h0.length : Int)))) := by kernel_rfl
def laws_szPointS.toH (t : Int) : HL eΓ [.i .i64] := (t, ())
def laws_szPointS.spec : Spc env := ⟨36, [.l 85 (.st .s85), .i .i64], [.i .i64], laws_szPointS.run⟩
def laws_szPointS.ap {R : Type} (k : Nat) (h0 : List S85) (h1 : Int) (K : Int → Option R) : Option R := (laws_szPointS.run k (h0, h1, ())).bind fun r => K (r.1 : Int)
theorem laws_szPointS.ap_of {R : Type} {k : Nat} {h0 : List S85} {h1 : Int} {r0 : Int} {K : Int → Option R} (h : laws_szPointS.run k (h0, h1, ()) = some (r0, ())) : laws_szPointS.ap k h0 h1 K = K r0 := by unfold laws_szPointS.ap; rw [h]; rfl
theorem laws_szPointS.snd : Snd env laws_szPointS.spec := evF_snd env_ok (sndN)
attribute [local irreducible] laws_szPointS.run
theorem laws_szPointS.rt (a0 : Int) : laws_szPointS.ret a0 = some (laws_szPointS.toH (a0)) := rfl
theorem laws_szPointS.go {l0 : List S85} {a1 : Int} {t} (h : laws_szPointS.f l0 a1 = some t) (K : Nat) : laws_szPointS.run K (l0, a1, ()) = some (laws_szPointS.toH t) := by
  rw [laws_szPointS.ef]
  (try dsimp only)
  unfold laws_szPointS.f at h
  repeat' (with_reducible first
   | exact nos h
   | (cases some_inj h; exact laws_szPointS.rt _)
   | (simp only [Option.bind_some] at h)
   | (refine ite_by h ?_ ?_ <;> (intro hc h; (try simp only [nrm] at hc)))
   | refine itT ?_
   | refine itF ?_
   | (simp only [nr2] at h ⊢)
   | (exfalso; omega))
def laws_szFeature.Fs : List (Spc env) := [laws_szPointS.spec]
def laws_szFeature.cut : Nat → Option (List (Lv SC)) := lk []
def laws_szFeature.ret (r0 : Int) : Option (HL eΓ [.i .i64]) := some (r0, ())
def laws_szFeature.run (k : Nat) (h : HL eΓ [.st .s24, .i .i64]) : Option (HL eΓ [.i .i64]) := evF env laws_szFeature.Fs Try.f8 laws_szFeature.cut [.st .s24, .i .i64] [.i .i64] k h
theorem laws_szFeature.ef (k : Nat) (h0 : S24) (h1 : Int) : laws_szFeature.run k (h0, h1, ()) = if (wrap64 (h1 - (h0.f3.size : Int))) < 0 then (laws_szFeature.ret (-1)) else (laws_szPointS.ap k h0.f4 (wrap64 (h1 - (h0.f3.size : Int))) fun r1 => if r1 < 0 then (laws_szFeature.ret (-1)) else (laws_szFeature.ret r1)) := by kernel_rfl
def laws_szFeature.toH (t : Int) : HL eΓ [.i .i64] := (t, ())
def laws_szFeature.spec : Spc env := ⟨8, [.st .s24, .i .i64], [.i .i64], laws_szFeature.run⟩
theorem laws_szFeature.snd : Snd env laws_szFeature.spec := evF_snd env_ok (sndC laws_szPointS.snd (sndN))
attribute [local irreducible] laws_szFeature.run
theorem laws_szFeature.rt (a0 : Int) : laws_szFeature.ret a0 = some (laws_szFeature.toH (a0)) := rfl
theorem laws_szFeature.go {a0_0 : Int} {a0_1 : Int} {a0_2 : Int} {a0_3 : ByteArray} {l0_4 : List S85} {a1 : Int} {t} (h : laws_szFeature.f a0_0 a0_1 a0_2 a0_3 l0_4 a1 = some t) (K : Nat) : laws_szFeature.run K ((⟨a0_0, a0_1, a0_2, a0_3, l0_4⟩ : S24), a1, ()) = some (laws_szFeature.toH t) := by
  rw [laws_szFeature.ef]
  (try dsimp only)
  unfold laws_szFeature.f at h
  repeat' (with_reducible first
   | exact nos h
   | (cases some_inj h; exact laws_szFeature.rt _)
   | (simp only [Option.bind_some] at h)
   | (refine ite_by h ?_ ?_ <;> (intro hc h; (try simp only [nrm] at hc)))
   | refine itT ?_
   | refine itF ?_
   | (refine bind_by h (fun t ht h => ?_); refine (laws_szPointS.ap_of (laws_szPointS.go ht _)).trans ?_; (try dsimp only at h ⊢))
   | (simp only [nr2] at h ⊢)
   | (exfalso; omega))
theorem laws_szFeature.calls (a0_0 : Int) (a0_1 : Int) (a0_2 : Int) (a0_3 : ByteArray) (A0_4 : Option Addr) (c0_4 : Nat) (l0_4 : List (S85)) (a1 : Int) (r : Int) (w : World) (hr0_4 : Kd.C k85 w A0_4 l0_4.length l0_4) (hc0_4 : l0_4.length ≤ c0_4) (h : laws_szFeature.f a0_0 a0_1 a0_2 a0_3 l0_4 a1 = some r) :
  Calls Try.prog 8 #[.agg #[.int .i64 a0_0, .int .i64 a0_1, .int .i64 a0_2, .string a0_3, .slice A0_4 l0_4.length c0_4], .int .i64 a1] w fun e w' => e = .returned (.int .i64 r) ∧ Below w.heap.size w w' := by
  refine (laws_szFeature.snd.calls _ _ _ (laws_szFeature.go h 0) w [.agg #[.int .i64 a0_0, .int .i64 a0_1, .int .i64 a0_2, .string a0_3, .slice A0_4 l0_4.length c0_4], .int .i64 a1] ⟨⟨_, rfl, (H24.K _ _ _).2 ⟨rfl, rfl, rfl, rfl, ⟨_, _, rfl, hc0_4, hr0_4⟩, trivial⟩⟩, rfl, trivial⟩).mono ?_
  rintro e w' ⟨v, rfl, hB, vs, oks, rfl, hR, _⟩
  obtain ⟨x0_, vs, o0_, oks, rfl, rfl, m0_, hR⟩ := rmsC hR
  obtain rfl := rmsN hR
  obtain rfl := List.singleton_inj.1 (show [x0_] = [Value.int .i64 r] from m0_)
  exact ⟨rfl, hB⟩
def spec_l9Feature.Fs : List (Spc env) := []
def spec_l9Feature.cut : Nat → Option (List (Lv SC)) := lk []
def spec_l9Feature.ret (r0 : S28) : Option (HL eΓ [.st .s28]) := some (r0, ())
def spec_l9Feature.run (k : Nat) (h : HL eΓ [.st .s28]) : Option (HL eΓ [.st .s28]) := evF env spec_l9Feature.Fs Try.f37 spec_l9Feature.cut [.st .s28] [.st .s28] k h
theorem spec_l9Feature.ef (k : Nat) (h0 : S28) : spec_l9Feature.run k (h0, ()) = if (0 + h0.f4.length) * 16 ≤ 140737488355328 then (spec_l9Feature.ret (⟨h0.f0, h0.f1, h0.f2, h0.f3, h0.f4⟩ : S28)) else none := by kernel_rfl
def spec_l9Feature.toH (t : Int × Int × Int × ByteArray × (List (S77))) : HL eΓ [.st .s28] := ((⟨t.1, t.2.1, t.2.2.1, t.2.2.2.1, t.2.2.2.2⟩ : S28), ())
def spec_l9Feature.spec : Spc env := ⟨37, [.st .s28], [.st .s28], spec_l9Feature.run⟩
def spec_l9Feature.ap {R : Type} (k : Nat) (h0 : S28) (K : S28 → Option R) : Option R := (spec_l9Feature.run k (h0, ())).bind fun r => K (r.1 : S28)
theorem spec_l9Feature.ap_of {R : Type} {k : Nat} {h0 : S28} {r0 : S28} {K : S28 → Option R} (h : spec_l9Feature.run k (h0, ()) = some (r0, ())) : spec_l9Feature.ap k h0 K = K r0 := by unfold spec_l9Feature.ap; rw [h]; rfl
theorem spec_l9Feature.snd : Snd env spec_l9Feature.spec := evF_snd env_ok (sndN)
attribute [local irreducible] spec_l9Feature.run
theorem spec_l9Feature.rt (a0 : Int) (a1 : Int) (a2 : Int) (a3 : ByteArray) (a4 : List S77) : spec_l9Feature.ret (⟨a0, a1, a2, a3, a4⟩ : S28) = some (spec_l9Feature.toH (a0, a1, a2, a3, a4)) := rfl
theorem spec_l9Feature.go {a0_0 : Int} {a0_1 : Int} {a0_2 : Int} {a0_3 : ByteArray} {l0_4 : List S77} {t} (h : spec_l9Feature.f a0_0 a0_1 a0_2 a0_3 l0_4 = some t) (K : Nat) : spec_l9Feature.run K ((⟨a0_0, a0_1, a0_2, a0_3, l0_4⟩ : S28), ()) = some (spec_l9Feature.toH t) := by
  rw [spec_l9Feature.ef]
  (try dsimp only)
  unfold spec_l9Feature.f at h
  repeat' (with_reducible first
   | exact nos h
   | (cases some_inj h; exact spec_l9Feature.rt _ _ _ _ _)
   | (simp only [Option.bind_some] at h)
   | (simp only [List.nil_append] at h)
   | (refine ite_by h ?_ ?_ <;> (intro hc h; (try simp only [nrm] at hc)))
   | refine itT ?_
   | refine itF ?_
   | (simp only [nr2] at h ⊢)
   | (exfalso; omega))
def spec_l1In.toH (t : Bool) : HL eΓ [.b] := (t, ())
def spec_l1In.run (k : Nat) (h : HL eΓ [.i .i64, .i .i64, .i .i64]) : Option (HL eΓ [.b]) := (spec_l1In.f (h.1 : Int) (h.2.1 : Int) (h.2.2.1 : Int)).map spec_l1In.toH
def spec_l1In.spec : Spc env := ⟨67, [.i .i64, .i .i64, .i .i64], [.b], spec_l1In.run⟩
def spec_l1In.ap {R : Type} (k : Nat) (h0 : Int) (h1 : Int) (h2 : Int) (K : Bool → Option R) : Option R := (spec_l1In.run k (h0, h1, h2, ())).bind fun r => K (r.1 : Bool)
theorem spec_l1In.ap_of {R : Type} {k : Nat} {h0 : Int} {h1 : Int} {h2 : Int} {r0 : Bool} {K : Bool → Option R} (h : spec_l1In.run k (h0, h1, h2, ()) = some (r0, ())) : spec_l1In.ap k h0 h1 h2 K = K r0 := by unfold spec_l1In.ap; rw [h]; rfl
theorem spec_l1In.go {a0 : Int} {a1 : Int} {a2 : Int} {t} (h : spec_l1In.f a0 a1 a2 = some t) (K : Nat) : spec_l1In.run K (a0, a1, a2, ()) = some (spec_l1In.toH t) := by
  show Option.map _ (spec_l1In.f a0 a1 a2) = _
  rw [h]; rfl
theorem spec_l1In.snd : Snd env spec_l1In.spec := ⟨⟨Try.f67, by kernel_rfl, by kernel_rfl, by kernel_rfl⟩, fun k h r he w us hA => by
  obtain ⟨t, ht, rfl⟩ := Option.map_eq_some_iff.1 (show (spec_l1In.f (h.1 : Int) (h.2.1 : Int) (h.2.2.1 : Int)).map spec_l1In.toH = some r from he)
  match us, hA with
  | [u0, u1, u2], ⟨q0, q1, q2, _⟩ =>
  obtain rfl := List.singleton_inj.1 (show [u0] = [Value.int .i64 (h.1 : Int)] from q0)
  obtain rfl := List.singleton_inj.1 (show [u1] = [Value.int .i64 (h.2.1 : Int)] from q1)
  obtain rfl := List.singleton_inj.1 (show [u2] = [Value.int .i64 (h.2.2.1 : Int)] from q2)
  refine (spec_l1In.calls (w := w) (h := ht) ).mono ?_
  rintro e w' ⟨he, hw⟩
  exact ⟨_, he, (by obtain ⟨_, rfl⟩ := hw; exact Below.refl _ _), [.bool t], [fun _ => False], rfl, ⟨rfl, trivial⟩, by simp [DJ]⟩⟩
def spec_IsPoint.toH (t : Bool) : HL eΓ [.b] := (t, ())
def spec_IsPoint.run (k : Nat) (h : HL eΓ [.st .s77]) : Option (HL eΓ [.b]) := (spec_IsPoint.f ((h.1 : S77).f0) ((h.1 : S77).f1)).map spec_IsPoint.toH
def spec_IsPoint.spec : Spc env := ⟨71, [.st .s77], [.b], spec_IsPoint.run⟩
def spec_IsPoint.ap {R : Type} (k : Nat) (h0 : S77) (K : Bool → Option R) : Option R := (spec_IsPoint.run k (h0, ())).bind fun r => K (r.1 : Bool)
theorem spec_IsPoint.ap_of {R : Type} {k : Nat} {h0 : S77} {r0 : Bool} {K : Bool → Option R} (h : spec_IsPoint.run k (h0, ()) = some (r0, ())) : spec_IsPoint.ap k h0 K = K r0 := by unfold spec_IsPoint.ap; rw [h]; rfl
theorem spec_IsPoint.go {a0_0 : Int} {a0_1 : Int} {t} (h : spec_IsPoint.f a0_0 a0_1 = some t) (K : Nat) : spec_IsPoint.run K ((⟨a0_0, a0_1⟩ : S77), ()) = some (spec_IsPoint.toH t) := by
  show Option.map _ (spec_IsPoint.f a0_0 a0_1) = _
  rw [h]; rfl
theorem spec_IsPoint.snd : Snd env spec_IsPoint.spec := ⟨⟨Try.f71, by kernel_rfl, by kernel_rfl, by kernel_rfl⟩, fun k h r he w us hA => by
  obtain ⟨t, ht, rfl⟩ := Option.map_eq_some_iff.1 (show (spec_IsPoint.f ((h.1 : S77).f0) ((h.1 : S77).f1)).map spec_IsPoint.toH = some r from he)
  match us, hA with
  | [u0], ⟨q0, _⟩ =>
  obtain ⟨v0, rfl, q0⟩ := q0
  have q0 := (H77.K _ _ _).1 q0
  match e0 : v0.toList, q0 with
  | [c0_0, c0_1], ⟨p0_0, p0_1, _⟩ =>
  obtain rfl : v0 = #[c0_0, c0_1] := by rw [← Array.toArray_toList (xs := v0), e0]
  obtain rfl := List.singleton_inj.1 (show [c0_0] = [Value.int .i64 ((h.1 : S77).f0)] from p0_0)
  obtain rfl := List.singleton_inj.1 (show [c0_1] = [Value.int .i64 ((h.1 : S77).f1)] from p0_1)
  refine (spec_IsPoint.calls (w := w) (h := ht) ).mono ?_
  rintro e w' ⟨he, hw⟩
  exact ⟨_, he, hw, [.bool t], [fun _ => False], rfl, ⟨rfl, trivial⟩, by simp [DJ]⟩⟩
def spec_IsLine.Fs : List (Spc env) := [spec_IsPoint.spec, spec_l1In.spec]
def spec_IsLine.fin : St eΓ → Option (HL eΓ [.b]) := finR env Try.f66.results.toList [.b]
def spec_IsLine.cut : Nat → Option (List (Lv SC)) := lk [(2, [⟨0, none, false⟩, ⟨3, none, false⟩])]
def spec_IsLine.ret (r0 : Bool) : Option (HL eΓ [.b]) := some (r0, ())
def spec_IsLine.p2 (k : Nat) (x3 : Int) (x0 : List S77) : Option (HL eΓ [.b]) := evM env spec_IsLine.Fs Try.f66.ntmps spec_IsLine.fin spec_IsLine.cut k [.code (sub_ [1, 0, 1, 0, 0, 0, 0] (bodyOf Try.f66)), .code (sub_ [1, 0, 1, 0, 0, 0, 1] (bodyOf Try.f66)), .code (sub_ [1, 0, 1, 0, 0, 1] (bodyOf Try.f66)), .lp (sub_ [1, 0, 1, 0, 0] (bodyOf Try.f66)), .blk 0, .code (sub_ [1, 1] (bodyOf Try.f66))] (mkSt [(0, .c (.sl 0)), (3, .c (.v (.int .i64 x3)))] [.row .ro 77 (.st .s77) x0])
theorem spec_IsLine.e2 (k : Nat) (x3 : Int) (x0 : List S77) : spec_IsLine.p2 (k + 1) x3 x0 = if x3 < (x0.length : Int) then (if 0 ≤ x3 then (if x3 < (x0.length : Int) then (spec_IsPoint.ap k (⟨(rd_T77 x0 x3).f0, (rd_T77 x0 x3).f1⟩ : S77) fun r1 => if (!r1) = true then (spec_IsLine.ret false) else (if x3 > 0 then (if 0 ≤ (wrap64 (x3 - 1)) then (if (wrap64 (x3 - 1)) < (x0.length : Int) then (if 0 ≤ x3 then (if x3 < (x0.length : Int) then (if ((rd_T77 x0 (wrap64 (x3 - 1))).f0) = ((rd_T77 x0 x3).f0) ∧ (((rd_T77 x0 (wrap64 (x3 - 1))).f1) = ((rd_T77 x0 x3).f1) ∧ True) then (spec_IsLine.ret false) else (spec_IsLine.p2 k (wrap64 (x3 + 1)) x0)) else none) else none) else none) else none) else (spec_IsLine.p2 k (wrap64 (x3 + 1)) x0))) else none) else none) else (spec_l1In.ap k (x0.length : Int) 2 10 fun r2 => spec_IsLine.ret r2) := by kernel_rfl
def spec_IsLine.run (k : Nat) (h : HL eΓ [.l 77 (.st .s77)]) : Option (HL eΓ [.b]) := evF env spec_IsLine.Fs Try.f66 spec_IsLine.cut [.l 77 (.st .s77)] [.b] k h
theorem spec_IsLine.ef (k : Nat) (h0 : List S77) : spec_IsLine.run k (h0, ()) = spec_IsLine.p2 k 0 h0 := by kernel_rfl
def spec_IsLine.toH (t : Bool) : HL eΓ [.b] := (t, ())
def spec_IsLine.spec : Spc env := ⟨66, [.l 77 (.st .s77)], [.b], spec_IsLine.run⟩
def spec_IsLine.ap {R : Type} (k : Nat) (h0 : List S77) (K : Bool → Option R) : Option R := (spec_IsLine.run k (h0, ())).bind fun r => K (r.1 : Bool)
theorem spec_IsLine.ap_of {R : Type} {k : Nat} {h0 : List S77} {r0 : Bool} {K : Bool → Option R} (h : spec_IsLine.run k (h0, ()) = some (r0, ())) : spec_IsLine.ap k h0 K = K r0 := by unfold spec_IsLine.ap; rw [h]; rfl
theorem spec_IsLine.snd : Snd env spec_IsLine.spec := evF_snd env_ok (sndC spec_IsPoint.snd (sndC spec_l1In.snd (sndN)))
attribute [local irreducible] spec_IsLine.run
theorem spec_IsLine.rt (a0 : Bool) : spec_IsLine.ret a0 = some (spec_IsLine.toH (a0)) := rfl
theorem spec_IsLine.br (n : Nat) : (∀ K, n ≤ K → ∀ (x3 : Int) (x0 : List S77) t, spec_IsLine.l0 n x0 x3 = some t → spec_IsLine.p2 K x3 x0 = some (spec_IsLine.toH t)) := by
  induction n using Nat.strongRecOn with
  | _ n ih =>
  intro K hK x3 x0 t h
  all_goals (rcases n with _ | k)
  all_goals (try (exact nos h))
  all_goals (obtain ⟨K, rfl⟩ : ∃ q, K = q + 1 := ⟨K - 1, by omega⟩)
  all_goals (first | rw [spec_IsLine.e2])
  all_goals (simp only [spec_IsLine.l0] at h)
  repeat' (with_reducible first
   | exact nos h
   | (cases some_inj h; exact spec_IsLine.rt _)
   | exact (ih _ (by omega)) _ (by omega) _ _ _ h
   | (simp only [Option.bind_some] at h)
   | (refine ite_by h ?_ ?_ <;> (intro hc h; (try simp only [nrm] at hc)))
   | refine itT ?_
   | refine itF ?_
   | (refine bind_by h (fun t ht h => ?_); (first | refine (spec_IsPoint.ap_of (spec_IsPoint.go ht _)).trans ?_ | refine (spec_l1In.ap_of (spec_l1In.go ht _)).trans ?_); (try dsimp only at h ⊢))
   | (simp only [nr2] at h ⊢)
   | (exfalso; omega))
theorem spec_IsLine.go {k : Nat} {l0 : List S77} {t} (h : spec_IsLine.f k l0 = some t) (K : Nat) (hK : k ≤ K) : spec_IsLine.run K (l0, ()) = some (spec_IsLine.toH t) := by
  rw [spec_IsLine.ef]
  (try dsimp only)
  unfold spec_IsLine.f at h
  repeat' (with_reducible first
   | exact nos h
   | (cases some_inj h; exact spec_IsLine.rt _)
   | exact (spec_IsLine.br _) _ (by omega) _ _ _ h
   | (simp only [Option.bind_some] at h)
   | (refine ite_by h ?_ ?_ <;> (intro hc h; (try simp only [nrm] at hc)))
   | refine itT ?_
   | refine itF ?_
   | (refine bind_by h (fun t ht h => ?_); (first | refine (spec_IsPoint.ap_of (spec_IsPoint.go ht _)).trans ?_ | refine (spec_l1In.ap_of (spec_l1In.go ht _)).trans ?_); (try dsimp only at h ⊢))
   | (simp only [nr2] at h ⊢)
   | (exfalso; omega))
theorem spec_IsLine.calls (k : Nat) (A0 : Option Addr) (c0 : Nat) (l0 : List (S77)) (r : Bool) (w : World) (hr0 : Kd.C k77 w A0 l0.length l0) (hc0 : l0.length ≤ c0) (h : spec_IsLine.f k l0 = some r) :
  Calls Try.prog 66 #[.slice A0 l0.length c0] w fun e w' => e = .returned (.bool r) ∧ Below w.heap.size w w' := by
  refine (spec_IsLine.snd.calls _ _ _ (spec_IsLine.go h k (Nat.le_refl k)) w [.slice A0 l0.length c0] ⟨⟨_, _, rfl, hc0, hr0⟩, trivial⟩).mono ?_
  rintro e w' ⟨v, rfl, hB, vs, oks, rfl, hR, _⟩
  obtain ⟨x0_, vs, o0_, oks, rfl, rfl, m0_, hR⟩ := rmsC hR
  obtain rfl := rmsN hR
  obtain rfl := List.singleton_inj.1 (show [x0_] = [Value.bool r] from m0_)
  exact ⟨rfl, hB⟩
set_option maxHeartbeats 8000000 in
set_option maxRecDepth 100000 in
theorem spec_DropPoint.calls (k : Nat) (A0 : Option Addr) (c0 : Nat) (l0 : List (S77)) (a1 : Int) (r1 : List (S77)) (r2 : Bool) (w : World) (hr0 : Kd.C k77 w A0 l0.length l0) (hc0 : l0.length ≤ c0) (h : spec_DropPoint.f k l0 a1 = some (r1, r2)) :
  Calls Try.prog 38 #[.slice A0 l0.length c0, .int .i64 a1] w fun e w' => ∃ v0_ : Value, e = .returned (.tuple #[v0_, .bool r2]) ∧ Kd.R k77 77 w' w.heap.size (fun _ => True) v0_ r1 ∧ Below w.heap.size w w' := by
 have HR0 := Aside0.mk hr0; have HC0 := Aside0.mk hc0; clear hr0 hc0; have HB := Aside0.mk (Below.refl w.heap.size w); have H : ((spec_IsLine.f k l0).bind fun t116 => (if t116 = true then ((spec_l1In.f a1 1 (wrap64 ((l0.length : Int) - 2))).bind fun t117 => (spec_DropPoint.j0 k l0 a1 (!t117))) else (spec_DropPoint.j0 k l0 a1 true))) = some (r1, r2) := h; clear h; have HC3 := Aside0.mk H; clear H
 go_enter Try.func38, Try.ntmps38
 go_upto_region 1 with (fail)
 go_cut [17] (fun v17 wc => ∃ (kq : Nat) (x17_2 : Bool), v17 = .bool x17_2 ∧ Aside0 (spec_DropPoint.j0 kq l0 a1 x17_2 = some (r1, r2)) ∧ Aside0 (kq ≤ k) ∧ Aside0 (Below w.heap.size w wc))
 case first =>
  have H := HC3.out; clear HC3; replace H := Option.bind_eq_some_iff.mp H; obtain ⟨t116, A40, H⟩ := H; have A4 := Aside0.mk A40; clear A40
  by_cases c5 : t116 = true
  ·subst c5; replace H := ift H; replace H := Option.bind_eq_some_iff.mp H; obtain ⟨t117, A60, H⟩ := H; have A6 := Aside0.mk A60; clear A60; have H' := Aside0.mk H; clear H; go_wp2_with (first | ((with_reducible refine gt (some 8) rfl ?_); refine gc Try.func66 (spec_IsLine.calls k _ _ l0 true _ cz0 HC0.out A4.out) ?_; rintro e w7 ⟨rfl, hb⟩; refine ⟨_, rfl, ?_⟩; replace HB := Aside0.mk (below_step bz hb); (try clear hb)) | (go_at_call 67; (with_reducible refine (spec_l1In.calls a1 1 (wrap64 ((l0.length : Int) - 2)) t117 _ A6.out).mono ?_); rintro e w' ⟨rfl, ⟨nd, rfl⟩⟩))
   go_meet
   case rel => exact ⟨_, (!t117), rz, H', ⟨qz⟩, ⟨bz⟩⟩
  ·replace c5 := Bool.eq_false_iff.mpr c5; subst c5; replace H := iff_ H; have H' := Aside0.mk H; clear H; go_wp2_with (first | ((with_reducible refine gt (some 8) rfl ?_); refine gc Try.func66 (spec_IsLine.calls k _ _ l0 false _ cz0 HC0.out A4.out) ?_; rintro e w8 ⟨rfl, hb⟩; refine ⟨_, rfl, ?_⟩; replace HB := Aside0.mk (below_step bz hb); (try clear hb)))
   go_meet
   case rel => exact ⟨_, (true), rz, H', ⟨qz⟩, ⟨bz⟩⟩
 case rest =>
  clear HC3; (try clear p2); (try clear c3); (try clear c5); (try clear c6); (try clear p6); obtain ⟨kq, x17_2, rfl, HA, HJ2, HB⟩ := hcut
  cases kq with
  | zero => exact absurd HA.out (by simp [spec_DropPoint.j0])
  | succ kj2 =>
   have H := HA.out; clear HA; simp only [spec_DropPoint.j0] at H
   by_cases c9 : x17_2 = true
   ·subst c9; replace H := ift H; obtain ⟨y118, hy118⟩ : ∃ y_ : List (S77), y_ = (([] : List (S77))) := ⟨_, rfl⟩
    replace H : (if y118.length + l0.length < 8796093022208 then (some ((y118 ++ l0), false)) else (none)) = some (r1, r2) := by first | (rw [hy118]; with_reducible exact H) | (have H2_ := (Option.bind_some _ _).symm.trans H; rw [hy118]; with_reducible exact H2_) | (have H2_ := (Option.bind_some _ _).symm.trans H; with_reducible exact H2_) | with_reducible exact H | (rw [hy118]; exact H) | exact H
    have Ny118 := Aside0.mk hy118; clear hy118
    by_cases c10 : y118.length + l0.length < 8796093022208
    ·rw [if_pos c10] at H; have LMc10 := Aside0.mk c10; clear c10; obtain ⟨y121, hy121⟩ : ∃ y_ : List (S77), y_ = (y118 ++ l0) := ⟨_, rfl⟩
     replace H : (some (y121, false)) = some (r1, r2) := by first | (rw [hy121]; with_reducible exact H) | (have H2_ := (Option.bind_some _ _).symm.trans H; rw [hy121]; with_reducible exact H2_) | (have H2_ := (Option.bind_some _ _).symm.trans H; with_reducible exact H2_) | with_reducible exact H | (rw [hy121]; exact H) | exact H
     have Ny121 := Aside0.mk hy121; clear hy121; simp only [Option.some.injEq, Prod.mk.injEq] at H; obtain ⟨rfl, rfl⟩ := H; go_wp2_with (first | ((with_reducible refine gate_dst (N := 18) rfl ?_); (try (refine gate_guard (by rfl) ?_; dsimp only)); refine Kd.R_lit k77 _ 77 ?hg (N := 18) ?hd (xs := ([] : List (S77))) (inner := []) (ok := fun _ => True) (okp := fun _ => True) ?hr ?hp (fun _ hk => hk) trivial (Below.refl _ _) (Nat.le_refl _) (by simp) ?_; (case hd => rfl); (case hg => rfl); (case hr => first | (go_simp; done) | (go_simp; rfl)); (case hp => exact (Reps.none _ _)); intro v119 w11 ho12 hb hg_ hnew_; clear hg_ hnew_; (first | rw [← Ny118.out] at ho12 | (simp only [Int.reduceToNat] at ho12; rw [← Ny118.out] at ho12)); have HO120 := Aside0.mk (Kd.R_lower ho12 (below_size bz)); replace HB := Aside0.mk (below_step bz hb); clear hb ho12) | ((with_reducible refine gate_builtin (b := .append) (xs := #[.tmp 18, .tmp 19]) rfl ?_); (try (refine gate_guard (by rfl) ?_; dsimp only)); at_builtin; refine Kd.R_append_rows k77 (w0 := w) w.heap.size rfl (.tmp 18) (.tmp 19) 26 77 (.agg #[(.int .i64 0), (.int .i64 0)]) 16 rfl Try.underlying26 info77 rfl (by decide) (by omega) v119 y118 l0 _ _ _ (fun _ => True) (fun _ => False) rfl rfl ?aO ?aR (fun _ _ h => h) (fun _ h => h.elim) ?aF ?aB ?aS ?aL ?_; (case aR => exact cz0); (case aB => exact bz); (case aF => exact (fun _ _ => trivial)); (case aO => exact (hr HO120.out)); (case aS => exact (below_size bz)); (case aL => have := LMc10.out; omega); intro v122 w13 ho hb hg hat; rw [← Ny121.out] at ho; have n0_ := Aside0.mk (hb); have n1_ := Aside0.mk (ho); clear HB; clear HO120; have HB := n0_; have HO123 := n1_; clear n0_ n1_; clear ho hb hg hat))
     go_ret2
     exact ⟨_, ez, hr HO123.out, bz⟩
    ·rw [if_neg c10] at H
     exact absurd H (by simp)
   ·replace c9 := Bool.eq_false_iff.mpr c9; subst c9; replace H := iff_ H; obtain ⟨y124, hy124⟩ : ∃ y_ : List (S77), y_ = (([] : List (S77))) := ⟨_, rfl⟩
    replace H : (if 0 ≤ a1 then (if a1 ≤ (l0.length : Int) then ((some (l0.take (a1 : Int).toNat : List (S77))).bind fun y127 => (if y124.length + y127.length < 8796093022208 then ((some (y124 ++ y127 : List (S77))).bind fun y131 => (if 0 ≤ (wrap64 (a1 + 1)) then (if (wrap64 (a1 + 1)) ≤ (l0.length : Int) then ((some (l0.drop ((wrap64 (a1 + 1)) : Int).toNat : List (S77))).bind fun y134 => (if y131.length + y134.length < 8796093022208 then ((some (y131 ++ y134 : List (S77))).bind fun y138 => ((spec_IsLine.f kj2 y138).bind fun t141 => (if t141 = true then (some (y138, true)) else ((some (([] : List (S77)) : List (S77))).bind fun y142 => (if y142.length + l0.length < 8796093022208 then (some ((y142 ++ l0), false)) else (none)))))) else (none))) else (none)) else (none))) else (none))) else (none)) else (none)) = some (r1, r2) := by first | (rw [hy124]; with_reducible exact H) | (have H2_ := (Option.bind_some _ _).symm.trans H; rw [hy124]; with_reducible exact H2_) | (have H2_ := (Option.bind_some _ _).symm.trans H; with_reducible exact H2_) | with_reducible exact H | (rw [hy124]; exact H) | exact H
    have Ny124 := Aside0.mk hy124; clear hy124
    by_cases c14 : 0 ≤ a1
    ·rw [if_pos c14] at H; have c14b0 := eq_true c14; have c14b1 := decide_eq_true c14; clear c14
     by_cases c15 : a1 ≤ (l0.length : Int)
     ·rw [if_pos c15] at H; have c15b0 := eq_true c15; have c15b1 := decide_eq_true c15; clear c15; obtain ⟨y127, hy127⟩ : ∃ y_ : List (S77), y_ = (l0.take (a1 : Int).toNat) := ⟨_, rfl⟩
      replace H : (if y124.length + y127.length < 8796093022208 then ((some (y124 ++ y127 : List (S77))).bind fun y131 => (if 0 ≤ (wrap64 (a1 + 1)) then (if (wrap64 (a1 + 1)) ≤ (l0.length : Int) then ((some (l0.drop ((wrap64 (a1 + 1)) : Int).toNat : List (S77))).bind fun y134 => (if y131.length + y134.length < 8796093022208 then ((some (y131 ++ y134 : List (S77))).bind fun y138 => ((spec_IsLine.f kj2 y138).bind fun t141 => (if t141 = true then (some (y138, true)) else ((some (([] : List (S77)) : List (S77))).bind fun y142 => (if y142.length + l0.length < 8796093022208 then (some ((y142 ++ l0), false)) else (none)))))) else (none))) else (none)) else (none))) else (none)) = some (r1, r2) := by first | (rw [hy127]; with_reducible exact H) | (have H2_ := (Option.bind_some _ _).symm.trans H; rw [hy127]; with_reducible exact H2_) | (have H2_ := (Option.bind_some _ _).symm.trans H; with_reducible exact H2_) | with_reducible exact H | (rw [hy127]; exact H) | exact H
      have Ny127 := Aside0.mk hy127; clear hy127
      by_cases c16 : y124.length + y127.length < 8796093022208
      ·rw [if_pos c16] at H; have LMc16 := Aside0.mk c16; clear c16; obtain ⟨y131, hy131⟩ : ∃ y_ : List (S77), y_ = (y124 ++ y127) := ⟨_, rfl⟩
       replace H : (if 0 ≤ (wrap64 (a1 + 1)) then (if (wrap64 (a1 + 1)) ≤ (l0.length : Int) then ((some (l0.drop ((wrap64 (a1 + 1)) : Int).toNat : List (S77))).bind fun y134 => (if y131.length + y134.length < 8796093022208 then ((some (y131 ++ y134 : List (S77))).bind fun y138 => ((spec_IsLine.f kj2 y138).bind fun t141 => (if t141 = true then (some (y138, true)) else ((some (([] : List (S77)) : List (S77))).bind fun y142 => (if y142.length + l0.length < 8796093022208 then (some ((y142 ++ l0), false)) else (none)))))) else (none))) else (none)) else (none)) = some (r1, r2) := by first | (rw [hy131]; with_reducible exact H) | (have H2_ := (Option.bind_some _ _).symm.trans H; rw [hy131]; with_reducible exact H2_) | (have H2_ := (Option.bind_some _ _).symm.trans H; with_reducible exact H2_) | with_reducible exact H | (rw [hy131]; exact H) | exact H
       have Ny131 := Aside0.mk hy131; clear hy131; obtain ⟨ji17, hji17⟩ : ∃ j_ : Int, (wrap64 (a1 + 1)) = j_ := ⟨_, rfl⟩
       replace H : (if 0 ≤ (ji17) then (if (ji17) ≤ (l0.length : Int) then ((some (l0.drop ((ji17) : Int).toNat : List (S77))).bind fun y134 => (if y131.length + y134.length < 8796093022208 then ((some (y131 ++ y134 : List (S77))).bind fun y138 => ((spec_IsLine.f kj2 y138).bind fun t141 => (if t141 = true then (some (y138, true)) else ((some (([] : List (S77)) : List (S77))).bind fun y142 => (if y142.length + l0.length < 8796093022208 then (some ((y142 ++ l0), false)) else (none)))))) else (none))) else (none)) else (none)) = some (r1, r2) := by first | (rw [hji17] at H; exact H) | (simp only [hji17] at H ⊢; exact H)
       have hji17w : (IntKind.i64.wrap (a1 + 1)) = ji17 := (i64_w _).trans hji17
       by_cases c18 : 0 ≤ (ji17)
       ·rw [if_pos c18] at H; have c18b0 := eq_true c18; have c18b1 := decide_eq_true c18; clear c18
        by_cases c19 : (ji17) ≤ (l0.length : Int)
        ·rw [if_pos c19] at H; have c19b0 := eq_true c19; have c19b1 := decide_eq_true c19; clear c19; obtain ⟨y134, hy134⟩ : ∃ y_ : List (S77), y_ = (l0.drop ((ji17) : Int).toNat) := ⟨_, rfl⟩
         replace H : (if y131.length + y134.length < 8796093022208 then ((some (y131 ++ y134 : List (S77))).bind fun y138 => ((spec_IsLine.f kj2 y138).bind fun t141 => (if t141 = true then (some (y138, true)) else ((some (([] : List (S77)) : List (S77))).bind fun y142 => (if y142.length + l0.length < 8796093022208 then (some ((y142 ++ l0), false)) else (none)))))) else (none)) = some (r1, r2) := by first | (rw [hy134]; with_reducible exact H) | (have H2_ := (Option.bind_some _ _).symm.trans H; rw [hy134]; with_reducible exact H2_) | (have H2_ := (Option.bind_some _ _).symm.trans H; with_reducible exact H2_) | with_reducible exact H | (rw [hy134]; exact H) | exact H
         have Ny134 := Aside0.mk hy134; clear hy134
         by_cases c20 : y131.length + y134.length < 8796093022208
         ·rw [if_pos c20] at H; have LMc20 := Aside0.mk c20; clear c20; obtain ⟨y138, hy138⟩ : ∃ y_ : List (S77), y_ = (y131 ++ y134) := ⟨_, rfl⟩
          replace H : ((spec_IsLine.f kj2 y138).bind fun t141 => (if t141 = true then (some (y138, true)) else ((some (([] : List (S77)) : List (S77))).bind fun y142 => (if y142.length + l0.length < 8796093022208 then (some ((y142 ++ l0), false)) else (none))))) = some (r1, r2) := by first | (rw [hy138]; with_reducible exact H) | (have H2_ := (Option.bind_some _ _).symm.trans H; rw [hy138]; with_reducible exact H2_) | (have H2_ := (Option.bind_some _ _).symm.trans H; with_reducible exact H2_) | with_reducible exact H | (rw [hy138]; exact H) | exact H
          have Ny138 := Aside0.mk hy138; clear hy138; replace H := Option.bind_eq_some_iff.mp H; obtain ⟨t141, A210, H⟩ := H; have A21 := Aside0.mk A210; clear A210
          by_cases c22 : t141 = true
          ·subst c22; replace H := ift H; simp only [Option.some.injEq, Prod.mk.injEq] at H; obtain ⟨rfl, rfl⟩ := H; (try go_wp2); replace HB := Aside0.mk (below_drew1 HB.out); have q24 : (a1 : Int) ≤ ((l0.length : Int) : Int) := of_decide_eq_true az; obtain ⟨i024, hi024, _, hsz24, _⟩ := info_parts info77; have hroom24 : l0.length ≤ c0 := HC0.out; have hC24 : Kd.C k77 _ A0 l0.length l0 := HR0.out; have hcut24 := cut_to (P := Try.prog) 26 77 .i64 Try.underlying26 hi024 A0 l0.length c0 a1 (of_decide_eq_true az) q24 hroom24; have hr24 := Kd.C_take (m := (a1 : Int).toNat) hC24 (by omega); have hy24 : y127.length = (a1 : Int).toNat := (by rw [Ny127.out, List.length_take]; omega)
           rw [← Ny127.out] at hr24; rw [← hy24] at hcut24; have HR130 := Aside0.mk hr24; have HC130 := Aside0.mk (show y127.length ≤ c0 from by omega); clear hr24 hC24 hroom24 hi024 hsz24; have KY24 := Aside0.mk hy24; clear hy24; replace q24 := eq_true q24; have q25 : ((ji17) : Int) ≤ ((l0.length : Int) : Int) := of_decide_eq_true az; obtain ⟨i025, hi025, _, hsz25, _⟩ := info_parts info77; have hroom25 : l0.length ≤ c0 := HC0.out; have hC25 : Kd.C k77 _ A0 l0.length l0 := HR0.out; have q025 : (0 : Int) ≤ ((ji17) : Int) := of_decide_eq_true az; have hcut25 := cut_from (P := Try.prog) 26 77 .i64 Try.underlying26 hi025 2 hsz25 A0 l0.length c0 (ji17) q025 q25; have hr25 := Kd.C_drop (m := ((ji17) : Int).toNat) (c := c0) hC25 (by omega) hroom25; obtain ⟨A25, hA25⟩ : ∃ A1, A1 = (if c0 = ((ji17) : Int).toNat then A0 else (A0 : Option Addr).map (·.add (((ji17) : Int).toNat * 2))) := ⟨_, rfl⟩
           obtain ⟨c25, hc25⟩ : ∃ c1, c1 = c0 - ((ji17) : Int).toNat := ⟨_, rfl⟩
           have hy25 : y134.length = l0.length - ((ji17) : Int).toNat := (by rw [Ny134.out, List.length_drop] <;> omega)
           rw [show (l0).drop ((ji17) : Int).toNat = y134 from Ny134.out.symm] at hr25; replace hr25 : Kd.C k77 _ A25 y134.length y134 := (by rw [hA25]; exact hr25)
           rw [← hy25, ← hA25, ← hc25] at hcut25; have HR137 := Aside0.mk hr25; have HC137 := Aside0.mk (show y134.length ≤ c25 from by rw [hy25, hc25]; exact Nat.sub_le_sub_right hroom25 _); clear hr25 hC25 hroom25 hi025 hsz25 hc25; have KY25 := Aside0.mk hy25; have KA25 := Aside0.mk hA25; clear hy25 hA25; replace q25 := eq_true q25; refine start_ (n := 11) (S := fun w' => True) (ds := []) #[F,F,F,F,F,F,F,F,F,F,F] (by kernel_rfl) rfl rfl trivial (fun hHeld => ?_); refine with_tabW spec_DropPoint.tab3 spec_DropPoint.bits3 (fun HT_ HW_ => ?_); generalize wc.drew = w23 at HB HR130 HR137 hHeld ⊢; refine pz HT_ 1 22 ?_; refine pz HT_ 2 23 ?_; refine pz HT_ 3 24 ?_; refine pz HT_ 5 26 ?_; refine pz HT_ 6 27 ?_; refine pz HT_ 7 28 ?_; refine pz HT_ 8 29 ?_; refine oz HT_ 0 (some 21) (fun K hK => ?_); refine Kd.R_lit_step k77 _ 77 ?hg (N := 21) ?hd (xs := ([] : List (S77))) (inner := []) (ok := fun _ => True) (okp := fun _ => True) ?hr ?hp (fun _ hk => hk) trivial (Below.refl _ _) (Nat.le_refl _) (by simp) ?_; (case hd => rfl); (case hg => rfl); (case hr => first | (go_simp; done) | (go_simp; rfl)); (case hp => exact (Reps.none _ _)); intro v125 w26 ho27 hb hg_ hnew_; clear hg_ hnew_
           (first | rw [← Ny124.out] at ho27 | (simp only [Int.reduceToNat] at ho27; rw [← Ny124.out] at ho27))
           have HO126 := Aside0.mk (Kd.R_lower ho27 (below_size bz)); replace HB := Aside0.mk (below_step bz hb); clear hb ho27; refine hK.out _ _ trivial (fun hHeld => ?_); clear hK K; refine nz 21 ?_; refine oz HT_ 4 (some 25) (fun K hK => ?_); refine Kd.R_append_rows_step k77 (w0 := w) w.heap.size (by rfl) (.tmp 21) (.tmp 24) 26 77 (.agg #[(.int .i64 0), (.int .i64 0)]) 16 rfl Try.underlying26 info77 rfl (by decide) (by omega) v125 y124 y127 _ _ _ (fun _ => True) (fun _ => False) rfl rfl ?aO ?aR (fun _ _ h => h) (fun _ h => h.elim) ?aF ?aB ?aS ?aL ?_
           (case aR => repeat (first | exact (Kd.C_below HR130.out HB.out) | (with_reducible refine Kd.C_alloc ?_ _) | (with_reducible refine Kd.C_drewN ?_ _) | (with_reducible refine Kd.C_drew ?_)))
           (case aB => exact bz)
           (case aF => exact (fun _ _ => trivial))
           (case aO => exact (hr HO126.out))
           (case aS => exact (below_size bz))
           (case aL => have := LMc16.out; omega)
           intro v132 w28 ho hb hg hat; rw [← Ny131.out] at ho; have n0_ := Aside0.mk (hb); have n1_ := Aside0.mk (ho); clear HB; clear HO126; have HB := n0_; have HO133 := n1_; clear n0_ n1_; clear ho hb hg hat; refine hK.out _ _ trivial (fun hHeld => ?_); clear hK K; refine nz 25 ?_; refine oz HT_ 9 (some 30) (fun K hK => ?_); refine Kd.R_append_rows_step k77 (w0 := w) w.heap.size (by rfl) (.tmp 25) (.tmp 29) 26 77 (.agg #[(.int .i64 0), (.int .i64 0)]) 16 rfl Try.underlying26 info77 rfl (by decide) (by omega) v132 y131 y134 _ _ _ (fun _ => True) (fun _ => False) rfl rfl ?aO ?aR (fun _ _ h => h) (fun _ h => h.elim) ?aF ?aB ?aS ?aL ?_
           (case aR => repeat (first | exact (Kd.C_below HR137.out HB.out) | (with_reducible refine Kd.C_alloc ?_ _) | (with_reducible refine Kd.C_drewN ?_ _) | (with_reducible refine Kd.C_drew ?_)))
           (case aB => exact bz)
           (case aF => exact (fun _ _ => trivial))
           (case aO => exact (hr HO133.out))
           (case aS => exact (below_size bz))
           (case aL => have := LMc20.out; omega)
           intro v139 w29 ho hb hg hat; rw [← Ny138.out] at ho; have n0_ := Aside0.mk (hb); have n1_ := Aside0.mk (ho); clear HB; clear HO133; have HB := n0_; have HO140 := n1_; clear n0_ n1_; clear ho hb hg hat; refine hK.out _ _ trivial (fun hHeld => ?_); clear hK K; refine nz 30 ?_; refine pz HT_ 10 6 ?_; refine dz HT_ ?_; obtain ⟨Ao30, co30, eo30⟩ := Kd.R_slice HO140.out; subst eo30; (try go_wp2_with (first | ((with_reducible refine gt (some 32) rfl ?_); refine gc Try.func66 (spec_IsLine.calls kj2 _ _ y138 true _ (cz (Kd.R_reads' HO140.out).2.2) ((Kd.R_reads' HO140.out).2.1) A21.out) ?_; rintro e w31 ⟨rfl, hb⟩; refine ⟨_, rfl, ?_⟩; replace HO140 := Aside0.mk (rbz HO140 hb); replace HB := Aside0.mk (below_step bz hb); (try clear hb)))); go_ret2
           exact ⟨_, by first | rfl | (simp [errW_none, errW_some] <;> rfl) | (simp only [← hji17]; first | rfl | (simp [errW_none, errW_some] <;> rfl)) | (simp [*, errW_none, errW_some] <;> rfl), hr HO140.out, bz⟩
          ·replace c22 := Bool.eq_false_iff.mpr c22; subst c22; replace H := iff_ H; obtain ⟨y142, hy142⟩ : ∃ y_ : List (S77), y_ = (([] : List (S77))) := ⟨_, rfl⟩
           replace H : (if y142.length + l0.length < 8796093022208 then (some ((y142 ++ l0), false)) else (none)) = some (r1, r2) := by first | (rw [hy142]; with_reducible exact H) | (have H2_ := (Option.bind_some _ _).symm.trans H; rw [hy142]; with_reducible exact H2_) | (have H2_ := (Option.bind_some _ _).symm.trans H; with_reducible exact H2_) | with_reducible exact H | (rw [hy142]; exact H) | exact H
           have Ny142 := Aside0.mk hy142; clear hy142
           by_cases c32 : y142.length + l0.length < 8796093022208
           ·rw [if_pos c32] at H; have LMc32 := Aside0.mk c32; clear c32; obtain ⟨y145, hy145⟩ : ∃ y_ : List (S77), y_ = (y142 ++ l0) := ⟨_, rfl⟩
            replace H : (some (y145, false)) = some (r1, r2) := by first | (rw [hy145]; with_reducible exact H) | (have H2_ := (Option.bind_some _ _).symm.trans H; rw [hy145]; with_reducible exact H2_) | (have H2_ := (Option.bind_some _ _).symm.trans H; with_reducible exact H2_) | with_reducible exact H | (rw [hy145]; exact H) | exact H
            have Ny145 := Aside0.mk hy145; clear hy145; simp only [Option.some.injEq, Prod.mk.injEq] at H; obtain ⟨rfl, rfl⟩ := H; (try go_wp2); replace HB := Aside0.mk (below_drew1 HB.out); have q34 : (a1 : Int) ≤ ((l0.length : Int) : Int) := of_decide_eq_true az; obtain ⟨i034, hi034, _, hsz34, _⟩ := info_parts info77; have hroom34 : l0.length ≤ c0 := HC0.out; have hC34 : Kd.C k77 _ A0 l0.length l0 := HR0.out; have hcut34 := cut_to (P := Try.prog) 26 77 .i64 Try.underlying26 hi034 A0 l0.length c0 a1 (of_decide_eq_true az) q34 hroom34; have hr34 := Kd.C_take (m := (a1 : Int).toNat) hC34 (by omega); have hy34 : y127.length = (a1 : Int).toNat := (by rw [Ny127.out, List.length_take]; omega)
            rw [← Ny127.out] at hr34; rw [← hy34] at hcut34; have HR130 := Aside0.mk hr34; have HC130 := Aside0.mk (show y127.length ≤ c0 from by omega); clear hr34 hC34 hroom34 hi034 hsz34; have KY34 := Aside0.mk hy34; clear hy34; replace q34 := eq_true q34; have q35 : ((ji17) : Int) ≤ ((l0.length : Int) : Int) := of_decide_eq_true az; obtain ⟨i035, hi035, _, hsz35, _⟩ := info_parts info77; have hroom35 : l0.length ≤ c0 := HC0.out; have hC35 : Kd.C k77 _ A0 l0.length l0 := HR0.out; have q035 : (0 : Int) ≤ ((ji17) : Int) := of_decide_eq_true az; have hcut35 := cut_from (P := Try.prog) 26 77 .i64 Try.underlying26 hi035 2 hsz35 A0 l0.length c0 (ji17) q035 q35; have hr35 := Kd.C_drop (m := ((ji17) : Int).toNat) (c := c0) hC35 (by omega) hroom35; obtain ⟨A35, hA35⟩ : ∃ A1, A1 = (if c0 = ((ji17) : Int).toNat then A0 else (A0 : Option Addr).map (·.add (((ji17) : Int).toNat * 2))) := ⟨_, rfl⟩
            obtain ⟨c35, hc35⟩ : ∃ c1, c1 = c0 - ((ji17) : Int).toNat := ⟨_, rfl⟩
            have hy35 : y134.length = l0.length - ((ji17) : Int).toNat := (by rw [Ny134.out, List.length_drop] <;> omega)
            rw [show (l0).drop ((ji17) : Int).toNat = y134 from Ny134.out.symm] at hr35; replace hr35 : Kd.C k77 _ A35 y134.length y134 := (by rw [hA35]; exact hr35)
            rw [← hy35, ← hA35, ← hc35] at hcut35; have HR137 := Aside0.mk hr35; have HC137 := Aside0.mk (show y134.length ≤ c35 from by rw [hy35, hc35]; exact Nat.sub_le_sub_right hroom35 _); clear hr35 hC35 hroom35 hi035 hsz35 hc35; have KY35 := Aside0.mk hy35; have KA35 := Aside0.mk hA35; clear hy35 hA35; replace q35 := eq_true q35; refine start_ (n := 11) (S := fun w' => True) (ds := []) #[F,F,F,F,F,F,F,F,F,F,F] (by kernel_rfl) rfl rfl trivial (fun hHeld => ?_); refine with_tabW spec_DropPoint.tab3 spec_DropPoint.bits3 (fun HT_ HW_ => ?_); generalize wc.drew = w33 at HB HR130 HR137 hHeld ⊢; refine pz HT_ 1 22 ?_; refine pz HT_ 2 23 ?_; refine pz HT_ 3 24 ?_; refine pz HT_ 5 26 ?_; refine pz HT_ 6 27 ?_; refine pz HT_ 7 28 ?_; refine pz HT_ 8 29 ?_; refine oz HT_ 0 (some 21) (fun K hK => ?_); refine Kd.R_lit_step k77 _ 77 ?hg (N := 21) ?hd (xs := ([] : List (S77))) (inner := []) (ok := fun _ => True) (okp := fun _ => True) ?hr ?hp (fun _ hk => hk) trivial (Below.refl _ _) (Nat.le_refl _) (by simp) ?_; (case hd => rfl); (case hg => rfl); (case hr => first | (go_simp; done) | (go_simp; rfl)); (case hp => exact (Reps.none _ _)); intro v125 w36 ho37 hb hg_ hnew_; clear hg_ hnew_
            (first | rw [← Ny124.out] at ho37 | (simp only [Int.reduceToNat] at ho37; rw [← Ny124.out] at ho37))
            have HO126 := Aside0.mk (Kd.R_lower ho37 (below_size bz)); replace HB := Aside0.mk (below_step bz hb); clear hb ho37; refine hK.out _ _ trivial (fun hHeld => ?_); clear hK K; refine nz 21 ?_; refine oz HT_ 4 (some 25) (fun K hK => ?_); refine Kd.R_append_rows_step k77 (w0 := w) w.heap.size (by rfl) (.tmp 21) (.tmp 24) 26 77 (.agg #[(.int .i64 0), (.int .i64 0)]) 16 rfl Try.underlying26 info77 rfl (by decide) (by omega) v125 y124 y127 _ _ _ (fun _ => True) (fun _ => False) rfl rfl ?aO ?aR (fun _ _ h => h) (fun _ h => h.elim) ?aF ?aB ?aS ?aL ?_
            (case aR => repeat (first | exact (Kd.C_below HR130.out HB.out) | (with_reducible refine Kd.C_alloc ?_ _) | (with_reducible refine Kd.C_drewN ?_ _) | (with_reducible refine Kd.C_drew ?_)))
            (case aB => exact bz)
            (case aF => exact (fun _ _ => trivial))
            (case aO => exact (hr HO126.out))
            (case aS => exact (below_size bz))
            (case aL => have := LMc16.out; omega)
            intro v132 w38 ho hb hg hat; rw [← Ny131.out] at ho; have n0_ := Aside0.mk (hb); have n1_ := Aside0.mk (ho); clear HB; clear HO126; have HB := n0_; have HO133 := n1_; clear n0_ n1_; clear ho hb hg hat; refine hK.out _ _ trivial (fun hHeld => ?_); clear hK K; refine nz 25 ?_; refine oz HT_ 9 (some 30) (fun K hK => ?_); refine Kd.R_append_rows_step k77 (w0 := w) w.heap.size (by rfl) (.tmp 25) (.tmp 29) 26 77 (.agg #[(.int .i64 0), (.int .i64 0)]) 16 rfl Try.underlying26 info77 rfl (by decide) (by omega) v132 y131 y134 _ _ _ (fun _ => True) (fun _ => False) rfl rfl ?aO ?aR (fun _ _ h => h) (fun _ h => h.elim) ?aF ?aB ?aS ?aL ?_
            (case aR => repeat (first | exact (Kd.C_below HR137.out HB.out) | (with_reducible refine Kd.C_alloc ?_ _) | (with_reducible refine Kd.C_drewN ?_ _) | (with_reducible refine Kd.C_drew ?_)))
            (case aB => exact bz)
            (case aF => exact (fun _ _ => trivial))
            (case aO => exact (hr HO133.out))
            (case aS => exact (below_size bz))
            (case aL => have := LMc20.out; omega)
            intro v139 w39 ho hb hg hat; rw [← Ny138.out] at ho; have n0_ := Aside0.mk (hb); have n1_ := Aside0.mk (ho); clear HB; clear HO133; have HB := n0_; have HO140 := n1_; clear n0_ n1_; clear ho hb hg hat; refine hK.out _ _ trivial (fun hHeld => ?_); clear hK K; refine nz 30 ?_; refine pz HT_ 10 6 ?_; refine dz HT_ ?_; obtain ⟨Ao40, co40, eo40⟩ := Kd.R_slice HO140.out; subst eo40; (try go_wp2_with (first | ((with_reducible refine gt (some 32) rfl ?_); refine gc Try.func66 (spec_IsLine.calls kj2 _ _ y138 false _ (cz (Kd.R_reads' HO140.out).2.2) ((Kd.R_reads' HO140.out).2.1) A21.out) ?_; rintro e w41 ⟨rfl, hb⟩; refine ⟨_, rfl, ?_⟩; replace HO140 := Aside0.mk (rbz HO140 hb); replace HB := Aside0.mk (below_step bz hb); (try clear hb)) | ((with_reducible refine gate_dst (N := 34) rfl ?_); (try (refine gate_guard (by rfl) ?_; dsimp only)); refine Kd.R_lit k77 _ 77 ?hg (N := 34) ?hd (xs := ([] : List (S77))) (inner := []) (ok := fun _ => True) (okp := fun _ => True) ?hr ?hp (fun _ hk => hk) trivial (Below.refl _ _) (Nat.le_refl _) (by simp) ?_; (case hd => rfl); (case hg => rfl); (case hr => first | (go_simp; done) | (go_simp; rfl)); (case hp => exact (Reps.none _ _)); intro v143 w42 ho43 hb hg_ hnew_; clear hg_ hnew_; (first | rw [← Ny142.out] at ho43 | (simp only [Int.reduceToNat] at ho43; rw [← Ny142.out] at ho43)); have HO144 := Aside0.mk (Kd.R_lower (Kd.R_new' ho43 (Kd.R_lt (hr HO140.out))) (below_size bz)); replace HO140 := Aside0.mk (Kd.R_elder' (hr HO140.out) (Kd.R_base ho43) hb); replace HB := Aside0.mk (below_step bz hb); clear hb ho43) | ((with_reducible refine gate_builtin (b := .append) (xs := #[.tmp 34, .tmp 35]) rfl ?_); (try (refine gate_guard (by rfl) ?_; dsimp only)); at_builtin; refine Kd.R_append_rows k77 (w0 := w) w.heap.size rfl (.tmp 34) (.tmp 35) 26 77 (.agg #[(.int .i64 0), (.int .i64 0)]) 16 rfl Try.underlying26 info77 rfl (by decide) (by omega) v143 y142 l0 _ _ _ (fun k_ => some k_ ≠ (.slice Ao40 y138.length co40 : Value).ownBlock) (fun _ => False) rfl rfl ?aO ?aR (fun _ _ h => h) (fun _ h => h.elim) ?aF ?aB ?aS ?aL ?_; (case aR => exact cz0); (case aB => exact bz); (case aF => exact (fun k_ hk => Kd.fresh' (Kd.R_lt (hr HO140.out)) k_ hk)); (case aO => exact (hr (Kd.R_mono HO144.out (fun _ hk => hk.2)))); (case aS => exact (below_size bz)); (case aL => have := LMc32.out; omega); intro v146 w44 ho hb hg hat; rw [← Ny145.out] at ho; have n0_ := Aside0.mk (Kd.R_after (ok := (fun _ => True)) (hr HO140.out) hg hat); have n1_ := Aside0.mk (hb); have n2_ := Aside0.mk (ho); clear HO140; clear HB; clear HO144; have HO140 := n0_; have HB := n1_; have HO147 := n2_; clear n0_ n1_ n2_; clear ho hb hg hat)))
            go_ret2
            exact ⟨_, by first | rfl | (simp [errW_none, errW_some] <;> rfl) | (simp only [← hji17]; first | rfl | (simp [errW_none, errW_some] <;> rfl)) | (simp [*, errW_none, errW_some] <;> rfl), hr (Kd.R_mono HO147.out (fun _ hk => trivial)), bz⟩
           ·rw [if_neg c32] at H
            exact absurd H (by simp)
         ·rw [if_neg c20] at H
          exact absurd H (by simp)
        ·rw [if_neg c19] at H
         exact absurd H (by simp)
       ·rw [if_neg c18] at H
        exact absurd H (by simp)
      ·rw [if_neg c16] at H
       exact absurd H (by simp)
     ·rw [if_neg c15] at H
      exact absurd H (by simp)
    ·rw [if_neg c14] at H
     exact absurd H (by simp)
def spec_DropPoint.toH (t : (List (S77)) × Bool) : HL eΓ [.l 77 (.st .s77), .b] := (t.1, t.2, ())
def spec_DropPoint.run (k : Nat) (h : HL eΓ [.l 77 (.st .s77), .i .i64]) : Option (HL eΓ [.l 77 (.st .s77), .b]) := (spec_DropPoint.f k (h.1 : List S77) (h.2.1 : Int)).map spec_DropPoint.toH
def spec_DropPoint.spec : Spc env := ⟨38, [.l 77 (.st .s77), .i .i64], [.l 77 (.st .s77), .b], spec_DropPoint.run⟩
def spec_DropPoint.ap {R : Type} (k : Nat) (h0 : List S77) (h1 : Int) (K : (List S77) → Bool → Option R) : Option R := (spec_DropPoint.run k (h0, h1, ())).bind fun r => K (r.1 : List S77) (r.2.1 : Bool)
theorem spec_DropPoint.ap_of {R : Type} {k : Nat} {h0 : List S77} {h1 : Int} {r0 : List S77} {r1 : Bool} {K : (List S77) → Bool → Option R} (h : spec_DropPoint.run k (h0, h1, ()) = some (r0, r1, ())) : spec_DropPoint.ap k h0 h1 K = K r0 r1 := by unfold spec_DropPoint.ap; rw [h]; rfl
theorem spec_DropPoint.go {k : Nat} {l0 : List S77} {a1 : Int} {t} (h : spec_DropPoint.f k l0 a1 = some t) (K : Nat) (hk : k ≤ K) : spec_DropPoint.run K (l0, a1, ()) = some (spec_DropPoint.toH t) := by
  show Option.map _ (spec_DropPoint.f K l0 a1) = _
  rw [leo_le (f := fun k => spec_DropPoint.f k l0 a1) (fun k => spec_DropPoint.mono l0 a1 k) hk h]; rfl
theorem spec_DropPoint.snd : Snd env spec_DropPoint.spec := ⟨⟨Try.f38, by kernel_rfl, by kernel_rfl, by kernel_rfl⟩, fun k h r he w us hA => by
  obtain ⟨t, ht, rfl⟩ := Option.map_eq_some_iff.1 (show (spec_DropPoint.f k (h.1 : List S77) (h.2.1 : Int)).map spec_DropPoint.toH = some r from he)
  match us, hA with
  | [u0, u1], ⟨q0, q1, _⟩ =>
  obtain ⟨A0, c0, e0, l0, g0⟩ := q0
  obtain rfl := List.singleton_inj.1 e0
  obtain rfl := List.singleton_inj.1 (show [u1] = [Value.int .i64 (h.2.1 : Int)] from q1)
  refine (spec_DropPoint.calls (w := w) (h := ht) (hr0 := g0) (hc0 := l0)).mono ?_
  rintro e w' ⟨v0_, he, hR, hw⟩
  exact ⟨_, he, hw, [v0_, .bool t.2], [fun _ => True, fun _ => False], rfl, ⟨⟨v0_, rfl, hR⟩, rfl, trivial⟩, by simp [DJ]⟩⟩
def spec_IsSegment.toH (t : Bool) : HL eΓ [.b] := (t, ())
def spec_IsSegment.run (k : Nat) (h : HL eΓ [.st .s95]) : Option (HL eΓ [.b]) := (spec_IsSegment.f ((h.1 : S95).f0.f0) ((h.1 : S95).f0.f1) ((h.1 : S95).f1.f0) ((h.1 : S95).f1.f1)).map spec_IsSegment.toH
def spec_IsSegment.spec : Spc env := ⟨101, [.st .s95], [.b], spec_IsSegment.run⟩
def spec_IsSegment.ap {R : Type} (k : Nat) (h0 : S95) (K : Bool → Option R) : Option R := (spec_IsSegment.run k (h0, ())).bind fun r => K (r.1 : Bool)
theorem spec_IsSegment.ap_of {R : Type} {k : Nat} {h0 : S95} {r0 : Bool} {K : Bool → Option R} (h : spec_IsSegment.run k (h0, ()) = some (r0, ())) : spec_IsSegment.ap k h0 K = K r0 := by unfold spec_IsSegment.ap; rw [h]; rfl
theorem spec_IsSegment.go {a0_0 : Int} {a0_1 : Int} {a0_2 : Int} {a0_3 : Int} {t} (h : spec_IsSegment.f a0_0 a0_1 a0_2 a0_3 = some t) (K : Nat) : spec_IsSegment.run K ((⟨(⟨a0_0, a0_1⟩ : S77), (⟨a0_2, a0_3⟩ : S77)⟩ : S95), ()) = some (spec_IsSegment.toH t) := by
  show Option.map _ (spec_IsSegment.f a0_0 a0_1 a0_2 a0_3) = _
  rw [h]; rfl
theorem spec_IsSegment.snd : Snd env spec_IsSegment.spec := ⟨⟨Try.f101, by kernel_rfl, by kernel_rfl, by kernel_rfl⟩, fun k h r he w us hA => by
  obtain ⟨t, ht, rfl⟩ := Option.map_eq_some_iff.1 (show (spec_IsSegment.f ((h.1 : S95).f0.f0) ((h.1 : S95).f0.f1) ((h.1 : S95).f1.f0) ((h.1 : S95).f1.f1)).map spec_IsSegment.toH = some r from he)
  match us, hA with
  | [u0], ⟨q0, _⟩ =>
  obtain ⟨v0, rfl, q0⟩ := q0
  have q0 := (H95.K _ _ _).1 q0
  match e0 : v0.toList, q0 with
  | [c0_0, c0_1, c0_2, c0_3], ⟨p0_0, p0_1, p0_2, p0_3, _⟩ =>
  obtain rfl : v0 = #[c0_0, c0_1, c0_2, c0_3] := by rw [← Array.toArray_toList (xs := v0), e0]
  obtain rfl := List.singleton_inj.1 (show [c0_0] = [Value.int .i64 ((h.1 : S95).f0.f0)] from p0_0)
  obtain rfl := List.singleton_inj.1 (show [c0_1] = [Value.int .i64 ((h.1 : S95).f0.f1)] from p0_1)
  obtain rfl := List.singleton_inj.1 (show [c0_2] = [Value.int .i64 ((h.1 : S95).f1.f0)] from p0_2)
  obtain rfl := List.singleton_inj.1 (show [c0_3] = [Value.int .i64 ((h.1 : S95).f1.f1)] from p0_3)
  refine (spec_IsSegment.calls (w := w) (h := ht) ).mono ?_
  rintro e w' ⟨he, hw⟩
  exact ⟨_, he, hw, [.bool t], [fun _ => False], rfl, ⟨rfl, trivial⟩, by simp [DJ]⟩⟩
def spec_IsOn.toH (t : Bool) : HL eΓ [.b] := (t, ())
def spec_IsOn.run (k : Nat) (h : HL eΓ [.st .s95, .st .s77]) : Option (HL eΓ [.b]) := (spec_IsOn.f ((h.1 : S95).f0.f0) ((h.1 : S95).f0.f1) ((h.1 : S95).f1.f0) ((h.1 : S95).f1.f1) ((h.2.1 : S77).f0) ((h.2.1 : S77).f1)).map spec_IsOn.toH
def spec_IsOn.spec : Spc env := ⟨127, [.st .s95, .st .s77], [.b], spec_IsOn.run⟩
def spec_IsOn.ap {R : Type} (k : Nat) (h0 : S95) (h1 : S77) (K : Bool → Option R) : Option R := (spec_IsOn.run k (h0, h1, ())).bind fun r => K (r.1 : Bool)
theorem spec_IsOn.ap_of {R : Type} {k : Nat} {h0 : S95} {h1 : S77} {r0 : Bool} {K : Bool → Option R} (h : spec_IsOn.run k (h0, h1, ()) = some (r0, ())) : spec_IsOn.ap k h0 h1 K = K r0 := by unfold spec_IsOn.ap; rw [h]; rfl
theorem spec_IsOn.go {a0_0 : Int} {a0_1 : Int} {a0_2 : Int} {a0_3 : Int} {a1_0 : Int} {a1_1 : Int} {t} (h : spec_IsOn.f a0_0 a0_1 a0_2 a0_3 a1_0 a1_1 = some t) (K : Nat) : spec_IsOn.run K ((⟨(⟨a0_0, a0_1⟩ : S77), (⟨a0_2, a0_3⟩ : S77)⟩ : S95), (⟨a1_0, a1_1⟩ : S77), ()) = some (spec_IsOn.toH t) := by
  show Option.map _ (spec_IsOn.f a0_0 a0_1 a0_2 a0_3 a1_0 a1_1) = _
  rw [h]; rfl
theorem spec_IsOn.snd : Snd env spec_IsOn.spec := ⟨⟨Try.f127, by kernel_rfl, by kernel_rfl, by kernel_rfl⟩, fun k h r he w us hA => by
  obtain ⟨t, ht, rfl⟩ := Option.map_eq_some_iff.1 (show (spec_IsOn.f ((h.1 : S95).f0.f0) ((h.1 : S95).f0.f1) ((h.1 : S95).f1.f0) ((h.1 : S95).f1.f1) ((h.2.1 : S77).f0) ((h.2.1 : S77).f1)).map spec_IsOn.toH = some r from he)
  match us, hA with
  | [u0, u1], ⟨q0, q1, _⟩ =>
  obtain ⟨v0, rfl, q0⟩ := q0
  have q0 := (H95.K _ _ _).1 q0
  match e0 : v0.toList, q0 with
  | [c0_0, c0_1, c0_2, c0_3], ⟨p0_0, p0_1, p0_2, p0_3, _⟩ =>
  obtain rfl : v0 = #[c0_0, c0_1, c0_2, c0_3] := by rw [← Array.toArray_toList (xs := v0), e0]
  obtain rfl := List.singleton_inj.1 (show [c0_0] = [Value.int .i64 ((h.1 : S95).f0.f0)] from p0_0)
  obtain rfl := List.singleton_inj.1 (show [c0_1] = [Value.int .i64 ((h.1 : S95).f0.f1)] from p0_1)
  obtain rfl := List.singleton_inj.1 (show [c0_2] = [Value.int .i64 ((h.1 : S95).f1.f0)] from p0_2)
  obtain rfl := List.singleton_inj.1 (show [c0_3] = [Value.int .i64 ((h.1 : S95).f1.f1)] from p0_3)
  obtain ⟨v1, rfl, q1⟩ := q1
  have q1 := (H77.K _ _ _).1 q1
  match e1 : v1.toList, q1 with
  | [c1_0, c1_1], ⟨p1_0, p1_1, _⟩ =>
  obtain rfl : v1 = #[c1_0, c1_1] := by rw [← Array.toArray_toList (xs := v1), e1]
  obtain rfl := List.singleton_inj.1 (show [c1_0] = [Value.int .i64 ((h.2.1 : S77).f0)] from p1_0)
  obtain rfl := List.singleton_inj.1 (show [c1_1] = [Value.int .i64 ((h.2.1 : S77).f1)] from p1_1)
  refine (spec_IsOn.calls (w := w) (h := ht) ).mono ?_
  rintro e w' ⟨he, hw⟩
  exact ⟨_, he, hw, [.bool t], [fun _ => False], rfl, ⟨rfl, trivial⟩, by simp [DJ]⟩⟩
def spec_l5Shared.Fs : List (Spc env) := [spec_IsOn.spec]
def spec_l5Shared.fin : St eΓ → Option (HL eΓ [.i .i64]) := finR env Try.f113.results.toList [.i .i64]
def spec_l5Shared.cut : Nat → Option (List (Lv SC)) := lk [(4, [⟨2, none, false⟩, ⟨3, none, false⟩, ⟨5, none, false⟩, ⟨6, none, false⟩, ⟨7, none, false⟩]), (8, [⟨2, none, false⟩, ⟨3, none, false⟩, ⟨5, none, false⟩, ⟨6, none, false⟩, ⟨7, none, false⟩, ⟨8, none, false⟩, ⟨9, none, false⟩])]
def spec_l5Shared.ret (r0 : Int) : Option (HL eΓ [.i .i64]) := some (r0, ())
def spec_l5Shared.p4 (k : Nat) (x7 : Int) (b0_0 : Int) (b0_1 : Int) (b0_2 : Int) (b0_3 : Int) (b1_0 : Int) (b1_1 : Int) (b1_2 : Int) (b1_3 : Int) (x5 : List S77) (x6 : List S77) : Option (HL eΓ [.i .i64]) := evM env spec_l5Shared.Fs Try.f113.ntmps spec_l5Shared.fin spec_l5Shared.cut k [.code (sub_ [1, 1, 1, 0, 1, 0, 0, 0, 0] (bodyOf Try.f113)), .code (sub_ [1, 1, 1, 0, 1, 0, 0, 0, 1] (bodyOf Try.f113)), .code (sub_ [1, 1, 1, 0, 1, 0, 0, 1] (bodyOf Try.f113)), .lp (sub_ [1, 1, 1, 0, 1, 0, 0] (bodyOf Try.f113)), .blk 0, .code (sub_ [1, 1, 1, 1] (bodyOf Try.f113))] (mkSt [(2, .c (.ptr 0 0)), (3, .c (.ptr 1 0)), (5, .c (.sl 2)), (6, .c (.sl 3)), (7, .c (.v (.int .i64 x7)))] [.box 95 [.v (.int .i64 b0_0), .v (.int .i64 b0_1), .v (.int .i64 b0_2), .v (.int .i64 b0_3)], .box 95 [.v (.int .i64 b1_0), .v (.int .i64 b1_1), .v (.int .i64 b1_2), .v (.int .i64 b1_3)], .row .own 77 (.st .s77) x5, .row .own 77 (.st .s77) x6])
def spec_l5Shared.p8 (k : Nat) (x7 : Int) (x8 : Bool) (x9 : Int) (b0_0 : Int) (b0_1 : Int) (b0_2 : Int) (b0_3 : Int) (b1_0 : Int) (b1_1 : Int) (b1_2 : Int) (b1_3 : Int) (x5 : List S77) (x6 : List S77) : Option (HL eΓ [.i .i64]) := evM env spec_l5Shared.Fs Try.f113.ntmps spec_l5Shared.fin spec_l5Shared.cut k [.code (sub_ [1, 1, 1, 0, 1, 0, 0, 1, 0, 0, 1, 0, 1, 0, 0, 0, 0] (bodyOf Try.f113)), .code (sub_ [1, 1, 1, 0, 1, 0, 0, 1, 0, 0, 1, 0, 1, 0, 0, 0, 1] (bodyOf Try.f113)), .code (sub_ [1, 1, 1, 0, 1, 0, 0, 1, 0, 0, 1, 0, 1, 0, 0, 1] (bodyOf Try.f113)), .lp (sub_ [1, 1, 1, 0, 1, 0, 0, 1, 0, 0, 1, 0, 1, 0, 0] (bodyOf Try.f113)), .blk 2, .code (sub_ [1, 1, 1, 0, 1, 0, 0, 1, 0, 0, 1, 1] (bodyOf Try.f113)), .blk 1, .code (sub_ [1, 1, 1, 0, 1, 0, 0, 1, 1] (bodyOf Try.f113)), .lp (sub_ [1, 1, 1, 0, 1, 0, 0] (bodyOf Try.f113)), .blk 0, .code (sub_ [1, 1, 1, 1] (bodyOf Try.f113))] (mkSt [(2, .c (.ptr 0 0)), (3, .c (.ptr 1 0)), (5, .c (.sl 2)), (6, .c (.sl 3)), (7, .c (.v (.int .i64 x7))), (8, .c (.v (.bool x8))), (9, .c (.v (.int .i64 x9)))] [.box 95 [.v (.int .i64 b0_0), .v (.int .i64 b0_1), .v (.int .i64 b0_2), .v (.int .i64 b0_3)], .box 95 [.v (.int .i64 b1_0), .v (.int .i64 b1_1), .v (.int .i64 b1_2), .v (.int .i64 b1_3)], .row .own 77 (.st .s77) x5, .row .own 77 (.st .s77) x6])
theorem spec_l5Shared.e4 (k : Nat) (x7 : Int) (b0_0 : Int) (b0_1 : Int) (b0_2 : Int) (b0_3 : Int) (b1_0 : Int) (b1_1 : Int) (b1_2 : Int) (b1_3 : Int) (x5 : List S77) (x6 : List S77) : spec_l5Shared.p4 (k + 1) x7 b0_0 b0_1 b0_2 b0_3 b1_0 b1_1 b1_2 b1_3 x5 x6 = if x7 < 4 then (if x7 < 2 then (if 0 ≤ x7 then (if x7 < (x6.length : Int) then (spec_IsOn.ap k (⟨(⟨b1_0, b1_1⟩ : S77), (⟨b1_2, b1_3⟩ : S77)⟩ : S95) (⟨(rd_T77 x6 x7).f0, (rd_T77 x6 x7).f1⟩ : S77) fun r1 => if r1 = true then (spec_l5Shared.p8 k x7 true 0 b0_0 b0_1 b0_2 b0_3 b1_0 b1_1 b1_2 b1_3 x5 x6) else (if x7 ≥ 2 then (if 0 ≤ x7 then (if x7 < (x6.length : Int) then (spec_IsOn.ap k (⟨(⟨b0_0, b0_1⟩ : S77), (⟨b0_2, b0_3⟩ : S77)⟩ : S95) (⟨(rd_T77 x6 x7).f0, (rd_T77 x6 x7).f1⟩ : S77) fun r2 => spec_l5Shared.p8 k x7 r2 0 b0_0 b0_1 b0_2 b0_3 b1_0 b1_1 b1_2 b1_3 x5 x6) else none) else none) else (spec_l5Shared.p8 k x7 false 0 b0_0 b0_1 b0_2 b0_3 b1_0 b1_1 b1_2 b1_3 x5 x6))) else none) else none) else (if x7 ≥ 2 then (if 0 ≤ x7 then (if x7 < (x6.length : Int) then (spec_IsOn.ap k (⟨(⟨b0_0, b0_1⟩ : S77), (⟨b0_2, b0_3⟩ : S77)⟩ : S95) (⟨(rd_T77 x6 x7).f0, (rd_T77 x6 x7).f1⟩ : S77) fun r3 => spec_l5Shared.p8 k x7 r3 0 b0_0 b0_1 b0_2 b0_3 b1_0 b1_1 b1_2 b1_3 x5 x6) else none) else none) else (spec_l5Shared.p8 k x7 false 0 b0_0 b0_1 b0_2 b0_3 b1_0 b1_1 b1_2 b1_3 x5 x6))) else (spec_l5Shared.ret (x5.length : Int)) := by kernel_rfl
theorem spec_l5Shared.e8 (k : Nat) (x7 : Int) (x8 : Bool) (x9 : Int) (b0_0 : Int) (b0_1 : Int) (b0_2 : Int) (b0_3 : Int) (b1_0 : Int) (b1_1 : Int) (b1_2 : Int) (b1_3 : Int) (x5 : List S77) (x6 : List S77) : spec_l5Shared.p8 (k + 1) x7 x8 x9 b0_0 b0_1 b0_2 b0_3 b1_0 b1_1 b1_2 b1_3 x5 x6 = if x9 < (x5.length : Int) then (if x8 = true then (if 0 ≤ x9 then (if x9 < (x5.length : Int) then (if 0 ≤ x7 then (if x7 < (x6.length : Int) then (spec_l5Shared.p8 k x7 (decide (¬ (((rd_T77 x5 x9).f0) = ((rd_T77 x6 x7).f0) ∧ (((rd_T77 x5 x9).f1) = ((rd_T77 x6 x7).f1) ∧ True)))) (wrap64 (x9 + 1)) b0_0 b0_1 b0_2 b0_3 b1_0 b1_1 b1_2 b1_3 x5 x6) else none) else none) else none) else none) else (spec_l5Shared.p8 k x7 false (wrap64 (x9 + 1)) b0_0 b0_1 b0_2 b0_3 b1_0 b1_1 b1_2 b1_3 x5 x6)) else (if x8 = true then (if 0 ≤ x7 then (if x7 < (x6.length : Int) then (if (x5.length + 1) * 16 ≤ 140737488355328 then (spec_l5Shared.p4 k (wrap64 (x7 + 1)) b0_0 b0_1 b0_2 b0_3 b1_0 b1_1 b1_2 b1_3 (x5 ++ [(⟨(rd_T77 x6 x7).f0, (rd_T77 x6 x7).f1⟩ : S77)]) x6) else none) else none) else none) else (spec_l5Shared.p4 k (wrap64 (x7 + 1)) b0_0 b0_1 b0_2 b0_3 b1_0 b1_1 b1_2 b1_3 x5 x6)) := by kernel_rfl
def spec_l5Shared.run (k : Nat) (h : HL eΓ [.st .s95, .st .s95]) : Option (HL eΓ [.i .i64]) := evF env spec_l5Shared.Fs Try.f113 spec_l5Shared.cut [.st .s95, .st .s95] [.i .i64] k h
theorem spec_l5Shared.ef (k : Nat) (h0 : S95) (h1 : S95) : spec_l5Shared.run k (h0, h1, ()) = spec_l5Shared.p4 k 0 h0.f0.f0 h0.f0.f1 h0.f1.f0 h0.f1.f1 h1.f0.f0 h1.f0.f1 h1.f1.f0 h1.f1.f1 ([] : List S77) ([(⟨h0.f0.f0, h0.f0.f1⟩ : S77), (⟨h0.f1.f0, h0.f1.f1⟩ : S77), (⟨h1.f0.f0, h1.f0.f1⟩ : S77), (⟨h1.f1.f0, h1.f1.f1⟩ : S77)] : List S77) := by kernel_rfl
def spec_l5Shared.toH (t : Int) : HL eΓ [.i .i64] := (t, ())
def spec_l5Shared.spec : Spc env := ⟨113, [.st .s95, .st .s95], [.i .i64], spec_l5Shared.run⟩
theorem spec_l5Shared.snd : Snd env spec_l5Shared.spec := evF_snd env_ok (sndC spec_IsOn.snd (sndN))
attribute [local irreducible] spec_l5Shared.run
theorem spec_l5Shared.rt (a0 : Int) : spec_l5Shared.ret a0 = some (spec_l5Shared.toH (a0)) := rfl
theorem spec_l5Shared.br (n : Nat) : (∀ K, n ≤ K → ∀ (x7 : Int) (b0_0 : Int) (b0_1 : Int) (b0_2 : Int) (b0_3 : Int) (b1_0 : Int) (b1_1 : Int) (b1_2 : Int) (b1_3 : Int) (x5 : List S77) (x6 : List S77) t, spec_l5Shared.l0 n x5 x6 x7 b0_0 b0_1 b0_2 b0_3 b1_0 b1_1 b1_2 b1_3 = some t → spec_l5Shared.p4 K x7 b0_0 b0_1 b0_2 b0_3 b1_0 b1_1 b1_2 b1_3 x5 x6 = some (spec_l5Shared.toH t)) ∧ (∀ K, n ≤ K → ∀ (x7 : Int) (x8 : Bool) (x9 : Int) (b0_0 : Int) (b0_1 : Int) (b0_2 : Int) (b0_3 : Int) (b1_0 : Int) (b1_1 : Int) (b1_2 : Int) (b1_3 : Int) (x5 : List S77) (x6 : List S77) t, spec_l5Shared.l1 n x5 x6 x7 x8 x9 b0_0 b0_1 b0_2 b0_3 b1_0 b1_1 b1_2 b1_3 = some t → spec_l5Shared.p8 K x7 x8 x9 b0_0 b0_1 b0_2 b0_3 b1_0 b1_1 b1_2 b1_3 x5 x6 = some (spec_l5Shared.toH t)) := by
  induction n using Nat.strongRecOn with
  | _ n ih =>
  refine ⟨fun K hK x7 b0_0 b0_1 b0_2 b0_3 b1_0 b1_1 b1_2 b1_3 x5 x6 t h => ?_, fun K hK x7 x8 x9 b0_0 b0_1 b0_2 b0_3 b1_0 b1_1 b1_2 b1_3 x5 x6 t h => ?_⟩
  all_goals (rcases n with _ | k)
  all_goals (try (exact nos h))
  all_goals (obtain ⟨K, rfl⟩ : ∃ q, K = q + 1 := ⟨K - 1, by omega⟩)
  all_goals (first | rw [spec_l5Shared.e4] | rw [spec_l5Shared.e8])
  all_goals (simp only [spec_l5Shared.l0, spec_l5Shared.l1] at h)
  repeat' (with_reducible first
   | exact nos h
   | (cases some_inj h; exact spec_l5Shared.rt _)
   | exact (ih _ (by omega)).1 _ (by omega) _ _ _ _ _ _ _ _ _ _ _ _ h
   | exact (ih _ (by omega)).2 _ (by omega) _ _ _ _ _ _ _ _ _ _ _ _ _ _ h
   | ((have q : spec_l5Shared.j1 k _ _ _ _ _ _ _ _ _ _ _ _ = some _ := h; clear q); rcases k with _ | k <;> simp only [spec_l5Shared.j1, reduceCtorEq] at h)
   | (simp only [Option.bind_some] at h)
   | (refine ite_by h ?_ ?_ <;> (intro hc h; (try simp only [nrm] at hc)))
   | refine itT ?_
   | refine itF ?_
   | (refine bind_by h (fun t ht h => ?_); refine (spec_IsOn.ap_of (spec_IsOn.go ht _)).trans ?_; (try dsimp only at h ⊢))
   | (simp only [nr2] at h ⊢)
   | (exfalso; omega))
theorem spec_l5Shared.go {k : Nat} {a0_0 : Int} {a0_1 : Int} {a0_2 : Int} {a0_3 : Int} {a1_0 : Int} {a1_1 : Int} {a1_2 : Int} {a1_3 : Int} {t} (h : spec_l5Shared.f k a0_0 a0_1 a0_2 a0_3 a1_0 a1_1 a1_2 a1_3 = some t) (K : Nat) (hK : k ≤ K) : spec_l5Shared.run K ((⟨(⟨a0_0, a0_1⟩ : S77), (⟨a0_2, a0_3⟩ : S77)⟩ : S95), (⟨(⟨a1_0, a1_1⟩ : S77), (⟨a1_2, a1_3⟩ : S77)⟩ : S95), ()) = some (spec_l5Shared.toH t) := by
  rw [spec_l5Shared.ef]
  (try dsimp only)
  unfold spec_l5Shared.f at h
  repeat' (with_reducible first
   | exact nos h
   | (cases some_inj h; exact spec_l5Shared.rt _)
   | exact (spec_l5Shared.br _).1 _ (by omega) _ _ _ _ _ _ _ _ _ _ _ _ h
   | exact (spec_l5Shared.br _).2 _ (by omega) _ _ _ _ _ _ _ _ _ _ _ _ _ _ h
   | ((have q : spec_l5Shared.j1 k _ _ _ _ _ _ _ _ _ _ _ _ = some _ := h; clear q); rcases k with _ | k <;> simp only [spec_l5Shared.j1, reduceCtorEq] at h)
   | (simp only [Option.bind_some] at h)
   | (refine ite_by h ?_ ?_ <;> (intro hc h; (try simp only [nrm] at hc)))
   | refine itT ?_
   | refine itF ?_
   | (refine bind_by h (fun t ht h => ?_); refine (spec_IsOn.ap_of (spec_IsOn.go ht _)).trans ?_; (try dsimp only at h ⊢))
   | (simp only [nr2] at h ⊢)
   | (exfalso; omega))
theorem spec_l5Shared.calls (k : Nat) (a0_0 : Int) (a0_1 : Int) (a0_2 : Int) (a0_3 : Int) (a1_0 : Int) (a1_1 : Int) (a1_2 : Int) (a1_3 : Int) (r : Int) (w : World) (h : spec_l5Shared.f k a0_0 a0_1 a0_2 a0_3 a1_0 a1_1 a1_2 a1_3 = some r) :
  Calls Try.prog 113 #[.agg #[.int .i64 a0_0, .int .i64 a0_1, .int .i64 a0_2, .int .i64 a0_3], .agg #[.int .i64 a1_0, .int .i64 a1_1, .int .i64 a1_2, .int .i64 a1_3]] w fun e w' => e = .returned (.int .i64 r) ∧ Below w.heap.size w w' := by
  refine (spec_l5Shared.snd.calls _ _ _ (spec_l5Shared.go h k (Nat.le_refl k)) w [.agg #[.int .i64 a0_0, .int .i64 a0_1, .int .i64 a0_2, .int .i64 a0_3], .agg #[.int .i64 a1_0, .int .i64 a1_1, .int .i64 a1_2, .int .i64 a1_3]] ⟨⟨_, rfl, (H95.K _ _ _).2 ⟨rfl, rfl, rfl, rfl, trivial⟩⟩, ⟨_, rfl, (H95.K _ _ _).2 ⟨rfl, rfl, rfl, rfl, trivial⟩⟩, trivial⟩).mono ?_
  rintro e w' ⟨v, rfl, hB, vs, oks, rfl, hR, _⟩
  obtain ⟨x0_, vs, o0_, oks, rfl, rfl, m0_, hR⟩ := rmsC hR
  obtain rfl := rmsN hR
  obtain rfl := List.singleton_inj.1 (show [x0_] = [Value.int .i64 r] from m0_)
  exact ⟨rfl, hB⟩
theorem spec_HowMeet.any (a b c d e f g h : Int) (w : World) : Calls Try.prog 87 #[.agg #[.int .i64 a, .int .i64 b, .int .i64 c, .int .i64 d], .agg #[.int .i64 e, .int .i64 f, .int .i64 g, .int .i64 h]] w fun e_ w' => e_ = .returned (.int .i64 (howS a b c d e f g h)) ∧ Below w.heap.size w w' := by
  unfold howS
  cases hs : isSeg a b c d
  · rw [if_pos (.inl rfl)]; exact spec_HowMeet.no1 a b c d e f g h hs w
  · cases ht : isSeg e f g h
    · rw [if_pos (.inr rfl)]; exact spec_HowMeet.no2 a b c d e f g h hs ht w
    · obtain ⟨y1, y2⟩ := wrap_three _ _ (sd_bd a b c d e f) (sd_bd a b c d g h); obtain ⟨y3, y4⟩ := wrap_three _ _ (sd_bd e f g h a b) (sd_bd e f g h c d); obtain ⟨K, hK⟩ := share_s a b c d e f g h; refine (spec_HowMeet.wlk a b c d e f g h _ _ _ _ _ _ (shareI a b c d e f g h) _ _ _ _ hs ht rfl rfl rfl rfl rfl rfl rfl rfl rfl rfl y2 y4 (fun W => spec_l5Shared.calls K _ _ _ _ _ _ _ _ _ W (hK K (Nat.le_refl _))) w).mono ?_; rintro e_ w' ⟨rfl, hb⟩; refine ⟨?_, hb⟩; rw [y1, y3, if_neg (show ¬ (true = false ∨ true = false) by simp)]; simp only [Bool.or_eq_true, decide_eq_true_eq, or_assoc]
theorem spec_HowMeet.calls (a0_0 : Int) (a0_1 : Int) (a0_2 : Int) (a0_3 : Int) (a1_0 : Int) (a1_1 : Int) (a1_2 : Int) (a1_3 : Int) (r : Int) (w : World) (h : spec_HowMeet.f a0_0 a0_1 a0_2 a0_3 a1_0 a1_1 a1_2 a1_3 = some r) :
    Calls Try.prog 87 #[.agg #[.int .i64 a0_0, .int .i64 a0_1, .int .i64 a0_2, .int .i64 a0_3], .agg #[.int .i64 a1_0, .int .i64 a1_1, .int .i64 a1_2, .int .i64 a1_3]] w fun e w' => e = .returned (.int .i64 r) ∧ Below w.heap.size w w' := by
  obtain rfl := Option.some.inj h
  exact spec_HowMeet.any a0_0 a0_1 a0_2 a0_3 a1_0 a1_1 a1_2 a1_3 w
def spec_HowMeet.toH (t : Int) : HL eΓ [.i .i64] := (t, ())
def spec_HowMeet.run (k : Nat) (h : HL eΓ [.st .s95, .st .s95]) : Option (HL eΓ [.i .i64]) := (spec_HowMeet.f ((h.1 : S95).f0.f0) ((h.1 : S95).f0.f1) ((h.1 : S95).f1.f0) ((h.1 : S95).f1.f1) ((h.2.1 : S95).f0.f0) ((h.2.1 : S95).f0.f1) ((h.2.1 : S95).f1.f0) ((h.2.1 : S95).f1.f1)).map spec_HowMeet.toH
def spec_HowMeet.spec : Spc env := ⟨87, [.st .s95, .st .s95], [.i .i64], spec_HowMeet.run⟩
def spec_HowMeet.ap {R : Type} (k : Nat) (h0 : S95) (h1 : S95) (K : Int → Option R) : Option R := (spec_HowMeet.run k (h0, h1, ())).bind fun r => K (r.1 : Int)
theorem spec_HowMeet.ap_of {R : Type} {k : Nat} {h0 : S95} {h1 : S95} {r0 : Int} {K : Int → Option R} (h : spec_HowMeet.run k (h0, h1, ()) = some (r0, ())) : spec_HowMeet.ap k h0 h1 K = K r0 := by unfold spec_HowMeet.ap; rw [h]; rfl
theorem spec_HowMeet.go {a0_0 : Int} {a0_1 : Int} {a0_2 : Int} {a0_3 : Int} {a1_0 : Int} {a1_1 : Int} {a1_2 : Int} {a1_3 : Int} {t} (h : spec_HowMeet.f a0_0 a0_1 a0_2 a0_3 a1_0 a1_1 a1_2 a1_3 = some t) (K : Nat) : spec_HowMeet.run K ((⟨(⟨a0_0, a0_1⟩ : S77), (⟨a0_2, a0_3⟩ : S77)⟩ : S95), (⟨(⟨a1_0, a1_1⟩ : S77), (⟨a1_2, a1_3⟩ : S77)⟩ : S95), ()) = some (spec_HowMeet.toH t) := by
  show Option.map _ (spec_HowMeet.f a0_0 a0_1 a0_2 a0_3 a1_0 a1_1 a1_2 a1_3) = _
  rw [h]; rfl
theorem spec_HowMeet.snd : Snd env spec_HowMeet.spec := ⟨⟨Try.f87, by kernel_rfl, by kernel_rfl, by kernel_rfl⟩, fun k h r he w us hA => by
  obtain ⟨t, ht, rfl⟩ := Option.map_eq_some_iff.1 (show (spec_HowMeet.f ((h.1 : S95).f0.f0) ((h.1 : S95).f0.f1) ((h.1 : S95).f1.f0) ((h.1 : S95).f1.f1) ((h.2.1 : S95).f0.f0) ((h.2.1 : S95).f0.f1) ((h.2.1 : S95).f1.f0) ((h.2.1 : S95).f1.f1)).map spec_HowMeet.toH = some r from he)
  match us, hA with
  | [u0, u1], ⟨q0, q1, _⟩ =>
  obtain ⟨v0, rfl, q0⟩ := q0
  have q0 := (H95.K _ _ _).1 q0
  match e0 : v0.toList, q0 with
  | [c0_0, c0_1, c0_2, c0_3], ⟨p0_0, p0_1, p0_2, p0_3, _⟩ =>
  obtain rfl : v0 = #[c0_0, c0_1, c0_2, c0_3] := by rw [← Array.toArray_toList (xs := v0), e0]
  obtain rfl := List.singleton_inj.1 (show [c0_0] = [Value.int .i64 ((h.1 : S95).f0.f0)] from p0_0)
  obtain rfl := List.singleton_inj.1 (show [c0_1] = [Value.int .i64 ((h.1 : S95).f0.f1)] from p0_1)
  obtain rfl := List.singleton_inj.1 (show [c0_2] = [Value.int .i64 ((h.1 : S95).f1.f0)] from p0_2)
  obtain rfl := List.singleton_inj.1 (show [c0_3] = [Value.int .i64 ((h.1 : S95).f1.f1)] from p0_3)
  obtain ⟨v1, rfl, q1⟩ := q1
  have q1 := (H95.K _ _ _).1 q1
  match e1 : v1.toList, q1 with
  | [c1_0, c1_1, c1_2, c1_3], ⟨p1_0, p1_1, p1_2, p1_3, _⟩ =>
  obtain rfl : v1 = #[c1_0, c1_1, c1_2, c1_3] := by rw [← Array.toArray_toList (xs := v1), e1]
  obtain rfl := List.singleton_inj.1 (show [c1_0] = [Value.int .i64 ((h.2.1 : S95).f0.f0)] from p1_0)
  obtain rfl := List.singleton_inj.1 (show [c1_1] = [Value.int .i64 ((h.2.1 : S95).f0.f1)] from p1_1)
  obtain rfl := List.singleton_inj.1 (show [c1_2] = [Value.int .i64 ((h.2.1 : S95).f1.f0)] from p1_2)
  obtain rfl := List.singleton_inj.1 (show [c1_3] = [Value.int .i64 ((h.2.1 : S95).f1.f1)] from p1_3)
  refine (spec_HowMeet.calls (w := w) (h := ht) ).mono ?_
  rintro e w' ⟨he, hw⟩
  exact ⟨_, he, hw, [.int .i64 t], [fun _ => False], rfl, ⟨rfl, trivial⟩, by simp [DJ]⟩⟩
def spec_l7Segments.Fs : List (Spc env) := []
def spec_l7Segments.fin : St eΓ → Option (HL eΓ [.l 95 (.st .s95)]) := finR env Try.f100.results.toList [.l 95 (.st .s95)]
def spec_l7Segments.cut : Nat → Option (List (Lv SC)) := lk [(3, [⟨0, none, false⟩, ⟨3, none, false⟩, ⟨4, none, false⟩])]
def spec_l7Segments.ret (r0 : List S95) : Option (HL eΓ [.l 95 (.st .s95)]) := some (r0, ())
def spec_l7Segments.p3 (k : Nat) (x4 : Int) (x0 : List S77) (x3 : List S95) : Option (HL eΓ [.l 95 (.st .s95)]) := evM env spec_l7Segments.Fs Try.f100.ntmps spec_l7Segments.fin spec_l7Segments.cut k [.code (sub_ [1, 1, 0, 1, 0, 0, 0, 0] (bodyOf Try.f100)), .code (sub_ [1, 1, 0, 1, 0, 0, 0, 1] (bodyOf Try.f100)), .code (sub_ [1, 1, 0, 1, 0, 0, 1] (bodyOf Try.f100)), .lp (sub_ [1, 1, 0, 1, 0, 0] (bodyOf Try.f100)), .blk 0, .code (sub_ [1, 1, 1] (bodyOf Try.f100))] (mkSt [(0, .c (.sl 0)), (3, .c (.sl 1)), (4, .c (.v (.int .i64 x4)))] [.row .ro 77 (.st .s77) x0, .row .own 95 (.st .s95) x3])
theorem spec_l7Segments.e3 (k : Nat) (x4 : Int) (x0 : List S77) (x3 : List S95) : spec_l7Segments.p3 (k + 1) x4 x0 x3 = if x4 < (x0.length : Int) then (if 0 ≤ x4 then (if x4 < (x0.length : Int) then (if (x0.length : Int) = 0 then none else (if 0 ≤ (Int.tmod (wrap64 (x4 + 1)) (x0.length : Int)) then (if (Int.tmod (wrap64 (x4 + 1)) (x0.length : Int)) < (x0.length : Int) then (if (x3.length + 1) * 32 ≤ 140737488355328 then (spec_l7Segments.p3 k (wrap64 (x4 + 1)) x0 (x3 ++ [(⟨(⟨(rd_T77 x0 x4).f0, (rd_T77 x0 x4).f1⟩ : S77), (⟨(rd_T77 x0 (Int.tmod (wrap64 (x4 + 1)) (x0.length : Int))).f0, (rd_T77 x0 (Int.tmod (wrap64 (x4 + 1)) (x0.length : Int))).f1⟩ : S77)⟩ : S95)])) else none) else none) else none)) else none) else none) else (spec_l7Segments.ret x3) := by kernel_rfl
def spec_l7Segments.run (k : Nat) (h : HL eΓ [.l 77 (.st .s77)]) : Option (HL eΓ [.l 95 (.st .s95)]) := evF env spec_l7Segments.Fs Try.f100 spec_l7Segments.cut [.l 77 (.st .s77)] [.l 95 (.st .s95)] k h
theorem spec_l7Segments.ef (k : Nat) (h0 : List S77) : spec_l7Segments.run k (h0, ()) = spec_l7Segments.p3 k 0 h0 ([] : List S95) := by kernel_rfl
def spec_l7Segments.toH (t : (List (S95))) : HL eΓ [.l 95 (.st .s95)] := (t, ())
def spec_l7Segments.spec : Spc env := ⟨100, [.l 77 (.st .s77)], [.l 95 (.st .s95)], spec_l7Segments.run⟩
def spec_l7Segments.ap {R : Type} (k : Nat) (h0 : List S77) (K : (List S95) → Option R) : Option R := (spec_l7Segments.run k (h0, ())).bind fun r => K (r.1 : List S95)
theorem spec_l7Segments.ap_of {R : Type} {k : Nat} {h0 : List S77} {r0 : List S95} {K : (List S95) → Option R} (h : spec_l7Segments.run k (h0, ()) = some (r0, ())) : spec_l7Segments.ap k h0 K = K r0 := by unfold spec_l7Segments.ap; rw [h]; rfl
theorem spec_l7Segments.snd : Snd env spec_l7Segments.spec := evF_snd env_ok (sndN)
attribute [local irreducible] spec_l7Segments.run
theorem spec_l7Segments.rt (a0 : List S95) : spec_l7Segments.ret a0 = some (spec_l7Segments.toH (a0)) := rfl
theorem spec_l7Segments.br (n : Nat) : (∀ K, n ≤ K → ∀ (x4 : Int) (x0 : List S77) (x3 : List S95) t, spec_l7Segments.l0 n x0 x3 x4 = some t → spec_l7Segments.p3 K x4 x0 x3 = some (spec_l7Segments.toH t)) := by
  induction n using Nat.strongRecOn with
  | _ n ih =>
  intro K hK x4 x0 x3 t h
  all_goals (rcases n with _ | k)
  all_goals (try (exact nos h))
  all_goals (obtain ⟨K, rfl⟩ : ∃ q, K = q + 1 := ⟨K - 1, by omega⟩)
  all_goals (first | rw [spec_l7Segments.e3])
  all_goals (simp only [spec_l7Segments.l0] at h)
  repeat' (with_reducible first
   | exact nos h
   | (cases some_inj h; exact spec_l7Segments.rt _)
   | exact (ih _ (by omega)) _ (by omega) _ _ _ _ h
   | (simp only [Option.bind_some] at h)
   | (refine ite_by h ?_ ?_ <;> (intro hc h; (try simp only [nrm] at hc)))
   | refine itT ?_
   | refine itF ?_
   | (simp only [nr2] at h ⊢)
   | (exfalso; omega))
theorem spec_l7Segments.go {k : Nat} {l0 : List S77} {t} (h : spec_l7Segments.f k l0 = some t) (K : Nat) (hK : k ≤ K) : spec_l7Segments.run K (l0, ()) = some (spec_l7Segments.toH t) := by
  rw [spec_l7Segments.ef]
  (try dsimp only)
  unfold spec_l7Segments.f at h
  repeat' (with_reducible first
   | exact nos h
   | (cases some_inj h; exact spec_l7Segments.rt _)
   | exact (spec_l7Segments.br _) _ (by omega) _ _ _ _ h
   | (simp only [Option.bind_some] at h)
   | (refine ite_by h ?_ ?_ <;> (intro hc h; (try simp only [nrm] at hc)))
   | refine itT ?_
   | refine itF ?_
   | (simp only [nr2] at h ⊢)
   | (exfalso; omega))
def spec_IsRing.Fs : List (Spc env) := [spec_l1In.spec, spec_l7Segments.spec, spec_IsSegment.spec, spec_HowMeet.spec]
def spec_IsRing.fin : St eΓ → Option (HL eΓ [.b]) := finR env Try.f68.results.toList [.b]
def spec_IsRing.cut : Nat → Option (List (Lv SC)) := lk [(5, [⟨3, none, false⟩, ⟨4, none, false⟩]), (10, [⟨3, none, false⟩, ⟨4, none, false⟩, ⟨5, none, false⟩])]
def spec_IsRing.ret (r0 : Bool) : Option (HL eΓ [.b]) := some (r0, ())
def spec_IsRing.p5 (k : Nat) (x4 : Int) (x3 : List S95) : Option (HL eΓ [.b]) := evM env spec_IsRing.Fs Try.f68.ntmps spec_IsRing.fin spec_IsRing.cut k [.code (sub_ [1, 1, 1, 0, 1, 0, 0, 0, 0] (bodyOf Try.f68)), .code (sub_ [1, 1, 1, 0, 1, 0, 0, 0, 1] (bodyOf Try.f68)), .code (sub_ [1, 1, 1, 0, 1, 0, 0, 1] (bodyOf Try.f68)), .lp (sub_ [1, 1, 1, 0, 1, 0, 0] (bodyOf Try.f68)), .blk 0, .code (sub_ [1, 1, 1, 1] (bodyOf Try.f68))] (mkSt [(3, .c (.sl 0)), (4, .c (.v (.int .i64 x4)))] [.row .own 95 (.st .s95) x3])
def spec_IsRing.p10 (k : Nat) (x4 : Int) (x5 : Int) (x3 : List S95) : Option (HL eΓ [.b]) := evM env spec_IsRing.Fs Try.f68.ntmps spec_IsRing.fin spec_IsRing.cut k [.code (sub_ [1, 1, 1, 0, 1, 0, 0, 1, 0, 0, 1, 1, 0, 0, 0, 0] (bodyOf Try.f68)), .code (sub_ [1, 1, 1, 0, 1, 0, 0, 1, 0, 0, 1, 1, 0, 0, 0, 1] (bodyOf Try.f68)), .code (sub_ [1, 1, 1, 0, 1, 0, 0, 1, 0, 0, 1, 1, 0, 0, 1] (bodyOf Try.f68)), .lp (sub_ [1, 1, 1, 0, 1, 0, 0, 1, 0, 0, 1, 1, 0, 0] (bodyOf Try.f68)), .blk 2, .blk 1, .code (sub_ [1, 1, 1, 0, 1, 0, 0, 1, 1] (bodyOf Try.f68)), .lp (sub_ [1, 1, 1, 0, 1, 0, 0] (bodyOf Try.f68)), .blk 0, .code (sub_ [1, 1, 1, 1] (bodyOf Try.f68))] (mkSt [(3, .c (.sl 0)), (4, .c (.v (.int .i64 x4))), (5, .c (.v (.int .i64 x5)))] [.row .own 95 (.st .s95) x3])
theorem spec_IsRing.e5 (k : Nat) (x4 : Int) (x3 : List S95) : spec_IsRing.p5 (k + 1) x4 x3 = if x4 < (x3.length : Int) then (if 0 ≤ x4 then (if x4 < (x3.length : Int) then (spec_IsSegment.ap k (⟨(⟨(rd_T95 x3 x4).f0.f0, (rd_T95 x3 x4).f0.f1⟩ : S77), (⟨(rd_T95 x3 x4).f1.f0, (rd_T95 x3 x4).f1.f1⟩ : S77)⟩ : S95) fun r1 => if (!r1) = true then (spec_IsRing.ret false) else (spec_IsRing.p10 k x4 0 x3)) else none) else none) else (spec_IsRing.ret true) := by kernel_rfl
theorem spec_IsRing.e10 (k : Nat) (x4 : Int) (x5 : Int) (x3 : List S95) : spec_IsRing.p10 (k + 1) x4 x5 x3 = if x5 < x4 then (if (wrap64 (x5 + 1)) = x4 then (if 0 ≤ x4 then (if x4 < (x3.length : Int) then (if 0 ≤ x5 then (if x5 < (x3.length : Int) then (spec_HowMeet.ap k (⟨(⟨(rd_T95 x3 x4).f0.f0, (rd_T95 x3 x4).f0.f1⟩ : S77), (⟨(rd_T95 x3 x4).f1.f0, (rd_T95 x3 x4).f1.f1⟩ : S77)⟩ : S95) (⟨(⟨(rd_T95 x3 x5).f0.f0, (rd_T95 x3 x5).f0.f1⟩ : S77), (⟨(rd_T95 x3 x5).f1.f0, (rd_T95 x3 x5).f1.f1⟩ : S77)⟩ : S95) fun r1 => if ¬ r1 = 1 then (spec_IsRing.ret false) else (spec_IsRing.p10 k x4 (wrap64 (x5 + 1)) x3)) else none) else none) else none) else none) else (if x5 = 0 then (if (wrap64 (x4 + 1)) = (x3.length : Int) then (if 0 ≤ x4 then (if x4 < (x3.length : Int) then (if 0 ≤ x5 then (if x5 < (x3.length : Int) then (spec_HowMeet.ap k (⟨(⟨(rd_T95 x3 x4).f0.f0, (rd_T95 x3 x4).f0.f1⟩ : S77), (⟨(rd_T95 x3 x4).f1.f0, (rd_T95 x3 x4).f1.f1⟩ : S77)⟩ : S95) (⟨(⟨(rd_T95 x3 x5).f0.f0, (rd_T95 x3 x5).f0.f1⟩ : S77), (⟨(rd_T95 x3 x5).f1.f0, (rd_T95 x3 x5).f1.f1⟩ : S77)⟩ : S95) fun r2 => if ¬ r2 = 1 then (spec_IsRing.ret false) else (spec_IsRing.p10 k x4 (wrap64 (x5 + 1)) x3)) else none) else none) else none) else none) else (if 0 ≤ x4 then (if x4 < (x3.length : Int) then (if 0 ≤ x5 then (if x5 < (x3.length : Int) then (spec_HowMeet.ap k (⟨(⟨(rd_T95 x3 x4).f0.f0, (rd_T95 x3 x4).f0.f1⟩ : S77), (⟨(rd_T95 x3 x4).f1.f0, (rd_T95 x3 x4).f1.f1⟩ : S77)⟩ : S95) (⟨(⟨(rd_T95 x3 x5).f0.f0, (rd_T95 x3 x5).f0.f1⟩ : S77), (⟨(rd_T95 x3 x5).f1.f0, (rd_T95 x3 x5).f1.f1⟩ : S77)⟩ : S95) fun r3 => if ¬ r3 = 0 then (spec_IsRing.ret false) else (spec_IsRing.p10 k x4 (wrap64 (x5 + 1)) x3)) else none) else none) else none) else none)) else (if 0 ≤ x4 then (if x4 < (x3.length : Int) then (if 0 ≤ x5 then (if x5 < (x3.length : Int) then (spec_HowMeet.ap k (⟨(⟨(rd_T95 x3 x4).f0.f0, (rd_T95 x3 x4).f0.f1⟩ : S77), (⟨(rd_T95 x3 x4).f1.f0, (rd_T95 x3 x4).f1.f1⟩ : S77)⟩ : S95) (⟨(⟨(rd_T95 x3 x5).f0.f0, (rd_T95 x3 x5).f0.f1⟩ : S77), (⟨(rd_T95 x3 x5).f1.f0, (rd_T95 x3 x5).f1.f1⟩ : S77)⟩ : S95) fun r4 => if ¬ r4 = 0 then (spec_IsRing.ret false) else (spec_IsRing.p10 k x4 (wrap64 (x5 + 1)) x3)) else none) else none) else none) else none))) else (spec_IsRing.p5 k (wrap64 (x4 + 1)) x3) := by kernel_rfl
def spec_IsRing.run (k : Nat) (h : HL eΓ [.l 77 (.st .s77)]) : Option (HL eΓ [.b]) := evF env spec_IsRing.Fs Try.f68 spec_IsRing.cut [.l 77 (.st .s77)] [.b] k h
theorem spec_IsRing.ef (k : Nat) (h0 : List S77) : spec_IsRing.run k (h0, ()) = spec_l1In.ap k (h0.length : Int) 3 10 fun r1 => if (!r1) = true then (spec_IsRing.ret false) else (spec_l7Segments.ap k h0 fun r2 => spec_IsRing.p5 k 0 r2) := by kernel_rfl
def spec_IsRing.toH (t : Bool) : HL eΓ [.b] := (t, ())
def spec_IsRing.spec : Spc env := ⟨68, [.l 77 (.st .s77)], [.b], spec_IsRing.run⟩
def spec_IsRing.ap {R : Type} (k : Nat) (h0 : List S77) (K : Bool → Option R) : Option R := (spec_IsRing.run k (h0, ())).bind fun r => K (r.1 : Bool)
theorem spec_IsRing.ap_of {R : Type} {k : Nat} {h0 : List S77} {r0 : Bool} {K : Bool → Option R} (h : spec_IsRing.run k (h0, ()) = some (r0, ())) : spec_IsRing.ap k h0 K = K r0 := by unfold spec_IsRing.ap; rw [h]; rfl
theorem spec_IsRing.snd : Snd env spec_IsRing.spec := evF_snd env_ok (sndC spec_l1In.snd (sndC spec_l7Segments.snd (sndC spec_IsSegment.snd (sndC spec_HowMeet.snd (sndN)))))
attribute [local irreducible] spec_IsRing.run
theorem spec_IsRing.rt (a0 : Bool) : spec_IsRing.ret a0 = some (spec_IsRing.toH (a0)) := rfl
theorem spec_IsRing.br (n : Nat) : (∀ K, n ≤ K → ∀ (x4 : Int) (x3 : List S95) t, spec_IsRing.l0 n x3 x4 = some t → spec_IsRing.p5 K x4 x3 = some (spec_IsRing.toH t)) ∧ (∀ K, n ≤ K → ∀ (x4 : Int) (x5 : Int) (x3 : List S95) t, spec_IsRing.l1 n x3 x4 x5 = some t → spec_IsRing.p10 K x4 x5 x3 = some (spec_IsRing.toH t)) := by
  induction n using Nat.strongRecOn with
  | _ n ih =>
  refine ⟨fun K hK x4 x3 t h => ?_, fun K hK x4 x5 x3 t h => ?_⟩
  all_goals (rcases n with _ | k)
  all_goals (try (exact nos h))
  all_goals (obtain ⟨K, rfl⟩ : ∃ q, K = q + 1 := ⟨K - 1, by omega⟩)
  all_goals (first | rw [spec_IsRing.e5] | rw [spec_IsRing.e10])
  all_goals (simp only [spec_IsRing.l0, spec_IsRing.l1] at h)
  repeat' (with_reducible first
   | exact nos h
   | (cases some_inj h; exact spec_IsRing.rt _)
   | exact (ih _ (by omega)).1 _ (by omega) _ _ _ h
   | exact (ih _ (by omega)).2 _ (by omega) _ _ _ _ h
   | ((have q : spec_IsRing.j2 k _ _ _ _ _ = some _ := h; clear q); rcases k with _ | k <;> simp only [spec_IsRing.j2, reduceCtorEq] at h)
   | (simp only [Option.bind_some] at h)
   | (refine ite_by h ?_ ?_ <;> (intro hc h; (try simp only [nrm] at hc)))
   | refine itT ?_
   | refine itF ?_
   | (refine bind_by h (fun t ht h => ?_); (first | refine (spec_l1In.ap_of (spec_l1In.go ht _)).trans ?_ | refine (spec_l7Segments.ap_of (spec_l7Segments.go ht _ (by omega))).trans ?_ | refine (spec_IsSegment.ap_of (spec_IsSegment.go ht _)).trans ?_ | refine (spec_HowMeet.ap_of (spec_HowMeet.go ht _)).trans ?_); (try dsimp only at h ⊢))
   | (simp only [nr2] at h ⊢)
   | (exfalso; omega))
theorem spec_IsRing.go {k : Nat} {l0 : List S77} {t} (h : spec_IsRing.f k l0 = some t) (K : Nat) (hK : k ≤ K) : spec_IsRing.run K (l0, ()) = some (spec_IsRing.toH t) := by
  rw [spec_IsRing.ef]
  (try dsimp only)
  unfold spec_IsRing.f at h
  repeat' (with_reducible first
   | exact nos h
   | (cases some_inj h; exact spec_IsRing.rt _)
   | exact (spec_IsRing.br _).1 _ (by omega) _ _ _ h
   | exact (spec_IsRing.br _).2 _ (by omega) _ _ _ _ h
   | ((have q : spec_IsRing.j2 k _ _ _ _ _ = some _ := h; clear q); rcases k with _ | k <;> simp only [spec_IsRing.j2, reduceCtorEq] at h)
   | (simp only [Option.bind_some] at h)
   | (refine ite_by h ?_ ?_ <;> (intro hc h; (try simp only [nrm] at hc)))
   | refine itT ?_
   | refine itF ?_
   | (refine bind_by h (fun t ht h => ?_); (first | refine (spec_l1In.ap_of (spec_l1In.go ht _)).trans ?_ | refine (spec_l7Segments.ap_of (spec_l7Segments.go ht _ (by omega))).trans ?_ | refine (spec_IsSegment.ap_of (spec_IsSegment.go ht _)).trans ?_ | refine (spec_HowMeet.ap_of (spec_HowMeet.go ht _)).trans ?_); (try dsimp only at h ⊢))
   | (simp only [nr2] at h ⊢)
   | (exfalso; omega))
theorem spec_IsRing.calls (k : Nat) (A0 : Option Addr) (c0 : Nat) (l0 : List (S77)) (r : Bool) (w : World) (hr0 : Kd.C k77 w A0 l0.length l0) (hc0 : l0.length ≤ c0) (h : spec_IsRing.f k l0 = some r) :
  Calls Try.prog 68 #[.slice A0 l0.length c0] w fun e w' => e = .returned (.bool r) ∧ Below w.heap.size w w' := by
  refine (spec_IsRing.snd.calls _ _ _ (spec_IsRing.go h k (Nat.le_refl k)) w [.slice A0 l0.length c0] ⟨⟨_, _, rfl, hc0, hr0⟩, trivial⟩).mono ?_
  rintro e w' ⟨v, rfl, hB, vs, oks, rfl, hR, _⟩
  obtain ⟨x0_, vs, o0_, oks, rfl, rfl, m0_, hR⟩ := rmsC hR
  obtain rfl := rmsN hR
  obtain rfl := List.singleton_inj.1 (show [x0_] = [Value.bool r] from m0_)
  exact ⟨rfl, hB⟩
def spec_TwiceArea.Fs : List (Spc env) := [spec_l7Segments.spec, spec_IsRing.spec]
def spec_TwiceArea.fin : St eΓ → Option (HL eΓ [.i .i64]) := finR env Try.f102.results.toList [.i .i64]
def spec_TwiceArea.cut : Nat → Option (List (Lv SC)) := lk [(4, [⟨0, none, false⟩, ⟨3, none, false⟩, ⟨4, none, false⟩, ⟨5, none, false⟩])]
def spec_TwiceArea.ret (r0 : Int) : Option (HL eΓ [.i .i64]) := some (r0, ())
def spec_TwiceArea.p4 (k : Nat) (x3 : Int) (x5 : Int) (x0 : List S77) (x4 : List S95) : Option (HL eΓ [.i .i64]) := evM env spec_TwiceArea.Fs Try.f102.ntmps spec_TwiceArea.fin spec_TwiceArea.cut k [.code (sub_ [1, 1, 1, 0, 1, 0, 0, 0, 0] (bodyOf Try.f102)), .code (sub_ [1, 1, 1, 0, 1, 0, 0, 0, 1] (bodyOf Try.f102)), .code (sub_ [1, 1, 1, 0, 1, 0, 0, 1] (bodyOf Try.f102)), .lp (sub_ [1, 1, 1, 0, 1, 0, 0] (bodyOf Try.f102)), .blk 0, .code (sub_ [1, 1, 1, 1] (bodyOf Try.f102))] (mkSt [(0, .c (.sl 0)), (3, .c (.v (.int .i64 x3))), (4, .c (.sl 1)), (5, .c (.v (.int .i64 x5)))] [.row .ro 77 (.st .s77) x0, .row .own 95 (.st .s95) x4])
theorem spec_TwiceArea.e4 (k : Nat) (x3 : Int) (x5 : Int) (x0 : List S77) (x4 : List S95) : spec_TwiceArea.p4 (k + 1) x3 x5 x0 x4 = if x5 < (x4.length : Int) then (spec_IsRing.ap k x0 fun r1 => if r1 = true then (if 0 ≤ x5 then (if x5 < (x4.length : Int) then (if 0 ≤ x5 then (if x5 < (x4.length : Int) then (if 0 ≤ x5 then (if x5 < (x4.length : Int) then (if 0 ≤ x5 then (if x5 < (x4.length : Int) then (spec_TwiceArea.p4 k (wrap64 ((wrap64 (x3 + (wrap64 (((rd_T95 x4 x5).f0.f0) * ((rd_T95 x4 x5).f1.f1))))) - (wrap64 (((rd_T95 x4 x5).f0.f1) * ((rd_T95 x4 x5).f1.f0))))) (wrap64 (x5 + 1)) x0 x4) else none) else none) else none) else none) else none) else none) else none) else none) else (spec_TwiceArea.ret x3)) else (spec_TwiceArea.ret x3) := by kernel_rfl
def spec_TwiceArea.run (k : Nat) (h : HL eΓ [.l 77 (.st .s77)]) : Option (HL eΓ [.i .i64]) := evF env spec_TwiceArea.Fs Try.f102 spec_TwiceArea.cut [.l 77 (.st .s77)] [.i .i64] k h
theorem spec_TwiceArea.ef (k : Nat) (h0 : List S77) : spec_TwiceArea.run k (h0, ()) = spec_l7Segments.ap k h0 fun r1 => spec_TwiceArea.p4 k 0 0 h0 r1 := by kernel_rfl
def spec_TwiceArea.toH (t : Int) : HL eΓ [.i .i64] := (t, ())
def spec_TwiceArea.spec : Spc env := ⟨102, [.l 77 (.st .s77)], [.i .i64], spec_TwiceArea.run⟩
def spec_TwiceArea.ap {R : Type} (k : Nat) (h0 : List S77) (K : Int → Option R) : Option R := (spec_TwiceArea.run k (h0, ())).bind fun r => K (r.1 : Int)
theorem spec_TwiceArea.ap_of {R : Type} {k : Nat} {h0 : List S77} {r0 : Int} {K : Int → Option R} (h : spec_TwiceArea.run k (h0, ()) = some (r0, ())) : spec_TwiceArea.ap k h0 K = K r0 := by unfold spec_TwiceArea.ap; rw [h]; rfl
theorem spec_TwiceArea.snd : Snd env spec_TwiceArea.spec := evF_snd env_ok (sndC spec_l7Segments.snd (sndC spec_IsRing.snd (sndN)))
attribute [local irreducible] spec_TwiceArea.run
theorem spec_TwiceArea.rt (a0 : Int) : spec_TwiceArea.ret a0 = some (spec_TwiceArea.toH (a0)) := rfl
theorem spec_TwiceArea.br (n : Nat) : (∀ K, n ≤ K → ∀ (x3 : Int) (x5 : Int) (x0 : List S77) (x4 : List S95) t, spec_TwiceArea.l0 n x0 x3 x4 x5 = some t → spec_TwiceArea.p4 K x3 x5 x0 x4 = some (spec_TwiceArea.toH t)) := by
  induction n using Nat.strongRecOn with
  | _ n ih =>
  intro K hK x3 x5 x0 x4 t h
  all_goals (rcases n with _ | k)
  all_goals (try (exact nos h))
  all_goals (obtain ⟨K, rfl⟩ : ∃ q, K = q + 1 := ⟨K - 1, by omega⟩)
  all_goals (first | rw [spec_TwiceArea.e4])
  all_goals (simp only [spec_TwiceArea.l0] at h)
  repeat' (with_reducible first
   | exact nos h
   | (cases some_inj h; exact spec_TwiceArea.rt _)
   | exact (ih _ (by omega)) _ (by omega) _ _ _ _ _ h
   | (simp only [Option.bind_some] at h)
   | (refine ite_by h ?_ ?_ <;> (intro hc h; (try simp only [nrm] at hc)))
   | refine itT ?_
   | refine itF ?_
   | (refine bind_by h (fun t ht h => ?_); (first | refine (spec_l7Segments.ap_of (spec_l7Segments.go ht _ (by omega))).trans ?_ | refine (spec_IsRing.ap_of (spec_IsRing.go ht _ (by omega))).trans ?_); (try dsimp only at h ⊢))
   | (simp only [nr2] at h ⊢)
   | (exfalso; omega))
theorem spec_TwiceArea.go {k : Nat} {l0 : List S77} {t} (h : spec_TwiceArea.f k l0 = some t) (K : Nat) (hK : k ≤ K) : spec_TwiceArea.run K (l0, ()) = some (spec_TwiceArea.toH t) := by
  rw [spec_TwiceArea.ef]
  (try dsimp only)
  unfold spec_TwiceArea.f at h
  repeat' (with_reducible first
   | exact nos h
   | (cases some_inj h; exact spec_TwiceArea.rt _)
   | exact (spec_TwiceArea.br _) _ (by omega) _ _ _ _ _ h
   | (simp only [Option.bind_some] at h)
   | (refine ite_by h ?_ ?_ <;> (intro hc h; (try simp only [nrm] at hc)))
   | refine itT ?_
   | refine itF ?_
   | (refine bind_by h (fun t ht h => ?_); (first | refine (spec_l7Segments.ap_of (spec_l7Segments.go ht _ (by omega))).trans ?_ | refine (spec_IsRing.ap_of (spec_IsRing.go ht _ (by omega))).trans ?_); (try dsimp only at h ⊢))
   | (simp only [nr2] at h ⊢)
   | (exfalso; omega))
def spec_SameTurn.Fs : List (Spc env) := [spec_TwiceArea.spec]
def spec_SameTurn.cut : Nat → Option (List (Lv SC)) := lk []
def spec_SameTurn.ret (r0 : Bool) : Option (HL eΓ [.b]) := some (r0, ())
def spec_SameTurn.run (k : Nat) (h : HL eΓ [.l 77 (.st .s77), .l 77 (.st .s77)]) : Option (HL eΓ [.b]) := evF env spec_SameTurn.Fs Try.f69 spec_SameTurn.cut [.l 77 (.st .s77), .l 77 (.st .s77)] [.b] k h
theorem spec_SameTurn.ef (k : Nat) (h0 : List S77) (h1 : List S77) : spec_SameTurn.run k (h0, h1, ()) = spec_TwiceArea.ap k h0 fun r1 => spec_TwiceArea.ap k h1 fun r2 => if r1 > 0 then (if r2 > 0 then (spec_SameTurn.ret true) else (if r1 < 0 then (spec_SameTurn.ret (decide (r2 < 0))) else (spec_SameTurn.ret false))) else (if r1 < 0 then (spec_SameTurn.ret (decide (r2 < 0))) else (spec_SameTurn.ret false)) := by kernel_rfl
def spec_SameTurn.toH (t : Bool) : HL eΓ [.b] := (t, ())
def spec_SameTurn.spec : Spc env := ⟨69, [.l 77 (.st .s77), .l 77 (.st .s77)], [.b], spec_SameTurn.run⟩
theorem spec_SameTurn.snd : Snd env spec_SameTurn.spec := evF_snd env_ok (sndC spec_TwiceArea.snd (sndN))
attribute [local irreducible] spec_SameTurn.run
theorem spec_SameTurn.rt (a0 : Bool) : spec_SameTurn.ret a0 = some (spec_SameTurn.toH (a0)) := rfl
theorem spec_SameTurn.go {k : Nat} {l0 : List S77} {l1 : List S77} {t} (h : spec_SameTurn.f k l0 l1 = some t) (K : Nat) (hK : k ≤ K) : spec_SameTurn.run K (l0, l1, ()) = some (spec_SameTurn.toH t) := by
  rw [spec_SameTurn.ef]
  (try dsimp only)
  unfold spec_SameTurn.f at h
  repeat' (with_reducible first
   | exact nos h
   | (cases some_inj h; exact spec_SameTurn.rt _)
   | (simp only [Option.bind_some] at h)
   | (refine ite_by h ?_ ?_ <;> (intro hc h; (try simp only [nrm] at hc)))
   | refine itT ?_
   | refine itF ?_
   | (refine bind_by h (fun t ht h => ?_); refine (spec_TwiceArea.ap_of (spec_TwiceArea.go ht _ (by omega))).trans ?_; (try dsimp only at h ⊢))
   | (simp only [nr2] at h ⊢)
   | (exfalso; omega))
theorem spec_SameTurn.calls (k : Nat) (A0 : Option Addr) (c0 : Nat) (l0 : List (S77)) (A1 : Option Addr) (c1 : Nat) (l1 : List (S77)) (r : Bool) (w : World) (hr0 : Kd.C k77 w A0 l0.length l0) (hc0 : l0.length ≤ c0) (hr1 : Kd.C k77 w A1 l1.length l1) (hc1 : l1.length ≤ c1) (h : spec_SameTurn.f k l0 l1 = some r) :
  Calls Try.prog 69 #[.slice A0 l0.length c0, .slice A1 l1.length c1] w fun e w' => e = .returned (.bool r) ∧ Below w.heap.size w w' := by
  refine (spec_SameTurn.snd.calls _ _ _ (spec_SameTurn.go h k (Nat.le_refl k)) w [.slice A0 l0.length c0, .slice A1 l1.length c1] ⟨⟨_, _, rfl, hc0, hr0⟩, ⟨_, _, rfl, hc1, hr1⟩, trivial⟩).mono ?_
  rintro e w' ⟨v, rfl, hB, vs, oks, rfl, hR, _⟩
  obtain ⟨x0_, vs, o0_, oks, rfl, rfl, m0_, hR⟩ := rmsC hR
  obtain rfl := rmsN hR
  obtain rfl := List.singleton_inj.1 (show [x0_] = [Value.bool r] from m0_)
  exact ⟨rfl, hB⟩
set_option maxHeartbeats 8000000 in
set_option maxRecDepth 100000 in
theorem spec_DropCorner.calls (k : Nat) (A0 : Option Addr) (c0 : Nat) (l0 : List (S77)) (a1 : Int) (r1 : List (S77)) (r2 : Bool) (w : World) (hr0 : Kd.C k77 w A0 l0.length l0) (hc0 : l0.length ≤ c0) (h : spec_DropCorner.f k l0 a1 = some (r1, r2)) :
  Calls Try.prog 39 #[.slice A0 l0.length c0, .int .i64 a1] w fun e w' => ∃ v0_ : Value, e = .returned (.tuple #[v0_, .bool r2]) ∧ Kd.R k77 77 w' w.heap.size (fun _ => True) v0_ r1 ∧ Below w.heap.size w w' := by
 have HR0 := Aside0.mk hr0; have HC0 := Aside0.mk hc0; clear hr0 hc0; have HB := Aside0.mk (Below.refl w.heap.size w); have H : ((spec_IsRing.f k l0).bind fun t198 => (if t198 = true then ((spec_l1In.f a1 0 (wrap64 ((l0.length : Int) - 1))).bind fun t199 => (spec_DropCorner.j0 k l0 a1 (!t199))) else (spec_DropCorner.j0 k l0 a1 true))) = some (r1, r2) := h; clear h; have HC3 := Aside0.mk H; clear H
 go_enter Try.func39, Try.ntmps39
 go_upto_region 1 with (fail)
 go_cut [17] (fun v17 wc => ∃ (kq : Nat) (x17_2 : Bool), v17 = .bool x17_2 ∧ Aside0 (spec_DropCorner.j0 kq l0 a1 x17_2 = some (r1, r2)) ∧ Aside0 (kq ≤ k) ∧ Aside0 (Below w.heap.size w wc))
 case first =>
  have H := HC3.out; clear HC3; replace H := Option.bind_eq_some_iff.mp H; obtain ⟨t198, A40, H⟩ := H; have A4 := Aside0.mk A40; clear A40
  by_cases c5 : t198 = true
  ·subst c5; replace H := ift H; replace H := Option.bind_eq_some_iff.mp H; obtain ⟨t199, A60, H⟩ := H; have A6 := Aside0.mk A60; clear A60; have H' := Aside0.mk H; clear H; go_wp2_with (first | ((with_reducible refine gt (some 8) rfl ?_); refine gc Try.func68 (spec_IsRing.calls k _ _ l0 true _ cz0 HC0.out A4.out) ?_; rintro e w7 ⟨rfl, hb⟩; refine ⟨_, rfl, ?_⟩; replace HB := Aside0.mk (below_step bz hb); (try clear hb)) | (go_at_call 67; (with_reducible refine (spec_l1In.calls a1 0 (wrap64 ((l0.length : Int) - 1)) t199 _ A6.out).mono ?_); rintro e w' ⟨rfl, ⟨nd, rfl⟩⟩))
   go_meet
   case rel => exact ⟨_, (!t199), rz, H', ⟨qz⟩, ⟨bz⟩⟩
  ·replace c5 := Bool.eq_false_iff.mpr c5; subst c5; replace H := iff_ H; have H' := Aside0.mk H; clear H; go_wp2_with (first | ((with_reducible refine gt (some 8) rfl ?_); refine gc Try.func68 (spec_IsRing.calls k _ _ l0 false _ cz0 HC0.out A4.out) ?_; rintro e w8 ⟨rfl, hb⟩; refine ⟨_, rfl, ?_⟩; replace HB := Aside0.mk (below_step bz hb); (try clear hb)))
   go_meet
   case rel => exact ⟨_, (true), rz, H', ⟨qz⟩, ⟨bz⟩⟩
 case rest =>
  clear HC3; (try clear p2); (try clear c3); (try clear c5); (try clear c6); (try clear p6); obtain ⟨kq, x17_2, rfl, HA, HJ2, HB⟩ := hcut
  cases kq with
  | zero => exact absurd HA.out (by simp [spec_DropCorner.j0])
  | succ kj2 =>
   have H := HA.out; clear HA; simp only [spec_DropCorner.j0] at H
   by_cases c9 : x17_2 = true
   ·subst c9; replace H := ift H; obtain ⟨y200, hy200⟩ : ∃ y_ : List (S77), y_ = (([] : List (S77))) := ⟨_, rfl⟩
    replace H : (if y200.length + l0.length < 8796093022208 then (some ((y200 ++ l0), false)) else (none)) = some (r1, r2) := by first | (rw [hy200]; with_reducible exact H) | (have H2_ := (Option.bind_some _ _).symm.trans H; rw [hy200]; with_reducible exact H2_) | (have H2_ := (Option.bind_some _ _).symm.trans H; with_reducible exact H2_) | with_reducible exact H | (rw [hy200]; exact H) | exact H
    have Ny200 := Aside0.mk hy200; clear hy200
    by_cases c10 : y200.length + l0.length < 8796093022208
    ·rw [if_pos c10] at H; have LMc10 := Aside0.mk c10; clear c10; obtain ⟨y203, hy203⟩ : ∃ y_ : List (S77), y_ = (y200 ++ l0) := ⟨_, rfl⟩
     replace H : (some (y203, false)) = some (r1, r2) := by first | (rw [hy203]; with_reducible exact H) | (have H2_ := (Option.bind_some _ _).symm.trans H; rw [hy203]; with_reducible exact H2_) | (have H2_ := (Option.bind_some _ _).symm.trans H; with_reducible exact H2_) | with_reducible exact H | (rw [hy203]; exact H) | exact H
     have Ny203 := Aside0.mk hy203; clear hy203; simp only [Option.some.injEq, Prod.mk.injEq] at H; obtain ⟨rfl, rfl⟩ := H; go_wp2_with (first | ((with_reducible refine gate_dst (N := 18) rfl ?_); (try (refine gate_guard (by rfl) ?_; dsimp only)); refine Kd.R_lit k77 _ 77 ?hg (N := 18) ?hd (xs := ([] : List (S77))) (inner := []) (ok := fun _ => True) (okp := fun _ => True) ?hr ?hp (fun _ hk => hk) trivial (Below.refl _ _) (Nat.le_refl _) (by simp) ?_; (case hd => rfl); (case hg => rfl); (case hr => first | (go_simp; done) | (go_simp; rfl)); (case hp => exact (Reps.none _ _)); intro v201 w11 ho12 hb hg_ hnew_; clear hg_ hnew_; (first | rw [← Ny200.out] at ho12 | (simp only [Int.reduceToNat] at ho12; rw [← Ny200.out] at ho12)); have HO202 := Aside0.mk (Kd.R_lower ho12 (below_size bz)); replace HB := Aside0.mk (below_step bz hb); clear hb ho12) | ((with_reducible refine gate_builtin (b := .append) (xs := #[.tmp 18, .tmp 19]) rfl ?_); (try (refine gate_guard (by rfl) ?_; dsimp only)); at_builtin; refine Kd.R_append_rows k77 (w0 := w) w.heap.size rfl (.tmp 18) (.tmp 19) 26 77 (.agg #[(.int .i64 0), (.int .i64 0)]) 16 rfl Try.underlying26 info77 rfl (by decide) (by omega) v201 y200 l0 _ _ _ (fun _ => True) (fun _ => False) rfl rfl ?aO ?aR (fun _ _ h => h) (fun _ h => h.elim) ?aF ?aB ?aS ?aL ?_; (case aR => exact cz0); (case aB => exact bz); (case aF => exact (fun _ _ => trivial)); (case aO => exact (hr HO202.out)); (case aS => exact (below_size bz)); (case aL => have := LMc10.out; omega); intro v204 w13 ho hb hg hat; rw [← Ny203.out] at ho; have n0_ := Aside0.mk (hb); have n1_ := Aside0.mk (ho); clear HB; clear HO202; have HB := n0_; have HO205 := n1_; clear n0_ n1_; clear ho hb hg hat))
     go_ret2
     exact ⟨_, ez, hr HO205.out, bz⟩
    ·rw [if_neg c10] at H
     exact absurd H (by simp)
   ·replace c9 := Bool.eq_false_iff.mpr c9; subst c9; replace H := iff_ H; obtain ⟨y206, hy206⟩ : ∃ y_ : List (S77), y_ = (([] : List (S77))) := ⟨_, rfl⟩
    replace H : (if 0 ≤ a1 then (if a1 ≤ (l0.length : Int) then ((some (l0.take (a1 : Int).toNat : List (S77))).bind fun y209 => (if y206.length + y209.length < 8796093022208 then ((some (y206 ++ y209 : List (S77))).bind fun y213 => (if 0 ≤ (wrap64 (a1 + 1)) then (if (wrap64 (a1 + 1)) ≤ (l0.length : Int) then ((some (l0.drop ((wrap64 (a1 + 1)) : Int).toNat : List (S77))).bind fun y216 => (if y213.length + y216.length < 8796093022208 then ((some (y213 ++ y216 : List (S77))).bind fun y220 => ((spec_IsRing.f kj2 y220).bind fun t223 => (if t223 = true then ((spec_SameTurn.f kj2 l0 y220).bind fun t224 => (if t224 = true then (some (y220, true)) else ((some (([] : List (S77)) : List (S77))).bind fun y225 => (if y225.length + l0.length < 8796093022208 then (some ((y225 ++ l0), false)) else (none))))) else ((some (([] : List (S77)) : List (S77))).bind fun y231 => (if y231.length + l0.length < 8796093022208 then (some ((y231 ++ l0), false)) else (none)))))) else (none))) else (none)) else (none))) else (none))) else (none)) else (none)) = some (r1, r2) := by first | (rw [hy206]; with_reducible exact H) | (have H2_ := (Option.bind_some _ _).symm.trans H; rw [hy206]; with_reducible exact H2_) | (have H2_ := (Option.bind_some _ _).symm.trans H; with_reducible exact H2_) | with_reducible exact H | (rw [hy206]; exact H) | exact H
    have Ny206 := Aside0.mk hy206; clear hy206
    by_cases c14 : 0 ≤ a1
    ·rw [if_pos c14] at H; have c14b0 := eq_true c14; have c14b1 := decide_eq_true c14; clear c14
     by_cases c15 : a1 ≤ (l0.length : Int)
     ·rw [if_pos c15] at H; have c15b0 := eq_true c15; have c15b1 := decide_eq_true c15; clear c15; obtain ⟨y209, hy209⟩ : ∃ y_ : List (S77), y_ = (l0.take (a1 : Int).toNat) := ⟨_, rfl⟩
      replace H : (if y206.length + y209.length < 8796093022208 then ((some (y206 ++ y209 : List (S77))).bind fun y213 => (if 0 ≤ (wrap64 (a1 + 1)) then (if (wrap64 (a1 + 1)) ≤ (l0.length : Int) then ((some (l0.drop ((wrap64 (a1 + 1)) : Int).toNat : List (S77))).bind fun y216 => (if y213.length + y216.length < 8796093022208 then ((some (y213 ++ y216 : List (S77))).bind fun y220 => ((spec_IsRing.f kj2 y220).bind fun t223 => (if t223 = true then ((spec_SameTurn.f kj2 l0 y220).bind fun t224 => (if t224 = true then (some (y220, true)) else ((some (([] : List (S77)) : List (S77))).bind fun y225 => (if y225.length + l0.length < 8796093022208 then (some ((y225 ++ l0), false)) else (none))))) else ((some (([] : List (S77)) : List (S77))).bind fun y231 => (if y231.length + l0.length < 8796093022208 then (some ((y231 ++ l0), false)) else (none)))))) else (none))) else (none)) else (none))) else (none)) = some (r1, r2) := by first | (rw [hy209]; with_reducible exact H) | (have H2_ := (Option.bind_some _ _).symm.trans H; rw [hy209]; with_reducible exact H2_) | (have H2_ := (Option.bind_some _ _).symm.trans H; with_reducible exact H2_) | with_reducible exact H | (rw [hy209]; exact H) | exact H
      have Ny209 := Aside0.mk hy209; clear hy209
      by_cases c16 : y206.length + y209.length < 8796093022208
      ·rw [if_pos c16] at H; have LMc16 := Aside0.mk c16; clear c16; obtain ⟨y213, hy213⟩ : ∃ y_ : List (S77), y_ = (y206 ++ y209) := ⟨_, rfl⟩
       replace H : (if 0 ≤ (wrap64 (a1 + 1)) then (if (wrap64 (a1 + 1)) ≤ (l0.length : Int) then ((some (l0.drop ((wrap64 (a1 + 1)) : Int).toNat : List (S77))).bind fun y216 => (if y213.length + y216.length < 8796093022208 then ((some (y213 ++ y216 : List (S77))).bind fun y220 => ((spec_IsRing.f kj2 y220).bind fun t223 => (if t223 = true then ((spec_SameTurn.f kj2 l0 y220).bind fun t224 => (if t224 = true then (some (y220, true)) else ((some (([] : List (S77)) : List (S77))).bind fun y225 => (if y225.length + l0.length < 8796093022208 then (some ((y225 ++ l0), false)) else (none))))) else ((some (([] : List (S77)) : List (S77))).bind fun y231 => (if y231.length + l0.length < 8796093022208 then (some ((y231 ++ l0), false)) else (none)))))) else (none))) else (none)) else (none)) = some (r1, r2) := by first | (rw [hy213]; with_reducible exact H) | (have H2_ := (Option.bind_some _ _).symm.trans H; rw [hy213]; with_reducible exact H2_) | (have H2_ := (Option.bind_some _ _).symm.trans H; with_reducible exact H2_) | with_reducible exact H | (rw [hy213]; exact H) | exact H
       have Ny213 := Aside0.mk hy213; clear hy213; obtain ⟨ji17, hji17⟩ : ∃ j_ : Int, (wrap64 (a1 + 1)) = j_ := ⟨_, rfl⟩
       replace H : (if 0 ≤ (ji17) then (if (ji17) ≤ (l0.length : Int) then ((some (l0.drop ((ji17) : Int).toNat : List (S77))).bind fun y216 => (if y213.length + y216.length < 8796093022208 then ((some (y213 ++ y216 : List (S77))).bind fun y220 => ((spec_IsRing.f kj2 y220).bind fun t223 => (if t223 = true then ((spec_SameTurn.f kj2 l0 y220).bind fun t224 => (if t224 = true then (some (y220, true)) else ((some (([] : List (S77)) : List (S77))).bind fun y225 => (if y225.length + l0.length < 8796093022208 then (some ((y225 ++ l0), false)) else (none))))) else ((some (([] : List (S77)) : List (S77))).bind fun y231 => (if y231.length + l0.length < 8796093022208 then (some ((y231 ++ l0), false)) else (none)))))) else (none))) else (none)) else (none)) = some (r1, r2) := by first | (rw [hji17] at H; exact H) | (simp only [hji17] at H ⊢; exact H)
       have hji17w : (IntKind.i64.wrap (a1 + 1)) = ji17 := (i64_w _).trans hji17
       by_cases c18 : 0 ≤ (ji17)
       ·rw [if_pos c18] at H; have c18b0 := eq_true c18; have c18b1 := decide_eq_true c18; clear c18
        by_cases c19 : (ji17) ≤ (l0.length : Int)
        ·rw [if_pos c19] at H; have c19b0 := eq_true c19; have c19b1 := decide_eq_true c19; clear c19; obtain ⟨y216, hy216⟩ : ∃ y_ : List (S77), y_ = (l0.drop ((ji17) : Int).toNat) := ⟨_, rfl⟩
         replace H : (if y213.length + y216.length < 8796093022208 then ((some (y213 ++ y216 : List (S77))).bind fun y220 => ((spec_IsRing.f kj2 y220).bind fun t223 => (if t223 = true then ((spec_SameTurn.f kj2 l0 y220).bind fun t224 => (if t224 = true then (some (y220, true)) else ((some (([] : List (S77)) : List (S77))).bind fun y225 => (if y225.length + l0.length < 8796093022208 then (some ((y225 ++ l0), false)) else (none))))) else ((some (([] : List (S77)) : List (S77))).bind fun y231 => (if y231.length + l0.length < 8796093022208 then (some ((y231 ++ l0), false)) else (none)))))) else (none)) = some (r1, r2) := by first | (rw [hy216]; with_reducible exact H) | (have H2_ := (Option.bind_some _ _).symm.trans H; rw [hy216]; with_reducible exact H2_) | (have H2_ := (Option.bind_some _ _).symm.trans H; with_reducible exact H2_) | with_reducible exact H | (rw [hy216]; exact H) | exact H
         have Ny216 := Aside0.mk hy216; clear hy216
         by_cases c20 : y213.length + y216.length < 8796093022208
         ·rw [if_pos c20] at H; have LMc20 := Aside0.mk c20; clear c20; obtain ⟨y220, hy220⟩ : ∃ y_ : List (S77), y_ = (y213 ++ y216) := ⟨_, rfl⟩
          replace H : ((spec_IsRing.f kj2 y220).bind fun t223 => (if t223 = true then ((spec_SameTurn.f kj2 l0 y220).bind fun t224 => (if t224 = true then (some (y220, true)) else ((some (([] : List (S77)) : List (S77))).bind fun y225 => (if y225.length + l0.length < 8796093022208 then (some ((y225 ++ l0), false)) else (none))))) else ((some (([] : List (S77)) : List (S77))).bind fun y231 => (if y231.length + l0.length < 8796093022208 then (some ((y231 ++ l0), false)) else (none))))) = some (r1, r2) := by first | (rw [hy220]; with_reducible exact H) | (have H2_ := (Option.bind_some _ _).symm.trans H; rw [hy220]; with_reducible exact H2_) | (have H2_ := (Option.bind_some _ _).symm.trans H; with_reducible exact H2_) | with_reducible exact H | (rw [hy220]; exact H) | exact H
          have Ny220 := Aside0.mk hy220; clear hy220; replace H := Option.bind_eq_some_iff.mp H; obtain ⟨t223, A210, H⟩ := H; have A21 := Aside0.mk A210; clear A210
          by_cases c22 : t223 = true
          ·subst c22; replace H := ift H; replace H := Option.bind_eq_some_iff.mp H; obtain ⟨t224, A230, H⟩ := H; have A23 := Aside0.mk A230; clear A230
           by_cases c24 : t224 = true
           ·subst c24; replace H := ift H; simp only [Option.some.injEq, Prod.mk.injEq] at H; obtain ⟨rfl, rfl⟩ := H; (try go_wp2); replace HB := Aside0.mk (below_drew1 HB.out); have q26 : (a1 : Int) ≤ ((l0.length : Int) : Int) := of_decide_eq_true az; obtain ⟨i026, hi026, _, hsz26, _⟩ := info_parts info77; have hroom26 : l0.length ≤ c0 := HC0.out; have hC26 : Kd.C k77 _ A0 l0.length l0 := HR0.out; have hcut26 := cut_to (P := Try.prog) 26 77 .i64 Try.underlying26 hi026 A0 l0.length c0 a1 (of_decide_eq_true az) q26 hroom26; have hr26 := Kd.C_take (m := (a1 : Int).toNat) hC26 (by omega); have hy26 : y209.length = (a1 : Int).toNat := (by rw [Ny209.out, List.length_take]; omega)
            rw [← Ny209.out] at hr26; rw [← hy26] at hcut26; have HR212 := Aside0.mk hr26; have HC212 := Aside0.mk (show y209.length ≤ c0 from by omega); clear hr26 hC26 hroom26 hi026 hsz26; have KY26 := Aside0.mk hy26; clear hy26; replace q26 := eq_true q26; have q27 : ((ji17) : Int) ≤ ((l0.length : Int) : Int) := of_decide_eq_true az; obtain ⟨i027, hi027, _, hsz27, _⟩ := info_parts info77; have hroom27 : l0.length ≤ c0 := HC0.out; have hC27 : Kd.C k77 _ A0 l0.length l0 := HR0.out; have q027 : (0 : Int) ≤ ((ji17) : Int) := of_decide_eq_true az; have hcut27 := cut_from (P := Try.prog) 26 77 .i64 Try.underlying26 hi027 2 hsz27 A0 l0.length c0 (ji17) q027 q27; have hr27 := Kd.C_drop (m := ((ji17) : Int).toNat) (c := c0) hC27 (by omega) hroom27; obtain ⟨A27, hA27⟩ : ∃ A1, A1 = (if c0 = ((ji17) : Int).toNat then A0 else (A0 : Option Addr).map (·.add (((ji17) : Int).toNat * 2))) := ⟨_, rfl⟩
            obtain ⟨c27, hc27⟩ : ∃ c1, c1 = c0 - ((ji17) : Int).toNat := ⟨_, rfl⟩
            have hy27 : y216.length = l0.length - ((ji17) : Int).toNat := (by rw [Ny216.out, List.length_drop] <;> omega)
            rw [show (l0).drop ((ji17) : Int).toNat = y216 from Ny216.out.symm] at hr27; replace hr27 : Kd.C k77 _ A27 y216.length y216 := (by rw [hA27]; exact hr27)
            rw [← hy27, ← hA27, ← hc27] at hcut27; have HR219 := Aside0.mk hr27; have HC219 := Aside0.mk (show y216.length ≤ c27 from by rw [hy27, hc27]; exact Nat.sub_le_sub_right hroom27 _); clear hr27 hC27 hroom27 hi027 hsz27 hc27; have KY27 := Aside0.mk hy27; have KA27 := Aside0.mk hA27; clear hy27 hA27; replace q27 := eq_true q27; refine start_ (n := 11) (S := fun w' => True) (ds := []) #[F,F,F,F,F,F,F,F,F,F,F] (by kernel_rfl) rfl rfl trivial (fun hHeld => ?_); refine with_tabW spec_DropCorner.tab3 spec_DropCorner.bits3 (fun HT_ HW_ => ?_); generalize wc.drew = w25 at HB HR212 HR219 hHeld ⊢; refine pz HT_ 1 22 ?_; refine pz HT_ 2 23 ?_; refine pz HT_ 3 24 ?_; refine pz HT_ 5 26 ?_; refine pz HT_ 6 27 ?_; refine pz HT_ 7 28 ?_; refine pz HT_ 8 29 ?_; refine oz HT_ 0 (some 21) (fun K hK => ?_); refine Kd.R_lit_step k77 _ 77 ?hg (N := 21) ?hd (xs := ([] : List (S77))) (inner := []) (ok := fun _ => True) (okp := fun _ => True) ?hr ?hp (fun _ hk => hk) trivial (Below.refl _ _) (Nat.le_refl _) (by simp) ?_; (case hd => rfl); (case hg => rfl); (case hr => first | (go_simp; done) | (go_simp; rfl)); (case hp => exact (Reps.none _ _)); intro v207 w28 ho29 hb hg_ hnew_; clear hg_ hnew_
            (first | rw [← Ny206.out] at ho29 | (simp only [Int.reduceToNat] at ho29; rw [← Ny206.out] at ho29))
            have HO208 := Aside0.mk (Kd.R_lower ho29 (below_size bz)); replace HB := Aside0.mk (below_step bz hb); clear hb ho29; refine hK.out _ _ trivial (fun hHeld => ?_); clear hK K; refine nz 21 ?_; refine oz HT_ 4 (some 25) (fun K hK => ?_); refine Kd.R_append_rows_step k77 (w0 := w) w.heap.size (by rfl) (.tmp 21) (.tmp 24) 26 77 (.agg #[(.int .i64 0), (.int .i64 0)]) 16 rfl Try.underlying26 info77 rfl (by decide) (by omega) v207 y206 y209 _ _ _ (fun _ => True) (fun _ => False) rfl rfl ?aO ?aR (fun _ _ h => h) (fun _ h => h.elim) ?aF ?aB ?aS ?aL ?_
            (case aR => repeat (first | exact (Kd.C_below HR212.out HB.out) | (with_reducible refine Kd.C_alloc ?_ _) | (with_reducible refine Kd.C_drewN ?_ _) | (with_reducible refine Kd.C_drew ?_)))
            (case aB => exact bz)
            (case aF => exact (fun _ _ => trivial))
            (case aO => exact (hr HO208.out))
            (case aS => exact (below_size bz))
            (case aL => have := LMc16.out; omega)
            intro v214 w30 ho hb hg hat; rw [← Ny213.out] at ho; have n0_ := Aside0.mk (hb); have n1_ := Aside0.mk (ho); clear HB; clear HO208; have HB := n0_; have HO215 := n1_; clear n0_ n1_; clear ho hb hg hat; refine hK.out _ _ trivial (fun hHeld => ?_); clear hK K; refine nz 25 ?_; refine oz HT_ 9 (some 30) (fun K hK => ?_); refine Kd.R_append_rows_step k77 (w0 := w) w.heap.size (by rfl) (.tmp 25) (.tmp 29) 26 77 (.agg #[(.int .i64 0), (.int .i64 0)]) 16 rfl Try.underlying26 info77 rfl (by decide) (by omega) v214 y213 y216 _ _ _ (fun _ => True) (fun _ => False) rfl rfl ?aO ?aR (fun _ _ h => h) (fun _ h => h.elim) ?aF ?aB ?aS ?aL ?_
            (case aR => repeat (first | exact (Kd.C_below HR219.out HB.out) | (with_reducible refine Kd.C_alloc ?_ _) | (with_reducible refine Kd.C_drewN ?_ _) | (with_reducible refine Kd.C_drew ?_)))
            (case aB => exact bz)
            (case aF => exact (fun _ _ => trivial))
            (case aO => exact (hr HO215.out))
            (case aS => exact (below_size bz))
            (case aL => have := LMc20.out; omega)
            intro v221 w31 ho hb hg hat; rw [← Ny220.out] at ho; have n0_ := Aside0.mk (hb); have n1_ := Aside0.mk (ho); clear HB; clear HO215; have HB := n0_; have HO222 := n1_; clear n0_ n1_; clear ho hb hg hat; refine hK.out _ _ trivial (fun hHeld => ?_); clear hK K; refine nz 30 ?_; refine pz HT_ 10 6 ?_; refine dz HT_ ?_; obtain ⟨Ao32, co32, eo32⟩ := Kd.R_slice HO222.out; subst eo32; (try go_wp2_with (first | ((with_reducible refine gt (some 32) rfl ?_); refine gc Try.func68 (spec_IsRing.calls kj2 _ _ y220 true _ (cz (Kd.R_reads' HO222.out).2.2) ((Kd.R_reads' HO222.out).2.1) A21.out) ?_; rintro e w33 ⟨rfl, hb⟩; refine ⟨_, rfl, ?_⟩; replace HO222 := Aside0.mk (rbz HO222 hb); replace HB := Aside0.mk (below_step bz hb); (try clear hb)) | (go_at_call 69; (with_reducible refine (spec_SameTurn.calls kj2 _ _ l0 _ _ y220 true _ ?side1 ?side2 ?side3 ?side4 A23.out).mono ?_); (case side1 => exact cz0); (case side2 => exact HC0.out); (case side3 => repeat (first | exact (Kd.R_reads' HO222.out).2.2 | (with_reducible refine Kd.C_alloc ?_ _) | (with_reducible refine Kd.C_drewN ?_ _) | (with_reducible refine Kd.C_drew ?_))); (case side4 => exact (Kd.R_reads' HO222.out).2.1); rintro e w34 ⟨rfl, hb⟩; replace HO222 := Aside0.mk (rbz HO222 hb); replace HB := Aside0.mk (below_step bz hb); (try clear hb)))); go_ret2
            exact ⟨_, by first | rfl | (simp [errW_none, errW_some] <;> rfl) | (simp only [← hji17]; first | rfl | (simp [errW_none, errW_some] <;> rfl)) | (simp [*, errW_none, errW_some] <;> rfl), hr HO222.out, bz⟩
           ·replace c24 := Bool.eq_false_iff.mpr c24; subst c24; replace H := iff_ H; obtain ⟨y225, hy225⟩ : ∃ y_ : List (S77), y_ = (([] : List (S77))) := ⟨_, rfl⟩
            replace H : (if y225.length + l0.length < 8796093022208 then (some ((y225 ++ l0), false)) else (none)) = some (r1, r2) := by first | (rw [hy225]; with_reducible exact H) | (have H2_ := (Option.bind_some _ _).symm.trans H; rw [hy225]; with_reducible exact H2_) | (have H2_ := (Option.bind_some _ _).symm.trans H; with_reducible exact H2_) | with_reducible exact H | (rw [hy225]; exact H) | exact H
            have Ny225 := Aside0.mk hy225; clear hy225
            by_cases c35 : y225.length + l0.length < 8796093022208
            ·rw [if_pos c35] at H; have LMc35 := Aside0.mk c35; clear c35; obtain ⟨y228, hy228⟩ : ∃ y_ : List (S77), y_ = (y225 ++ l0) := ⟨_, rfl⟩
             replace H : (some (y228, false)) = some (r1, r2) := by first | (rw [hy228]; with_reducible exact H) | (have H2_ := (Option.bind_some _ _).symm.trans H; rw [hy228]; with_reducible exact H2_) | (have H2_ := (Option.bind_some _ _).symm.trans H; with_reducible exact H2_) | with_reducible exact H | (rw [hy228]; exact H) | exact H
             have Ny228 := Aside0.mk hy228; clear hy228; simp only [Option.some.injEq, Prod.mk.injEq] at H; obtain ⟨rfl, rfl⟩ := H; (try go_wp2); replace HB := Aside0.mk (below_drew1 HB.out); have q37 : (a1 : Int) ≤ ((l0.length : Int) : Int) := of_decide_eq_true az; obtain ⟨i037, hi037, _, hsz37, _⟩ := info_parts info77; have hroom37 : l0.length ≤ c0 := HC0.out; have hC37 : Kd.C k77 _ A0 l0.length l0 := HR0.out; have hcut37 := cut_to (P := Try.prog) 26 77 .i64 Try.underlying26 hi037 A0 l0.length c0 a1 (of_decide_eq_true az) q37 hroom37; have hr37 := Kd.C_take (m := (a1 : Int).toNat) hC37 (by omega); have hy37 : y209.length = (a1 : Int).toNat := (by rw [Ny209.out, List.length_take]; omega)
             rw [← Ny209.out] at hr37; rw [← hy37] at hcut37; have HR212 := Aside0.mk hr37; have HC212 := Aside0.mk (show y209.length ≤ c0 from by omega); clear hr37 hC37 hroom37 hi037 hsz37; have KY37 := Aside0.mk hy37; clear hy37; replace q37 := eq_true q37; have q38 : ((ji17) : Int) ≤ ((l0.length : Int) : Int) := of_decide_eq_true az; obtain ⟨i038, hi038, _, hsz38, _⟩ := info_parts info77; have hroom38 : l0.length ≤ c0 := HC0.out; have hC38 : Kd.C k77 _ A0 l0.length l0 := HR0.out; have q038 : (0 : Int) ≤ ((ji17) : Int) := of_decide_eq_true az; have hcut38 := cut_from (P := Try.prog) 26 77 .i64 Try.underlying26 hi038 2 hsz38 A0 l0.length c0 (ji17) q038 q38; have hr38 := Kd.C_drop (m := ((ji17) : Int).toNat) (c := c0) hC38 (by omega) hroom38; obtain ⟨A38, hA38⟩ : ∃ A1, A1 = (if c0 = ((ji17) : Int).toNat then A0 else (A0 : Option Addr).map (·.add (((ji17) : Int).toNat * 2))) := ⟨_, rfl⟩
             obtain ⟨c38, hc38⟩ : ∃ c1, c1 = c0 - ((ji17) : Int).toNat := ⟨_, rfl⟩
             have hy38 : y216.length = l0.length - ((ji17) : Int).toNat := (by rw [Ny216.out, List.length_drop] <;> omega)
             rw [show (l0).drop ((ji17) : Int).toNat = y216 from Ny216.out.symm] at hr38; replace hr38 : Kd.C k77 _ A38 y216.length y216 := (by rw [hA38]; exact hr38)
             rw [← hy38, ← hA38, ← hc38] at hcut38; have HR219 := Aside0.mk hr38; have HC219 := Aside0.mk (show y216.length ≤ c38 from by rw [hy38, hc38]; exact Nat.sub_le_sub_right hroom38 _); clear hr38 hC38 hroom38 hi038 hsz38 hc38; have KY38 := Aside0.mk hy38; have KA38 := Aside0.mk hA38; clear hy38 hA38; replace q38 := eq_true q38; refine start_ (n := 11) (S := fun w' => True) (ds := []) #[F,F,F,F,F,F,F,F,F,F,F] (by kernel_rfl) rfl rfl trivial (fun hHeld => ?_); refine with_tabW spec_DropCorner.tab3 spec_DropCorner.bits3 (fun HT_ HW_ => ?_); generalize wc.drew = w36 at HB HR212 HR219 hHeld ⊢; refine pz HT_ 1 22 ?_; refine pz HT_ 2 23 ?_; refine pz HT_ 3 24 ?_; refine pz HT_ 5 26 ?_; refine pz HT_ 6 27 ?_; refine pz HT_ 7 28 ?_; refine pz HT_ 8 29 ?_; refine oz HT_ 0 (some 21) (fun K hK => ?_); refine Kd.R_lit_step k77 _ 77 ?hg (N := 21) ?hd (xs := ([] : List (S77))) (inner := []) (ok := fun _ => True) (okp := fun _ => True) ?hr ?hp (fun _ hk => hk) trivial (Below.refl _ _) (Nat.le_refl _) (by simp) ?_; (case hd => rfl); (case hg => rfl); (case hr => first | (go_simp; done) | (go_simp; rfl)); (case hp => exact (Reps.none _ _)); intro v207 w39 ho40 hb hg_ hnew_; clear hg_ hnew_
             (first | rw [← Ny206.out] at ho40 | (simp only [Int.reduceToNat] at ho40; rw [← Ny206.out] at ho40))
             have HO208 := Aside0.mk (Kd.R_lower ho40 (below_size bz)); replace HB := Aside0.mk (below_step bz hb); clear hb ho40; refine hK.out _ _ trivial (fun hHeld => ?_); clear hK K; refine nz 21 ?_; refine oz HT_ 4 (some 25) (fun K hK => ?_); refine Kd.R_append_rows_step k77 (w0 := w) w.heap.size (by rfl) (.tmp 21) (.tmp 24) 26 77 (.agg #[(.int .i64 0), (.int .i64 0)]) 16 rfl Try.underlying26 info77 rfl (by decide) (by omega) v207 y206 y209 _ _ _ (fun _ => True) (fun _ => False) rfl rfl ?aO ?aR (fun _ _ h => h) (fun _ h => h.elim) ?aF ?aB ?aS ?aL ?_
             (case aR => repeat (first | exact (Kd.C_below HR212.out HB.out) | (with_reducible refine Kd.C_alloc ?_ _) | (with_reducible refine Kd.C_drewN ?_ _) | (with_reducible refine Kd.C_drew ?_)))
             (case aB => exact bz)
             (case aF => exact (fun _ _ => trivial))
             (case aO => exact (hr HO208.out))
             (case aS => exact (below_size bz))
             (case aL => have := LMc16.out; omega)
             intro v214 w41 ho hb hg hat; rw [← Ny213.out] at ho; have n0_ := Aside0.mk (hb); have n1_ := Aside0.mk (ho); clear HB; clear HO208; have HB := n0_; have HO215 := n1_; clear n0_ n1_; clear ho hb hg hat; refine hK.out _ _ trivial (fun hHeld => ?_); clear hK K; refine nz 25 ?_; refine oz HT_ 9 (some 30) (fun K hK => ?_); refine Kd.R_append_rows_step k77 (w0 := w) w.heap.size (by rfl) (.tmp 25) (.tmp 29) 26 77 (.agg #[(.int .i64 0), (.int .i64 0)]) 16 rfl Try.underlying26 info77 rfl (by decide) (by omega) v214 y213 y216 _ _ _ (fun _ => True) (fun _ => False) rfl rfl ?aO ?aR (fun _ _ h => h) (fun _ h => h.elim) ?aF ?aB ?aS ?aL ?_
             (case aR => repeat (first | exact (Kd.C_below HR219.out HB.out) | (with_reducible refine Kd.C_alloc ?_ _) | (with_reducible refine Kd.C_drewN ?_ _) | (with_reducible refine Kd.C_drew ?_)))
             (case aB => exact bz)
             (case aF => exact (fun _ _ => trivial))
             (case aO => exact (hr HO215.out))
             (case aS => exact (below_size bz))
             (case aL => have := LMc20.out; omega)
             intro v221 w42 ho hb hg hat; rw [← Ny220.out] at ho; have n0_ := Aside0.mk (hb); have n1_ := Aside0.mk (ho); clear HB; clear HO215; have HB := n0_; have HO222 := n1_; clear n0_ n1_; clear ho hb hg hat; refine hK.out _ _ trivial (fun hHeld => ?_); clear hK K; refine nz 30 ?_; refine pz HT_ 10 6 ?_; refine dz HT_ ?_; obtain ⟨Ao43, co43, eo43⟩ := Kd.R_slice HO222.out; subst eo43; (try go_wp2_with (first | ((with_reducible refine gt (some 32) rfl ?_); refine gc Try.func68 (spec_IsRing.calls kj2 _ _ y220 true _ (cz (Kd.R_reads' HO222.out).2.2) ((Kd.R_reads' HO222.out).2.1) A21.out) ?_; rintro e w44 ⟨rfl, hb⟩; refine ⟨_, rfl, ?_⟩; replace HO222 := Aside0.mk (rbz HO222 hb); replace HB := Aside0.mk (below_step bz hb); (try clear hb)) | (go_at_call 69; (with_reducible refine (spec_SameTurn.calls kj2 _ _ l0 _ _ y220 false _ ?side1 ?side2 ?side3 ?side4 A23.out).mono ?_); (case side1 => exact cz0); (case side2 => exact HC0.out); (case side3 => repeat (first | exact (Kd.R_reads' HO222.out).2.2 | (with_reducible refine Kd.C_alloc ?_ _) | (with_reducible refine Kd.C_drewN ?_ _) | (with_reducible refine Kd.C_drew ?_))); (case side4 => exact (Kd.R_reads' HO222.out).2.1); rintro e w45 ⟨rfl, hb⟩; replace HO222 := Aside0.mk (rbz HO222 hb); replace HB := Aside0.mk (below_step bz hb); (try clear hb)) | ((with_reducible refine gate_dst (N := 40) rfl ?_); (try (refine gate_guard (by rfl) ?_; dsimp only)); refine Kd.R_lit k77 _ 77 ?hg (N := 40) ?hd (xs := ([] : List (S77))) (inner := []) (ok := fun _ => True) (okp := fun _ => True) ?hr ?hp (fun _ hk => hk) trivial (Below.refl _ _) (Nat.le_refl _) (by simp) ?_; (case hd => rfl); (case hg => rfl); (case hr => first | (go_simp; done) | (go_simp; rfl)); (case hp => exact (Reps.none _ _)); intro v226 w46 ho47 hb hg_ hnew_; clear hg_ hnew_; (first | rw [← Ny225.out] at ho47 | (simp only [Int.reduceToNat] at ho47; rw [← Ny225.out] at ho47)); have HO227 := Aside0.mk (Kd.R_lower (Kd.R_new' ho47 (Kd.R_lt (hr HO222.out))) (below_size bz)); replace HO222 := Aside0.mk (Kd.R_elder' (hr HO222.out) (Kd.R_base ho47) hb); replace HB := Aside0.mk (below_step bz hb); clear hb ho47) | ((with_reducible refine gate_builtin (b := .append) (xs := #[.tmp 40, .tmp 41]) rfl ?_); (try (refine gate_guard (by rfl) ?_; dsimp only)); at_builtin; refine Kd.R_append_rows k77 (w0 := w) w.heap.size rfl (.tmp 40) (.tmp 41) 26 77 (.agg #[(.int .i64 0), (.int .i64 0)]) 16 rfl Try.underlying26 info77 rfl (by decide) (by omega) v226 y225 l0 _ _ _ (fun k_ => some k_ ≠ (.slice Ao43 y220.length co43 : Value).ownBlock) (fun _ => False) rfl rfl ?aO ?aR (fun _ _ h => h) (fun _ h => h.elim) ?aF ?aB ?aS ?aL ?_; (case aR => exact cz0); (case aB => exact bz); (case aF => exact (fun k_ hk => Kd.fresh' (Kd.R_lt (hr HO222.out)) k_ hk)); (case aO => exact (hr (Kd.R_mono HO227.out (fun _ hk => hk.2)))); (case aS => exact (below_size bz)); (case aL => have := LMc35.out; omega); intro v229 w48 ho hb hg hat; rw [← Ny228.out] at ho; have n0_ := Aside0.mk (Kd.R_after (ok := (fun _ => True)) (hr HO222.out) hg hat); have n1_ := Aside0.mk (hb); have n2_ := Aside0.mk (ho); clear HO222; clear HB; clear HO227; have HO222 := n0_; have HB := n1_; have HO230 := n2_; clear n0_ n1_ n2_; clear ho hb hg hat)))
             go_ret2
             exact ⟨_, by first | rfl | (simp [errW_none, errW_some] <;> rfl) | (simp only [← hji17]; first | rfl | (simp [errW_none, errW_some] <;> rfl)) | (simp [*, errW_none, errW_some] <;> rfl), hr (Kd.R_mono HO230.out (fun _ hk => trivial)), bz⟩
            ·rw [if_neg c35] at H
             exact absurd H (by simp)
          ·replace c22 := Bool.eq_false_iff.mpr c22; subst c22; replace H := iff_ H; obtain ⟨y231, hy231⟩ : ∃ y_ : List (S77), y_ = (([] : List (S77))) := ⟨_, rfl⟩
           replace H : (if y231.length + l0.length < 8796093022208 then (some ((y231 ++ l0), false)) else (none)) = some (r1, r2) := by first | (rw [hy231]; with_reducible exact H) | (have H2_ := (Option.bind_some _ _).symm.trans H; rw [hy231]; with_reducible exact H2_) | (have H2_ := (Option.bind_some _ _).symm.trans H; with_reducible exact H2_) | with_reducible exact H | (rw [hy231]; exact H) | exact H
           have Ny231 := Aside0.mk hy231; clear hy231
           by_cases c49 : y231.length + l0.length < 8796093022208
           ·rw [if_pos c49] at H; have LMc49 := Aside0.mk c49; clear c49; obtain ⟨y234, hy234⟩ : ∃ y_ : List (S77), y_ = (y231 ++ l0) := ⟨_, rfl⟩
            replace H : (some (y234, false)) = some (r1, r2) := by first | (rw [hy234]; with_reducible exact H) | (have H2_ := (Option.bind_some _ _).symm.trans H; rw [hy234]; with_reducible exact H2_) | (have H2_ := (Option.bind_some _ _).symm.trans H; with_reducible exact H2_) | with_reducible exact H | (rw [hy234]; exact H) | exact H
            have Ny234 := Aside0.mk hy234; clear hy234; simp only [Option.some.injEq, Prod.mk.injEq] at H; obtain ⟨rfl, rfl⟩ := H; (try go_wp2); replace HB := Aside0.mk (below_drew1 HB.out); have q51 : (a1 : Int) ≤ ((l0.length : Int) : Int) := of_decide_eq_true az; obtain ⟨i051, hi051, _, hsz51, _⟩ := info_parts info77; have hroom51 : l0.length ≤ c0 := HC0.out; have hC51 : Kd.C k77 _ A0 l0.length l0 := HR0.out; have hcut51 := cut_to (P := Try.prog) 26 77 .i64 Try.underlying26 hi051 A0 l0.length c0 a1 (of_decide_eq_true az) q51 hroom51; have hr51 := Kd.C_take (m := (a1 : Int).toNat) hC51 (by omega); have hy51 : y209.length = (a1 : Int).toNat := (by rw [Ny209.out, List.length_take]; omega)
            rw [← Ny209.out] at hr51; rw [← hy51] at hcut51; have HR212 := Aside0.mk hr51; have HC212 := Aside0.mk (show y209.length ≤ c0 from by omega); clear hr51 hC51 hroom51 hi051 hsz51; have KY51 := Aside0.mk hy51; clear hy51; replace q51 := eq_true q51; have q52 : ((ji17) : Int) ≤ ((l0.length : Int) : Int) := of_decide_eq_true az; obtain ⟨i052, hi052, _, hsz52, _⟩ := info_parts info77; have hroom52 : l0.length ≤ c0 := HC0.out; have hC52 : Kd.C k77 _ A0 l0.length l0 := HR0.out; have q052 : (0 : Int) ≤ ((ji17) : Int) := of_decide_eq_true az; have hcut52 := cut_from (P := Try.prog) 26 77 .i64 Try.underlying26 hi052 2 hsz52 A0 l0.length c0 (ji17) q052 q52; have hr52 := Kd.C_drop (m := ((ji17) : Int).toNat) (c := c0) hC52 (by omega) hroom52; obtain ⟨A52, hA52⟩ : ∃ A1, A1 = (if c0 = ((ji17) : Int).toNat then A0 else (A0 : Option Addr).map (·.add (((ji17) : Int).toNat * 2))) := ⟨_, rfl⟩
            obtain ⟨c52, hc52⟩ : ∃ c1, c1 = c0 - ((ji17) : Int).toNat := ⟨_, rfl⟩
            have hy52 : y216.length = l0.length - ((ji17) : Int).toNat := (by rw [Ny216.out, List.length_drop] <;> omega)
            rw [show (l0).drop ((ji17) : Int).toNat = y216 from Ny216.out.symm] at hr52; replace hr52 : Kd.C k77 _ A52 y216.length y216 := (by rw [hA52]; exact hr52)
            rw [← hy52, ← hA52, ← hc52] at hcut52; have HR219 := Aside0.mk hr52; have HC219 := Aside0.mk (show y216.length ≤ c52 from by rw [hy52, hc52]; exact Nat.sub_le_sub_right hroom52 _); clear hr52 hC52 hroom52 hi052 hsz52 hc52; have KY52 := Aside0.mk hy52; have KA52 := Aside0.mk hA52; clear hy52 hA52; replace q52 := eq_true q52; refine start_ (n := 11) (S := fun w' => True) (ds := []) #[F,F,F,F,F,F,F,F,F,F,F] (by kernel_rfl) rfl rfl trivial (fun hHeld => ?_); refine with_tabW spec_DropCorner.tab3 spec_DropCorner.bits3 (fun HT_ HW_ => ?_); generalize wc.drew = w50 at HB HR212 HR219 hHeld ⊢; refine pz HT_ 1 22 ?_; refine pz HT_ 2 23 ?_; refine pz HT_ 3 24 ?_; refine pz HT_ 5 26 ?_; refine pz HT_ 6 27 ?_; refine pz HT_ 7 28 ?_; refine pz HT_ 8 29 ?_; refine oz HT_ 0 (some 21) (fun K hK => ?_); refine Kd.R_lit_step k77 _ 77 ?hg (N := 21) ?hd (xs := ([] : List (S77))) (inner := []) (ok := fun _ => True) (okp := fun _ => True) ?hr ?hp (fun _ hk => hk) trivial (Below.refl _ _) (Nat.le_refl _) (by simp) ?_; (case hd => rfl); (case hg => rfl); (case hr => first | (go_simp; done) | (go_simp; rfl)); (case hp => exact (Reps.none _ _)); intro v207 w53 ho54 hb hg_ hnew_; clear hg_ hnew_
            (first | rw [← Ny206.out] at ho54 | (simp only [Int.reduceToNat] at ho54; rw [← Ny206.out] at ho54))
            have HO208 := Aside0.mk (Kd.R_lower ho54 (below_size bz)); replace HB := Aside0.mk (below_step bz hb); clear hb ho54; refine hK.out _ _ trivial (fun hHeld => ?_); clear hK K; refine nz 21 ?_; refine oz HT_ 4 (some 25) (fun K hK => ?_); refine Kd.R_append_rows_step k77 (w0 := w) w.heap.size (by rfl) (.tmp 21) (.tmp 24) 26 77 (.agg #[(.int .i64 0), (.int .i64 0)]) 16 rfl Try.underlying26 info77 rfl (by decide) (by omega) v207 y206 y209 _ _ _ (fun _ => True) (fun _ => False) rfl rfl ?aO ?aR (fun _ _ h => h) (fun _ h => h.elim) ?aF ?aB ?aS ?aL ?_
            (case aR => repeat (first | exact (Kd.C_below HR212.out HB.out) | (with_reducible refine Kd.C_alloc ?_ _) | (with_reducible refine Kd.C_drewN ?_ _) | (with_reducible refine Kd.C_drew ?_)))
            (case aB => exact bz)
            (case aF => exact (fun _ _ => trivial))
            (case aO => exact (hr HO208.out))
            (case aS => exact (below_size bz))
            (case aL => have := LMc16.out; omega)
            intro v214 w55 ho hb hg hat; rw [← Ny213.out] at ho; have n0_ := Aside0.mk (hb); have n1_ := Aside0.mk (ho); clear HB; clear HO208; have HB := n0_; have HO215 := n1_; clear n0_ n1_; clear ho hb hg hat; refine hK.out _ _ trivial (fun hHeld => ?_); clear hK K; refine nz 25 ?_; refine oz HT_ 9 (some 30) (fun K hK => ?_); refine Kd.R_append_rows_step k77 (w0 := w) w.heap.size (by rfl) (.tmp 25) (.tmp 29) 26 77 (.agg #[(.int .i64 0), (.int .i64 0)]) 16 rfl Try.underlying26 info77 rfl (by decide) (by omega) v214 y213 y216 _ _ _ (fun _ => True) (fun _ => False) rfl rfl ?aO ?aR (fun _ _ h => h) (fun _ h => h.elim) ?aF ?aB ?aS ?aL ?_
            (case aR => repeat (first | exact (Kd.C_below HR219.out HB.out) | (with_reducible refine Kd.C_alloc ?_ _) | (with_reducible refine Kd.C_drewN ?_ _) | (with_reducible refine Kd.C_drew ?_)))
            (case aB => exact bz)
            (case aF => exact (fun _ _ => trivial))
            (case aO => exact (hr HO215.out))
            (case aS => exact (below_size bz))
            (case aL => have := LMc20.out; omega)
            intro v221 w56 ho hb hg hat; rw [← Ny220.out] at ho; have n0_ := Aside0.mk (hb); have n1_ := Aside0.mk (ho); clear HB; clear HO215; have HB := n0_; have HO222 := n1_; clear n0_ n1_; clear ho hb hg hat; refine hK.out _ _ trivial (fun hHeld => ?_); clear hK K; refine nz 30 ?_; refine pz HT_ 10 6 ?_; refine dz HT_ ?_; obtain ⟨Ao57, co57, eo57⟩ := Kd.R_slice HO222.out; subst eo57; (try go_wp2_with (first | ((with_reducible refine gt (some 32) rfl ?_); refine gc Try.func68 (spec_IsRing.calls kj2 _ _ y220 false _ (cz (Kd.R_reads' HO222.out).2.2) ((Kd.R_reads' HO222.out).2.1) A21.out) ?_; rintro e w58 ⟨rfl, hb⟩; refine ⟨_, rfl, ?_⟩; replace HO222 := Aside0.mk (rbz HO222 hb); replace HB := Aside0.mk (below_step bz hb); (try clear hb)) | ((with_reducible refine gate_dst (N := 40) rfl ?_); (try (refine gate_guard (by rfl) ?_; dsimp only)); refine Kd.R_lit k77 _ 77 ?hg (N := 40) ?hd (xs := ([] : List (S77))) (inner := []) (ok := fun _ => True) (okp := fun _ => True) ?hr ?hp (fun _ hk => hk) trivial (Below.refl _ _) (Nat.le_refl _) (by simp) ?_; (case hd => rfl); (case hg => rfl); (case hr => first | (go_simp; done) | (go_simp; rfl)); (case hp => exact (Reps.none _ _)); intro v232 w59 ho60 hb hg_ hnew_; clear hg_ hnew_; (first | rw [← Ny231.out] at ho60 | (simp only [Int.reduceToNat] at ho60; rw [← Ny231.out] at ho60)); have HO233 := Aside0.mk (Kd.R_lower (Kd.R_new' ho60 (Kd.R_lt (hr HO222.out))) (below_size bz)); replace HO222 := Aside0.mk (Kd.R_elder' (hr HO222.out) (Kd.R_base ho60) hb); replace HB := Aside0.mk (below_step bz hb); clear hb ho60) | ((with_reducible refine gate_builtin (b := .append) (xs := #[.tmp 40, .tmp 41]) rfl ?_); (try (refine gate_guard (by rfl) ?_; dsimp only)); at_builtin; refine Kd.R_append_rows k77 (w0 := w) w.heap.size rfl (.tmp 40) (.tmp 41) 26 77 (.agg #[(.int .i64 0), (.int .i64 0)]) 16 rfl Try.underlying26 info77 rfl (by decide) (by omega) v232 y231 l0 _ _ _ (fun k_ => some k_ ≠ (.slice Ao57 y220.length co57 : Value).ownBlock) (fun _ => False) rfl rfl ?aO ?aR (fun _ _ h => h) (fun _ h => h.elim) ?aF ?aB ?aS ?aL ?_; (case aR => exact cz0); (case aB => exact bz); (case aF => exact (fun k_ hk => Kd.fresh' (Kd.R_lt (hr HO222.out)) k_ hk)); (case aO => exact (hr (Kd.R_mono HO233.out (fun _ hk => hk.2)))); (case aS => exact (below_size bz)); (case aL => have := LMc49.out; omega); intro v235 w61 ho hb hg hat; rw [← Ny234.out] at ho; have n0_ := Aside0.mk (Kd.R_after (ok := (fun _ => True)) (hr HO222.out) hg hat); have n1_ := Aside0.mk (hb); have n2_ := Aside0.mk (ho); clear HO222; clear HB; clear HO233; have HO222 := n0_; have HB := n1_; have HO236 := n2_; clear n0_ n1_ n2_; clear ho hb hg hat)))
            go_ret2
            exact ⟨_, by first | rfl | (simp [errW_none, errW_some] <;> rfl) | (simp only [← hji17]; first | rfl | (simp [errW_none, errW_some] <;> rfl)) | (simp [*, errW_none, errW_some] <;> rfl), hr (Kd.R_mono HO236.out (fun _ hk => trivial)), bz⟩
           ·rw [if_neg c49] at H
            exact absurd H (by simp)
         ·rw [if_neg c20] at H
          exact absurd H (by simp)
        ·rw [if_neg c19] at H
         exact absurd H (by simp)
       ·rw [if_neg c18] at H
        exact absurd H (by simp)
      ·rw [if_neg c16] at H
       exact absurd H (by simp)
     ·rw [if_neg c15] at H
      exact absurd H (by simp)
    ·rw [if_neg c14] at H
     exact absurd H (by simp)
def spec_DropCorner.toH (t : (List (S77)) × Bool) : HL eΓ [.l 77 (.st .s77), .b] := (t.1, t.2, ())
def spec_DropCorner.run (k : Nat) (h : HL eΓ [.l 77 (.st .s77), .i .i64]) : Option (HL eΓ [.l 77 (.st .s77), .b]) := (spec_DropCorner.f k (h.1 : List S77) (h.2.1 : Int)).map spec_DropCorner.toH
def spec_DropCorner.spec : Spc env := ⟨39, [.l 77 (.st .s77), .i .i64], [.l 77 (.st .s77), .b], spec_DropCorner.run⟩
def spec_DropCorner.ap {R : Type} (k : Nat) (h0 : List S77) (h1 : Int) (K : (List S77) → Bool → Option R) : Option R := (spec_DropCorner.run k (h0, h1, ())).bind fun r => K (r.1 : List S77) (r.2.1 : Bool)
theorem spec_DropCorner.ap_of {R : Type} {k : Nat} {h0 : List S77} {h1 : Int} {r0 : List S77} {r1 : Bool} {K : (List S77) → Bool → Option R} (h : spec_DropCorner.run k (h0, h1, ()) = some (r0, r1, ())) : spec_DropCorner.ap k h0 h1 K = K r0 r1 := by unfold spec_DropCorner.ap; rw [h]; rfl
theorem spec_DropCorner.go {k : Nat} {l0 : List S77} {a1 : Int} {t} (h : spec_DropCorner.f k l0 a1 = some t) (K : Nat) (hk : k ≤ K) : spec_DropCorner.run K (l0, a1, ()) = some (spec_DropCorner.toH t) := by
  show Option.map _ (spec_DropCorner.f K l0 a1) = _
  rw [leo_le (f := fun k => spec_DropCorner.f k l0 a1) (fun k => spec_DropCorner.mono l0 a1 k) hk h]; rfl
theorem spec_DropCorner.snd : Snd env spec_DropCorner.spec := ⟨⟨Try.f39, by kernel_rfl, by kernel_rfl, by kernel_rfl⟩, fun k h r he w us hA => by
  obtain ⟨t, ht, rfl⟩ := Option.map_eq_some_iff.1 (show (spec_DropCorner.f k (h.1 : List S77) (h.2.1 : Int)).map spec_DropCorner.toH = some r from he)
  match us, hA with
  | [u0, u1], ⟨q0, q1, _⟩ =>
  obtain ⟨A0, c0, e0, l0, g0⟩ := q0
  obtain rfl := List.singleton_inj.1 e0
  obtain rfl := List.singleton_inj.1 (show [u1] = [Value.int .i64 (h.2.1 : Int)] from q1)
  refine (spec_DropCorner.calls (w := w) (h := ht) (hr0 := g0) (hc0 := l0)).mono ?_
  rintro e w' ⟨v0_, he, hR, hw⟩
  exact ⟨_, he, hw, [v0_, .bool t.2], [fun _ => True, fun _ => False], rfl, ⟨⟨v0_, rfl, hR⟩, rfl, trivial⟩, by simp [DJ]⟩⟩
def spec_IsName.Fs : List (Spc env) := [spec_l1In.spec]
def spec_IsName.fin : St eΓ → Option (HL eΓ [.b]) := finR env Try.f70.results.toList [.b]
def spec_IsName.cut : Nat → Option (List (Lv SC)) := lk [(2, [⟨0, none, false⟩, ⟨3, none, false⟩])]
def spec_IsName.ret (r0 : Bool) : Option (HL eΓ [.b]) := some (r0, ())
def spec_IsName.p2 (k : Nat) (x0 : ByteArray) (x3 : Int) : Option (HL eΓ [.b]) := evM env spec_IsName.Fs Try.f70.ntmps spec_IsName.fin spec_IsName.cut k [.code (sub_ [1, 0, 1, 0, 0, 0, 0] (bodyOf Try.f70)), .code (sub_ [1, 0, 1, 0, 0, 0, 1] (bodyOf Try.f70)), .code (sub_ [1, 0, 1, 0, 0, 1] (bodyOf Try.f70)), .lp (sub_ [1, 0, 1, 0, 0] (bodyOf Try.f70)), .blk 0, .code (sub_ [1, 1] (bodyOf Try.f70))] (mkSt [(0, .c (.v (.string x0))), (3, .c (.v (.int .i64 x3)))] [])
theorem spec_IsName.e2 (k : Nat) (x0 : ByteArray) (x3 : Int) : spec_IsName.p2 (k + 1) x0 x3 = if x3 < (x0.size : Int) then (if 0 ≤ x3 then (if x3 < (x0.size : Int) then (if (bt x0 x3) < 97 then (spec_IsName.ret false) else (if 0 ≤ x3 then (if x3 < (x0.size : Int) then (if (bt x0 x3) > 122 then (spec_IsName.ret false) else (spec_IsName.p2 k x0 (wrap64 (x3 + 1)))) else none) else none)) else none) else none) else (spec_l1In.ap k (x0.size : Int) 1 8 fun r1 => spec_IsName.ret r1) := by kernel_rfl
def spec_IsName.run (k : Nat) (h : HL eΓ [.s]) : Option (HL eΓ [.b]) := evF env spec_IsName.Fs Try.f70 spec_IsName.cut [.s] [.b] k h
theorem spec_IsName.ef (k : Nat) (h0 : ByteArray) : spec_IsName.run k (h0, ()) = spec_IsName.p2 k h0 0 := by kernel_rfl
def spec_IsName.toH (t : Bool) : HL eΓ [.b] := (t, ())
def spec_IsName.spec : Spc env := ⟨70, [.s], [.b], spec_IsName.run⟩
def spec_IsName.ap {R : Type} (k : Nat) (h0 : ByteArray) (K : Bool → Option R) : Option R := (spec_IsName.run k (h0, ())).bind fun r => K (r.1 : Bool)
theorem spec_IsName.ap_of {R : Type} {k : Nat} {h0 : ByteArray} {r0 : Bool} {K : Bool → Option R} (h : spec_IsName.run k (h0, ()) = some (r0, ())) : spec_IsName.ap k h0 K = K r0 := by unfold spec_IsName.ap; rw [h]; rfl
theorem spec_IsName.snd : Snd env spec_IsName.spec := evF_snd env_ok (sndC spec_l1In.snd (sndN))
attribute [local irreducible] spec_IsName.run
theorem spec_IsName.rt (a0 : Bool) : spec_IsName.ret a0 = some (spec_IsName.toH (a0)) := rfl
theorem spec_IsName.br (n : Nat) : (∀ K, n ≤ K → ∀ (x0 : ByteArray) (x3 : Int) t, spec_IsName.l0 n x0 x3 = some t → spec_IsName.p2 K x0 x3 = some (spec_IsName.toH t)) := by
  induction n using Nat.strongRecOn with
  | _ n ih =>
  intro K hK x0 x3 t h
  all_goals (rcases n with _ | k)
  all_goals (try (exact nos h))
  all_goals (obtain ⟨K, rfl⟩ : ∃ q, K = q + 1 := ⟨K - 1, by omega⟩)
  all_goals (first | rw [spec_IsName.e2])
  all_goals (simp only [spec_IsName.l0] at h)
  repeat' (with_reducible first
   | exact nos h
   | (cases some_inj h; exact spec_IsName.rt _)
   | exact (ih _ (by omega)) _ (by omega) _ _ _ h
   | (simp only [Option.bind_some] at h)
   | (refine ite_by h ?_ ?_ <;> (intro hc h; (try simp only [nrm] at hc)))
   | refine itT ?_
   | refine itF ?_
   | (refine bind_by h (fun t ht h => ?_); refine (spec_l1In.ap_of (spec_l1In.go ht _)).trans ?_; (try dsimp only at h ⊢))
   | (simp only [nr2] at h ⊢)
   | (exfalso; omega))
theorem spec_IsName.go {k : Nat} {a0 : ByteArray} {t} (h : spec_IsName.f k a0 = some t) (K : Nat) (hK : k ≤ K) : spec_IsName.run K (a0, ()) = some (spec_IsName.toH t) := by
  rw [spec_IsName.ef]
  (try dsimp only)
  unfold spec_IsName.f at h
  repeat' (with_reducible first
   | exact nos h
   | (cases some_inj h; exact spec_IsName.rt _)
   | exact (spec_IsName.br _) _ (by omega) _ _ _ h
   | (simp only [Option.bind_some] at h)
   | (refine ite_by h ?_ ?_ <;> (intro hc h; (try simp only [nrm] at hc)))
   | refine itT ?_
   | refine itF ?_
   | (refine bind_by h (fun t ht h => ?_); refine (spec_l1In.ap_of (spec_l1In.go ht _)).trans ?_; (try dsimp only at h ⊢))
   | (simp only [nr2] at h ⊢)
   | (exfalso; omega))
def spec_SegmentsOf.Fs : List (Spc env) := [spec_IsLine.spec]
def spec_SegmentsOf.fin : St eΓ → Option (HL eΓ [.l 95 (.st .s95)]) := finR env Try.f103.results.toList [.l 95 (.st .s95)]
def spec_SegmentsOf.cut : Nat → Option (List (Lv SC)) := lk [(3, [⟨0, none, false⟩, ⟨3, none, false⟩, ⟨4, none, false⟩])]
def spec_SegmentsOf.ret (r0 : List S95) : Option (HL eΓ [.l 95 (.st .s95)]) := some (r0, ())
def spec_SegmentsOf.p3 (k : Nat) (x4 : Int) (x0 : List S77) (x3 : List S95) : Option (HL eΓ [.l 95 (.st .s95)]) := evM env spec_SegmentsOf.Fs Try.f103.ntmps spec_SegmentsOf.fin spec_SegmentsOf.cut k [.code (sub_ [1, 1, 0, 1, 0, 0, 0, 0] (bodyOf Try.f103)), .code (sub_ [1, 1, 0, 1, 0, 0, 0, 1] (bodyOf Try.f103)), .code (sub_ [1, 1, 0, 1, 0, 0, 1] (bodyOf Try.f103)), .lp (sub_ [1, 1, 0, 1, 0, 0] (bodyOf Try.f103)), .blk 0, .code (sub_ [1, 1, 1] (bodyOf Try.f103))] (mkSt [(0, .c (.sl 0)), (3, .c (.sl 1)), (4, .c (.v (.int .i64 x4)))] [.row .ro 77 (.st .s77) x0, .row .own 95 (.st .s95) x3])
theorem spec_SegmentsOf.e3 (k : Nat) (x4 : Int) (x0 : List S77) (x3 : List S95) : spec_SegmentsOf.p3 (k + 1) x4 x0 x3 = if x4 < (x0.length : Int) then (spec_IsLine.ap k x0 fun r1 => if r1 = true then (if 0 ≤ (wrap64 (x4 - 1)) then (if (wrap64 (x4 - 1)) < (x0.length : Int) then (if 0 ≤ x4 then (if x4 < (x0.length : Int) then (if (x3.length + 1) * 32 ≤ 140737488355328 then (spec_SegmentsOf.p3 k (wrap64 (x4 + 1)) x0 (x3 ++ [(⟨(⟨(rd_T77 x0 (wrap64 (x4 - 1))).f0, (rd_T77 x0 (wrap64 (x4 - 1))).f1⟩ : S77), (⟨(rd_T77 x0 x4).f0, (rd_T77 x0 x4).f1⟩ : S77)⟩ : S95)])) else none) else none) else none) else none) else none) else (spec_SegmentsOf.ret x3)) else (spec_SegmentsOf.ret x3) := by kernel_rfl
def spec_SegmentsOf.run (k : Nat) (h : HL eΓ [.l 77 (.st .s77)]) : Option (HL eΓ [.l 95 (.st .s95)]) := evF env spec_SegmentsOf.Fs Try.f103 spec_SegmentsOf.cut [.l 77 (.st .s77)] [.l 95 (.st .s95)] k h
theorem spec_SegmentsOf.ef (k : Nat) (h0 : List S77) : spec_SegmentsOf.run k (h0, ()) = spec_SegmentsOf.p3 k 1 h0 ([] : List S95) := by kernel_rfl
def spec_SegmentsOf.toH (t : (List (S95))) : HL eΓ [.l 95 (.st .s95)] := (t, ())
def spec_SegmentsOf.spec : Spc env := ⟨103, [.l 77 (.st .s77)], [.l 95 (.st .s95)], spec_SegmentsOf.run⟩
def spec_SegmentsOf.ap {R : Type} (k : Nat) (h0 : List S77) (K : (List S95) → Option R) : Option R := (spec_SegmentsOf.run k (h0, ())).bind fun r => K (r.1 : List S95)
theorem spec_SegmentsOf.ap_of {R : Type} {k : Nat} {h0 : List S77} {r0 : List S95} {K : (List S95) → Option R} (h : spec_SegmentsOf.run k (h0, ()) = some (r0, ())) : spec_SegmentsOf.ap k h0 K = K r0 := by unfold spec_SegmentsOf.ap; rw [h]; rfl
theorem spec_SegmentsOf.snd : Snd env spec_SegmentsOf.spec := evF_snd env_ok (sndC spec_IsLine.snd (sndN))
attribute [local irreducible] spec_SegmentsOf.run
theorem spec_SegmentsOf.rt (a0 : List S95) : spec_SegmentsOf.ret a0 = some (spec_SegmentsOf.toH (a0)) := rfl
end
end Go.Proofs.Ytkebhlkbnnlegaa.PFnExactDropFrom
