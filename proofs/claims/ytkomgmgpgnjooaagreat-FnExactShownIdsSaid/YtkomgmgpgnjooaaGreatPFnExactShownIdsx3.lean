-- Written by a program of this session's (evlaw.py).
import Derived.Test.YtkomgmgpgnjooaaGreatPFnExactShownIdsx2
namespace Go.Proofs.YtkomgmgpgnjooaaGreat.PFnExactShownIds
open Go.RowKit Go.Proofs.YtkomgmgpgnjooaaGreatW.PrintWords Go.Proofs.YtkomgmgpgnjooaaGreatW.PrintLast Go.Proofs.YtkomgmgpgnjooaaGreatW.PrintMore Go.Proofs.YtkomgmgpgnjooaaGreatGeo Go.Proofs.YtkomgmgpgnjooaaGreatHand Go.Proofs.YtkomgmgpgnjooaaGreatMeet Go.Proofs.YtkomgmgpgnjooaaGreatQuiet Go.Proofs.YtkomgmgpgnjooaaGreatZ
open Go Go.Proofs.YtkomgmgpgnjooaaGreatEv
attribute [local go_sem] max2_int min2_int max_two min_two max_three min_three max_four min_four   -- for this text's walks alone
set_option linter.unusedVariables false
set_option linter.unusedSimpArgs false



set_option linter.unusedSimpArgs false

attribute [local go_sem high] eqA75
set_option linter.unusedVariables false
set_option linter.unusedSimpArgs false
set_option maxRecDepth 100000
noncomputable section
structure S44 where
  f0 : Int
  f1 : Int
  f2 : Int
def z44 : S44 := ⟨(0 : Int), (0 : Int), (0 : Int)⟩
def k44 : Kd S44 := Kd.iso (Kd.pair (Kd.int .i64) (Kd.pair (Kd.int .i64) (Kd.int .i64))) (fun x : S44 => (x.f0, x.f1, x.f2))
structure S46 where
  f0 : Int
  f1 : Int
  f2 : Int
def z46 : S46 := ⟨(0 : Int), (0 : Int), (0 : Int)⟩
def k46 : Kd S46 := Kd.iso (Kd.pair (Kd.int .i64) (Kd.pair (Kd.int .i64) (Kd.int .i64))) (fun x : S46 => (x.f0, x.f1, x.f2))
inductive SC where
  | s44
  | s46
  | s52
  | s59
  | s75
  | s77
  | s133
  | s136
def scb : SC → SC → Bool
  | .s44, .s44 => true
  | .s46, .s46 => true
  | .s52, .s52 => true
  | .s59, .s59 => true
  | .s75, .s75 => true
  | .s77, .s77 => true
  | .s133, .s133 => true
  | .s136, .s136 => true
  | _, _ => false
theorem scbe : ∀ a b, scb a b = true → a = b := by intro a b; cases a <;> cases b <;> first | (intro _; rfl) | (intro h; cases h)
noncomputable def eΓ : SC → Type
  | .s44 => S44
  | .s46 => S46
  | .s52 => S52
  | .s59 => S59
  | .s75 => S75
  | .s77 => S77
  | .s133 => S133
  | .s136 => S136
def eFs : SC → List (Ty SC)
  | .s44 => [.i .i64, .i .i64, .i .i64]
  | .s46 => [.i .i64, .i .i64, .i .i64]
  | .s52 => [.i .i64, .i .i64, .i .i64, .s, .l 136 (.st .s136)]
  | .s59 => [.i .i64, .i .i64, .i .i64, .s, .l 75 (.st .s75)]
  | .s75 => [.i .i64, .i .i64]
  | .s77 => [.i .i64, .i .i64, .i .i64, .i .i64]
  | .s133 => [.i .i64, .i .i64, .i .i64, .i .i64]
  | .s136 => [.i .i64, .i .i64]
noncomputable def eOpn : (n : SC) → eΓ n → HL eΓ (eFs n)
  | .s44 => fun (x : S44) => (x.f0, x.f1, x.f2, ())
  | .s46 => fun (x : S46) => (x.f0, x.f1, x.f2, ())
  | .s52 => fun (x : S52) => (x.f0, x.f1, x.f2, x.f3, x.f4, ())
  | .s59 => fun (x : S59) => (x.f0, x.f1, x.f2, x.f3, x.f4, ())
  | .s75 => fun (x : S75) => (x.f0, x.f1, ())
  | .s77 => fun (x : S77) => (x.f0, x.f1.f0, x.f1.f1, x.f2, ())
  | .s133 => fun (x : S133) => (x.f0.f0, x.f0.f1, x.f1.f0, x.f1.f1, ())
  | .s136 => fun (x : S136) => (x.f0, x.f1, ())
noncomputable def eSht : (n : SC) → HL eΓ (eFs n) → eΓ n
  | .s44 => fun h => (⟨h.1, h.2.1, h.2.2.1⟩ : S44)
  | .s46 => fun h => (⟨h.1, h.2.1, h.2.2.1⟩ : S46)
  | .s52 => fun h => (⟨h.1, h.2.1, h.2.2.1, h.2.2.2.1, h.2.2.2.2.1⟩ : S52)
  | .s59 => fun h => (⟨h.1, h.2.1, h.2.2.1, h.2.2.2.1, h.2.2.2.2.1⟩ : S59)
  | .s75 => fun h => (⟨h.1, h.2.1⟩ : S75)
  | .s77 => fun h => (⟨h.1, ⟨h.2.1, h.2.2.1⟩, h.2.2.2.1⟩ : S77)
  | .s133 => fun h => (⟨⟨h.1, h.2.1⟩, ⟨h.2.2.1, h.2.2.2.1⟩⟩ : S133)
  | .s136 => fun h => (⟨h.1, h.2.1⟩ : S136)
noncomputable def eZ : (n : SC) → eΓ n
  | .s44 => z44
  | .s46 => z46
  | .s52 => z52
  | .s59 => z59
  | .s75 => z75
  | .s77 => z77
  | .s133 => z133
  | .s136 => z136
noncomputable def eK : (n : SC) → Kd (eΓ n)
  | .s44 => k44
  | .s46 => k46
  | .s52 => k52
  | .s59 => k59
  | .s75 => k75
  | .s77 => k77
  | .s133 => k133
  | .s136 => k136
def tSh : List (Nat × (Bool × Nat)) := [(2, (false, 1)), (3, (false, 1)), (4, (false, 1)), (5, (false, 1)), (6, (false, 1)), (9, (false, 1)), (10, (false, 1)), (11, (false, 1)), (12, (false, 1)), (21, (false, 1)), (22, (false, 1)), (23, (false, 1)), (27, (false, 1)), (44, (true, 3)), (46, (true, 3)), (50, (false, 1)), (52, (true, 5)), (57, (false, 1)), (59, (true, 5)), (70, (false, 1)), (75, (true, 2)), (77, (true, 4)), (99, (false, 1)), (105, (false, 1)), (108, (false, 1)), (133, (true, 4)), (136, (true, 2)), (138, (false, 1)), (146, (false, 1)), (148, (false, 1)), (166, (false, 1)), (194, (false, 1)), (195, (false, 1)), (198, (false, 1)), (199, (false, 1))]
def tZc : List (Nat × List Value) := [(2, [.int .i64 0]), (3, [.int .i64 0]), (4, [.bool false]), (5, [.int .u8 0]), (6, [.int .u8 0]), (9, [.string ⟨#[]⟩]), (10, [.string ⟨#[]⟩]), (11, [.string ⟨#[]⟩]), (12, [.int .u64 0]), (21, [.int .i32 0]), (22, [.slice none 0 0]), (23, [.slice none 0 0]), (27, [.slice none 0 0]), (44, [.int .i64 0, .int .i64 0, .int .i64 0]), (46, [.int .i64 0, .int .i64 0, .int .i64 0]), (50, [.slice none 0 0]), (52, [.int .i64 0, .int .i64 0, .int .i64 0, .string ⟨#[]⟩, .slice none 0 0]), (57, [.slice none 0 0]), (59, [.int .i64 0, .int .i64 0, .int .i64 0, .string ⟨#[]⟩, .slice none 0 0]), (70, [.slice none 0 0]), (75, [.int .i64 0, .int .i64 0]), (77, [.int .i64 0, .int .i64 0, .int .i64 0, .int .i64 0]), (99, [.slice none 0 0]), (105, [.int .u64 0]), (108, [.slice none 0 0]), (133, [.int .i64 0, .int .i64 0, .int .i64 0, .int .i64 0]), (136, [.int .i64 0, .int .i64 0]), (138, [.int .i64 0]), (146, [.int .u32 0]), (148, [.int .u64 0]), (166, [.int .u64 0]), (194, [.int .u8 0]), (195, [.int .u8 0]), (198, [.int .i32 0]), (199, [.int .i32 0])]
def tFld : List (Nat × List (Nat × Nat × Bool)) := [(44, [(0, 1, false), (1, 1, false), (2, 1, false)]), (46, [(0, 1, false), (1, 1, false), (2, 1, false)]), (52, [(0, 1, false), (1, 1, false), (2, 1, false), (3, 1, false), (4, 1, false)]), (59, [(0, 1, false), (1, 1, false), (2, 1, false), (3, 1, false), (4, 1, false)]), (75, [(0, 1, false), (1, 1, false)]), (77, [(0, 1, false), (1, 2, true), (3, 1, false)]), (133, [(0, 2, true), (2, 2, true)]), (136, [(0, 1, false), (1, 1, false)])]
def tSl : List (Nat × (Nat × Ty SC × Nat × Nat × List Value)) := [(22, (52, .st .s52, 5, 64, [.int .i64 0, .int .i64 0, .int .i64 0, .string ⟨#[]⟩, .slice none 0 0])), (23, (3, .i .i64, 1, 8, [.int .i64 0])), (27, (59, .st .s59, 5, 64, [.int .i64 0, .int .i64 0, .int .i64 0, .string ⟨#[]⟩, .slice none 0 0])), (50, (136, .st .s136, 2, 16, [.int .i64 0, .int .i64 0])), (57, (75, .st .s75, 2, 16, [.int .i64 0, .int .i64 0])), (70, (77, .st .s77, 4, 32, [.int .i64 0, .int .i64 0, .int .i64 0, .int .i64 0])), (99, (133, .st .s133, 4, 32, [.int .i64 0, .int .i64 0, .int .i64 0, .int .i64 0])), (108, (5, .i .u8, 1, 1, [.int .u8 0]))]
def tIk : List (Nat × IntKind) := [(2, .i64), (3, .i64), (5, .u8), (6, .u8), (12, .u64), (21, .i32), (105, .u64), (138, .i64), (146, .u32), (148, .u64), (166, .u64), (194, .u8), (195, .u8), (198, .i32), (199, .i32)]
def tStr : List Nat := [9, 10, 11]
def tEq : List (Nat × Nat) := [(44, 3), (46, 3), (75, 2), (136, 2)]
noncomputable def env : Env where
  P := Tryz.prog
  C := SC
  cb := scb
  cbe := scbe
  Γ := eΓ
  fs := eFs
  opn := eOpn
  sht := eSht
  z := eZ
  kst := eK
  sh := lk tSh
  zc := lk tZc
  sl := lk tSl
  ik := lk tIk
  fld := fun t i => (lkF tFld t i).map (·.1)
  pl := fun t => (lk tFld t).map fun l => l.map fun x => (x.1, x.2.1)
  str := fun t => tStr.any (Nat.beq t)
  eqt := fun t n => tEq.any fun p => Nat.beq p.1 t && Nat.beq p.2 n
theorem H44 : KH env k44 (eFs .s44) (eOpn .s44) := KH.iso (KH.pair (KH.one (E := env) (t := (.i .i64)) rfl) (KH.pair (KH.one (E := env) (t := (.i .i64)) rfl) (KH.one (E := env) (t := (.i .i64)) rfl))) _
theorem H46 : KH env k46 (eFs .s46) (eOpn .s46) := KH.iso (KH.pair (KH.one (E := env) (t := (.i .i64)) rfl) (KH.pair (KH.one (E := env) (t := (.i .i64)) rfl) (KH.one (E := env) (t := (.i .i64)) rfl))) _
theorem H52 : KH env k52 (eFs .s52) (eOpn .s52) := KH.iso (KH.pair (KH.one (E := env) (t := (.i .i64)) rfl) (KH.pair (KH.one (E := env) (t := (.i .i64)) rfl) (KH.pair (KH.one (E := env) (t := (.i .i64)) rfl) (KH.pair (KH.one (E := env) (t := .s) rfl) (KH.one (E := env) (t := (.l 136 (.st .s136))) rfl))))) _
theorem H59 : KH env k59 (eFs .s59) (eOpn .s59) := KH.iso (KH.pair (KH.one (E := env) (t := (.i .i64)) rfl) (KH.pair (KH.one (E := env) (t := (.i .i64)) rfl) (KH.pair (KH.one (E := env) (t := (.i .i64)) rfl) (KH.pair (KH.one (E := env) (t := .s) rfl) (KH.one (E := env) (t := (.l 75 (.st .s75))) rfl))))) _
theorem H75 : KH env k75 (eFs .s75) (eOpn .s75) := KH.iso (KH.pair (KH.one (E := env) (t := (.i .i64)) rfl) (KH.one (E := env) (t := (.i .i64)) rfl)) _
theorem H77 : KH env k77 (eFs .s77) (eOpn .s77) := KH.iso (KH.pair (KH.one (E := env) (t := (.i .i64)) rfl) (KH.pair (H75) (KH.one (E := env) (t := (.i .i64)) rfl))) _
theorem H133 : KH env k133 (eFs .s133) (eOpn .s133) := KH.iso (KH.pair (H75) (H75)) _
theorem H136 : KH env k136 (eFs .s136) (eOpn .s136) := KH.iso (KH.pair (KH.one (E := env) (t := (.i .i64)) rfl) (KH.one (E := env) (t := (.i .i64)) rfl)) _
theorem env_ok : env.Ok := Env.ok_of (E := env) (tSh := tSh) (tZc := tZc) (tFld := tFld) (tSl := tSl) (tIk := tIk) (tStr := tStr) (tEq := tEq) (by kernel_rfl) (by intro n; cases n <;> rfl) (fun n => match n with | .s44 => H44 | .s46 => H46 | .s52 => H52 | .s59 => H59 | .s75 => H75 | .s77 => H77 | .s133 => H133 | .s136 => H136) (by intro n h; cases n <;> rfl) (by intro n x; cases n <;> rfl) (by intro n; cases n <;> rfl) rfl (by kernel_rfl) rfl (by kernel_rfl) (by kernel_rfl) rfl (by kernel_rfl) (by kernel_rfl) (by kernel_rfl) (by kernel_rfl) (by kernel_rfl) rfl rfl (by kernel_rfl) (by kernel_rfl) rfl (by kernel_rfl) rfl (by kernel_rfl) rfl (by kernel_rfl)
set_option maxRecDepth 100000
noncomputable def bodyOf (f : Func) : Code := match f.body with | some c => c | none => .skip
noncomputable def sub_ : List Nat → Code → Code
  | [], c => c
  | i :: r, c => match c with
    | .seq a b => sub_ r (match i with | 0 => a | _ => b)
    | .cond _ a b => sub_ r (match i with | 0 => a | _ => b)
    | .block _ a => sub_ r a
    | .loop a => sub_ r a
    | c => c
theorem sndN : ∀ s ∈ ([] : List (Spc env)), Snd env s := fun _ h => nomatch h
theorem sndC {s : Spc env} {l : List (Spc env)} (h : Snd env s) (hl : ∀ s ∈ l, Snd env s) : ∀ x ∈ s :: l, Snd env x := fun x hx => by rcases List.mem_cons.1 hx with rfl | hx; exact h; exact hl x hx
theorem ite_by {α : Type} {c : Prop} {d : Decidable c} {a b r : α} {p : Prop} (h : @ite α c d a b = r) (x : c → a = r → p) (y : ¬ c → b = r → p) : p := by by_cases q : c; exact x q (by rw [← h, if_pos q]); exact y q (by rw [← h, if_neg q])
theorem bind_by {α β : Type} {x : Option α} {f : α → Option β} {r : β} {p : Prop} (h : x.bind f = some r) (k : ∀ t, x = some t → f t = some r → p) : p := by obtain ⟨t, h1, h2⟩ := Option.bind_eq_some_iff.1 h; exact k t h1 h2
theorem evF_snd {E : Env} (hE : E.Ok) {F : List (Spc E)} (hF : ∀ s ∈ F, Snd E s) {id : FuncId} {fn : Func} {cut : Nat → Option (List (Lv E.C))} {pts rts : List (Ty E.C)} (hf : E.P.funcs[id]? = some fn := by kernel_rfl) (h1 : (fn.name == "runtime.NumGoroutine") = false := by kernel_rfl) (h2 : fn.body.isNone = false := by kernel_rfl) : Snd E ⟨id, pts, rts, fun k h => evF E F fn cut pts rts k h⟩ := ⟨⟨fn, hf, h1, h2⟩, fun k h r he w us hA => evF_calls hE hF hf he w us hA⟩
theorem beqI (a b : Int) : (a == b) = decide (a = b) := by by_cases h : a = b <;> simp [h]
theorem rmsC {E : Env} {w : World} {b : Nat} {t : Ty E.C} {ts : List (Ty E.C)} {h : HL E.Γ (t :: ts)} {vs : List Value} {oks : List (Nat → Prop)} (hR : RMs E w b (t :: ts) h vs oks) : ∃ u us ok os, vs = u :: us ∧ oks = ok :: os ∧ AK E (fun t x cs => (kd E t).M w b ok x cs) t h.1 u ∧ RMs E w b ts h.2 us os := by
  match vs, oks, hR with
  | u :: us, ok :: os, h => exact ⟨u, us, ok, os, rfl, rfl, h.1, h.2⟩
theorem rmsN {E : Env} {w : World} {b : Nat} {h : HL E.Γ ([] : List (Ty E.C))} {vs : List Value} {oks : List (Nat → Prop)} (hR : RMs E w b [] h vs oks) : vs = [] := by
  match vs, oks, hR with
  | [], _, _ => rfl
theorem some_inj {α : Type} {a b : α} (h : some a = some b) : a = b := Option.some.inj h
theorem nos {α : Type} {r : α} {p : Prop} (h : none = some r) : p := nomatch h
theorem leo_le {α : Type} {f : Nat → Option α} (h : ∀ k, LeO (f k) (f (k + 1))) {k K : Nat} (hk : k ≤ K) {r : α} (hr : f k = some r) : f K = some r := by
  induction hk with
  | refl => exact hr
  | step _ ih => exact h _ _ ih
theorem nln : (∀ {α : Type} (a b : List α), (a ++ b).length = a.length + b.length) ∧ (∀ {α : Type} (a : α) (l : List α), (a :: l).length = l.length + 1) ∧ (∀ {α : Type}, ([] : List α).length = 0) := ⟨fun a b => List.length_append, fun a l => rfl, rfl⟩
theorem nrm : (∀ (p : Prop) [Decidable p], (decide p = true) = p) ∧ (∀ a b : Bool, ((a && b) = true) = (a = true ∧ b = true)) ∧ (∀ {α : Type} [BEq α] [LawfulBEq α] (a b : α), (a == b) = true ↔ a = b) ∧ (∀ a : Bool, ((!a) = true) = (a = false)) ∧ (∀ b : Bool, (¬ b = true) = (b = false)) ∧ (∀ b : Bool, (¬ b = false) = (b = true)) ∧ (∀ (p : Prop) [Decidable p], (decide p = false) = ¬ p) ∧ (∀ a b : Bool, ((a || b) = true) = (a = true ∨ b = true)) ∧ ((false = true) = False) ∧ ((true = false) = False) ∧ ((¬ True) = False) ∧ ((¬ False) = True) ∧ (∀ p : Prop, (¬ ¬ p) = p) ∧ (∀ p : Prop, (p ∧ True) = p) :=
  ⟨fun p _ => decide_eq_true_eq, fun a b => Bool.and_eq_true a b, fun a b => beq_iff_eq, by simp, by simp, by simp, fun p _ => by simp, fun a b => Bool.or_eq_true a b, by simp, by simp, by simp, by simp, fun p => by simp [Classical.not_not], by simp⟩
theorem itT {α : Type} {c : Prop} {d : Decidable c} {a b r : α} (h : a = r) (hc : c := by first | assumption | omega | (simp only [nrm]; first | done | assumption | omega) | (simp only [nln] at hc ⊢; omega)) : @ite α c d a b = r := (if_pos hc).trans h
theorem itF {α : Type} {c : Prop} {d : Decidable c} {a b r : α} (h : b = r) (hc : ¬ c := by first | assumption | omega | (simp only [nrm]; first | done | assumption | omega) | (simp only [nln] at hc ⊢; omega)) : @ite α c d a b = r := (if_neg hc).trans h
theorem nr2 : (∀ (p : Prop) [Decidable p], decide (¬ p) = !decide p) ∧ (∀ (p q : Prop) [Decidable p] [Decidable q], decide (p ∧ q) = (decide p && decide q)) ∧ (decide True = true) ∧ (∀ b : Bool, (b && true) = b) ∧ (∀ a b : Bool, (!(a && b)) = (!a || !b)) ∧ (∀ a b : Int, (a == b) = decide (a = b)) ∧ (∀ n : Nat, ((n : Int)).toNat = n) ∧ (∀ {α : Type} (l : List α), l.take l.length = l) := ⟨fun p _ => by simp, fun p q _ _ => by simp, by simp, by simp, by simp, beqI, fun n => Int.toNat_natCast n, fun l => List.take_length⟩
def laws_szPointS.Fs : List (Spc env) := []
def laws_szPointS.cut : Nat → Option (List (Lv SC)) := lk []
def laws_szPointS.ret (r0 : Int) : Option (HL eΓ [.i .i64]) := some (r0, ())
def laws_szPointS.run (k : Nat) (h : HL eΓ [.l 136 (.st .s136), .i .i64]) : Option (HL eΓ [.i .i64]) := evF env laws_szPointS.Fs Tryz.f72 laws_szPointS.cut [.l 136 (.st .s136), .i .i64] [.i .i64] k h
theorem laws_szPointS.ef (k : Nat) (h0 : List S136) (h1 : Int) : laws_szPointS.run k (h0, h1, ()) = if (wrap64 (h1 - (h0.length : Int))) < 0 then (laws_szPointS.ret (-1)) else (laws_szPointS.ret (wrap64 (h1 - (h0.length : Int)))) := by kernel_rfl
def laws_szPointS.toH (t : Int) : HL eΓ [.i .i64] := (t, ())
def laws_szPointS.spec : Spc env := ⟨72, [.l 136 (.st .s136), .i .i64], [.i .i64], laws_szPointS.run⟩
def laws_szPointS.ap {R : Type} (k : Nat) (h0 : List S136) (h1 : Int) (K : Int → Option R) : Option R := (laws_szPointS.run k (h0, h1, ())).bind fun r => K (r.1 : Int)
theorem laws_szPointS.ap_of {R : Type} {k : Nat} {h0 : List S136} {h1 : Int} {r0 : Int} {K : Int → Option R} (h : laws_szPointS.run k (h0, h1, ()) = some (r0, ())) : laws_szPointS.ap k h0 h1 K = K r0 := by unfold laws_szPointS.ap; rw [h]; rfl
theorem laws_szPointS.snd : Snd env laws_szPointS.spec := evF_snd env_ok (sndN)
attribute [local irreducible] laws_szPointS.run
theorem laws_szPointS.rt (a0 : Int) : laws_szPointS.ret a0 = some (laws_szPointS.toH (a0)) := rfl
theorem laws_szPointS.go {l0 : List S136} {a1 : Int} {t} (h : laws_szPointS.f l0 a1 = some t) (K : Nat) : laws_szPointS.run K (l0, a1, ()) = some (laws_szPointS.toH t) := by
  rw [laws_szPointS.ef]
  (try dsimp only)
  unfold laws_szPointS.f at h
  repeat' (with_reducible first
   | exact nos h
   | (cases some_inj h; exact laws_szPointS.rt _)
   | (simp only [Option.bind_some] at h)
   | (refine ite_by h ?_ ?_ <;> (intro hc h; (try simp only [nrm] at hc)))
   | refine itT ?_
   | refine itF ?_
   | (simp only [nr2] at h ⊢)
   | (exfalso; omega))
def laws_szFeature.Fs : List (Spc env) := [laws_szPointS.spec]
def laws_szFeature.cut : Nat → Option (List (Lv SC)) := lk []
def laws_szFeature.ret (r0 : Int) : Option (HL eΓ [.i .i64]) := some (r0, ())
def laws_szFeature.run (k : Nat) (h : HL eΓ [.st .s52, .i .i64]) : Option (HL eΓ [.i .i64]) := evF env laws_szFeature.Fs Tryz.f30 laws_szFeature.cut [.st .s52, .i .i64] [.i .i64] k h
theorem laws_szFeature.ef (k : Nat) (h0 : S52) (h1 : Int) : laws_szFeature.run k (h0, h1, ()) = if (wrap64 (h1 - (h0.f3.size : Int))) < 0 then (laws_szFeature.ret (-1)) else (laws_szPointS.ap k h0.f4 (wrap64 (h1 - (h0.f3.size : Int))) fun r1 => if r1 < 0 then (laws_szFeature.ret (-1)) else (laws_szFeature.ret r1)) := by kernel_rfl
def laws_szFeature.toH (t : Int) : HL eΓ [.i .i64] := (t, ())
def laws_szFeature.spec : Spc env := ⟨30, [.st .s52, .i .i64], [.i .i64], laws_szFeature.run⟩
def laws_szFeature.ap {R : Type} (k : Nat) (h0 : S52) (h1 : Int) (K : Int → Option R) : Option R := (laws_szFeature.run k (h0, h1, ())).bind fun r => K (r.1 : Int)
theorem laws_szFeature.ap_of {R : Type} {k : Nat} {h0 : S52} {h1 : Int} {r0 : Int} {K : Int → Option R} (h : laws_szFeature.run k (h0, h1, ()) = some (r0, ())) : laws_szFeature.ap k h0 h1 K = K r0 := by unfold laws_szFeature.ap; rw [h]; rfl
theorem laws_szFeature.snd : Snd env laws_szFeature.spec := evF_snd env_ok (sndC laws_szPointS.snd (sndN))
attribute [local irreducible] laws_szFeature.run
theorem laws_szFeature.rt (a0 : Int) : laws_szFeature.ret a0 = some (laws_szFeature.toH (a0)) := rfl
theorem laws_szFeature.go {a0_0 : Int} {a0_1 : Int} {a0_2 : Int} {a0_3 : ByteArray} {l0_4 : List S136} {a1 : Int} {t} (h : laws_szFeature.f a0_0 a0_1 a0_2 a0_3 l0_4 a1 = some t) (K : Nat) : laws_szFeature.run K ((⟨a0_0, a0_1, a0_2, a0_3, l0_4⟩ : S52), a1, ()) = some (laws_szFeature.toH t) := by
  rw [laws_szFeature.ef]
  (try dsimp only)
  unfold laws_szFeature.f at h
  repeat' (with_reducible first
   | exact nos h
   | (cases some_inj h; exact laws_szFeature.rt _)
   | (simp only [Option.bind_some] at h)
   | (refine ite_by h ?_ ?_ <;> (intro hc h; (try simp only [nrm] at hc)))
   | refine itT ?_
   | refine itF ?_
   | (refine bind_by h (fun t ht h => ?_); refine (laws_szPointS.ap_of (laws_szPointS.go ht _)).trans ?_; (try dsimp only at h ⊢))
   | (simp only [nr2] at h ⊢)
   | (exfalso; omega))
def laws_szFeatureS.Fs : List (Spc env) := [laws_szFeature.spec]
def laws_szFeatureS.fin : St eΓ → Option (HL eΓ [.i .i64]) := finR env Tryz.f7.results.toList [.i .i64]
def laws_szFeatureS.cut : Nat → Option (List (Lv SC)) := lk [(5, [⟨0, none, false⟩, ⟨1, none, false⟩, ⟨5, none, false⟩])]
def laws_szFeatureS.ret (r0 : Int) : Option (HL eΓ [.i .i64]) := some (r0, ())
def laws_szFeatureS.p5 (k : Nat) (x1 : Int) (x5 : Int) (x0 : List S52) : Option (HL eΓ [.i .i64]) := evM env laws_szFeatureS.Fs Tryz.f7.ntmps laws_szFeatureS.fin laws_szFeatureS.cut k [.code (sub_ [1, 1, 1, 0, 1, 0, 0, 0, 0] (bodyOf Tryz.f7)), .code (sub_ [1, 1, 1, 0, 1, 0, 0, 0, 1] (bodyOf Tryz.f7)), .code (sub_ [1, 1, 1, 0, 1, 0, 0, 1] (bodyOf Tryz.f7)), .lp (sub_ [1, 1, 1, 0, 1, 0, 0] (bodyOf Tryz.f7)), .blk 0, .code (sub_ [1, 1, 1, 1] (bodyOf Tryz.f7))] (mkSt [(0, .c (.sl 0)), (1, .c (.v (.int .i64 x1))), (5, .c (.v (.int .i64 x5)))] [.row .ro 52 (.st .s52) x0])
theorem laws_szFeatureS.e5 (k : Nat) (x1 : Int) (x5 : Int) (x0 : List S52) : laws_szFeatureS.p5 (k + 1) x1 x5 x0 = if x5 < (x0.length : Int) then (if 0 ≤ x5 then (if x5 < (x0.length : Int) then (laws_szFeature.ap k (⟨(rd_T52 x0 x5).f0, (rd_T52 x0 x5).f1, (rd_T52 x0 x5).f2, (rd_T52 x0 x5).f3, (rd_T52 x0 x5).f4⟩ : S52) x1 fun r1 => if r1 < 0 then (laws_szFeatureS.ret (-1)) else (laws_szFeatureS.p5 k r1 (wrap64 (x5 + 1)) x0)) else none) else none) else (laws_szFeatureS.ret x1) := by kernel_rfl
def laws_szFeatureS.run (k : Nat) (h : HL eΓ [.l 52 (.st .s52), .i .i64]) : Option (HL eΓ [.i .i64]) := evF env laws_szFeatureS.Fs Tryz.f7 laws_szFeatureS.cut [.l 52 (.st .s52), .i .i64] [.i .i64] k h
theorem laws_szFeatureS.ef (k : Nat) (h0 : List S52) (h1 : Int) : laws_szFeatureS.run k (h0, h1, ()) = if (wrap64 (h1 - (h0.length : Int))) < 0 then (laws_szFeatureS.ret (-1)) else (laws_szFeatureS.p5 k (wrap64 (h1 - (h0.length : Int))) 0 h0) := by kernel_rfl
def laws_szFeatureS.toH (t : Int) : HL eΓ [.i .i64] := (t, ())
def laws_szFeatureS.spec : Spc env := ⟨7, [.l 52 (.st .s52), .i .i64], [.i .i64], laws_szFeatureS.run⟩
theorem laws_szFeatureS.snd : Snd env laws_szFeatureS.spec := evF_snd env_ok (sndC laws_szFeature.snd (sndN))
attribute [local irreducible] laws_szFeatureS.run
theorem laws_szFeatureS.rt (a0 : Int) : laws_szFeatureS.ret a0 = some (laws_szFeatureS.toH (a0)) := rfl
theorem laws_szFeatureS.br (n : Nat) : (∀ K, n ≤ K → ∀ (x1 : Int) (x5 : Int) (x0 : List S52) t, laws_szFeatureS.l0 n x0 x1 x5 = some t → laws_szFeatureS.p5 K x1 x5 x0 = some (laws_szFeatureS.toH t)) := by
  induction n using Nat.strongRecOn with
  | _ n ih =>
  intro K hK x1 x5 x0 t h
  all_goals (rcases n with _ | k)
  all_goals (try (exact nos h))
  all_goals (obtain ⟨K, rfl⟩ : ∃ q, K = q + 1 := ⟨K - 1, by omega⟩)
  all_goals (first | rw [laws_szFeatureS.e5])
  all_goals (simp only [laws_szFeatureS.l0] at h)
  repeat' (with_reducible first
   | exact nos h
   | (cases some_inj h; exact laws_szFeatureS.rt _)
   | exact (ih _ (by omega)) _ (by omega) _ _ _ _ h
   | (simp only [Option.bind_some] at h)
   | (refine ite_by h ?_ ?_ <;> (intro hc h; (try simp only [nrm] at hc)))
   | refine itT ?_
   | refine itF ?_
   | (refine bind_by h (fun t ht h => ?_); refine (laws_szFeature.ap_of (laws_szFeature.go ht _)).trans ?_; (try dsimp only at h ⊢))
   | (simp only [nr2] at h ⊢)
   | (exfalso; omega))
theorem laws_szFeatureS.go {k : Nat} {l0 : List S52} {a1 : Int} {t} (h : laws_szFeatureS.f k l0 a1 = some t) (K : Nat) (hK : k ≤ K) : laws_szFeatureS.run K (l0, a1, ()) = some (laws_szFeatureS.toH t) := by
  rw [laws_szFeatureS.ef]
  (try dsimp only)
  unfold laws_szFeatureS.f at h
  repeat' (with_reducible first
   | exact nos h
   | (cases some_inj h; exact laws_szFeatureS.rt _)
   | exact (laws_szFeatureS.br _) _ (by omega) _ _ _ _ h
   | (simp only [Option.bind_some] at h)
   | (refine ite_by h ?_ ?_ <;> (intro hc h; (try simp only [nrm] at hc)))
   | refine itT ?_
   | refine itF ?_
   | (refine bind_by h (fun t ht h => ?_); refine (laws_szFeature.ap_of (laws_szFeature.go ht _)).trans ?_; (try dsimp only at h ⊢))
   | (simp only [nr2] at h ⊢)
   | (exfalso; omega))
theorem laws_szFeatureS.calls (k : Nat) (A0 : Option Addr) (c0 : Nat) (l0 : List (S52)) (a1 : Int) (r : Int) (w : World) (hr0 : Kd.C k52 w A0 l0.length l0) (hc0 : l0.length ≤ c0) (h : laws_szFeatureS.f k l0 a1 = some r) :
  Calls Tryz.prog 7 #[.slice A0 l0.length c0, .int .i64 a1] w fun e w' => e = .returned (.int .i64 r) ∧ Below w.heap.size w w' := by
  refine (laws_szFeatureS.snd.calls _ _ _ (laws_szFeatureS.go h k (Nat.le_refl k)) w [.slice A0 l0.length c0, .int .i64 a1] ⟨⟨_, _, rfl, hc0, hr0⟩, rfl, trivial⟩).mono ?_
  rintro e w' ⟨v, rfl, hB, vs, oks, rfl, hR, _⟩
  obtain ⟨x0_, vs, o0_, oks, rfl, rfl, m0_, hR⟩ := rmsC hR
  obtain rfl := rmsN hR
  obtain rfl := List.singleton_inj.1 (show [x0_] = [Value.int .i64 r] from m0_)
  exact ⟨rfl, hB⟩
def laws_toPoint.Fs : List (Spc env) := []
def laws_toPoint.cut : Nat → Option (List (Lv SC)) := lk []
def laws_toPoint.ret (r0 : S75) : Option (HL eΓ [.st .s75]) := some (r0, ())
def laws_toPoint.run (k : Nat) (h : HL eΓ [.st .s136]) : Option (HL eΓ [.st .s75]) := evF env laws_toPoint.Fs Tryz.f122 laws_toPoint.cut [.st .s136] [.st .s75] k h
theorem laws_toPoint.ef (k : Nat) (h0 : S136) : laws_toPoint.run k (h0, ()) = laws_toPoint.ret (⟨h0.f0, h0.f1⟩ : S75) := by kernel_rfl
def laws_toPoint.toH (t : Int × Int) : HL eΓ [.st .s75] := ((⟨t.1, t.2⟩ : S75), ())
def laws_toPoint.spec : Spc env := ⟨122, [.st .s136], [.st .s75], laws_toPoint.run⟩
def laws_toPoint.ap {R : Type} (k : Nat) (h0 : S136) (K : S75 → Option R) : Option R := (laws_toPoint.run k (h0, ())).bind fun r => K (r.1 : S75)
theorem laws_toPoint.ap_of {R : Type} {k : Nat} {h0 : S136} {r0 : S75} {K : S75 → Option R} (h : laws_toPoint.run k (h0, ()) = some (r0, ())) : laws_toPoint.ap k h0 K = K r0 := by unfold laws_toPoint.ap; rw [h]; rfl
theorem laws_toPoint.snd : Snd env laws_toPoint.spec := evF_snd env_ok (sndN)
attribute [local irreducible] laws_toPoint.run
theorem laws_toPoint.rt (a0 : Int) (a1 : Int) : laws_toPoint.ret (⟨a0, a1⟩ : S75) = some (laws_toPoint.toH (a0, a1)) := rfl
theorem laws_toPoint.go {a0_0 : Int} {a0_1 : Int} {t} (h : laws_toPoint.f a0_0 a0_1 = some t) (K : Nat) : laws_toPoint.run K ((⟨a0_0, a0_1⟩ : S136), ()) = some (laws_toPoint.toH t) := by
  rw [laws_toPoint.ef]
  (try dsimp only)
  unfold laws_toPoint.f at h
  repeat' (with_reducible first
   | exact nos h
   | (cases some_inj h; exact laws_toPoint.rt _ _)
   | (simp only [Option.bind_some] at h)
   | (refine ite_by h ?_ ?_ <;> (intro hc h; (try simp only [nrm] at hc)))
   | refine itT ?_
   | refine itF ?_
   | (simp only [nr2] at h ⊢)
   | (exfalso; omega))
def laws_toPointS.Fs : List (Spc env) := [laws_toPoint.spec]
def laws_toPointS.fin : St eΓ → Option (HL eΓ [.l 75 (.st .s75)]) := finR env Tryz.f76.results.toList [.l 75 (.st .s75)]
def laws_toPointS.cut : Nat → Option (List (Lv SC)) := lk [(3, [⟨0, none, false⟩, ⟨3, none, false⟩, ⟨4, none, false⟩])]
def laws_toPointS.ret (r0 : List S75) : Option (HL eΓ [.l 75 (.st .s75)]) := some (r0, ())
def laws_toPointS.p3 (k : Nat) (x4 : Int) (x0 : List S136) (x3 : List S75) : Option (HL eΓ [.l 75 (.st .s75)]) := evM env laws_toPointS.Fs Tryz.f76.ntmps laws_toPointS.fin laws_toPointS.cut k [.code (sub_ [1, 1, 0, 1, 0, 0, 0, 0] (bodyOf Tryz.f76)), .code (sub_ [1, 1, 0, 1, 0, 0, 0, 1] (bodyOf Tryz.f76)), .code (sub_ [1, 1, 0, 1, 0, 0, 1] (bodyOf Tryz.f76)), .lp (sub_ [1, 1, 0, 1, 0, 0] (bodyOf Tryz.f76)), .blk 0, .code (sub_ [1, 1, 1] (bodyOf Tryz.f76))] (mkSt [(0, .c (.sl 0)), (3, .c (.sl 1)), (4, .c (.v (.int .i64 x4)))] [.row .ro 136 (.st .s136) x0, .row .own 75 (.st .s75) x3])
theorem laws_toPointS.e3 (k : Nat) (x4 : Int) (x0 : List S136) (x3 : List S75) : laws_toPointS.p3 (k + 1) x4 x0 x3 = if x4 < (x0.length : Int) then (if 0 ≤ x4 then (if x4 < (x0.length : Int) then (laws_toPoint.ap k (⟨(rd_T136 x0 x4).f0, (rd_T136 x0 x4).f1⟩ : S136) fun r1 => if 0 ≤ x4 then (if x4 < (x3.length : Int) then (laws_toPointS.p3 k (wrap64 (x4 + 1)) x0 (x3.set x4.toNat (⟨r1.f0, r1.f1⟩ : S75))) else none) else none) else none) else none) else (laws_toPointS.ret x3) := by kernel_rfl
def laws_toPointS.run (k : Nat) (h : HL eΓ [.l 136 (.st .s136)]) : Option (HL eΓ [.l 75 (.st .s75)]) := evF env laws_toPointS.Fs Tryz.f76 laws_toPointS.cut [.l 136 (.st .s136)] [.l 75 (.st .s75)] k h
theorem laws_toPointS.ef (k : Nat) (h0 : List S136) : laws_toPointS.run k (h0, ()) = if (h0.length : Int) = (h0.length : Int) then (if 0 ≤ (h0.length : Int) then (if (h0.length : Int).toNat * 16 ≤ 281474976710656 then (laws_toPointS.p3 k 0 h0 (List.replicate (h0.length : Int).toNat z75)) else none) else none) else none := by kernel_rfl
def laws_toPointS.toH (t : (List (S75))) : HL eΓ [.l 75 (.st .s75)] := (t, ())
def laws_toPointS.spec : Spc env := ⟨76, [.l 136 (.st .s136)], [.l 75 (.st .s75)], laws_toPointS.run⟩
def laws_toPointS.ap {R : Type} (k : Nat) (h0 : List S136) (K : (List S75) → Option R) : Option R := (laws_toPointS.run k (h0, ())).bind fun r => K (r.1 : List S75)
theorem laws_toPointS.ap_of {R : Type} {k : Nat} {h0 : List S136} {r0 : List S75} {K : (List S75) → Option R} (h : laws_toPointS.run k (h0, ()) = some (r0, ())) : laws_toPointS.ap k h0 K = K r0 := by unfold laws_toPointS.ap; rw [h]; rfl
theorem laws_toPointS.snd : Snd env laws_toPointS.spec := evF_snd env_ok (sndC laws_toPoint.snd (sndN))
attribute [local irreducible] laws_toPointS.run
theorem laws_toPointS.rt (a0 : List S75) : laws_toPointS.ret a0 = some (laws_toPointS.toH (a0)) := rfl
theorem laws_toPointS.br (n : Nat) : (∀ K, n ≤ K → ∀ (x4 : Int) (x0 : List S136) (x3 : List S75) t, laws_toPointS.l0 n x0 x3 x4 = some t → laws_toPointS.p3 K x4 x0 x3 = some (laws_toPointS.toH t)) := by
  induction n using Nat.strongRecOn with
  | _ n ih =>
  intro K hK x4 x0 x3 t h
  all_goals (rcases n with _ | k)
  all_goals (try (exact nos h))
  all_goals (obtain ⟨K, rfl⟩ : ∃ q, K = q + 1 := ⟨K - 1, by omega⟩)
  all_goals (first | rw [laws_toPointS.e3])
  all_goals (simp only [laws_toPointS.l0] at h)
  repeat' (with_reducible first
   | exact nos h
   | (cases some_inj h; exact laws_toPointS.rt _)
   | exact (ih _ (by omega)) _ (by omega) _ _ _ _ h
   | (simp only [Option.bind_some] at h)
   | (refine ite_by h ?_ ?_ <;> (intro hc h; (try simp only [nrm] at hc)))
   | refine itT ?_
   | refine itF ?_
   | (refine bind_by h (fun t ht h => ?_); refine (laws_toPoint.ap_of (laws_toPoint.go ht _)).trans ?_; (try dsimp only at h ⊢))
   | (simp only [nr2] at h ⊢)
   | (exfalso; omega))
theorem laws_toPointS.go {k : Nat} {l0 : List S136} {t} (h : laws_toPointS.f k l0 = some t) (K : Nat) (hK : k ≤ K) : laws_toPointS.run K (l0, ()) = some (laws_toPointS.toH t) := by
  rw [laws_toPointS.ef]
  (try dsimp only)
  unfold laws_toPointS.f at h
  repeat' (with_reducible first
   | exact nos h
   | (cases some_inj h; exact laws_toPointS.rt _)
   | exact (laws_toPointS.br _) _ (by omega) _ _ _ _ h
   | (simp only [Option.bind_some] at h)
   | (refine ite_by h ?_ ?_ <;> (intro hc h; (try simp only [nrm] at hc)))
   | refine itT ?_
   | refine itF ?_
   | (refine bind_by h (fun t ht h => ?_); refine (laws_toPoint.ap_of (laws_toPoint.go ht _)).trans ?_; (try dsimp only at h ⊢))
   | (simp only [nr2] at h ⊢)
   | (exfalso; omega))
def laws_toFeature.Fs : List (Spc env) := [laws_toPointS.spec]
def laws_toFeature.cut : Nat → Option (List (Lv SC)) := lk []
def laws_toFeature.ret (r0 : S59) : Option (HL eΓ [.st .s59]) := some (r0, ())
def laws_toFeature.run (k : Nat) (h : HL eΓ [.st .s52]) : Option (HL eΓ [.st .s59]) := evF env laws_toFeature.Fs Tryz.f33 laws_toFeature.cut [.st .s52] [.st .s59] k h
theorem laws_toFeature.ef (k : Nat) (h0 : S52) : laws_toFeature.run k (h0, ()) = laws_toPointS.ap k h0.f4 fun r1 => laws_toFeature.ret (⟨h0.f0, h0.f1, h0.f2, h0.f3, r1⟩ : S59) := by kernel_rfl
def laws_toFeature.toH (t : Int × Int × Int × ByteArray × (List (S75))) : HL eΓ [.st .s59] := ((⟨t.1, t.2.1, t.2.2.1, t.2.2.2.1, t.2.2.2.2⟩ : S59), ())
def laws_toFeature.spec : Spc env := ⟨33, [.st .s52], [.st .s59], laws_toFeature.run⟩
theorem laws_toFeature.snd : Snd env laws_toFeature.spec := evF_snd env_ok (sndC laws_toPointS.snd (sndN))
attribute [local irreducible] laws_toFeature.run
theorem laws_toFeature.rt (a0 : Int) (a1 : Int) (a2 : Int) (a3 : ByteArray) (a4 : List S75) : laws_toFeature.ret (⟨a0, a1, a2, a3, a4⟩ : S59) = some (laws_toFeature.toH (a0, a1, a2, a3, a4)) := rfl
theorem laws_toFeature.go {k : Nat} {a0_0 : Int} {a0_1 : Int} {a0_2 : Int} {a0_3 : ByteArray} {l0_4 : List S136} {t} (h : laws_toFeature.f k a0_0 a0_1 a0_2 a0_3 l0_4 = some t) (K : Nat) (hK : k ≤ K) : laws_toFeature.run K ((⟨a0_0, a0_1, a0_2, a0_3, l0_4⟩ : S52), ()) = some (laws_toFeature.toH t) := by
  rw [laws_toFeature.ef]
  (try dsimp only)
  unfold laws_toFeature.f at h
  repeat' (with_reducible first
   | exact nos h
   | (cases some_inj h; exact laws_toFeature.rt _ _ _ _ _)
   | (simp only [Option.bind_some] at h)
   | (refine ite_by h ?_ ?_ <;> (intro hc h; (try simp only [nrm] at hc)))
   | refine itT ?_
   | refine itF ?_
   | (refine bind_by h (fun t ht h => ?_); refine (laws_toPointS.ap_of (laws_toPointS.go ht _ (by omega))).trans ?_; (try dsimp only at h ⊢))
   | (simp only [nr2] at h ⊢)
   | (exfalso; omega))
theorem laws_toFeature.calls (k : Nat) (a0_0 : Int) (a0_1 : Int) (a0_2 : Int) (a0_3 : ByteArray) (A0_4 : Option Addr) (c0_4 : Nat) (l0_4 : List (S136)) (r1 : Int) (r2 : Int) (r3 : Int) (r4 : ByteArray) (r5 : List (S75)) (w : World) (hr0_4 : Kd.C k136 w A0_4 l0_4.length l0_4) (hc0_4 : l0_4.length ≤ c0_4) (h : laws_toFeature.f k a0_0 a0_1 a0_2 a0_3 l0_4 = some (r1, r2, r3, r4, r5)) :
  Calls Tryz.prog 33 #[.agg #[.int .i64 a0_0, .int .i64 a0_1, .int .i64 a0_2, .string a0_3, .slice A0_4 l0_4.length c0_4]] w fun e w' => ∃ v4_ : Value, e = .returned (.agg #[.int .i64 r1, .int .i64 r2, .int .i64 r3, .string r4, v4_]) ∧ Kd.R k75 75 w' w.heap.size (fun _ => True) v4_ r5 ∧ Below w.heap.size w w' := by
  refine (laws_toFeature.snd.calls _ _ _ (laws_toFeature.go h k (Nat.le_refl k)) w [.agg #[.int .i64 a0_0, .int .i64 a0_1, .int .i64 a0_2, .string a0_3, .slice A0_4 l0_4.length c0_4]] ⟨⟨_, rfl, (H52.K _ _ _).2 ⟨rfl, rfl, rfl, rfl, ⟨_, _, rfl, hc0_4, hr0_4⟩, trivial⟩⟩, trivial⟩).mono ?_
  rintro e w' ⟨v, rfl, hB, vs, oks, rfl, hR, _⟩
  obtain ⟨x0_, vs, o0_, oks, rfl, rfl, m0_, hR⟩ := rmsC hR
  obtain rfl := rmsN hR
  obtain ⟨y0, rfl, m0_⟩ := m0_
  have m0_ := (H59.M _ _ _ _ _).1 m0_
  match e0 : y0.toList, m0_ with
  | [d0_0, d0_1, d0_2, d0_3, d0_4], ⟨n0_0, n0_1, n0_2, n0_3, n0_4, _⟩ =>
  obtain rfl : y0 = #[d0_0, d0_1, d0_2, d0_3, d0_4] := by rw [← Array.toArray_toList (xs := y0), e0]
  obtain rfl := List.singleton_inj.1 (show [d0_0] = [Value.int .i64 r1] from n0_0)
  obtain rfl := List.singleton_inj.1 (show [d0_1] = [Value.int .i64 r2] from n0_1)
  obtain rfl := List.singleton_inj.1 (show [d0_2] = [Value.int .i64 r3] from n0_2)
  obtain rfl := List.singleton_inj.1 (show [d0_3] = [Value.string r4] from n0_3)
  obtain ⟨d0_4v, d0_4e, d0_4R⟩ := n0_4
  obtain rfl := List.singleton_inj.1 d0_4e
  exact ⟨_, rfl, Kd.R_mono d0_4R (fun _ _ => trivial), hB⟩
set_option maxHeartbeats 8000000 in
set_option maxRecDepth 100000 in
theorem laws_toFeatureS.calls (k : Nat) (A0 : Option Addr) (c0 : Nat) (l0 : List (S52)) (r : List (S59)) (w : World) (hr0 : Kd.C k52 w A0 l0.length l0) (hc0 : l0.length ≤ c0) (h : laws_toFeatureS.f k l0 = some r) :
  Calls Tryz.prog 9 #[.slice A0 l0.length c0] w fun e w' => ∃ v0_ : Value, e = .returned (v0_) ∧ Kd.S k59 59 w' w.heap.size (fun _ => True) v0_ r ∧ Below w.heap.size w w' := by
 have hu52 := Tryz.underlying52; have hu59 := Tryz.underlying59; have HR0 := Aside0.mk hr0; have HC0 := Aside0.mk hc0; clear hr0 hc0; have HB := Aside0.mk (Below.refl w.heap.size w); have H : (if 0 ≤ (l0.length : Int) then (if ((l0.length : Int) : Int).toNat ≤ 4398046511104 then (laws_toFeatureS.l0 k l0 (List.replicate ((l0.length : Int) : Int).toNat z59) 0) else (none)) else (none)) = some r := h; clear h
 by_cases c2 : 0 ≤ (l0.length : Int)
 ·rw [if_pos c2] at H; have c2b0 := eq_true c2; have c2b1 := decide_eq_true c2; clear c2
  by_cases c3 : ((l0.length : Int) : Int).toNat ≤ 4398046511104
  ·rw [if_pos c3] at H; have c3b0 := eq_true c3; have c3b1 := decide_eq_true c3; clear c3; obtain ⟨y121, hy121⟩ : ∃ y_ : List (S59), y_ = (List.replicate ((l0.length : Int) : Int).toNat z59) := ⟨_, rfl⟩
   replace H : (laws_toFeatureS.l0 k l0 y121 0) = some r := by first | (rw [hy121]; with_reducible exact H) | (have H2_ := (Option.bind_some _ _).symm.trans H; rw [hy121]; with_reducible exact H2_) | (have H2_ := (Option.bind_some _ _).symm.trans H; with_reducible exact H2_) | with_reducible exact H | (rw [hy121]; exact H) | exact H
   have Ny121 := Aside0.mk hy121; clear hy121; have H' := Aside0.mk H; clear H
   go_enter Tryz.func9, Tryz.ntmps9; go_wp2_with (first | ((with_reducible refine gate_dst (N := 7) rfl ?_); refine Kd.S_make k59 _ 59 rfl (N := 7) rfl 27 _ _ rfl (l0.length : Int) rfl rfl Tryz.underlying27 (.agg #[(.int .i64 0), (.int .i64 0), (.int .i64 0), (.string ⟨#[]⟩), (.slice none 0 0)]) 64 info59 rfl (by decide) (by omega) z59 (ok := fun _ => True) (okp := fun _ => True) (k59_mkM _ _ _ z59 (Kd.R_nil _ _ _ _ _)) (fun _ hk => hk) trivial (of_decide_eq_true az) (Nat.le_trans (Nat.mul_le_mul_right _ (of_decide_eq_true az : (l0.length : Int).toNat ≤ 4398046511104)) (by omega)) (Below.refl _ _) (Nat.le_refl _) ?_; intro v122 w4 ho5 hb hg_ hnew_; clear hg_ hnew_; (first | rw [← Ny121.out] at ho5 | (simp only [Int.reduceToNat] at ho5; rw [← Ny121.out] at ho5)); have HO123 := Aside0.mk (Kd.S_lower ho5 (below_size bz)); replace HB := Aside0.mk (below_step bz hb); clear hb ho5))
   go_loopg [4] k (fun kq v4 w' => ∃ (x3_1 : List (S59)) (x4_1 : Int), v4 = .int .i64 x4_1 ∧ Aside0 (laws_toFeatureS.l0 kq l0 x3_1 x4_1 = some r) ∧ Aside0 (kq ≤ k) ∧ Aside0 (Kd.S k59 59 w' w.heap.size (fun _ => True) v122 x3_1) ∧ Aside0 (Below w.heap.size w w'))
   case atStart => exact ⟨(y121), (0), rz, H', ⟨Nat.le_refl _⟩, ⟨by (with_reducible repeat (first | apply Kd.S_alloc | apply Kd.S_drewN | apply Kd.S_drew)); exact HO123.out⟩, ⟨bz⟩⟩
   case round =>
    clear H'; (try clear c2); (try clear c2b0); (try clear c2b1); (try clear p2); (try clear c3); (try clear c3b0); (try clear c3b1); obtain ⟨x3_1, x4_1, rfl, HA, HK1, HO_3, HB⟩ := hrel
    cases gk with
    | zero => exact absurd HA.out (by simp [laws_toFeatureS.l0])
    | succ k1 =>
     have H := HA.out; clear HA; simp only [laws_toFeatureS.l0] at H
     by_cases c6 : x4_1 < (l0.length : Int)
     ·rw [if_pos c6] at H; have c6b0 := decide_eq_true c6; clear c6
      by_cases c7 : 0 ≤ x4_1
      ·rw [if_pos c7] at H; have c7b0 := decide_eq_true c7; clear c7; replace H := Option.bind_eq_some_iff.mp H; obtain ⟨⟨t125, t126, t127, t128, t129⟩, A80, H⟩ := H; replace H : (if x4_1 < (x3_1.length : Int) then (laws_toFeatureS.l0 k1 l0 (x3_1.set (x4_1 : Int).toNat (⟨t125, t126, t127, t128, t129⟩ : S59)) (wrap64 (x4_1 + 1))) else (none)) = some r := H; have A8 := Aside0.mk A80; clear A80
       by_cases c9 : x4_1 < (x3_1.length : Int)
       ·rw [if_pos c9] at H; have c9b0 := decide_eq_true c9; clear c9; obtain ⟨y132, hy132⟩ : ∃ y_ : List (S59), y_ = (x3_1.set (x4_1 : Int).toNat (⟨t125, t126, t127, t128, t129⟩ : S59)) := ⟨_, rfl⟩
        replace H : (laws_toFeatureS.l0 k1 l0 y132 (wrap64 (x4_1 + 1))) = some r := by first | (rw [hy132]; with_reducible exact H) | (have H2_ := (Option.bind_some _ _).symm.trans H; rw [hy132]; with_reducible exact H2_) | (have H2_ := (Option.bind_some _ _).symm.trans H; with_reducible exact H2_) | with_reducible exact H | (rw [hy132]; exact H) | exact H
        have Ny132 := Aside0.mk hy132; clear hy132; have H' := Aside0.mk H; clear H; have p124 : 0 ≤ (x4_1 : Int) := of_decide_eq_true az; have q124 : x4_1 < (l0.length : Int) := of_decide_eq_true az; obtain ⟨ad124, A124_4, c124_4, e124, hx124_0, hx124_1, hx124_2, hx124_3, hx124_4, hl124_4, hi124_4⟩ := at_T52 HR0.out x4_1 p124 q124
        cases e124
        replace hx124_0 := xz HB hx124_0; replace hx124_1 := xz HB hx124_1; replace hx124_2 := xz HB hx124_2; replace hx124_3 := xz HB hx124_3; replace hx124_4 := xz HB hx124_4; have HR124_4 := Aside0.mk hi124_4; have HC124_4 := Aside0.mk hl124_4; clear hi124_4 hl124_4; replace p124 := eq_true p124; replace q124 := eq_true q124; go_wp2_with (first | ((with_reducible refine gt (some 20) rfl ?_); refine gc Tryz.func33 (laws_toFeature.calls k1 ((rd_T52 l0 x4_1).f0) ((rd_T52 l0 x4_1).f1) ((rd_T52 l0 x4_1).f2) ((rd_T52 l0 x4_1).f3) _ _ ((rd_T52 l0 x4_1).f4) t125 t126 t127 t128 t129 _ (cz (Kd.C_below HR124_4.out HB.out)) HC124_4.out A8.out) ?_; rintro e w11 ⟨v130, rfl, ho0, hb⟩; refine ⟨_, rfl, ?_⟩; replace HO_3 := Aside0.mk (Kd.S_elder' (by (with_reducible repeat (first | apply Kd.S_alloc | apply Kd.S_drewN | apply Kd.S_drew)); exact HO_3.out) (Kd.R_base ho0) hb); have HO131 := Aside0.mk (Kd.R_lower ho0 (below_size bz)); replace HB := Aside0.mk (below_step bz hb); (try clear hb); (try clear ho0); have p10 : 0 ≤ (x4_1 : Int) := of_decide_eq_true az; have q10 : (x4_1 : Int) < ((x3_1.length : Int) : Int) := of_decide_eq_true az; obtain ⟨go10, co10, eo10, gb10, gl10, cl10, HG10⟩ := Kd.S_form HO_3.out (by omega); (first | cases eo10 | (injection eo10 with ea_ en_ ec_; (first | subst ea_ | (injection ea_ with ea_; subst ea_)); subst ec_; clear en_)); have GB10 := Aside0.mk gb10; have GG10 := Aside0.mk HG10; clear gb10 gl10 HG10; obtain ⟨_, ce10, hcl10, hM10, hcc10, hfr10, _, _⟩ := Kd.S_elem HO_3.out z59 (x4_1 : Int) p10 q10; obtain ⟨ve10_4, rfl, ge10_4⟩ := k59_openM hM10; have hx10_0 : w11.cell? ⟨go10, (x4_1 : Int).toNat * 5, none⟩ = some (.int .i64 ((rd_T59 x3_1 x4_1).f0)) := hcc10 0 _ rfl; have hx10_1 : w11.cell? ⟨go10, (x4_1 : Int).toNat * 5 + 1, none⟩ = some (.int .i64 ((rd_T59 x3_1 x4_1).f1)) := hcc10 1 _ rfl; have hx10_2 : w11.cell? ⟨go10, (x4_1 : Int).toNat * 5 + 2, none⟩ = some (.int .i64 ((rd_T59 x3_1 x4_1).f2)) := hcc10 2 _ rfl; have hx10_3 : w11.cell? ⟨go10, (x4_1 : Int).toNat * 5 + 3, none⟩ = some (.string ((rd_T59 x3_1 x4_1).f3)) := hcc10 3 _ rfl; have hx10_4 : w11.cell? ⟨go10, (x4_1 : Int).toNat * 5 + 4, none⟩ = some (ve10_4) := hcc10 4 _ rfl; have hf10_0 : w11.frozen? ⟨go10, (x4_1 : Int).toNat * 5, none⟩ = false := hfr10 0; have hf10_1 : w11.frozen? ⟨go10, (x4_1 : Int).toNat * 5 + 1, none⟩ = false := hfr10 1; have hf10_2 : w11.frozen? ⟨go10, (x4_1 : Int).toNat * 5 + 2, none⟩ = false := hfr10 2; have hf10_3 : w11.frozen? ⟨go10, (x4_1 : Int).toNat * 5 + 3, none⟩ = false := hfr10 3; have hf10_4 : w11.frozen? ⟨go10, (x4_1 : Int).toNat * 5 + 4, none⟩ = false := hfr10 4; clear hcl10 hcc10 hfr10 hM10; replace p10 := eq_true p10; replace q10 := eq_true q10; have n_ := Aside0.mk (Kd.S_mono (ok' := (fun k_ => some k_ ≠ (v130 : Value).ownBlock)) HO_3.out (fun k_ hk => hk.2)); clear HO_3; have HO_3 := n_; clear n_; have HX12 := Aside0.mk (show Kd.S k59 59 w11 w.heap.size (fun k_ => ((fun _ => True)) k_ ∧ ¬ ((fun k_ => some k_ = (v130 : Value).ownBlock)) k_) (.slice (some ⟨go10, 0, none⟩) x3_1.length co10) x3_1 from (by (with_reducible repeat (first | apply Kd.S_alloc | apply Kd.S_drewN | apply Kd.S_drew)); exact Kd.S_mono HO_3.out (fun k_ hk => ⟨trivial, fun e_ => hk e_⟩))); obtain ⟨oki12, ce12, hcl12, hM12, hcc12, hfr12, hoki12, hH12⟩ := Kd.S_elem HX12.out z59 (x4_1 : Int) (of_decide_eq_true az) (by have h_ : (x4_1 : Int) < ((x3_1.length : Int) : Int) := of_decide_eq_true az; first | exact h_ | (have e_ := (Kd.S_reads' HO_3.out).1; omega) | simpa using h_); obtain ⟨ve12_4, rfl, ge12_4⟩ := k59_openM hM12; have HP12 := Kd.S_seg hH12 (of_decide_eq_true az) (by have h_ : (x4_1 : Int) < ((x3_1.length : Int) : Int) := of_decide_eq_true az; first | exact h_ | (have e_ := (Kd.S_reads' HO_3.out).1; omega) | simpa using h_) (seg := [.int .i64 t125, .int .i64 t126, .int .i64 t127, .string t128, v130]) (j := 0) (show 5 ≤ 5 from by decide) (x' := (⟨t125, t126, t127, t128, t129⟩ : S59)) (k59_mkM _ _ _ (⟨t125, t126, t127, t128, t129⟩ : S59) (Kd.R_mono (Kd.R_tight rfl (Kd.R_mono (ok' := fun k_ => ((fun _ => True)) k_ ∧ k_ ≠ go10) (Kd.R_apart' (HO131.out) (Kd.S_typed HO_3.out) (by decide)) (fun k_ hk => ⟨trivial, fun e_ => (hk.2) (by rw [e_]; rfl)⟩))) (fun _ h_ => Or.inr (h_)))) (fun _ hk => hk) (fun k_ hk_ => ((Kd.R_mono (ok' := fun k_ => ((fun _ => True)) k_ ∧ k_ ≠ go10) (Kd.R_apart' (HO131.out) (Kd.S_typed HO_3.out) (by decide)) (fun k_ hk => ⟨trivial, fun e_ => (hk.2) (by rw [e_]; rfl)⟩))).1 k_ hk_.symm); have hx12_0 := hcc12 0 _ rfl; (try simp only [show (k59).sz = 5 from rfl, Nat.mul_one, Nat.add_zero] at hx12_0); have hf12_0 := hfr12 0; (try simp only [show (k59).sz = 5 from rfl, Nat.mul_one, Nat.add_zero] at hf12_0); have hx12_1 := hcc12 1 _ rfl; (try simp only [show (k59).sz = 5 from rfl, Nat.mul_one, Nat.add_zero] at hx12_1); have hf12_1 := hfr12 1; (try simp only [show (k59).sz = 5 from rfl, Nat.mul_one, Nat.add_zero] at hf12_1); have hx12_2 := hcc12 2 _ rfl; (try simp only [show (k59).sz = 5 from rfl, Nat.mul_one, Nat.add_zero] at hx12_2); have hf12_2 := hfr12 2; (try simp only [show (k59).sz = 5 from rfl, Nat.mul_one, Nat.add_zero] at hf12_2); have hx12_3 := hcc12 3 _ rfl; (try simp only [show (k59).sz = 5 from rfl, Nat.mul_one, Nat.add_zero] at hx12_3); have hf12_3 := hfr12 3; (try simp only [show (k59).sz = 5 from rfl, Nat.mul_one, Nat.add_zero] at hf12_3); have hx12_4 := hcc12 4 _ rfl; (try simp only [show (k59).sz = 5 from rfl, Nat.mul_one, Nat.add_zero] at hx12_4); have hf12_4 := hfr12 4; (try simp only [show (k59).sz = 5 from rfl, Nat.mul_one, Nat.add_zero] at hf12_4); clear hcl12 hcc12 hfr12 hM12 hoki12 hH12; have HS12_4 : ∀ (a_ : Addr) (m_ : Mode) (W_ : World), (store a_ (v130) m_).run Tryz.prog W_ = stored Tryz.prog W_ a_ (v130) m_ := by (obtain ⟨_, _, e_⟩ := Kd.R_slice (HO131.out)); intro a_ m_ W_; rw [e_]; exact run_store _ _ _ _ _ rfl) | ((with_reducible refine gate_store (t := 59) (p := 21) rfl ?_); refine store_event (t := 59) (p := 21) (v := ?vo_w13) (w1 := (((((w11.setCell ⟨go10, (x4_1 : Int).toNat * 5, none⟩ (.int .i64 t125)).setCell ⟨go10, (x4_1 : Int).toNat * 5 + 1, none⟩ (.int .i64 t126)).setCell ⟨go10, (x4_1 : Int).toNat * 5 + 2, none⟩ (.int .i64 t127)).setCell ⟨go10, (x4_1 : Int).toNat * 5 + 3, none⟩ (.string t128)).setCell ⟨go10, (x4_1 : Int).toNat * 5 + 4, none⟩ (v130))) ?hg ?ho ?hn ?hr ?_; (case ho => rfl); (case hg => rfl); (case hn => rfl); (case hr => first | (go_simp; done) | (go_simp; rfl)); intro w13 hw; have hg : w11.grownBy w13 (some go10) := (by rw [hw]; exact HP12.2); have hp_ : Kd.S k59 59 w13 w.heap.size (fun _ => True) (.slice (some ⟨go10, 0, none⟩) x3_1.length co10) y132 := (by rw [hw, Ny132.out]; exact HP12.1); clear HP12; have n0_ := Aside0.mk (hp_); have n1_ := Aside0.mk ((by rw [hw]; exact below_set (below_set (below_set (below_set (below_set (HB.out) GB10.out) GB10.out) GB10.out) GB10.out) GB10.out : Below w.heap.size w w13)); clear HO_3; clear HB; clear HO131; have HO_3 := n0_; have HB := n1_; clear n0_ n1_; clear hg hw hp_))
        go_roundg k1
        case measure => have := HK1.out; omega
        case rel => exact ⟨(y132), (wrap64 (x4_1 + 1)), rz, H', ⟨by have := HK1.out; omega⟩, ⟨by (with_reducible repeat (first | apply Kd.S_alloc | apply Kd.S_drewN | apply Kd.S_drew)); exact HO_3.out⟩, ⟨bz⟩⟩
       ·rw [if_neg c9] at H
        exact absurd H (by simp)
      ·rw [if_neg c7] at H
       exact absurd H (by simp)
     ·rw [if_neg c6] at H; have c6b0 := decide_eq_false c6; clear c6; obtain rfl := Option.some.inj H; go_wp2; go_ret
      exact ⟨_, ez, by (with_reducible repeat (first | apply Kd.S_alloc | apply Kd.S_drewN | apply Kd.S_drew)); exact HO_3.out, bz⟩
  ·rw [if_neg c3] at H
   exact absurd H (by simp)
 ·rw [if_neg c2] at H
  exact absurd H (by simp)
def laws_eqPoint.Fs : List (Spc env) := []
def laws_eqPoint.cut : Nat → Option (List (Lv SC)) := lk []
def laws_eqPoint.ret (r0 : Bool) : Option (HL eΓ [.b]) := some (r0, ())
def laws_eqPoint.run (k : Nat) (h : HL eΓ [.st .s75, .st .s75]) : Option (HL eΓ [.b]) := evF env laws_eqPoint.Fs Tryz.f136 laws_eqPoint.cut [.st .s75, .st .s75] [.b] k h
theorem laws_eqPoint.ef (k : Nat) (h0 : S75) (h1 : S75) : laws_eqPoint.run k (h0, h1, ()) = if ¬ h0.f0 = h1.f0 then (laws_eqPoint.ret false) else (if ¬ h0.f1 = h1.f1 then (laws_eqPoint.ret false) else (laws_eqPoint.ret true)) := by kernel_rfl
def laws_eqPoint.toH (t : Bool) : HL eΓ [.b] := (t, ())
def laws_eqPoint.spec : Spc env := ⟨136, [.st .s75, .st .s75], [.b], laws_eqPoint.run⟩
def laws_eqPoint.ap {R : Type} (k : Nat) (h0 : S75) (h1 : S75) (K : Bool → Option R) : Option R := (laws_eqPoint.run k (h0, h1, ())).bind fun r => K (r.1 : Bool)
theorem laws_eqPoint.ap_of {R : Type} {k : Nat} {h0 : S75} {h1 : S75} {r0 : Bool} {K : Bool → Option R} (h : laws_eqPoint.run k (h0, h1, ()) = some (r0, ())) : laws_eqPoint.ap k h0 h1 K = K r0 := by unfold laws_eqPoint.ap; rw [h]; rfl
theorem laws_eqPoint.snd : Snd env laws_eqPoint.spec := evF_snd env_ok (sndN)
attribute [local irreducible] laws_eqPoint.run
theorem laws_eqPoint.rt (a0 : Bool) : laws_eqPoint.ret a0 = some (laws_eqPoint.toH (a0)) := rfl
theorem laws_eqPoint.go {a0_0 : Int} {a0_1 : Int} {a1_0 : Int} {a1_1 : Int} {t} (h : laws_eqPoint.f a0_0 a0_1 a1_0 a1_1 = some t) (K : Nat) : laws_eqPoint.run K ((⟨a0_0, a0_1⟩ : S75), (⟨a1_0, a1_1⟩ : S75), ()) = some (laws_eqPoint.toH t) := by
  rw [laws_eqPoint.ef]
  (try dsimp only)
  unfold laws_eqPoint.f at h
  repeat' (with_reducible first
   | exact nos h
   | (cases some_inj h; exact laws_eqPoint.rt _)
   | (simp only [Option.bind_some] at h)
   | (refine ite_by h ?_ ?_ <;> (intro hc h; (try simp only [nrm] at hc)))
   | refine itT ?_
   | refine itF ?_
   | (simp only [nr2] at h ⊢)
   | (exfalso; omega))
def laws_eqPointS.Fs : List (Spc env) := [laws_eqPoint.spec]
def laws_eqPointS.fin : St eΓ → Option (HL eΓ [.b]) := finR env Tryz.f82.results.toList [.b]
def laws_eqPointS.cut : Nat → Option (List (Lv SC)) := lk [(4, [⟨0, none, false⟩, ⟨1, none, false⟩, ⟨5, none, false⟩])]
def laws_eqPointS.ret (r0 : Bool) : Option (HL eΓ [.b]) := some (r0, ())
def laws_eqPointS.p4 (k : Nat) (x5 : Int) (x0 : List S75) (x1 : List S75) : Option (HL eΓ [.b]) := evM env laws_eqPointS.Fs Tryz.f82.ntmps laws_eqPointS.fin laws_eqPointS.cut k [.code (sub_ [1, 1, 0, 1, 0, 0, 0, 0] (bodyOf Tryz.f82)), .code (sub_ [1, 1, 0, 1, 0, 0, 0, 1] (bodyOf Tryz.f82)), .code (sub_ [1, 1, 0, 1, 0, 0, 1] (bodyOf Tryz.f82)), .lp (sub_ [1, 1, 0, 1, 0, 0] (bodyOf Tryz.f82)), .blk 0, .code (sub_ [1, 1, 1] (bodyOf Tryz.f82))] (mkSt [(0, .c (.sl 0)), (1, .c (.sl 1)), (5, .c (.v (.int .i64 x5)))] [.row .ro 75 (.st .s75) x0, .row .ro 75 (.st .s75) x1])
theorem laws_eqPointS.e4 (k : Nat) (x5 : Int) (x0 : List S75) (x1 : List S75) : laws_eqPointS.p4 (k + 1) x5 x0 x1 = if x5 < (x0.length : Int) then (if 0 ≤ x5 then (if x5 < (x0.length : Int) then (if 0 ≤ x5 then (if x5 < (x1.length : Int) then (laws_eqPoint.ap k (⟨(rd_T75 x0 x5).f0, (rd_T75 x0 x5).f1⟩ : S75) (⟨(rd_T75 x1 x5).f0, (rd_T75 x1 x5).f1⟩ : S75) fun r1 => if (!r1) = true then (laws_eqPointS.ret false) else (laws_eqPointS.p4 k (wrap64 (x5 + 1)) x0 x1)) else none) else none) else none) else none) else (laws_eqPointS.ret true) := by kernel_rfl
def laws_eqPointS.run (k : Nat) (h : HL eΓ [.l 75 (.st .s75), .l 75 (.st .s75)]) : Option (HL eΓ [.b]) := evF env laws_eqPointS.Fs Tryz.f82 laws_eqPointS.cut [.l 75 (.st .s75), .l 75 (.st .s75)] [.b] k h
theorem laws_eqPointS.ef (k : Nat) (h0 : List S75) (h1 : List S75) : laws_eqPointS.run k (h0, h1, ()) = if ¬ (h0.length : Int) = (h1.length : Int) then (laws_eqPointS.ret false) else (laws_eqPointS.p4 k 0 h0 h1) := by kernel_rfl
def laws_eqPointS.toH (t : Bool) : HL eΓ [.b] := (t, ())
def laws_eqPointS.spec : Spc env := ⟨82, [.l 75 (.st .s75), .l 75 (.st .s75)], [.b], laws_eqPointS.run⟩
def laws_eqPointS.ap {R : Type} (k : Nat) (h0 : List S75) (h1 : List S75) (K : Bool → Option R) : Option R := (laws_eqPointS.run k (h0, h1, ())).bind fun r => K (r.1 : Bool)
theorem laws_eqPointS.ap_of {R : Type} {k : Nat} {h0 : List S75} {h1 : List S75} {r0 : Bool} {K : Bool → Option R} (h : laws_eqPointS.run k (h0, h1, ()) = some (r0, ())) : laws_eqPointS.ap k h0 h1 K = K r0 := by unfold laws_eqPointS.ap; rw [h]; rfl
theorem laws_eqPointS.snd : Snd env laws_eqPointS.spec := evF_snd env_ok (sndC laws_eqPoint.snd (sndN))
attribute [local irreducible] laws_eqPointS.run
theorem laws_eqPointS.rt (a0 : Bool) : laws_eqPointS.ret a0 = some (laws_eqPointS.toH (a0)) := rfl
theorem laws_eqPointS.br (n : Nat) : (∀ K, n ≤ K → ∀ (x5 : Int) (x0 : List S75) (x1 : List S75) t, laws_eqPointS.l0 n x0 x1 x5 = some t → laws_eqPointS.p4 K x5 x0 x1 = some (laws_eqPointS.toH t)) := by
  induction n using Nat.strongRecOn with
  | _ n ih =>
  intro K hK x5 x0 x1 t h
  all_goals (rcases n with _ | k)
  all_goals (try (exact nos h))
  all_goals (obtain ⟨K, rfl⟩ : ∃ q, K = q + 1 := ⟨K - 1, by omega⟩)
  all_goals (first | rw [laws_eqPointS.e4])
  all_goals (simp only [laws_eqPointS.l0] at h)
  repeat' (with_reducible first
   | exact nos h
   | (cases some_inj h; exact laws_eqPointS.rt _)
   | exact (ih _ (by omega)) _ (by omega) _ _ _ _ h
   | (simp only [Option.bind_some] at h)
   | (refine ite_by h ?_ ?_ <;> (intro hc h; (try simp only [nrm] at hc)))
   | refine itT ?_
   | refine itF ?_
   | (refine bind_by h (fun t ht h => ?_); refine (laws_eqPoint.ap_of (laws_eqPoint.go ht _)).trans ?_; (try dsimp only at h ⊢))
   | (simp only [nr2] at h ⊢)
   | (exfalso; omega))
theorem laws_eqPointS.go {k : Nat} {l0 : List S75} {l1 : List S75} {t} (h : laws_eqPointS.f k l0 l1 = some t) (K : Nat) (hK : k ≤ K) : laws_eqPointS.run K (l0, l1, ()) = some (laws_eqPointS.toH t) := by
  rw [laws_eqPointS.ef]
  (try dsimp only)
  unfold laws_eqPointS.f at h
  repeat' (with_reducible first
   | exact nos h
   | (cases some_inj h; exact laws_eqPointS.rt _)
   | exact (laws_eqPointS.br _) _ (by omega) _ _ _ _ h
   | (simp only [Option.bind_some] at h)
   | (refine ite_by h ?_ ?_ <;> (intro hc h; (try simp only [nrm] at hc)))
   | refine itT ?_
   | refine itF ?_
   | (refine bind_by h (fun t ht h => ?_); refine (laws_eqPoint.ap_of (laws_eqPoint.go ht _)).trans ?_; (try dsimp only at h ⊢))
   | (simp only [nr2] at h ⊢)
   | (exfalso; omega))
def laws_eqFeature.Fs : List (Spc env) := [laws_eqPointS.spec]
def laws_eqFeature.cut : Nat → Option (List (Lv SC)) := lk []
def laws_eqFeature.ret (r0 : Bool) : Option (HL eΓ [.b]) := some (r0, ())
def laws_eqFeature.run (k : Nat) (h : HL eΓ [.st .s59, .st .s59]) : Option (HL eΓ [.b]) := evF env laws_eqFeature.Fs Tryz.f41 laws_eqFeature.cut [.st .s59, .st .s59] [.b] k h
theorem laws_eqFeature.ef (k : Nat) (h0 : S59) (h1 : S59) : laws_eqFeature.run k (h0, h1, ()) = if ¬ h0.f0 = h1.f0 then (laws_eqFeature.ret false) else (if ¬ h0.f1 = h1.f1 then (laws_eqFeature.ret false) else (if ¬ h0.f2 = h1.f2 then (laws_eqFeature.ret false) else (if ¬ h0.f3.toList = h1.f3.toList then (laws_eqFeature.ret false) else (laws_eqPointS.ap k h0.f4 h1.f4 fun r1 => if (!r1) = true then (laws_eqFeature.ret false) else (laws_eqFeature.ret true))))) := by kernel_rfl
def laws_eqFeature.toH (t : Bool) : HL eΓ [.b] := (t, ())
def laws_eqFeature.spec : Spc env := ⟨41, [.st .s59, .st .s59], [.b], laws_eqFeature.run⟩
def laws_eqFeature.ap {R : Type} (k : Nat) (h0 : S59) (h1 : S59) (K : Bool → Option R) : Option R := (laws_eqFeature.run k (h0, h1, ())).bind fun r => K (r.1 : Bool)
theorem laws_eqFeature.ap_of {R : Type} {k : Nat} {h0 : S59} {h1 : S59} {r0 : Bool} {K : Bool → Option R} (h : laws_eqFeature.run k (h0, h1, ()) = some (r0, ())) : laws_eqFeature.ap k h0 h1 K = K r0 := by unfold laws_eqFeature.ap; rw [h]; rfl
theorem laws_eqFeature.snd : Snd env laws_eqFeature.spec := evF_snd env_ok (sndC laws_eqPointS.snd (sndN))
attribute [local irreducible] laws_eqFeature.run
theorem laws_eqFeature.rt (a0 : Bool) : laws_eqFeature.ret a0 = some (laws_eqFeature.toH (a0)) := rfl
theorem laws_eqFeature.go {k : Nat} {a0_0 : Int} {a0_1 : Int} {a0_2 : Int} {a0_3 : ByteArray} {l0_4 : List S75} {a1_0 : Int} {a1_1 : Int} {a1_2 : Int} {a1_3 : ByteArray} {l1_4 : List S75} {t} (h : laws_eqFeature.f k a0_0 a0_1 a0_2 a0_3 l0_4 a1_0 a1_1 a1_2 a1_3 l1_4 = some t) (K : Nat) (hK : k ≤ K) : laws_eqFeature.run K ((⟨a0_0, a0_1, a0_2, a0_3, l0_4⟩ : S59), (⟨a1_0, a1_1, a1_2, a1_3, l1_4⟩ : S59), ()) = some (laws_eqFeature.toH t) := by
  rw [laws_eqFeature.ef]
  (try dsimp only)
  unfold laws_eqFeature.f at h
  repeat' (with_reducible first
   | exact nos h
   | (cases some_inj h; exact laws_eqFeature.rt _)
   | (simp only [Option.bind_some] at h)
   | (refine ite_by h ?_ ?_ <;> (intro hc h; (try simp only [nrm] at hc)))
   | refine itT ?_
   | refine itF ?_
   | (refine bind_by h (fun t ht h => ?_); refine (laws_eqPointS.ap_of (laws_eqPointS.go ht _ (by omega))).trans ?_; (try dsimp only at h ⊢))
   | (simp only [nr2] at h ⊢)
   | (exfalso; omega))
def laws_eqFeatureS.Fs : List (Spc env) := [laws_eqFeature.spec]
def laws_eqFeatureS.fin : St eΓ → Option (HL eΓ [.b]) := finR env Tryz.f13.results.toList [.b]
def laws_eqFeatureS.cut : Nat → Option (List (Lv SC)) := lk [(4, [⟨0, none, false⟩, ⟨1, none, false⟩, ⟨5, none, false⟩])]
def laws_eqFeatureS.ret (r0 : Bool) : Option (HL eΓ [.b]) := some (r0, ())
def laws_eqFeatureS.p4 (k : Nat) (x5 : Int) (x0 : List S59) (x1 : List S59) : Option (HL eΓ [.b]) := evM env laws_eqFeatureS.Fs Tryz.f13.ntmps laws_eqFeatureS.fin laws_eqFeatureS.cut k [.code (sub_ [1, 1, 0, 1, 0, 0, 0, 0] (bodyOf Tryz.f13)), .code (sub_ [1, 1, 0, 1, 0, 0, 0, 1] (bodyOf Tryz.f13)), .code (sub_ [1, 1, 0, 1, 0, 0, 1] (bodyOf Tryz.f13)), .lp (sub_ [1, 1, 0, 1, 0, 0] (bodyOf Tryz.f13)), .blk 0, .code (sub_ [1, 1, 1] (bodyOf Tryz.f13))] (mkSt [(0, .c (.sl 0)), (1, .c (.sl 1)), (5, .c (.v (.int .i64 x5)))] [.row .ro 59 (.st .s59) x0, .row .ro 59 (.st .s59) x1])
theorem laws_eqFeatureS.e4 (k : Nat) (x5 : Int) (x0 : List S59) (x1 : List S59) : laws_eqFeatureS.p4 (k + 1) x5 x0 x1 = if x5 < (x0.length : Int) then (if 0 ≤ x5 then (if x5 < (x0.length : Int) then (if 0 ≤ x5 then (if x5 < (x1.length : Int) then (laws_eqFeature.ap k (⟨(rd_T59 x0 x5).f0, (rd_T59 x0 x5).f1, (rd_T59 x0 x5).f2, (rd_T59 x0 x5).f3, (rd_T59 x0 x5).f4⟩ : S59) (⟨(rd_T59 x1 x5).f0, (rd_T59 x1 x5).f1, (rd_T59 x1 x5).f2, (rd_T59 x1 x5).f3, (rd_T59 x1 x5).f4⟩ : S59) fun r1 => if (!r1) = true then (laws_eqFeatureS.ret false) else (laws_eqFeatureS.p4 k (wrap64 (x5 + 1)) x0 x1)) else none) else none) else none) else none) else (laws_eqFeatureS.ret true) := by kernel_rfl
def laws_eqFeatureS.run (k : Nat) (h : HL eΓ [.l 59 (.st .s59), .l 59 (.st .s59)]) : Option (HL eΓ [.b]) := evF env laws_eqFeatureS.Fs Tryz.f13 laws_eqFeatureS.cut [.l 59 (.st .s59), .l 59 (.st .s59)] [.b] k h
theorem laws_eqFeatureS.ef (k : Nat) (h0 : List S59) (h1 : List S59) : laws_eqFeatureS.run k (h0, h1, ()) = if ¬ (h0.length : Int) = (h1.length : Int) then (laws_eqFeatureS.ret false) else (laws_eqFeatureS.p4 k 0 h0 h1) := by kernel_rfl
def laws_eqFeatureS.toH (t : Bool) : HL eΓ [.b] := (t, ())
def laws_eqFeatureS.spec : Spc env := ⟨13, [.l 59 (.st .s59), .l 59 (.st .s59)], [.b], laws_eqFeatureS.run⟩
theorem laws_eqFeatureS.snd : Snd env laws_eqFeatureS.spec := evF_snd env_ok (sndC laws_eqFeature.snd (sndN))
attribute [local irreducible] laws_eqFeatureS.run
theorem laws_eqFeatureS.rt (a0 : Bool) : laws_eqFeatureS.ret a0 = some (laws_eqFeatureS.toH (a0)) := rfl
theorem laws_eqFeatureS.br (n : Nat) : (∀ K, n ≤ K → ∀ (x5 : Int) (x0 : List S59) (x1 : List S59) t, laws_eqFeatureS.l0 n x0 x1 x5 = some t → laws_eqFeatureS.p4 K x5 x0 x1 = some (laws_eqFeatureS.toH t)) := by
  induction n using Nat.strongRecOn with
  | _ n ih =>
  intro K hK x5 x0 x1 t h
  all_goals (rcases n with _ | k)
  all_goals (try (exact nos h))
  all_goals (obtain ⟨K, rfl⟩ : ∃ q, K = q + 1 := ⟨K - 1, by omega⟩)
  all_goals (first | rw [laws_eqFeatureS.e4])
  all_goals (simp only [laws_eqFeatureS.l0] at h)
  repeat' (with_reducible first
   | exact nos h
   | (cases some_inj h; exact laws_eqFeatureS.rt _)
   | exact (ih _ (by omega)) _ (by omega) _ _ _ _ h
   | (simp only [Option.bind_some] at h)
   | (refine ite_by h ?_ ?_ <;> (intro hc h; (try simp only [nrm] at hc)))
   | refine itT ?_
   | refine itF ?_
   | (refine bind_by h (fun t ht h => ?_); refine (laws_eqFeature.ap_of (laws_eqFeature.go ht _ (by omega))).trans ?_; (try dsimp only at h ⊢))
   | (simp only [nr2] at h ⊢)
   | (exfalso; omega))
theorem laws_eqFeatureS.go {k : Nat} {l0 : List S59} {l1 : List S59} {t} (h : laws_eqFeatureS.f k l0 l1 = some t) (K : Nat) (hK : k ≤ K) : laws_eqFeatureS.run K (l0, l1, ()) = some (laws_eqFeatureS.toH t) := by
  rw [laws_eqFeatureS.ef]
  (try dsimp only)
  unfold laws_eqFeatureS.f at h
  repeat' (with_reducible first
   | exact nos h
   | (cases some_inj h; exact laws_eqFeatureS.rt _)
   | exact (laws_eqFeatureS.br _) _ (by omega) _ _ _ _ h
   | (simp only [Option.bind_some] at h)
   | (refine ite_by h ?_ ?_ <;> (intro hc h; (try simp only [nrm] at hc)))
   | refine itT ?_
   | refine itF ?_
   | (refine bind_by h (fun t ht h => ?_); refine (laws_eqFeature.ap_of (laws_eqFeature.go ht _ (by omega))).trans ?_; (try dsimp only at h ⊢))
   | (simp only [nr2] at h ⊢)
   | (exfalso; omega))
theorem laws_eqFeatureS.calls (k : Nat) (A0 : Option Addr) (c0 : Nat) (l0 : List (S59)) (A1 : Option Addr) (c1 : Nat) (l1 : List (S59)) (r : Bool) (w : World) (hr0 : Kd.C k59 w A0 l0.length l0) (hc0 : l0.length ≤ c0) (hr1 : Kd.C k59 w A1 l1.length l1) (hc1 : l1.length ≤ c1) (h : laws_eqFeatureS.f k l0 l1 = some r) :
  Calls Tryz.prog 13 #[.slice A0 l0.length c0, .slice A1 l1.length c1] w fun e w' => e = .returned (.bool r) ∧ Below w.heap.size w w' := by
  refine (laws_eqFeatureS.snd.calls _ _ _ (laws_eqFeatureS.go h k (Nat.le_refl k)) w [.slice A0 l0.length c0, .slice A1 l1.length c1] ⟨⟨_, _, rfl, hc0, hr0⟩, ⟨_, _, rfl, hc1, hr1⟩, trivial⟩).mono ?_
  rintro e w' ⟨v, rfl, hB, vs, oks, rfl, hR, _⟩
  obtain ⟨x0_, vs, o0_, oks, rfl, rfl, m0_, hR⟩ := rmsC hR
  obtain rfl := rmsN hR
  obtain rfl := List.singleton_inj.1 (show [x0_] = [Value.bool r] from m0_)
  exact ⟨rfl, hB⟩
def spec_l14Has.Fs : List (Spc env) := []
def spec_l14Has.fin : St eΓ → Option (HL eΓ [.b]) := finR env Tryz.f58.results.toList [.b]
def spec_l14Has.cut : Nat → Option (List (Lv SC)) := lk [(2, [⟨0, none, false⟩, ⟨1, none, false⟩, ⟨5, none, false⟩])]
def spec_l14Has.ret (r0 : Bool) : Option (HL eΓ [.b]) := some (r0, ())
def spec_l14Has.p2 (k : Nat) (x1 : Int) (x5 : Int) (x0 : List Int) : Option (HL eΓ [.b]) := evM env spec_l14Has.Fs Tryz.f58.ntmps spec_l14Has.fin spec_l14Has.cut k [.code (sub_ [1, 0, 1, 0, 0, 0, 0] (bodyOf Tryz.f58)), .code (sub_ [1, 0, 1, 0, 0, 0, 1] (bodyOf Tryz.f58)), .code (sub_ [1, 0, 1, 0, 0, 1] (bodyOf Tryz.f58)), .lp (sub_ [1, 0, 1, 0, 0] (bodyOf Tryz.f58)), .blk 0, .code (sub_ [1, 1] (bodyOf Tryz.f58))] (mkSt [(0, .c (.sl 0)), (1, .c (.v (.int .i64 x1))), (5, .c (.v (.int .i64 x5)))] [.row .ro 3 (.i .i64) x0])
theorem spec_l14Has.e2 (k : Nat) (x1 : Int) (x5 : Int) (x0 : List Int) : spec_l14Has.p2 (k + 1) x1 x5 x0 = if x5 < (x0.length : Int) then (if 0 ≤ x5 then (if x5 < (x0.length : Int) then (if (x0.getD x5.toNat 0) = x1 then (spec_l14Has.ret true) else (spec_l14Has.p2 k x1 (wrap64 (x5 + 1)) x0)) else none) else none) else (spec_l14Has.ret false) := by kernel_rfl
def spec_l14Has.run (k : Nat) (h : HL eΓ [.l 3 (.i .i64), .i .i64]) : Option (HL eΓ [.b]) := evF env spec_l14Has.Fs Tryz.f58 spec_l14Has.cut [.l 3 (.i .i64), .i .i64] [.b] k h
theorem spec_l14Has.ef (k : Nat) (h0 : List Int) (h1 : Int) : spec_l14Has.run k (h0, h1, ()) = spec_l14Has.p2 k h1 0 h0 := by kernel_rfl
def spec_l14Has.toH (t : Bool) : HL eΓ [.b] := (t, ())
def spec_l14Has.spec : Spc env := ⟨58, [.l 3 (.i .i64), .i .i64], [.b], spec_l14Has.run⟩
def spec_l14Has.ap {R : Type} (k : Nat) (h0 : List Int) (h1 : Int) (K : Bool → Option R) : Option R := (spec_l14Has.run k (h0, h1, ())).bind fun r => K (r.1 : Bool)
theorem spec_l14Has.ap_of {R : Type} {k : Nat} {h0 : List Int} {h1 : Int} {r0 : Bool} {K : Bool → Option R} (h : spec_l14Has.run k (h0, h1, ()) = some (r0, ())) : spec_l14Has.ap k h0 h1 K = K r0 := by unfold spec_l14Has.ap; rw [h]; rfl
theorem spec_l14Has.snd : Snd env spec_l14Has.spec := evF_snd env_ok (sndN)
attribute [local irreducible] spec_l14Has.run
theorem spec_l14Has.rt (a0 : Bool) : spec_l14Has.ret a0 = some (spec_l14Has.toH (a0)) := rfl
theorem spec_l14Has.br (n : Nat) : (∀ K, n ≤ K → ∀ (x1 : Int) (x5 : Int) (x0 : List Int) t, spec_l14Has.l0 n x0 x1 x5 = some t → spec_l14Has.p2 K x1 x5 x0 = some (spec_l14Has.toH t)) := by
  induction n using Nat.strongRecOn with
  | _ n ih =>
  intro K hK x1 x5 x0 t h
  all_goals (rcases n with _ | k)
  all_goals (try (exact nos h))
  all_goals (obtain ⟨K, rfl⟩ : ∃ q, K = q + 1 := ⟨K - 1, by omega⟩)
  all_goals (first | rw [spec_l14Has.e2])
  all_goals (simp only [spec_l14Has.l0, rd] at h)
  repeat' (with_reducible first
   | exact nos h
   | (cases some_inj h; exact spec_l14Has.rt _)
   | exact (ih _ (by omega)) _ (by omega) _ _ _ _ h
   | (simp only [Option.bind_some] at h)
   | (refine ite_by h ?_ ?_ <;> (intro hc h; (try simp only [nrm] at hc)))
   | refine itT ?_
   | refine itF ?_
   | (simp only [nr2] at h ⊢)
   | (exfalso; omega))
theorem spec_l14Has.go {k : Nat} {l0 : List Int} {a1 : Int} {t} (h : spec_l14Has.f k l0 a1 = some t) (K : Nat) (hK : k ≤ K) : spec_l14Has.run K (l0, a1, ()) = some (spec_l14Has.toH t) := by
  rw [spec_l14Has.ef]
  (try dsimp only)
  unfold spec_l14Has.f at h
  repeat' (with_reducible first
   | exact nos h
   | (cases some_inj h; exact spec_l14Has.rt _)
   | exact (spec_l14Has.br _) _ (by omega) _ _ _ _ h
   | (simp only [Option.bind_some] at h)
   | (refine ite_by h ?_ ?_ <;> (intro hc h; (try simp only [nrm] at hc)))
   | refine itT ?_
   | refine itF ?_
   | (simp only [nr2] at h ⊢)
   | (exfalso; omega))
def spec_l1In.toH (t : Bool) : HL eΓ [.b] := (t, ())
def spec_l1In.run (k : Nat) (h : HL eΓ [.i .i64, .i .i64, .i .i64]) : Option (HL eΓ [.b]) := (spec_l1In.f (h.1 : Int) (h.2.1 : Int) (h.2.2.1 : Int)).map spec_l1In.toH
def spec_l1In.spec : Spc env := ⟨90, [.i .i64, .i .i64, .i .i64], [.b], spec_l1In.run⟩
def spec_l1In.ap {R : Type} (k : Nat) (h0 : Int) (h1 : Int) (h2 : Int) (K : Bool → Option R) : Option R := (spec_l1In.run k (h0, h1, h2, ())).bind fun r => K (r.1 : Bool)
theorem spec_l1In.ap_of {R : Type} {k : Nat} {h0 : Int} {h1 : Int} {h2 : Int} {r0 : Bool} {K : Bool → Option R} (h : spec_l1In.run k (h0, h1, h2, ()) = some (r0, ())) : spec_l1In.ap k h0 h1 h2 K = K r0 := by unfold spec_l1In.ap; rw [h]; rfl
theorem spec_l1In.go {a0 : Int} {a1 : Int} {a2 : Int} {t} (h : spec_l1In.f a0 a1 a2 = some t) (K : Nat) : spec_l1In.run K (a0, a1, a2, ()) = some (spec_l1In.toH t) := by
  show Option.map _ (spec_l1In.f a0 a1 a2) = _
  rw [h]; rfl
theorem spec_l1In.snd : Snd env spec_l1In.spec := ⟨⟨Tryz.f90, by kernel_rfl, by kernel_rfl, by kernel_rfl⟩, fun k h r he w us hA => by
  obtain ⟨t, ht, rfl⟩ := Option.map_eq_some_iff.1 (show (spec_l1In.f (h.1 : Int) (h.2.1 : Int) (h.2.2.1 : Int)).map spec_l1In.toH = some r from he)
  match us, hA with
  | [u0, u1, u2], ⟨q0, q1, q2, _⟩ =>
  obtain rfl := List.singleton_inj.1 (show [u0] = [Value.int .i64 (h.1 : Int)] from q0)
  obtain rfl := List.singleton_inj.1 (show [u1] = [Value.int .i64 (h.2.1 : Int)] from q1)
  obtain rfl := List.singleton_inj.1 (show [u2] = [Value.int .i64 (h.2.2.1 : Int)] from q2)
  refine (spec_l1In.calls (w := w) (h := ht) ).mono ?_
  rintro e w' ⟨he, hw⟩
  exact ⟨_, he, (by obtain ⟨_, rfl⟩ := hw; exact Below.refl _ _), [.bool t], [fun _ => False], rfl, ⟨rfl, trivial⟩, by simp [DJ]⟩⟩
def spec_IsPoint.toH (t : Bool) : HL eΓ [.b] := (t, ())
def spec_IsPoint.run (k : Nat) (h : HL eΓ [.st .s75]) : Option (HL eΓ [.b]) := (spec_IsPoint.f ((h.1 : S75).f0) ((h.1 : S75).f1)).map spec_IsPoint.toH
def spec_IsPoint.spec : Spc env := ⟨88, [.st .s75], [.b], spec_IsPoint.run⟩
def spec_IsPoint.ap {R : Type} (k : Nat) (h0 : S75) (K : Bool → Option R) : Option R := (spec_IsPoint.run k (h0, ())).bind fun r => K (r.1 : Bool)
theorem spec_IsPoint.ap_of {R : Type} {k : Nat} {h0 : S75} {r0 : Bool} {K : Bool → Option R} (h : spec_IsPoint.run k (h0, ()) = some (r0, ())) : spec_IsPoint.ap k h0 K = K r0 := by unfold spec_IsPoint.ap; rw [h]; rfl
theorem spec_IsPoint.go {a0_0 : Int} {a0_1 : Int} {t} (h : spec_IsPoint.f a0_0 a0_1 = some t) (K : Nat) : spec_IsPoint.run K ((⟨a0_0, a0_1⟩ : S75), ()) = some (spec_IsPoint.toH t) := by
  show Option.map _ (spec_IsPoint.f a0_0 a0_1) = _
  rw [h]; rfl
theorem spec_IsPoint.snd : Snd env spec_IsPoint.spec := ⟨⟨Tryz.f88, by kernel_rfl, by kernel_rfl, by kernel_rfl⟩, fun k h r he w us hA => by
  obtain ⟨t, ht, rfl⟩ := Option.map_eq_some_iff.1 (show (spec_IsPoint.f ((h.1 : S75).f0) ((h.1 : S75).f1)).map spec_IsPoint.toH = some r from he)
  match us, hA with
  | [u0], ⟨q0, _⟩ =>
  obtain ⟨v0, rfl, q0⟩ := q0
  have q0 := (H75.K _ _ _).1 q0
  match e0 : v0.toList, q0 with
  | [c0_0, c0_1], ⟨p0_0, p0_1, _⟩ =>
  obtain rfl : v0 = #[c0_0, c0_1] := by rw [← Array.toArray_toList (xs := v0), e0]
  obtain rfl := List.singleton_inj.1 (show [c0_0] = [Value.int .i64 ((h.1 : S75).f0)] from p0_0)
  obtain rfl := List.singleton_inj.1 (show [c0_1] = [Value.int .i64 ((h.1 : S75).f1)] from p0_1)
  refine (spec_IsPoint.calls (w := w) (h := ht) ).mono ?_
  rintro e w' ⟨he, hw⟩
  exact ⟨_, he, hw, [.bool t], [fun _ => False], rfl, ⟨rfl, trivial⟩, by simp [DJ]⟩⟩
def spec_IsName.Fs : List (Spc env) := [spec_l1In.spec]
def spec_IsName.fin : St eΓ → Option (HL eΓ [.b]) := finR env Tryz.f89.results.toList [.b]
def spec_IsName.cut : Nat → Option (List (Lv SC)) := lk [(2, [⟨0, none, false⟩, ⟨3, none, false⟩])]
def spec_IsName.ret (r0 : Bool) : Option (HL eΓ [.b]) := some (r0, ())
def spec_IsName.p2 (k : Nat) (x0 : ByteArray) (x3 : Int) : Option (HL eΓ [.b]) := evM env spec_IsName.Fs Tryz.f89.ntmps spec_IsName.fin spec_IsName.cut k [.code (sub_ [1, 0, 1, 0, 0, 0, 0] (bodyOf Tryz.f89)), .code (sub_ [1, 0, 1, 0, 0, 0, 1] (bodyOf Tryz.f89)), .code (sub_ [1, 0, 1, 0, 0, 1] (bodyOf Tryz.f89)), .lp (sub_ [1, 0, 1, 0, 0] (bodyOf Tryz.f89)), .blk 0, .code (sub_ [1, 1] (bodyOf Tryz.f89))] (mkSt [(0, .c (.v (.string x0))), (3, .c (.v (.int .i64 x3)))] [])
theorem spec_IsName.e2 (k : Nat) (x0 : ByteArray) (x3 : Int) : spec_IsName.p2 (k + 1) x0 x3 = if x3 < (x0.size : Int) then (if 0 ≤ x3 then (if x3 < (x0.size : Int) then (if (bt x0 x3) < 97 then (spec_IsName.ret false) else (if 0 ≤ x3 then (if x3 < (x0.size : Int) then (if (bt x0 x3) > 122 then (spec_IsName.ret false) else (spec_IsName.p2 k x0 (wrap64 (x3 + 1)))) else none) else none)) else none) else none) else (spec_l1In.ap k (x0.size : Int) 1 8 fun r1 => spec_IsName.ret r1) := by kernel_rfl
def spec_IsName.run (k : Nat) (h : HL eΓ [.s]) : Option (HL eΓ [.b]) := evF env spec_IsName.Fs Tryz.f89 spec_IsName.cut [.s] [.b] k h
theorem spec_IsName.ef (k : Nat) (h0 : ByteArray) : spec_IsName.run k (h0, ()) = spec_IsName.p2 k h0 0 := by kernel_rfl
def spec_IsName.toH (t : Bool) : HL eΓ [.b] := (t, ())
def spec_IsName.spec : Spc env := ⟨89, [.s], [.b], spec_IsName.run⟩
def spec_IsName.ap {R : Type} (k : Nat) (h0 : ByteArray) (K : Bool → Option R) : Option R := (spec_IsName.run k (h0, ())).bind fun r => K (r.1 : Bool)
theorem spec_IsName.ap_of {R : Type} {k : Nat} {h0 : ByteArray} {r0 : Bool} {K : Bool → Option R} (h : spec_IsName.run k (h0, ()) = some (r0, ())) : spec_IsName.ap k h0 K = K r0 := by unfold spec_IsName.ap; rw [h]; rfl
theorem spec_IsName.snd : Snd env spec_IsName.spec := evF_snd env_ok (sndC spec_l1In.snd (sndN))
attribute [local irreducible] spec_IsName.run
theorem spec_IsName.rt (a0 : Bool) : spec_IsName.ret a0 = some (spec_IsName.toH (a0)) := rfl
theorem spec_IsName.br (n : Nat) : (∀ K, n ≤ K → ∀ (x0 : ByteArray) (x3 : Int) t, spec_IsName.l0 n x0 x3 = some t → spec_IsName.p2 K x0 x3 = some (spec_IsName.toH t)) := by
  induction n using Nat.strongRecOn with
  | _ n ih =>
  intro K hK x0 x3 t h
  all_goals (rcases n with _ | k)
  all_goals (try (exact nos h))
  all_goals (obtain ⟨K, rfl⟩ : ∃ q, K = q + 1 := ⟨K - 1, by omega⟩)
  all_goals (first | rw [spec_IsName.e2])
  all_goals (simp only [spec_IsName.l0] at h)
  repeat' (with_reducible first
   | exact nos h
   | (cases some_inj h; exact spec_IsName.rt _)
   | exact (ih _ (by omega)) _ (by omega) _ _ _ h
   | (simp only [Option.bind_some] at h)
   | (refine ite_by h ?_ ?_ <;> (intro hc h; (try simp only [nrm] at hc)))
   | refine itT ?_
   | refine itF ?_
   | (refine bind_by h (fun t ht h => ?_); refine (spec_l1In.ap_of (spec_l1In.go ht _)).trans ?_; (try dsimp only at h ⊢))
   | (simp only [nr2] at h ⊢)
   | (exfalso; omega))
theorem spec_IsName.go {k : Nat} {a0 : ByteArray} {t} (h : spec_IsName.f k a0 = some t) (K : Nat) (hK : k ≤ K) : spec_IsName.run K (a0, ()) = some (spec_IsName.toH t) := by
  rw [spec_IsName.ef]
  (try dsimp only)
  unfold spec_IsName.f at h
  repeat' (with_reducible first
   | exact nos h
   | (cases some_inj h; exact spec_IsName.rt _)
   | exact (spec_IsName.br _) _ (by omega) _ _ _ h
   | (simp only [Option.bind_some] at h)
   | (refine ite_by h ?_ ?_ <;> (intro hc h; (try simp only [nrm] at hc)))
   | refine itT ?_
   | refine itF ?_
   | (refine bind_by h (fun t ht h => ?_); refine (spec_l1In.ap_of (spec_l1In.go ht _)).trans ?_; (try dsimp only at h ⊢))
   | (simp only [nr2] at h ⊢)
   | (exfalso; omega))
def spec_IsSegment.toH (t : Bool) : HL eΓ [.b] := (t, ())
def spec_IsSegment.run (k : Nat) (h : HL eΓ [.st .s133]) : Option (HL eΓ [.b]) := (spec_IsSegment.f ((h.1 : S133).f0.f0) ((h.1 : S133).f0.f1) ((h.1 : S133).f1.f0) ((h.1 : S133).f1.f1)).map spec_IsSegment.toH
def spec_IsSegment.spec : Spc env := ⟨164, [.st .s133], [.b], spec_IsSegment.run⟩
def spec_IsSegment.ap {R : Type} (k : Nat) (h0 : S133) (K : Bool → Option R) : Option R := (spec_IsSegment.run k (h0, ())).bind fun r => K (r.1 : Bool)
theorem spec_IsSegment.ap_of {R : Type} {k : Nat} {h0 : S133} {r0 : Bool} {K : Bool → Option R} (h : spec_IsSegment.run k (h0, ()) = some (r0, ())) : spec_IsSegment.ap k h0 K = K r0 := by unfold spec_IsSegment.ap; rw [h]; rfl
theorem spec_IsSegment.go {a0_0 : Int} {a0_1 : Int} {a0_2 : Int} {a0_3 : Int} {t} (h : spec_IsSegment.f a0_0 a0_1 a0_2 a0_3 = some t) (K : Nat) : spec_IsSegment.run K ((⟨(⟨a0_0, a0_1⟩ : S75), (⟨a0_2, a0_3⟩ : S75)⟩ : S133), ()) = some (spec_IsSegment.toH t) := by
  show Option.map _ (spec_IsSegment.f a0_0 a0_1 a0_2 a0_3) = _
  rw [h]; rfl
theorem spec_IsSegment.snd : Snd env spec_IsSegment.spec := ⟨⟨Tryz.f164, by kernel_rfl, by kernel_rfl, by kernel_rfl⟩, fun k h r he w us hA => by
  obtain ⟨t, ht, rfl⟩ := Option.map_eq_some_iff.1 (show (spec_IsSegment.f ((h.1 : S133).f0.f0) ((h.1 : S133).f0.f1) ((h.1 : S133).f1.f0) ((h.1 : S133).f1.f1)).map spec_IsSegment.toH = some r from he)
  match us, hA with
  | [u0], ⟨q0, _⟩ =>
  obtain ⟨v0, rfl, q0⟩ := q0
  have q0 := (H133.K _ _ _).1 q0
  match e0 : v0.toList, q0 with
  | [c0_0, c0_1, c0_2, c0_3], ⟨p0_0, p0_1, p0_2, p0_3, _⟩ =>
  obtain rfl : v0 = #[c0_0, c0_1, c0_2, c0_3] := by rw [← Array.toArray_toList (xs := v0), e0]
  obtain rfl := List.singleton_inj.1 (show [c0_0] = [Value.int .i64 ((h.1 : S133).f0.f0)] from p0_0)
  obtain rfl := List.singleton_inj.1 (show [c0_1] = [Value.int .i64 ((h.1 : S133).f0.f1)] from p0_1)
  obtain rfl := List.singleton_inj.1 (show [c0_2] = [Value.int .i64 ((h.1 : S133).f1.f0)] from p0_2)
  obtain rfl := List.singleton_inj.1 (show [c0_3] = [Value.int .i64 ((h.1 : S133).f1.f1)] from p0_3)
  refine (spec_IsSegment.calls (w := w) (h := ht) ).mono ?_
  rintro e w' ⟨he, hw⟩
  exact ⟨_, he, hw, [.bool t], [fun _ => False], rfl, ⟨rfl, trivial⟩, by simp [DJ]⟩⟩
def spec_l7Segments.Fs : List (Spc env) := []
def spec_l7Segments.fin : St eΓ → Option (HL eΓ [.l 133 (.st .s133)]) := finR env Tryz.f168.results.toList [.l 133 (.st .s133)]
def spec_l7Segments.cut : Nat → Option (List (Lv SC)) := lk [(3, [⟨0, none, false⟩, ⟨3, none, false⟩, ⟨4, none, false⟩])]
def spec_l7Segments.ret (r0 : List S133) : Option (HL eΓ [.l 133 (.st .s133)]) := some (r0, ())
def spec_l7Segments.p3 (k : Nat) (x4 : Int) (x0 : List S75) (x3 : List S133) : Option (HL eΓ [.l 133 (.st .s133)]) := evM env spec_l7Segments.Fs Tryz.f168.ntmps spec_l7Segments.fin spec_l7Segments.cut k [.code (sub_ [1, 1, 0, 1, 0, 0, 0, 0] (bodyOf Tryz.f168)), .code (sub_ [1, 1, 0, 1, 0, 0, 0, 1] (bodyOf Tryz.f168)), .code (sub_ [1, 1, 0, 1, 0, 0, 1] (bodyOf Tryz.f168)), .lp (sub_ [1, 1, 0, 1, 0, 0] (bodyOf Tryz.f168)), .blk 0, .code (sub_ [1, 1, 1] (bodyOf Tryz.f168))] (mkSt [(0, .c (.sl 0)), (3, .c (.sl 1)), (4, .c (.v (.int .i64 x4)))] [.row .ro 75 (.st .s75) x0, .row .own 133 (.st .s133) x3])
theorem spec_l7Segments.e3 (k : Nat) (x4 : Int) (x0 : List S75) (x3 : List S133) : spec_l7Segments.p3 (k + 1) x4 x0 x3 = if x4 < (x0.length : Int) then (if 0 ≤ x4 then (if x4 < (x0.length : Int) then (if (x0.length : Int) = 0 then none else (if 0 ≤ (Int.tmod (wrap64 (x4 + 1)) (x0.length : Int)) then (if (Int.tmod (wrap64 (x4 + 1)) (x0.length : Int)) < (x0.length : Int) then (if (x3.length + 1) * 32 ≤ 140737488355328 then (spec_l7Segments.p3 k (wrap64 (x4 + 1)) x0 (x3 ++ [(⟨(⟨(rd_T75 x0 x4).f0, (rd_T75 x0 x4).f1⟩ : S75), (⟨(rd_T75 x0 (Int.tmod (wrap64 (x4 + 1)) (x0.length : Int))).f0, (rd_T75 x0 (Int.tmod (wrap64 (x4 + 1)) (x0.length : Int))).f1⟩ : S75)⟩ : S133)])) else none) else none) else none)) else none) else none) else (spec_l7Segments.ret x3) := by kernel_rfl
def spec_l7Segments.run (k : Nat) (h : HL eΓ [.l 75 (.st .s75)]) : Option (HL eΓ [.l 133 (.st .s133)]) := evF env spec_l7Segments.Fs Tryz.f168 spec_l7Segments.cut [.l 75 (.st .s75)] [.l 133 (.st .s133)] k h
theorem spec_l7Segments.ef (k : Nat) (h0 : List S75) : spec_l7Segments.run k (h0, ()) = spec_l7Segments.p3 k 0 h0 ([] : List S133) := by kernel_rfl
def spec_l7Segments.toH (t : (List (S133))) : HL eΓ [.l 133 (.st .s133)] := (t, ())
def spec_l7Segments.spec : Spc env := ⟨168, [.l 75 (.st .s75)], [.l 133 (.st .s133)], spec_l7Segments.run⟩
def spec_l7Segments.ap {R : Type} (k : Nat) (h0 : List S75) (K : (List S133) → Option R) : Option R := (spec_l7Segments.run k (h0, ())).bind fun r => K (r.1 : List S133)
theorem spec_l7Segments.ap_of {R : Type} {k : Nat} {h0 : List S75} {r0 : List S133} {K : (List S133) → Option R} (h : spec_l7Segments.run k (h0, ()) = some (r0, ())) : spec_l7Segments.ap k h0 K = K r0 := by unfold spec_l7Segments.ap; rw [h]; rfl
theorem spec_l7Segments.snd : Snd env spec_l7Segments.spec := evF_snd env_ok (sndN)
attribute [local irreducible] spec_l7Segments.run
theorem spec_l7Segments.rt (a0 : List S133) : spec_l7Segments.ret a0 = some (spec_l7Segments.toH (a0)) := rfl
theorem spec_l7Segments.br (n : Nat) : (∀ K, n ≤ K → ∀ (x4 : Int) (x0 : List S75) (x3 : List S133) t, spec_l7Segments.l0 n x0 x3 x4 = some t → spec_l7Segments.p3 K x4 x0 x3 = some (spec_l7Segments.toH t)) := by
  induction n using Nat.strongRecOn with
  | _ n ih =>
  intro K hK x4 x0 x3 t h
  all_goals (rcases n with _ | k)
  all_goals (try (exact nos h))
  all_goals (obtain ⟨K, rfl⟩ : ∃ q, K = q + 1 := ⟨K - 1, by omega⟩)
  all_goals (first | rw [spec_l7Segments.e3])
  all_goals (simp only [spec_l7Segments.l0] at h)
  repeat' (with_reducible first
   | exact nos h
   | (cases some_inj h; exact spec_l7Segments.rt _)
   | exact (ih _ (by omega)) _ (by omega) _ _ _ _ h
   | (simp only [Option.bind_some] at h)
   | (refine ite_by h ?_ ?_ <;> (intro hc h; (try simp only [nrm] at hc)))
   | refine itT ?_
   | refine itF ?_
   | (simp only [nr2] at h ⊢)
   | (exfalso; omega))
theorem spec_l7Segments.go {k : Nat} {l0 : List S75} {t} (h : spec_l7Segments.f k l0 = some t) (K : Nat) (hK : k ≤ K) : spec_l7Segments.run K (l0, ()) = some (spec_l7Segments.toH t) := by
  rw [spec_l7Segments.ef]
  (try dsimp only)
  unfold spec_l7Segments.f at h
  repeat' (with_reducible first
   | exact nos h
   | (cases some_inj h; exact spec_l7Segments.rt _)
   | exact (spec_l7Segments.br _) _ (by omega) _ _ _ _ h
   | (simp only [Option.bind_some] at h)
   | (refine ite_by h ?_ ?_ <;> (intro hc h; (try simp only [nrm] at hc)))
   | refine itT ?_
   | refine itF ?_
   | (simp only [nr2] at h ⊢)
   | (exfalso; omega))
def spec_IsOn.toH (t : Bool) : HL eΓ [.b] := (t, ())
def spec_IsOn.run (k : Nat) (h : HL eΓ [.st .s133, .st .s75]) : Option (HL eΓ [.b]) := (spec_IsOn.f ((h.1 : S133).f0.f0) ((h.1 : S133).f0.f1) ((h.1 : S133).f1.f0) ((h.1 : S133).f1.f1) ((h.2.1 : S75).f0) ((h.2.1 : S75).f1)).map spec_IsOn.toH
def spec_IsOn.spec : Spc env := ⟨203, [.st .s133, .st .s75], [.b], spec_IsOn.run⟩
def spec_IsOn.ap {R : Type} (k : Nat) (h0 : S133) (h1 : S75) (K : Bool → Option R) : Option R := (spec_IsOn.run k (h0, h1, ())).bind fun r => K (r.1 : Bool)
theorem spec_IsOn.ap_of {R : Type} {k : Nat} {h0 : S133} {h1 : S75} {r0 : Bool} {K : Bool → Option R} (h : spec_IsOn.run k (h0, h1, ()) = some (r0, ())) : spec_IsOn.ap k h0 h1 K = K r0 := by unfold spec_IsOn.ap; rw [h]; rfl
theorem spec_IsOn.go {a0_0 : Int} {a0_1 : Int} {a0_2 : Int} {a0_3 : Int} {a1_0 : Int} {a1_1 : Int} {t} (h : spec_IsOn.f a0_0 a0_1 a0_2 a0_3 a1_0 a1_1 = some t) (K : Nat) : spec_IsOn.run K ((⟨(⟨a0_0, a0_1⟩ : S75), (⟨a0_2, a0_3⟩ : S75)⟩ : S133), (⟨a1_0, a1_1⟩ : S75), ()) = some (spec_IsOn.toH t) := by
  show Option.map _ (spec_IsOn.f a0_0 a0_1 a0_2 a0_3 a1_0 a1_1) = _
  rw [h]; rfl
theorem spec_IsOn.snd : Snd env spec_IsOn.spec := ⟨⟨Tryz.f203, by kernel_rfl, by kernel_rfl, by kernel_rfl⟩, fun k h r he w us hA => by
  obtain ⟨t, ht, rfl⟩ := Option.map_eq_some_iff.1 (show (spec_IsOn.f ((h.1 : S133).f0.f0) ((h.1 : S133).f0.f1) ((h.1 : S133).f1.f0) ((h.1 : S133).f1.f1) ((h.2.1 : S75).f0) ((h.2.1 : S75).f1)).map spec_IsOn.toH = some r from he)
  match us, hA with
  | [u0, u1], ⟨q0, q1, _⟩ =>
  obtain ⟨v0, rfl, q0⟩ := q0
  have q0 := (H133.K _ _ _).1 q0
  match e0 : v0.toList, q0 with
  | [c0_0, c0_1, c0_2, c0_3], ⟨p0_0, p0_1, p0_2, p0_3, _⟩ =>
  obtain rfl : v0 = #[c0_0, c0_1, c0_2, c0_3] := by rw [← Array.toArray_toList (xs := v0), e0]
  obtain rfl := List.singleton_inj.1 (show [c0_0] = [Value.int .i64 ((h.1 : S133).f0.f0)] from p0_0)
  obtain rfl := List.singleton_inj.1 (show [c0_1] = [Value.int .i64 ((h.1 : S133).f0.f1)] from p0_1)
  obtain rfl := List.singleton_inj.1 (show [c0_2] = [Value.int .i64 ((h.1 : S133).f1.f0)] from p0_2)
  obtain rfl := List.singleton_inj.1 (show [c0_3] = [Value.int .i64 ((h.1 : S133).f1.f1)] from p0_3)
  obtain ⟨v1, rfl, q1⟩ := q1
  have q1 := (H75.K _ _ _).1 q1
  match e1 : v1.toList, q1 with
  | [c1_0, c1_1], ⟨p1_0, p1_1, _⟩ =>
  obtain rfl : v1 = #[c1_0, c1_1] := by rw [← Array.toArray_toList (xs := v1), e1]
  obtain rfl := List.singleton_inj.1 (show [c1_0] = [Value.int .i64 ((h.2.1 : S75).f0)] from p1_0)
  obtain rfl := List.singleton_inj.1 (show [c1_1] = [Value.int .i64 ((h.2.1 : S75).f1)] from p1_1)
  refine (spec_IsOn.calls (w := w) (h := ht) ).mono ?_
  rintro e w' ⟨he, hw⟩
  exact ⟨_, he, hw, [.bool t], [fun _ => False], rfl, ⟨rfl, trivial⟩, by simp [DJ]⟩⟩
def spec_l5Shared.Fs : List (Spc env) := [spec_IsOn.spec]
def spec_l5Shared.fin : St eΓ → Option (HL eΓ [.i .i64]) := finR env Tryz.f196.results.toList [.i .i64]
def spec_l5Shared.cut : Nat → Option (List (Lv SC)) := lk [(4, [⟨2, none, false⟩, ⟨3, none, false⟩, ⟨5, none, false⟩, ⟨6, none, false⟩, ⟨7, none, false⟩]), (8, [⟨2, none, false⟩, ⟨3, none, false⟩, ⟨5, none, false⟩, ⟨6, none, false⟩, ⟨7, none, false⟩, ⟨8, none, false⟩, ⟨9, none, false⟩])]
def spec_l5Shared.ret (r0 : Int) : Option (HL eΓ [.i .i64]) := some (r0, ())
def spec_l5Shared.p4 (k : Nat) (x7 : Int) (b0_0 : Int) (b0_1 : Int) (b0_2 : Int) (b0_3 : Int) (b1_0 : Int) (b1_1 : Int) (b1_2 : Int) (b1_3 : Int) (x5 : List S75) (x6 : List S75) : Option (HL eΓ [.i .i64]) := evM env spec_l5Shared.Fs Tryz.f196.ntmps spec_l5Shared.fin spec_l5Shared.cut k [.code (sub_ [1, 1, 1, 0, 1, 0, 0, 0, 0] (bodyOf Tryz.f196)), .code (sub_ [1, 1, 1, 0, 1, 0, 0, 0, 1] (bodyOf Tryz.f196)), .code (sub_ [1, 1, 1, 0, 1, 0, 0, 1] (bodyOf Tryz.f196)), .lp (sub_ [1, 1, 1, 0, 1, 0, 0] (bodyOf Tryz.f196)), .blk 0, .code (sub_ [1, 1, 1, 1] (bodyOf Tryz.f196))] (mkSt [(2, .c (.ptr 0 0)), (3, .c (.ptr 1 0)), (5, .c (.sl 2)), (6, .c (.sl 3)), (7, .c (.v (.int .i64 x7)))] [.box 133 [.v (.int .i64 b0_0), .v (.int .i64 b0_1), .v (.int .i64 b0_2), .v (.int .i64 b0_3)], .box 133 [.v (.int .i64 b1_0), .v (.int .i64 b1_1), .v (.int .i64 b1_2), .v (.int .i64 b1_3)], .row .own 75 (.st .s75) x5, .row .own 75 (.st .s75) x6])
def spec_l5Shared.p8 (k : Nat) (x7 : Int) (x8 : Bool) (x9 : Int) (b0_0 : Int) (b0_1 : Int) (b0_2 : Int) (b0_3 : Int) (b1_0 : Int) (b1_1 : Int) (b1_2 : Int) (b1_3 : Int) (x5 : List S75) (x6 : List S75) : Option (HL eΓ [.i .i64]) := evM env spec_l5Shared.Fs Tryz.f196.ntmps spec_l5Shared.fin spec_l5Shared.cut k [.code (sub_ [1, 1, 1, 0, 1, 0, 0, 1, 0, 0, 1, 0, 1, 0, 0, 0, 0] (bodyOf Tryz.f196)), .code (sub_ [1, 1, 1, 0, 1, 0, 0, 1, 0, 0, 1, 0, 1, 0, 0, 0, 1] (bodyOf Tryz.f196)), .code (sub_ [1, 1, 1, 0, 1, 0, 0, 1, 0, 0, 1, 0, 1, 0, 0, 1] (bodyOf Tryz.f196)), .lp (sub_ [1, 1, 1, 0, 1, 0, 0, 1, 0, 0, 1, 0, 1, 0, 0] (bodyOf Tryz.f196)), .blk 2, .code (sub_ [1, 1, 1, 0, 1, 0, 0, 1, 0, 0, 1, 1] (bodyOf Tryz.f196)), .blk 1, .code (sub_ [1, 1, 1, 0, 1, 0, 0, 1, 1] (bodyOf Tryz.f196)), .lp (sub_ [1, 1, 1, 0, 1, 0, 0] (bodyOf Tryz.f196)), .blk 0, .code (sub_ [1, 1, 1, 1] (bodyOf Tryz.f196))] (mkSt [(2, .c (.ptr 0 0)), (3, .c (.ptr 1 0)), (5, .c (.sl 2)), (6, .c (.sl 3)), (7, .c (.v (.int .i64 x7))), (8, .c (.v (.bool x8))), (9, .c (.v (.int .i64 x9)))] [.box 133 [.v (.int .i64 b0_0), .v (.int .i64 b0_1), .v (.int .i64 b0_2), .v (.int .i64 b0_3)], .box 133 [.v (.int .i64 b1_0), .v (.int .i64 b1_1), .v (.int .i64 b1_2), .v (.int .i64 b1_3)], .row .own 75 (.st .s75) x5, .row .own 75 (.st .s75) x6])
theorem spec_l5Shared.e4 (k : Nat) (x7 : Int) (b0_0 : Int) (b0_1 : Int) (b0_2 : Int) (b0_3 : Int) (b1_0 : Int) (b1_1 : Int) (b1_2 : Int) (b1_3 : Int) (x5 : List S75) (x6 : List S75) : spec_l5Shared.p4 (k + 1) x7 b0_0 b0_1 b0_2 b0_3 b1_0 b1_1 b1_2 b1_3 x5 x6 = if x7 < 4 then (if x7 < 2 then (if 0 ≤ x7 then (if x7 < (x6.length : Int) then (spec_IsOn.ap k (⟨(⟨b1_0, b1_1⟩ : S75), (⟨b1_2, b1_3⟩ : S75)⟩ : S133) (⟨(rd_T75 x6 x7).f0, (rd_T75 x6 x7).f1⟩ : S75) fun r1 => if r1 = true then (spec_l5Shared.p8 k x7 true 0 b0_0 b0_1 b0_2 b0_3 b1_0 b1_1 b1_2 b1_3 x5 x6) else (if x7 ≥ 2 then (if 0 ≤ x7 then (if x7 < (x6.length : Int) then (spec_IsOn.ap k (⟨(⟨b0_0, b0_1⟩ : S75), (⟨b0_2, b0_3⟩ : S75)⟩ : S133) (⟨(rd_T75 x6 x7).f0, (rd_T75 x6 x7).f1⟩ : S75) fun r2 => spec_l5Shared.p8 k x7 r2 0 b0_0 b0_1 b0_2 b0_3 b1_0 b1_1 b1_2 b1_3 x5 x6) else none) else none) else (spec_l5Shared.p8 k x7 false 0 b0_0 b0_1 b0_2 b0_3 b1_0 b1_1 b1_2 b1_3 x5 x6))) else none) else none) else (if x7 ≥ 2 then (if 0 ≤ x7 then (if x7 < (x6.length : Int) then (spec_IsOn.ap k (⟨(⟨b0_0, b0_1⟩ : S75), (⟨b0_2, b0_3⟩ : S75)⟩ : S133) (⟨(rd_T75 x6 x7).f0, (rd_T75 x6 x7).f1⟩ : S75) fun r3 => spec_l5Shared.p8 k x7 r3 0 b0_0 b0_1 b0_2 b0_3 b1_0 b1_1 b1_2 b1_3 x5 x6) else none) else none) else (spec_l5Shared.p8 k x7 false 0 b0_0 b0_1 b0_2 b0_3 b1_0 b1_1 b1_2 b1_3 x5 x6))) else (spec_l5Shared.ret (x5.length : Int)) := by kernel_rfl
theorem spec_l5Shared.e8 (k : Nat) (x7 : Int) (x8 : Bool) (x9 : Int) (b0_0 : Int) (b0_1 : Int) (b0_2 : Int) (b0_3 : Int) (b1_0 : Int) (b1_1 : Int) (b1_2 : Int) (b1_3 : Int) (x5 : List S75) (x6 : List S75) : spec_l5Shared.p8 (k + 1) x7 x8 x9 b0_0 b0_1 b0_2 b0_3 b1_0 b1_1 b1_2 b1_3 x5 x6 = if x9 < (x5.length : Int) then (if x8 = true then (if 0 ≤ x9 then (if x9 < (x5.length : Int) then (if 0 ≤ x7 then (if x7 < (x6.length : Int) then (spec_l5Shared.p8 k x7 (decide (¬ (((rd_T75 x5 x9).f0) = ((rd_T75 x6 x7).f0) ∧ (((rd_T75 x5 x9).f1) = ((rd_T75 x6 x7).f1) ∧ True)))) (wrap64 (x9 + 1)) b0_0 b0_1 b0_2 b0_3 b1_0 b1_1 b1_2 b1_3 x5 x6) else none) else none) else none) else none) else (spec_l5Shared.p8 k x7 false (wrap64 (x9 + 1)) b0_0 b0_1 b0_2 b0_3 b1_0 b1_1 b1_2 b1_3 x5 x6)) else (if x8 = true then (if 0 ≤ x7 then (if x7 < (x6.length : Int) then (if (x5.length + 1) * 16 ≤ 140737488355328 then (spec_l5Shared.p4 k (wrap64 (x7 + 1)) b0_0 b0_1 b0_2 b0_3 b1_0 b1_1 b1_2 b1_3 (x5 ++ [(⟨(rd_T75 x6 x7).f0, (rd_T75 x6 x7).f1⟩ : S75)]) x6) else none) else none) else none) else (spec_l5Shared.p4 k (wrap64 (x7 + 1)) b0_0 b0_1 b0_2 b0_3 b1_0 b1_1 b1_2 b1_3 x5 x6)) := by kernel_rfl
def spec_l5Shared.run (k : Nat) (h : HL eΓ [.st .s133, .st .s133]) : Option (HL eΓ [.i .i64]) := evF env spec_l5Shared.Fs Tryz.f196 spec_l5Shared.cut [.st .s133, .st .s133] [.i .i64] k h
theorem spec_l5Shared.ef (k : Nat) (h0 : S133) (h1 : S133) : spec_l5Shared.run k (h0, h1, ()) = spec_l5Shared.p4 k 0 h0.f0.f0 h0.f0.f1 h0.f1.f0 h0.f1.f1 h1.f0.f0 h1.f0.f1 h1.f1.f0 h1.f1.f1 ([] : List S75) ([(⟨h0.f0.f0, h0.f0.f1⟩ : S75), (⟨h0.f1.f0, h0.f1.f1⟩ : S75), (⟨h1.f0.f0, h1.f0.f1⟩ : S75), (⟨h1.f1.f0, h1.f1.f1⟩ : S75)] : List S75) := by kernel_rfl
def spec_l5Shared.toH (t : Int) : HL eΓ [.i .i64] := (t, ())
def spec_l5Shared.spec : Spc env := ⟨196, [.st .s133, .st .s133], [.i .i64], spec_l5Shared.run⟩
theorem spec_l5Shared.snd : Snd env spec_l5Shared.spec := evF_snd env_ok (sndC spec_IsOn.snd (sndN))
attribute [local irreducible] spec_l5Shared.run
theorem spec_l5Shared.rt (a0 : Int) : spec_l5Shared.ret a0 = some (spec_l5Shared.toH (a0)) := rfl
theorem spec_l5Shared.br (n : Nat) : (∀ K, n ≤ K → ∀ (x7 : Int) (b0_0 : Int) (b0_1 : Int) (b0_2 : Int) (b0_3 : Int) (b1_0 : Int) (b1_1 : Int) (b1_2 : Int) (b1_3 : Int) (x5 : List S75) (x6 : List S75) t, spec_l5Shared.l0 n x5 x6 x7 b0_0 b0_1 b0_2 b0_3 b1_0 b1_1 b1_2 b1_3 = some t → spec_l5Shared.p4 K x7 b0_0 b0_1 b0_2 b0_3 b1_0 b1_1 b1_2 b1_3 x5 x6 = some (spec_l5Shared.toH t)) ∧ (∀ K, n ≤ K → ∀ (x7 : Int) (x8 : Bool) (x9 : Int) (b0_0 : Int) (b0_1 : Int) (b0_2 : Int) (b0_3 : Int) (b1_0 : Int) (b1_1 : Int) (b1_2 : Int) (b1_3 : Int) (x5 : List S75) (x6 : List S75) t, spec_l5Shared.l1 n x5 x6 x7 x8 x9 b0_0 b0_1 b0_2 b0_3 b1_0 b1_1 b1_2 b1_3 = some t → spec_l5Shared.p8 K x7 x8 x9 b0_0 b0_1 b0_2 b0_3 b1_0 b1_1 b1_2 b1_3 x5 x6 = some (spec_l5Shared.toH t)) := by
  induction n using Nat.strongRecOn with
  | _ n ih =>
  refine ⟨fun K hK x7 b0_0 b0_1 b0_2 b0_3 b1_0 b1_1 b1_2 b1_3 x5 x6 t h => ?_, fun K hK x7 x8 x9 b0_0 b0_1 b0_2 b0_3 b1_0 b1_1 b1_2 b1_3 x5 x6 t h => ?_⟩
  all_goals (rcases n with _ | k)
  all_goals (try (exact nos h))
  all_goals (obtain ⟨K, rfl⟩ : ∃ q, K = q + 1 := ⟨K - 1, by omega⟩)
  all_goals (first | rw [spec_l5Shared.e4] | rw [spec_l5Shared.e8])
  all_goals (simp only [spec_l5Shared.l0, spec_l5Shared.l1] at h)
  repeat' (with_reducible first
   | exact nos h
   | (cases some_inj h; exact spec_l5Shared.rt _)
   | exact (ih _ (by omega)).1 _ (by omega) _ _ _ _ _ _ _ _ _ _ _ _ h
   | exact (ih _ (by omega)).2 _ (by omega) _ _ _ _ _ _ _ _ _ _ _ _ _ _ h
   | ((have q : spec_l5Shared.j1 k _ _ _ _ _ _ _ _ _ _ _ _ = some _ := h; clear q); rcases k with _ | k <;> simp only [spec_l5Shared.j1, reduceCtorEq] at h)
   | (simp only [Option.bind_some] at h)
   | (refine ite_by h ?_ ?_ <;> (intro hc h; (try simp only [nrm] at hc)))
   | refine itT ?_
   | refine itF ?_
   | (refine bind_by h (fun t ht h => ?_); refine (spec_IsOn.ap_of (spec_IsOn.go ht _)).trans ?_; (try dsimp only at h ⊢))
   | (simp only [nr2] at h ⊢)
   | (exfalso; omega))
theorem spec_l5Shared.go {k : Nat} {a0_0 : Int} {a0_1 : Int} {a0_2 : Int} {a0_3 : Int} {a1_0 : Int} {a1_1 : Int} {a1_2 : Int} {a1_3 : Int} {t} (h : spec_l5Shared.f k a0_0 a0_1 a0_2 a0_3 a1_0 a1_1 a1_2 a1_3 = some t) (K : Nat) (hK : k ≤ K) : spec_l5Shared.run K ((⟨(⟨a0_0, a0_1⟩ : S75), (⟨a0_2, a0_3⟩ : S75)⟩ : S133), (⟨(⟨a1_0, a1_1⟩ : S75), (⟨a1_2, a1_3⟩ : S75)⟩ : S133), ()) = some (spec_l5Shared.toH t) := by
  rw [spec_l5Shared.ef]
  (try dsimp only)
  unfold spec_l5Shared.f at h
  repeat' (with_reducible first
   | exact nos h
   | (cases some_inj h; exact spec_l5Shared.rt _)
   | exact (spec_l5Shared.br _).1 _ (by omega) _ _ _ _ _ _ _ _ _ _ _ _ h
   | exact (spec_l5Shared.br _).2 _ (by omega) _ _ _ _ _ _ _ _ _ _ _ _ _ _ h
   | ((have q : spec_l5Shared.j1 k _ _ _ _ _ _ _ _ _ _ _ _ = some _ := h; clear q); rcases k with _ | k <;> simp only [spec_l5Shared.j1, reduceCtorEq] at h)
   | (simp only [Option.bind_some] at h)
   | (refine ite_by h ?_ ?_ <;> (intro hc h; (try simp only [nrm] at hc)))
   | refine itT ?_
   | refine itF ?_
   | (refine bind_by h (fun t ht h => ?_); refine (spec_IsOn.ap_of (spec_IsOn.go ht _)).trans ?_; (try dsimp only at h ⊢))
   | (simp only [nr2] at h ⊢)
   | (exfalso; omega))
theorem spec_l5Shared.calls (k : Nat) (a0_0 : Int) (a0_1 : Int) (a0_2 : Int) (a0_3 : Int) (a1_0 : Int) (a1_1 : Int) (a1_2 : Int) (a1_3 : Int) (r : Int) (w : World) (h : spec_l5Shared.f k a0_0 a0_1 a0_2 a0_3 a1_0 a1_1 a1_2 a1_3 = some r) :
  Calls Tryz.prog 196 #[.agg #[.int .i64 a0_0, .int .i64 a0_1, .int .i64 a0_2, .int .i64 a0_3], .agg #[.int .i64 a1_0, .int .i64 a1_1, .int .i64 a1_2, .int .i64 a1_3]] w fun e w' => e = .returned (.int .i64 r) ∧ Below w.heap.size w w' := by
  refine (spec_l5Shared.snd.calls _ _ _ (spec_l5Shared.go h k (Nat.le_refl k)) w [.agg #[.int .i64 a0_0, .int .i64 a0_1, .int .i64 a0_2, .int .i64 a0_3], .agg #[.int .i64 a1_0, .int .i64 a1_1, .int .i64 a1_2, .int .i64 a1_3]] ⟨⟨_, rfl, (H133.K _ _ _).2 ⟨rfl, rfl, rfl, rfl, trivial⟩⟩, ⟨_, rfl, (H133.K _ _ _).2 ⟨rfl, rfl, rfl, rfl, trivial⟩⟩, trivial⟩).mono ?_
  rintro e w' ⟨v, rfl, hB, vs, oks, rfl, hR, _⟩
  obtain ⟨x0_, vs, o0_, oks, rfl, rfl, m0_, hR⟩ := rmsC hR
  obtain rfl := rmsN hR
  obtain rfl := List.singleton_inj.1 (show [x0_] = [Value.int .i64 r] from m0_)
  exact ⟨rfl, hB⟩
theorem spec_HowMeet.any (a b c d e f g h : Int) (w : World) : Calls Tryz.prog 180 #[.agg #[.int .i64 a, .int .i64 b, .int .i64 c, .int .i64 d], .agg #[.int .i64 e, .int .i64 f, .int .i64 g, .int .i64 h]] w fun e_ w' => e_ = .returned (.int .i64 (howS a b c d e f g h)) ∧ Below w.heap.size w w' := by
  unfold howS
  cases hs : isSeg a b c d
  · rw [if_pos (.inl rfl)]; exact spec_HowMeet.no1 a b c d e f g h hs w
  · cases ht : isSeg e f g h
    · rw [if_pos (.inr rfl)]; exact spec_HowMeet.no2 a b c d e f g h hs ht w
    · obtain ⟨y1, y2⟩ := wrap_three _ _ (sd_bd a b c d e f) (sd_bd a b c d g h); obtain ⟨y3, y4⟩ := wrap_three _ _ (sd_bd e f g h a b) (sd_bd e f g h c d); obtain ⟨K, hK⟩ := share_s a b c d e f g h; refine (spec_HowMeet.wlk a b c d e f g h _ _ _ _ _ _ (shareI a b c d e f g h) _ _ _ _ hs ht rfl rfl rfl rfl rfl rfl rfl rfl rfl rfl y2 y4 (fun W => spec_l5Shared.calls K _ _ _ _ _ _ _ _ _ W (hK K (Nat.le_refl _))) w).mono ?_; rintro e_ w' ⟨rfl, hb⟩; refine ⟨?_, hb⟩; rw [y1, y3, if_neg (show ¬ (true = false ∨ true = false) by simp)]; simp only [Bool.or_eq_true, decide_eq_true_eq, or_assoc]
theorem spec_HowMeet.calls (a0_0 : Int) (a0_1 : Int) (a0_2 : Int) (a0_3 : Int) (a1_0 : Int) (a1_1 : Int) (a1_2 : Int) (a1_3 : Int) (r : Int) (w : World) (h : spec_HowMeet.f a0_0 a0_1 a0_2 a0_3 a1_0 a1_1 a1_2 a1_3 = some r) :
    Calls Tryz.prog 180 #[.agg #[.int .i64 a0_0, .int .i64 a0_1, .int .i64 a0_2, .int .i64 a0_3], .agg #[.int .i64 a1_0, .int .i64 a1_1, .int .i64 a1_2, .int .i64 a1_3]] w fun e w' => e = .returned (.int .i64 r) ∧ Below w.heap.size w w' := by
  obtain rfl := Option.some.inj h
  exact spec_HowMeet.any a0_0 a0_1 a0_2 a0_3 a1_0 a1_1 a1_2 a1_3 w
def spec_HowMeet.toH (t : Int) : HL eΓ [.i .i64] := (t, ())
def spec_HowMeet.run (k : Nat) (h : HL eΓ [.st .s133, .st .s133]) : Option (HL eΓ [.i .i64]) := (spec_HowMeet.f ((h.1 : S133).f0.f0) ((h.1 : S133).f0.f1) ((h.1 : S133).f1.f0) ((h.1 : S133).f1.f1) ((h.2.1 : S133).f0.f0) ((h.2.1 : S133).f0.f1) ((h.2.1 : S133).f1.f0) ((h.2.1 : S133).f1.f1)).map spec_HowMeet.toH
def spec_HowMeet.spec : Spc env := ⟨180, [.st .s133, .st .s133], [.i .i64], spec_HowMeet.run⟩
def spec_HowMeet.ap {R : Type} (k : Nat) (h0 : S133) (h1 : S133) (K : Int → Option R) : Option R := (spec_HowMeet.run k (h0, h1, ())).bind fun r => K (r.1 : Int)
theorem spec_HowMeet.ap_of {R : Type} {k : Nat} {h0 : S133} {h1 : S133} {r0 : Int} {K : Int → Option R} (h : spec_HowMeet.run k (h0, h1, ()) = some (r0, ())) : spec_HowMeet.ap k h0 h1 K = K r0 := by unfold spec_HowMeet.ap; rw [h]; rfl
theorem spec_HowMeet.go {a0_0 : Int} {a0_1 : Int} {a0_2 : Int} {a0_3 : Int} {a1_0 : Int} {a1_1 : Int} {a1_2 : Int} {a1_3 : Int} {t} (h : spec_HowMeet.f a0_0 a0_1 a0_2 a0_3 a1_0 a1_1 a1_2 a1_3 = some t) (K : Nat) : spec_HowMeet.run K ((⟨(⟨a0_0, a0_1⟩ : S75), (⟨a0_2, a0_3⟩ : S75)⟩ : S133), (⟨(⟨a1_0, a1_1⟩ : S75), (⟨a1_2, a1_3⟩ : S75)⟩ : S133), ()) = some (spec_HowMeet.toH t) := by
  show Option.map _ (spec_HowMeet.f a0_0 a0_1 a0_2 a0_3 a1_0 a1_1 a1_2 a1_3) = _
  rw [h]; rfl
theorem spec_HowMeet.snd : Snd env spec_HowMeet.spec := ⟨⟨Tryz.f180, by kernel_rfl, by kernel_rfl, by kernel_rfl⟩, fun k h r he w us hA => by
  obtain ⟨t, ht, rfl⟩ := Option.map_eq_some_iff.1 (show (spec_HowMeet.f ((h.1 : S133).f0.f0) ((h.1 : S133).f0.f1) ((h.1 : S133).f1.f0) ((h.1 : S133).f1.f1) ((h.2.1 : S133).f0.f0) ((h.2.1 : S133).f0.f1) ((h.2.1 : S133).f1.f0) ((h.2.1 : S133).f1.f1)).map spec_HowMeet.toH = some r from he)
  match us, hA with
  | [u0, u1], ⟨q0, q1, _⟩ =>
  obtain ⟨v0, rfl, q0⟩ := q0
  have q0 := (H133.K _ _ _).1 q0
  match e0 : v0.toList, q0 with
  | [c0_0, c0_1, c0_2, c0_3], ⟨p0_0, p0_1, p0_2, p0_3, _⟩ =>
  obtain rfl : v0 = #[c0_0, c0_1, c0_2, c0_3] := by rw [← Array.toArray_toList (xs := v0), e0]
  obtain rfl := List.singleton_inj.1 (show [c0_0] = [Value.int .i64 ((h.1 : S133).f0.f0)] from p0_0)
  obtain rfl := List.singleton_inj.1 (show [c0_1] = [Value.int .i64 ((h.1 : S133).f0.f1)] from p0_1)
  obtain rfl := List.singleton_inj.1 (show [c0_2] = [Value.int .i64 ((h.1 : S133).f1.f0)] from p0_2)
  obtain rfl := List.singleton_inj.1 (show [c0_3] = [Value.int .i64 ((h.1 : S133).f1.f1)] from p0_3)
  obtain ⟨v1, rfl, q1⟩ := q1
  have q1 := (H133.K _ _ _).1 q1
  match e1 : v1.toList, q1 with
  | [c1_0, c1_1, c1_2, c1_3], ⟨p1_0, p1_1, p1_2, p1_3, _⟩ =>
  obtain rfl : v1 = #[c1_0, c1_1, c1_2, c1_3] := by rw [← Array.toArray_toList (xs := v1), e1]
  obtain rfl := List.singleton_inj.1 (show [c1_0] = [Value.int .i64 ((h.2.1 : S133).f0.f0)] from p1_0)
  obtain rfl := List.singleton_inj.1 (show [c1_1] = [Value.int .i64 ((h.2.1 : S133).f0.f1)] from p1_1)
  obtain rfl := List.singleton_inj.1 (show [c1_2] = [Value.int .i64 ((h.2.1 : S133).f1.f0)] from p1_2)
  obtain rfl := List.singleton_inj.1 (show [c1_3] = [Value.int .i64 ((h.2.1 : S133).f1.f1)] from p1_3)
  refine (spec_HowMeet.calls (w := w) (h := ht) ).mono ?_
  rintro e w' ⟨he, hw⟩
  exact ⟨_, he, hw, [.int .i64 t], [fun _ => False], rfl, ⟨rfl, trivial⟩, by simp [DJ]⟩⟩
def spec_IsRing.Fs : List (Spc env) := [spec_l1In.spec, spec_l7Segments.spec, spec_IsSegment.spec, spec_HowMeet.spec]
def spec_IsRing.fin : St eΓ → Option (HL eΓ [.b]) := finR env Tryz.f137.results.toList [.b]
def spec_IsRing.cut : Nat → Option (List (Lv SC)) := lk [(5, [⟨3, none, false⟩, ⟨4, none, false⟩]), (10, [⟨3, none, false⟩, ⟨4, none, false⟩, ⟨5, none, false⟩])]
def spec_IsRing.ret (r0 : Bool) : Option (HL eΓ [.b]) := some (r0, ())
def spec_IsRing.p5 (k : Nat) (x4 : Int) (x3 : List S133) : Option (HL eΓ [.b]) := evM env spec_IsRing.Fs Tryz.f137.ntmps spec_IsRing.fin spec_IsRing.cut k [.code (sub_ [1, 1, 1, 0, 1, 0, 0, 0, 0] (bodyOf Tryz.f137)), .code (sub_ [1, 1, 1, 0, 1, 0, 0, 0, 1] (bodyOf Tryz.f137)), .code (sub_ [1, 1, 1, 0, 1, 0, 0, 1] (bodyOf Tryz.f137)), .lp (sub_ [1, 1, 1, 0, 1, 0, 0] (bodyOf Tryz.f137)), .blk 0, .code (sub_ [1, 1, 1, 1] (bodyOf Tryz.f137))] (mkSt [(3, .c (.sl 0)), (4, .c (.v (.int .i64 x4)))] [.row .own 133 (.st .s133) x3])
def spec_IsRing.p10 (k : Nat) (x4 : Int) (x5 : Int) (x3 : List S133) : Option (HL eΓ [.b]) := evM env spec_IsRing.Fs Tryz.f137.ntmps spec_IsRing.fin spec_IsRing.cut k [.code (sub_ [1, 1, 1, 0, 1, 0, 0, 1, 0, 0, 1, 1, 0, 0, 0, 0] (bodyOf Tryz.f137)), .code (sub_ [1, 1, 1, 0, 1, 0, 0, 1, 0, 0, 1, 1, 0, 0, 0, 1] (bodyOf Tryz.f137)), .code (sub_ [1, 1, 1, 0, 1, 0, 0, 1, 0, 0, 1, 1, 0, 0, 1] (bodyOf Tryz.f137)), .lp (sub_ [1, 1, 1, 0, 1, 0, 0, 1, 0, 0, 1, 1, 0, 0] (bodyOf Tryz.f137)), .blk 2, .blk 1, .code (sub_ [1, 1, 1, 0, 1, 0, 0, 1, 1] (bodyOf Tryz.f137)), .lp (sub_ [1, 1, 1, 0, 1, 0, 0] (bodyOf Tryz.f137)), .blk 0, .code (sub_ [1, 1, 1, 1] (bodyOf Tryz.f137))] (mkSt [(3, .c (.sl 0)), (4, .c (.v (.int .i64 x4))), (5, .c (.v (.int .i64 x5)))] [.row .own 133 (.st .s133) x3])
theorem spec_IsRing.e5 (k : Nat) (x4 : Int) (x3 : List S133) : spec_IsRing.p5 (k + 1) x4 x3 = if x4 < (x3.length : Int) then (if 0 ≤ x4 then (if x4 < (x3.length : Int) then (spec_IsSegment.ap k (⟨(⟨(rd_T133 x3 x4).f0.f0, (rd_T133 x3 x4).f0.f1⟩ : S75), (⟨(rd_T133 x3 x4).f1.f0, (rd_T133 x3 x4).f1.f1⟩ : S75)⟩ : S133) fun r1 => if (!r1) = true then (spec_IsRing.ret false) else (spec_IsRing.p10 k x4 0 x3)) else none) else none) else (spec_IsRing.ret true) := by kernel_rfl
theorem spec_IsRing.e10 (k : Nat) (x4 : Int) (x5 : Int) (x3 : List S133) : spec_IsRing.p10 (k + 1) x4 x5 x3 = if x5 < x4 then (if (wrap64 (x5 + 1)) = x4 then (if 0 ≤ x4 then (if x4 < (x3.length : Int) then (if 0 ≤ x5 then (if x5 < (x3.length : Int) then (spec_HowMeet.ap k (⟨(⟨(rd_T133 x3 x4).f0.f0, (rd_T133 x3 x4).f0.f1⟩ : S75), (⟨(rd_T133 x3 x4).f1.f0, (rd_T133 x3 x4).f1.f1⟩ : S75)⟩ : S133) (⟨(⟨(rd_T133 x3 x5).f0.f0, (rd_T133 x3 x5).f0.f1⟩ : S75), (⟨(rd_T133 x3 x5).f1.f0, (rd_T133 x3 x5).f1.f1⟩ : S75)⟩ : S133) fun r1 => if ¬ r1 = 1 then (spec_IsRing.ret false) else (spec_IsRing.p10 k x4 (wrap64 (x5 + 1)) x3)) else none) else none) else none) else none) else (if x5 = 0 then (if (wrap64 (x4 + 1)) = (x3.length : Int) then (if 0 ≤ x4 then (if x4 < (x3.length : Int) then (if 0 ≤ x5 then (if x5 < (x3.length : Int) then (spec_HowMeet.ap k (⟨(⟨(rd_T133 x3 x4).f0.f0, (rd_T133 x3 x4).f0.f1⟩ : S75), (⟨(rd_T133 x3 x4).f1.f0, (rd_T133 x3 x4).f1.f1⟩ : S75)⟩ : S133) (⟨(⟨(rd_T133 x3 x5).f0.f0, (rd_T133 x3 x5).f0.f1⟩ : S75), (⟨(rd_T133 x3 x5).f1.f0, (rd_T133 x3 x5).f1.f1⟩ : S75)⟩ : S133) fun r2 => if ¬ r2 = 1 then (spec_IsRing.ret false) else (spec_IsRing.p10 k x4 (wrap64 (x5 + 1)) x3)) else none) else none) else none) else none) else (if 0 ≤ x4 then (if x4 < (x3.length : Int) then (if 0 ≤ x5 then (if x5 < (x3.length : Int) then (spec_HowMeet.ap k (⟨(⟨(rd_T133 x3 x4).f0.f0, (rd_T133 x3 x4).f0.f1⟩ : S75), (⟨(rd_T133 x3 x4).f1.f0, (rd_T133 x3 x4).f1.f1⟩ : S75)⟩ : S133) (⟨(⟨(rd_T133 x3 x5).f0.f0, (rd_T133 x3 x5).f0.f1⟩ : S75), (⟨(rd_T133 x3 x5).f1.f0, (rd_T133 x3 x5).f1.f1⟩ : S75)⟩ : S133) fun r3 => if ¬ r3 = 0 then (spec_IsRing.ret false) else (spec_IsRing.p10 k x4 (wrap64 (x5 + 1)) x3)) else none) else none) else none) else none)) else (if 0 ≤ x4 then (if x4 < (x3.length : Int) then (if 0 ≤ x5 then (if x5 < (x3.length : Int) then (spec_HowMeet.ap k (⟨(⟨(rd_T133 x3 x4).f0.f0, (rd_T133 x3 x4).f0.f1⟩ : S75), (⟨(rd_T133 x3 x4).f1.f0, (rd_T133 x3 x4).f1.f1⟩ : S75)⟩ : S133) (⟨(⟨(rd_T133 x3 x5).f0.f0, (rd_T133 x3 x5).f0.f1⟩ : S75), (⟨(rd_T133 x3 x5).f1.f0, (rd_T133 x3 x5).f1.f1⟩ : S75)⟩ : S133) fun r4 => if ¬ r4 = 0 then (spec_IsRing.ret false) else (spec_IsRing.p10 k x4 (wrap64 (x5 + 1)) x3)) else none) else none) else none) else none))) else (spec_IsRing.p5 k (wrap64 (x4 + 1)) x3) := by kernel_rfl
def spec_IsRing.run (k : Nat) (h : HL eΓ [.l 75 (.st .s75)]) : Option (HL eΓ [.b]) := evF env spec_IsRing.Fs Tryz.f137 spec_IsRing.cut [.l 75 (.st .s75)] [.b] k h
theorem spec_IsRing.ef (k : Nat) (h0 : List S75) : spec_IsRing.run k (h0, ()) = spec_l1In.ap k (h0.length : Int) 3 10 fun r1 => if (!r1) = true then (spec_IsRing.ret false) else (spec_l7Segments.ap k h0 fun r2 => spec_IsRing.p5 k 0 r2) := by kernel_rfl
def spec_IsRing.toH (t : Bool) : HL eΓ [.b] := (t, ())
def spec_IsRing.spec : Spc env := ⟨137, [.l 75 (.st .s75)], [.b], spec_IsRing.run⟩
def spec_IsRing.ap {R : Type} (k : Nat) (h0 : List S75) (K : Bool → Option R) : Option R := (spec_IsRing.run k (h0, ())).bind fun r => K (r.1 : Bool)
theorem spec_IsRing.ap_of {R : Type} {k : Nat} {h0 : List S75} {r0 : Bool} {K : Bool → Option R} (h : spec_IsRing.run k (h0, ()) = some (r0, ())) : spec_IsRing.ap k h0 K = K r0 := by unfold spec_IsRing.ap; rw [h]; rfl
theorem spec_IsRing.snd : Snd env spec_IsRing.spec := evF_snd env_ok (sndC spec_l1In.snd (sndC spec_l7Segments.snd (sndC spec_IsSegment.snd (sndC spec_HowMeet.snd (sndN)))))
attribute [local irreducible] spec_IsRing.run
theorem spec_IsRing.rt (a0 : Bool) : spec_IsRing.ret a0 = some (spec_IsRing.toH (a0)) := rfl
theorem spec_IsRing.br (n : Nat) : (∀ K, n ≤ K → ∀ (x4 : Int) (x3 : List S133) t, spec_IsRing.l0 n x3 x4 = some t → spec_IsRing.p5 K x4 x3 = some (spec_IsRing.toH t)) ∧ (∀ K, n ≤ K → ∀ (x4 : Int) (x5 : Int) (x3 : List S133) t, spec_IsRing.l1 n x3 x4 x5 = some t → spec_IsRing.p10 K x4 x5 x3 = some (spec_IsRing.toH t)) := by
  induction n using Nat.strongRecOn with
  | _ n ih =>
  refine ⟨fun K hK x4 x3 t h => ?_, fun K hK x4 x5 x3 t h => ?_⟩
  all_goals (rcases n with _ | k)
  all_goals (try (exact nos h))
  all_goals (obtain ⟨K, rfl⟩ : ∃ q, K = q + 1 := ⟨K - 1, by omega⟩)
  all_goals (first | rw [spec_IsRing.e5] | rw [spec_IsRing.e10])
  all_goals (simp only [spec_IsRing.l0, spec_IsRing.l1] at h)
  repeat' (with_reducible first
   | exact nos h
   | (cases some_inj h; exact spec_IsRing.rt _)
   | exact (ih _ (by omega)).1 _ (by omega) _ _ _ h
   | exact (ih _ (by omega)).2 _ (by omega) _ _ _ _ h
   | ((have q : spec_IsRing.j2 k _ _ _ _ _ = some _ := h; clear q); rcases k with _ | k <;> simp only [spec_IsRing.j2, reduceCtorEq] at h)
   | (simp only [Option.bind_some] at h)
   | (refine ite_by h ?_ ?_ <;> (intro hc h; (try simp only [nrm] at hc)))
   | refine itT ?_
   | refine itF ?_
   | (refine bind_by h (fun t ht h => ?_); (first | refine (spec_l1In.ap_of (spec_l1In.go ht _)).trans ?_ | refine (spec_l7Segments.ap_of (spec_l7Segments.go ht _ (by omega))).trans ?_ | refine (spec_IsSegment.ap_of (spec_IsSegment.go ht _)).trans ?_ | refine (spec_HowMeet.ap_of (spec_HowMeet.go ht _)).trans ?_); (try dsimp only at h ⊢))
   | (simp only [nr2] at h ⊢)
   | (exfalso; omega))
theorem spec_IsRing.go {k : Nat} {l0 : List S75} {t} (h : spec_IsRing.f k l0 = some t) (K : Nat) (hK : k ≤ K) : spec_IsRing.run K (l0, ()) = some (spec_IsRing.toH t) := by
  rw [spec_IsRing.ef]
  (try dsimp only)
  unfold spec_IsRing.f at h
  repeat' (with_reducible first
   | exact nos h
   | (cases some_inj h; exact spec_IsRing.rt _)
   | exact (spec_IsRing.br _).1 _ (by omega) _ _ _ h
   | exact (spec_IsRing.br _).2 _ (by omega) _ _ _ _ h
   | ((have q : spec_IsRing.j2 k _ _ _ _ _ = some _ := h; clear q); rcases k with _ | k <;> simp only [spec_IsRing.j2, reduceCtorEq] at h)
   | (simp only [Option.bind_some] at h)
   | (refine ite_by h ?_ ?_ <;> (intro hc h; (try simp only [nrm] at hc)))
   | refine itT ?_
   | refine itF ?_
   | (refine bind_by h (fun t ht h => ?_); (first | refine (spec_l1In.ap_of (spec_l1In.go ht _)).trans ?_ | refine (spec_l7Segments.ap_of (spec_l7Segments.go ht _ (by omega))).trans ?_ | refine (spec_IsSegment.ap_of (spec_IsSegment.go ht _)).trans ?_ | refine (spec_HowMeet.ap_of (spec_HowMeet.go ht _)).trans ?_); (try dsimp only at h ⊢))
   | (simp only [nr2] at h ⊢)
   | (exfalso; omega))
def spec_IsLine.Fs : List (Spc env) := [spec_IsPoint.spec, spec_l1In.spec]
def spec_IsLine.fin : St eΓ → Option (HL eΓ [.b]) := finR env Tryz.f167.results.toList [.b]
def spec_IsLine.cut : Nat → Option (List (Lv SC)) := lk [(2, [⟨0, none, false⟩, ⟨3, none, false⟩])]
def spec_IsLine.ret (r0 : Bool) : Option (HL eΓ [.b]) := some (r0, ())
def spec_IsLine.p2 (k : Nat) (x3 : Int) (x0 : List S75) : Option (HL eΓ [.b]) := evM env spec_IsLine.Fs Tryz.f167.ntmps spec_IsLine.fin spec_IsLine.cut k [.code (sub_ [1, 0, 1, 0, 0, 0, 0] (bodyOf Tryz.f167)), .code (sub_ [1, 0, 1, 0, 0, 0, 1] (bodyOf Tryz.f167)), .code (sub_ [1, 0, 1, 0, 0, 1] (bodyOf Tryz.f167)), .lp (sub_ [1, 0, 1, 0, 0] (bodyOf Tryz.f167)), .blk 0, .code (sub_ [1, 1] (bodyOf Tryz.f167))] (mkSt [(0, .c (.sl 0)), (3, .c (.v (.int .i64 x3)))] [.row .ro 75 (.st .s75) x0])
theorem spec_IsLine.e2 (k : Nat) (x3 : Int) (x0 : List S75) : spec_IsLine.p2 (k + 1) x3 x0 = if x3 < (x0.length : Int) then (if 0 ≤ x3 then (if x3 < (x0.length : Int) then (spec_IsPoint.ap k (⟨(rd_T75 x0 x3).f0, (rd_T75 x0 x3).f1⟩ : S75) fun r1 => if (!r1) = true then (spec_IsLine.ret false) else (if x3 > 0 then (if 0 ≤ (wrap64 (x3 - 1)) then (if (wrap64 (x3 - 1)) < (x0.length : Int) then (if 0 ≤ x3 then (if x3 < (x0.length : Int) then (if ((rd_T75 x0 (wrap64 (x3 - 1))).f0) = ((rd_T75 x0 x3).f0) ∧ (((rd_T75 x0 (wrap64 (x3 - 1))).f1) = ((rd_T75 x0 x3).f1) ∧ True) then (spec_IsLine.ret false) else (spec_IsLine.p2 k (wrap64 (x3 + 1)) x0)) else none) else none) else none) else none) else (spec_IsLine.p2 k (wrap64 (x3 + 1)) x0))) else none) else none) else (spec_l1In.ap k (x0.length : Int) 2 10 fun r2 => spec_IsLine.ret r2) := by kernel_rfl
def spec_IsLine.run (k : Nat) (h : HL eΓ [.l 75 (.st .s75)]) : Option (HL eΓ [.b]) := evF env spec_IsLine.Fs Tryz.f167 spec_IsLine.cut [.l 75 (.st .s75)] [.b] k h
theorem spec_IsLine.ef (k : Nat) (h0 : List S75) : spec_IsLine.run k (h0, ()) = spec_IsLine.p2 k 0 h0 := by kernel_rfl
def spec_IsLine.toH (t : Bool) : HL eΓ [.b] := (t, ())
def spec_IsLine.spec : Spc env := ⟨167, [.l 75 (.st .s75)], [.b], spec_IsLine.run⟩
def spec_IsLine.ap {R : Type} (k : Nat) (h0 : List S75) (K : Bool → Option R) : Option R := (spec_IsLine.run k (h0, ())).bind fun r => K (r.1 : Bool)
theorem spec_IsLine.ap_of {R : Type} {k : Nat} {h0 : List S75} {r0 : Bool} {K : Bool → Option R} (h : spec_IsLine.run k (h0, ()) = some (r0, ())) : spec_IsLine.ap k h0 K = K r0 := by unfold spec_IsLine.ap; rw [h]; rfl
theorem spec_IsLine.snd : Snd env spec_IsLine.spec := evF_snd env_ok (sndC spec_IsPoint.snd (sndC spec_l1In.snd (sndN)))
attribute [local irreducible] spec_IsLine.run
theorem spec_IsLine.rt (a0 : Bool) : spec_IsLine.ret a0 = some (spec_IsLine.toH (a0)) := rfl
theorem spec_IsLine.br (n : Nat) : (∀ K, n ≤ K → ∀ (x3 : Int) (x0 : List S75) t, spec_IsLine.l0 n x0 x3 = some t → spec_IsLine.p2 K x3 x0 = some (spec_IsLine.toH t)) := by
  induction n using Nat.strongRecOn with
  | _ n ih =>
  intro K hK x3 x0 t h
  all_goals (rcases n with _ | k)
  all_goals (try (exact nos h))
  all_goals (obtain ⟨K, rfl⟩ : ∃ q, K = q + 1 := ⟨K - 1, by omega⟩)
  all_goals (first | rw [spec_IsLine.e2])
  all_goals (simp only [spec_IsLine.l0] at h)
  repeat' (with_reducible first
   | exact nos h
   | (cases some_inj h; exact spec_IsLine.rt _)
   | exact (ih _ (by omega)) _ (by omega) _ _ _ h
   | (simp only [Option.bind_some] at h)
   | (refine ite_by h ?_ ?_ <;> (intro hc h; (try simp only [nrm] at hc)))
   | refine itT ?_
   | refine itF ?_
   | (refine bind_by h (fun t ht h => ?_); (first | refine (spec_IsPoint.ap_of (spec_IsPoint.go ht _)).trans ?_ | refine (spec_l1In.ap_of (spec_l1In.go ht _)).trans ?_); (try dsimp only at h ⊢))
   | (simp only [nr2] at h ⊢)
   | (exfalso; omega))
theorem spec_IsLine.go {k : Nat} {l0 : List S75} {t} (h : spec_IsLine.f k l0 = some t) (K : Nat) (hK : k ≤ K) : spec_IsLine.run K (l0, ()) = some (spec_IsLine.toH t) := by
  rw [spec_IsLine.ef]
  (try dsimp only)
  unfold spec_IsLine.f at h
  repeat' (with_reducible first
   | exact nos h
   | (cases some_inj h; exact spec_IsLine.rt _)
   | exact (spec_IsLine.br _) _ (by omega) _ _ _ h
   | (simp only [Option.bind_some] at h)
   | (refine ite_by h ?_ ?_ <;> (intro hc h; (try simp only [nrm] at hc)))
   | refine itT ?_
   | refine itF ?_
   | (refine bind_by h (fun t ht h => ?_); (first | refine (spec_IsPoint.ap_of (spec_IsPoint.go ht _)).trans ?_ | refine (spec_l1In.ap_of (spec_l1In.go ht _)).trans ?_); (try dsimp only at h ⊢))
   | (simp only [nr2] at h ⊢)
   | (exfalso; omega))
def spec_SegmentsOf.Fs : List (Spc env) := [spec_IsLine.spec]
def spec_SegmentsOf.fin : St eΓ → Option (HL eΓ [.l 133 (.st .s133)]) := finR env Tryz.f120.results.toList [.l 133 (.st .s133)]
def spec_SegmentsOf.cut : Nat → Option (List (Lv SC)) := lk [(3, [⟨0, none, false⟩, ⟨3, none, false⟩, ⟨4, none, false⟩])]
def spec_SegmentsOf.ret (r0 : List S133) : Option (HL eΓ [.l 133 (.st .s133)]) := some (r0, ())
def spec_SegmentsOf.p3 (k : Nat) (x4 : Int) (x0 : List S75) (x3 : List S133) : Option (HL eΓ [.l 133 (.st .s133)]) := evM env spec_SegmentsOf.Fs Tryz.f120.ntmps spec_SegmentsOf.fin spec_SegmentsOf.cut k [.code (sub_ [1, 1, 0, 1, 0, 0, 0, 0] (bodyOf Tryz.f120)), .code (sub_ [1, 1, 0, 1, 0, 0, 0, 1] (bodyOf Tryz.f120)), .code (sub_ [1, 1, 0, 1, 0, 0, 1] (bodyOf Tryz.f120)), .lp (sub_ [1, 1, 0, 1, 0, 0] (bodyOf Tryz.f120)), .blk 0, .code (sub_ [1, 1, 1] (bodyOf Tryz.f120))] (mkSt [(0, .c (.sl 0)), (3, .c (.sl 1)), (4, .c (.v (.int .i64 x4)))] [.row .ro 75 (.st .s75) x0, .row .own 133 (.st .s133) x3])
theorem spec_SegmentsOf.e3 (k : Nat) (x4 : Int) (x0 : List S75) (x3 : List S133) : spec_SegmentsOf.p3 (k + 1) x4 x0 x3 = if x4 < (x0.length : Int) then (spec_IsLine.ap k x0 fun r1 => if r1 = true then (if 0 ≤ (wrap64 (x4 - 1)) then (if (wrap64 (x4 - 1)) < (x0.length : Int) then (if 0 ≤ x4 then (if x4 < (x0.length : Int) then (if (x3.length + 1) * 32 ≤ 140737488355328 then (spec_SegmentsOf.p3 k (wrap64 (x4 + 1)) x0 (x3 ++ [(⟨(⟨(rd_T75 x0 (wrap64 (x4 - 1))).f0, (rd_T75 x0 (wrap64 (x4 - 1))).f1⟩ : S75), (⟨(rd_T75 x0 x4).f0, (rd_T75 x0 x4).f1⟩ : S75)⟩ : S133)])) else none) else none) else none) else none) else none) else (spec_SegmentsOf.ret x3)) else (spec_SegmentsOf.ret x3) := by kernel_rfl
def spec_SegmentsOf.run (k : Nat) (h : HL eΓ [.l 75 (.st .s75)]) : Option (HL eΓ [.l 133 (.st .s133)]) := evF env spec_SegmentsOf.Fs Tryz.f120 spec_SegmentsOf.cut [.l 75 (.st .s75)] [.l 133 (.st .s133)] k h
theorem spec_SegmentsOf.ef (k : Nat) (h0 : List S75) : spec_SegmentsOf.run k (h0, ()) = spec_SegmentsOf.p3 k 1 h0 ([] : List S133) := by kernel_rfl
def spec_SegmentsOf.toH (t : (List (S133))) : HL eΓ [.l 133 (.st .s133)] := (t, ())
def spec_SegmentsOf.spec : Spc env := ⟨120, [.l 75 (.st .s75)], [.l 133 (.st .s133)], spec_SegmentsOf.run⟩
def spec_SegmentsOf.ap {R : Type} (k : Nat) (h0 : List S75) (K : (List S133) → Option R) : Option R := (spec_SegmentsOf.run k (h0, ())).bind fun r => K (r.1 : List S133)
theorem spec_SegmentsOf.ap_of {R : Type} {k : Nat} {h0 : List S75} {r0 : List S133} {K : (List S133) → Option R} (h : spec_SegmentsOf.run k (h0, ()) = some (r0, ())) : spec_SegmentsOf.ap k h0 K = K r0 := by unfold spec_SegmentsOf.ap; rw [h]; rfl
theorem spec_SegmentsOf.snd : Snd env spec_SegmentsOf.spec := evF_snd env_ok (sndC spec_IsLine.snd (sndN))
attribute [local irreducible] spec_SegmentsOf.run
theorem spec_SegmentsOf.rt (a0 : List S133) : spec_SegmentsOf.ret a0 = some (spec_SegmentsOf.toH (a0)) := rfl
theorem spec_SegmentsOf.br (n : Nat) : (∀ K, n ≤ K → ∀ (x4 : Int) (x0 : List S75) (x3 : List S133) t, spec_SegmentsOf.l0 n x0 x3 x4 = some t → spec_SegmentsOf.p3 K x4 x0 x3 = some (spec_SegmentsOf.toH t)) := by
  induction n using Nat.strongRecOn with
  | _ n ih =>
  intro K hK x4 x0 x3 t h
  all_goals (rcases n with _ | k)
  all_goals (try (exact nos h))
  all_goals (obtain ⟨K, rfl⟩ : ∃ q, K = q + 1 := ⟨K - 1, by omega⟩)
  all_goals (first | rw [spec_SegmentsOf.e3])
  all_goals (simp only [spec_SegmentsOf.l0] at h)
  repeat' (with_reducible first
   | exact nos h
   | (cases some_inj h; exact spec_SegmentsOf.rt _)
   | exact (ih _ (by omega)) _ (by omega) _ _ _ _ h
   | (simp only [Option.bind_some] at h)
   | (refine ite_by h ?_ ?_ <;> (intro hc h; (try simp only [nrm] at hc)))
   | refine itT ?_
   | refine itF ?_
   | (refine bind_by h (fun t ht h => ?_); refine (spec_IsLine.ap_of (spec_IsLine.go ht _ (by omega))).trans ?_; (try dsimp only at h ⊢))
   | (simp only [nr2] at h ⊢)
   | (exfalso; omega))
theorem spec_SegmentsOf.go {k : Nat} {l0 : List S75} {t} (h : spec_SegmentsOf.f k l0 = some t) (K : Nat) (hK : k ≤ K) : spec_SegmentsOf.run K (l0, ()) = some (spec_SegmentsOf.toH t) := by
  rw [spec_SegmentsOf.ef]
  (try dsimp only)
  unfold spec_SegmentsOf.f at h
  repeat' (with_reducible first
   | exact nos h
   | (cases some_inj h; exact spec_SegmentsOf.rt _)
   | exact (spec_SegmentsOf.br _) _ (by omega) _ _ _ _ h
   | (simp only [Option.bind_some] at h)
   | (refine ite_by h ?_ ?_ <;> (intro hc h; (try simp only [nrm] at hc)))
   | refine itT ?_
   | refine itF ?_
   | (refine bind_by h (fun t ht h => ?_); refine (spec_IsLine.ap_of (spec_IsLine.go ht _ (by omega))).trans ?_; (try dsimp only at h ⊢))
   | (simp only [nr2] at h ⊢)
   | (exfalso; omega))
def spec_IsSimple.Fs : List (Spc env) := [spec_SegmentsOf.spec, spec_IsLine.spec, spec_HowMeet.spec]
def spec_IsSimple.fin : St eΓ → Option (HL eΓ [.b]) := finR env Tryz.f150.results.toList [.b]
def spec_IsSimple.cut : Nat → Option (List (Lv SC)) := lk [(3, [⟨0, none, false⟩, ⟨3, none, false⟩, ⟨4, none, false⟩]), (6, [⟨0, none, false⟩, ⟨3, none, false⟩, ⟨4, none, false⟩, ⟨5, none, false⟩])]
def spec_IsSimple.ret (r0 : Bool) : Option (HL eΓ [.b]) := some (r0, ())
def spec_IsSimple.p3 (k : Nat) (x4 : Int) (x0 : List S75) (x3 : List S133) : Option (HL eΓ [.b]) := evM env spec_IsSimple.Fs Tryz.f150.ntmps spec_IsSimple.fin spec_IsSimple.cut k [.code (sub_ [1, 1, 0, 1, 0, 0, 0, 0] (bodyOf Tryz.f150)), .code (sub_ [1, 1, 0, 1, 0, 0, 0, 1] (bodyOf Tryz.f150)), .code (sub_ [1, 1, 0, 1, 0, 0, 1] (bodyOf Tryz.f150)), .lp (sub_ [1, 1, 0, 1, 0, 0] (bodyOf Tryz.f150)), .blk 0, .code (sub_ [1, 1, 1] (bodyOf Tryz.f150))] (mkSt [(0, .c (.sl 0)), (3, .c (.sl 1)), (4, .c (.v (.int .i64 x4)))] [.row .ro 75 (.st .s75) x0, .row .own 133 (.st .s133) x3])
def spec_IsSimple.p6 (k : Nat) (x4 : Int) (x5 : Int) (x0 : List S75) (x3 : List S133) : Option (HL eΓ [.b]) := evM env spec_IsSimple.Fs Tryz.f150.ntmps spec_IsSimple.fin spec_IsSimple.cut k [.code (sub_ [1, 1, 0, 1, 0, 0, 1, 0, 0, 1, 0, 0, 0, 0] (bodyOf Tryz.f150)), .code (sub_ [1, 1, 0, 1, 0, 0, 1, 0, 0, 1, 0, 0, 0, 1] (bodyOf Tryz.f150)), .code (sub_ [1, 1, 0, 1, 0, 0, 1, 0, 0, 1, 0, 0, 1] (bodyOf Tryz.f150)), .lp (sub_ [1, 1, 0, 1, 0, 0, 1, 0, 0, 1, 0, 0] (bodyOf Tryz.f150)), .blk 2, .blk 1, .code (sub_ [1, 1, 0, 1, 0, 0, 1, 1] (bodyOf Tryz.f150)), .lp (sub_ [1, 1, 0, 1, 0, 0] (bodyOf Tryz.f150)), .blk 0, .code (sub_ [1, 1, 1] (bodyOf Tryz.f150))] (mkSt [(0, .c (.sl 0)), (3, .c (.sl 1)), (4, .c (.v (.int .i64 x4))), (5, .c (.v (.int .i64 x5)))] [.row .ro 75 (.st .s75) x0, .row .own 133 (.st .s133) x3])
theorem spec_IsSimple.e3 (k : Nat) (x4 : Int) (x0 : List S75) (x3 : List S133) : spec_IsSimple.p3 (k + 1) x4 x0 x3 = if x4 < (x3.length : Int) then (spec_IsSimple.p6 k x4 0 x0 x3) else (spec_IsLine.ap k x0 fun r1 => spec_IsSimple.ret r1) := by kernel_rfl
theorem spec_IsSimple.e6 (k : Nat) (x4 : Int) (x5 : Int) (x0 : List S75) (x3 : List S133) : spec_IsSimple.p6 (k + 1) x4 x5 x0 x3 = if x5 < x4 then (if (wrap64 (x5 + 1)) = x4 then (if 0 ≤ x4 then (if x4 < (x3.length : Int) then (if 0 ≤ x5 then (if x5 < (x3.length : Int) then (spec_HowMeet.ap k (⟨(⟨(rd_T133 x3 x4).f0.f0, (rd_T133 x3 x4).f0.f1⟩ : S75), (⟨(rd_T133 x3 x4).f1.f0, (rd_T133 x3 x4).f1.f1⟩ : S75)⟩ : S133) (⟨(⟨(rd_T133 x3 x5).f0.f0, (rd_T133 x3 x5).f0.f1⟩ : S75), (⟨(rd_T133 x3 x5).f1.f0, (rd_T133 x3 x5).f1.f1⟩ : S75)⟩ : S133) fun r1 => if ¬ r1 = 1 then (spec_IsSimple.ret false) else (spec_IsSimple.p6 k x4 (wrap64 (x5 + 1)) x0 x3)) else none) else none) else none) else none) else (if 0 ≤ x4 then (if x4 < (x3.length : Int) then (if 0 ≤ x5 then (if x5 < (x3.length : Int) then (spec_HowMeet.ap k (⟨(⟨(rd_T133 x3 x4).f0.f0, (rd_T133 x3 x4).f0.f1⟩ : S75), (⟨(rd_T133 x3 x4).f1.f0, (rd_T133 x3 x4).f1.f1⟩ : S75)⟩ : S133) (⟨(⟨(rd_T133 x3 x5).f0.f0, (rd_T133 x3 x5).f0.f1⟩ : S75), (⟨(rd_T133 x3 x5).f1.f0, (rd_T133 x3 x5).f1.f1⟩ : S75)⟩ : S133) fun r2 => if ¬ r2 = 0 then (spec_IsSimple.ret false) else (spec_IsSimple.p6 k x4 (wrap64 (x5 + 1)) x0 x3)) else none) else none) else none) else none)) else (spec_IsSimple.p3 k (wrap64 (x4 + 1)) x0 x3) := by kernel_rfl
def spec_IsSimple.run (k : Nat) (h : HL eΓ [.l 75 (.st .s75)]) : Option (HL eΓ [.b]) := evF env spec_IsSimple.Fs Tryz.f150 spec_IsSimple.cut [.l 75 (.st .s75)] [.b] k h
theorem spec_IsSimple.ef (k : Nat) (h0 : List S75) : spec_IsSimple.run k (h0, ()) = spec_SegmentsOf.ap k h0 fun r1 => spec_IsSimple.p3 k 0 h0 r1 := by kernel_rfl
def spec_IsSimple.toH (t : Bool) : HL eΓ [.b] := (t, ())
def spec_IsSimple.spec : Spc env := ⟨150, [.l 75 (.st .s75)], [.b], spec_IsSimple.run⟩
def spec_IsSimple.ap {R : Type} (k : Nat) (h0 : List S75) (K : Bool → Option R) : Option R := (spec_IsSimple.run k (h0, ())).bind fun r => K (r.1 : Bool)
theorem spec_IsSimple.ap_of {R : Type} {k : Nat} {h0 : List S75} {r0 : Bool} {K : Bool → Option R} (h : spec_IsSimple.run k (h0, ()) = some (r0, ())) : spec_IsSimple.ap k h0 K = K r0 := by unfold spec_IsSimple.ap; rw [h]; rfl
theorem spec_IsSimple.snd : Snd env spec_IsSimple.spec := evF_snd env_ok (sndC spec_SegmentsOf.snd (sndC spec_IsLine.snd (sndC spec_HowMeet.snd (sndN))))
attribute [local irreducible] spec_IsSimple.run
theorem spec_IsSimple.rt (a0 : Bool) : spec_IsSimple.ret a0 = some (spec_IsSimple.toH (a0)) := rfl
theorem spec_IsSimple.br (n : Nat) : (∀ K, n ≤ K → ∀ (x4 : Int) (x0 : List S75) (x3 : List S133) t, spec_IsSimple.l0 n x0 x3 x4 = some t → spec_IsSimple.p3 K x4 x0 x3 = some (spec_IsSimple.toH t)) ∧ (∀ K, n ≤ K → ∀ (x4 : Int) (x5 : Int) (x0 : List S75) (x3 : List S133) t, spec_IsSimple.l1 n x0 x3 x4 x5 = some t → spec_IsSimple.p6 K x4 x5 x0 x3 = some (spec_IsSimple.toH t)) := by
  induction n using Nat.strongRecOn with
  | _ n ih =>
  refine ⟨fun K hK x4 x0 x3 t h => ?_, fun K hK x4 x5 x0 x3 t h => ?_⟩
  all_goals (rcases n with _ | k)
  all_goals (try (exact nos h))
  all_goals (obtain ⟨K, rfl⟩ : ∃ q, K = q + 1 := ⟨K - 1, by omega⟩)
  all_goals (first | rw [spec_IsSimple.e3] | rw [spec_IsSimple.e6])
  all_goals (simp only [spec_IsSimple.l0, spec_IsSimple.l1] at h)
  repeat' (with_reducible first
   | exact nos h
   | (cases some_inj h; exact spec_IsSimple.rt _)
   | exact (ih _ (by omega)).1 _ (by omega) _ _ _ _ h
   | exact (ih _ (by omega)).2 _ (by omega) _ _ _ _ _ h
   | (simp only [Option.bind_some] at h)
   | (refine ite_by h ?_ ?_ <;> (intro hc h; (try simp only [nrm] at hc)))
   | refine itT ?_
   | refine itF ?_
   | (refine bind_by h (fun t ht h => ?_); (first | refine (spec_SegmentsOf.ap_of (spec_SegmentsOf.go ht _ (by omega))).trans ?_ | refine (spec_IsLine.ap_of (spec_IsLine.go ht _ (by omega))).trans ?_ | refine (spec_HowMeet.ap_of (spec_HowMeet.go ht _)).trans ?_); (try dsimp only at h ⊢))
   | (simp only [nr2] at h ⊢)
   | (exfalso; omega))
theorem spec_IsSimple.go {k : Nat} {l0 : List S75} {t} (h : spec_IsSimple.f k l0 = some t) (K : Nat) (hK : k ≤ K) : spec_IsSimple.run K (l0, ()) = some (spec_IsSimple.toH t) := by
  rw [spec_IsSimple.ef]
  (try dsimp only)
  unfold spec_IsSimple.f at h
  repeat' (with_reducible first
   | exact nos h
   | (cases some_inj h; exact spec_IsSimple.rt _)
   | exact (spec_IsSimple.br _).1 _ (by omega) _ _ _ _ h
   | exact (spec_IsSimple.br _).2 _ (by omega) _ _ _ _ _ h
   | (simp only [Option.bind_some] at h)
   | (refine ite_by h ?_ ?_ <;> (intro hc h; (try simp only [nrm] at hc)))
   | refine itT ?_
   | refine itF ?_
   | (refine bind_by h (fun t ht h => ?_); (first | refine (spec_SegmentsOf.ap_of (spec_SegmentsOf.go ht _ (by omega))).trans ?_ | refine (spec_IsLine.ap_of (spec_IsLine.go ht _ (by omega))).trans ?_ | refine (spec_HowMeet.ap_of (spec_HowMeet.go ht _)).trans ?_); (try dsimp only at h ⊢))
   | (simp only [nr2] at h ⊢)
   | (exfalso; omega))
def spec_IsFeature.Fs : List (Spc env) := [spec_l1In.spec, spec_IsName.spec, spec_IsPoint.spec, spec_IsSimple.spec, spec_IsRing.spec]
def spec_IsFeature.cut : Nat → Option (List (Lv SC)) := lk []
def spec_IsFeature.ret (r0 : Bool) : Option (HL eΓ [.b]) := some (r0, ())
def spec_IsFeature.run (k : Nat) (h : HL eΓ [.st .s59]) : Option (HL eΓ [.b]) := evF env spec_IsFeature.Fs Tryz.f110 spec_IsFeature.cut [.st .s59] [.b] k h
theorem spec_IsFeature.ef (k : Nat) (h0 : S59) : spec_IsFeature.run k (h0, ()) = spec_l1In.ap k h0.f0 1 99 fun r1 => if (!r1) = true then (spec_IsFeature.ret false) else (spec_l1In.ap k h0.f2 0 9 fun r2 => if (!r2) = true then (spec_IsFeature.ret false) else (if ¬ h0.f3.toList = [] then (spec_IsName.ap k h0.f3 fun r3 => if (!r3) = true then (spec_IsFeature.ret false) else (if h0.f1 = 1 then (if (h0.f4.length : Int) = 1 then (if 0 < (h0.f4.length : Int) then (spec_IsPoint.ap k (⟨(rd_T75 h0.f4 0).f0, (rd_T75 h0.f4 0).f1⟩ : S75) fun r4 => spec_IsFeature.ret r4) else none) else (spec_IsFeature.ret false)) else (if h0.f1 = 2 then (spec_IsSimple.ap k h0.f4 fun r5 => spec_IsFeature.ret r5) else (if h0.f1 = 3 then (spec_IsRing.ap k h0.f4 fun r6 => spec_IsFeature.ret r6) else (spec_IsFeature.ret false))))) else (if h0.f1 = 1 then (if (h0.f4.length : Int) = 1 then (if 0 < (h0.f4.length : Int) then (spec_IsPoint.ap k (⟨(rd_T75 h0.f4 0).f0, (rd_T75 h0.f4 0).f1⟩ : S75) fun r7 => spec_IsFeature.ret r7) else none) else (spec_IsFeature.ret false)) else (if h0.f1 = 2 then (spec_IsSimple.ap k h0.f4 fun r8 => spec_IsFeature.ret r8) else (if h0.f1 = 3 then (spec_IsRing.ap k h0.f4 fun r9 => spec_IsFeature.ret r9) else (spec_IsFeature.ret false)))))) := by kernel_rfl
def spec_IsFeature.toH (t : Bool) : HL eΓ [.b] := (t, ())
def spec_IsFeature.spec : Spc env := ⟨110, [.st .s59], [.b], spec_IsFeature.run⟩
def spec_IsFeature.ap {R : Type} (k : Nat) (h0 : S59) (K : Bool → Option R) : Option R := (spec_IsFeature.run k (h0, ())).bind fun r => K (r.1 : Bool)
theorem spec_IsFeature.ap_of {R : Type} {k : Nat} {h0 : S59} {r0 : Bool} {K : Bool → Option R} (h : spec_IsFeature.run k (h0, ()) = some (r0, ())) : spec_IsFeature.ap k h0 K = K r0 := by unfold spec_IsFeature.ap; rw [h]; rfl
theorem spec_IsFeature.snd : Snd env spec_IsFeature.spec := evF_snd env_ok (sndC spec_l1In.snd (sndC spec_IsName.snd (sndC spec_IsPoint.snd (sndC spec_IsSimple.snd (sndC spec_IsRing.snd (sndN))))))
attribute [local irreducible] spec_IsFeature.run
theorem spec_IsFeature.rt (a0 : Bool) : spec_IsFeature.ret a0 = some (spec_IsFeature.toH (a0)) := rfl
theorem spec_IsFeature.go {k : Nat} {a0_0 : Int} {a0_1 : Int} {a0_2 : Int} {a0_3 : ByteArray} {l0_4 : List S75} {t} (h : spec_IsFeature.f k a0_0 a0_1 a0_2 a0_3 l0_4 = some t) (K : Nat) (hK : k ≤ K) : spec_IsFeature.run K ((⟨a0_0, a0_1, a0_2, a0_3, l0_4⟩ : S59), ()) = some (spec_IsFeature.toH t) := by
  rw [spec_IsFeature.ef]
  (try dsimp only)
  unfold spec_IsFeature.f at h
  repeat' (with_reducible first
   | exact nos h
   | (cases some_inj h; exact spec_IsFeature.rt _)
   | ((have q : spec_IsFeature.j0 k _ _ _ _ _ _ = some _ := h; clear q); rcases k with _ | k <;> simp only [spec_IsFeature.j0, reduceCtorEq] at h)
   | (simp only [Option.bind_some] at h)
   | (refine ite_by h ?_ ?_ <;> (intro hc h; (try simp only [nrm] at hc)))
   | refine itT ?_
   | refine itF ?_
   | (refine bind_by h (fun t ht h => ?_); (first | refine (spec_l1In.ap_of (spec_l1In.go ht _)).trans ?_ | refine (spec_IsName.ap_of (spec_IsName.go ht _ (by omega))).trans ?_ | refine (spec_IsPoint.ap_of (spec_IsPoint.go ht _)).trans ?_ | refine (spec_IsSimple.ap_of (spec_IsSimple.go ht _ (by omega))).trans ?_ | refine (spec_IsRing.ap_of (spec_IsRing.go ht _ (by omega))).trans ?_); (try dsimp only at h ⊢))
   | (simp only [nr2] at h ⊢)
   | (exfalso; omega))
def spec_IsSource.Fs : List (Spc env) := [spec_IsFeature.spec]
def spec_IsSource.fin : St eΓ → Option (HL eΓ [.b]) := finR env Tryz.f61.results.toList [.b]
def spec_IsSource.cut : Nat → Option (List (Lv SC)) := lk [(2, [⟨0, none, false⟩, ⟨3, none, false⟩])]
def spec_IsSource.ret (r0 : Bool) : Option (HL eΓ [.b]) := some (r0, ())
def spec_IsSource.p2 (k : Nat) (x3 : Int) (x0 : List S59) : Option (HL eΓ [.b]) := evM env spec_IsSource.Fs Tryz.f61.ntmps spec_IsSource.fin spec_IsSource.cut k [.code (sub_ [1, 0, 1, 0, 0, 0, 0] (bodyOf Tryz.f61)), .code (sub_ [1, 0, 1, 0, 0, 0, 1] (bodyOf Tryz.f61)), .code (sub_ [1, 0, 1, 0, 0, 1] (bodyOf Tryz.f61)), .lp (sub_ [1, 0, 1, 0, 0] (bodyOf Tryz.f61)), .blk 0, .code (sub_ [1, 1] (bodyOf Tryz.f61))] (mkSt [(0, .c (.sl 0)), (3, .c (.v (.int .i64 x3)))] [.row .ro 59 (.st .s59) x0])
theorem spec_IsSource.e2 (k : Nat) (x3 : Int) (x0 : List S59) : spec_IsSource.p2 (k + 1) x3 x0 = if x3 < (x0.length : Int) then (if 0 ≤ x3 then (if x3 < (x0.length : Int) then (spec_IsFeature.ap k (⟨(rd_T59 x0 x3).f0, (rd_T59 x0 x3).f1, (rd_T59 x0 x3).f2, (rd_T59 x0 x3).f3, (rd_T59 x0 x3).f4⟩ : S59) fun r1 => if (!r1) = true then (spec_IsSource.ret false) else (if x3 > 0 then (if 0 ≤ (wrap64 (x3 - 1)) then (if (wrap64 (x3 - 1)) < (x0.length : Int) then (if 0 ≤ x3 then (if x3 < (x0.length : Int) then (if ((rd_T59 x0 (wrap64 (x3 - 1))).f0) ≥ ((rd_T59 x0 x3).f0) then (spec_IsSource.ret false) else (spec_IsSource.p2 k (wrap64 (x3 + 1)) x0)) else none) else none) else none) else none) else (spec_IsSource.p2 k (wrap64 (x3 + 1)) x0))) else none) else none) else (spec_IsSource.ret (decide ((x0.length : Int) ≤ 16))) := by kernel_rfl
def spec_IsSource.run (k : Nat) (h : HL eΓ [.l 59 (.st .s59)]) : Option (HL eΓ [.b]) := evF env spec_IsSource.Fs Tryz.f61 spec_IsSource.cut [.l 59 (.st .s59)] [.b] k h
theorem spec_IsSource.ef (k : Nat) (h0 : List S59) : spec_IsSource.run k (h0, ()) = spec_IsSource.p2 k 0 h0 := by kernel_rfl
def spec_IsSource.toH (t : Bool) : HL eΓ [.b] := (t, ())
def spec_IsSource.spec : Spc env := ⟨61, [.l 59 (.st .s59)], [.b], spec_IsSource.run⟩
def spec_IsSource.ap {R : Type} (k : Nat) (h0 : List S59) (K : Bool → Option R) : Option R := (spec_IsSource.run k (h0, ())).bind fun r => K (r.1 : Bool)
theorem spec_IsSource.ap_of {R : Type} {k : Nat} {h0 : List S59} {r0 : Bool} {K : Bool → Option R} (h : spec_IsSource.run k (h0, ()) = some (r0, ())) : spec_IsSource.ap k h0 K = K r0 := by unfold spec_IsSource.ap; rw [h]; rfl
theorem spec_IsSource.snd : Snd env spec_IsSource.spec := evF_snd env_ok (sndC spec_IsFeature.snd (sndN))
attribute [local irreducible] spec_IsSource.run
theorem spec_IsSource.rt (a0 : Bool) : spec_IsSource.ret a0 = some (spec_IsSource.toH (a0)) := rfl
theorem spec_IsSource.br (n : Nat) : (∀ K, n ≤ K → ∀ (x3 : Int) (x0 : List S59) t, spec_IsSource.l0 n x0 x3 = some t → spec_IsSource.p2 K x3 x0 = some (spec_IsSource.toH t)) := by
  induction n using Nat.strongRecOn with
  | _ n ih =>
  intro K hK x3 x0 t h
  all_goals (rcases n with _ | k)
  all_goals (try (exact nos h))
  all_goals (obtain ⟨K, rfl⟩ : ∃ q, K = q + 1 := ⟨K - 1, by omega⟩)
  all_goals (first | rw [spec_IsSource.e2])
  all_goals (simp only [spec_IsSource.l0] at h)
  repeat' (with_reducible first
   | exact nos h
   | (cases some_inj h; exact spec_IsSource.rt _)
   | exact (ih _ (by omega)) _ (by omega) _ _ _ h
   | (simp only [Option.bind_some] at h)
   | (refine ite_by h ?_ ?_ <;> (intro hc h; (try simp only [nrm] at hc)))
   | refine itT ?_
   | refine itF ?_
   | (refine bind_by h (fun t ht h => ?_); refine (spec_IsFeature.ap_of (spec_IsFeature.go ht _ (by omega))).trans ?_; (try dsimp only at h ⊢))
   | (simp only [nr2] at h ⊢)
   | (exfalso; omega))
theorem spec_IsSource.go {k : Nat} {l0 : List S59} {t} (h : spec_IsSource.f k l0 = some t) (K : Nat) (hK : k ≤ K) : spec_IsSource.run K (l0, ()) = some (spec_IsSource.toH t) := by
  rw [spec_IsSource.ef]
  (try dsimp only)
  unfold spec_IsSource.f at h
  repeat' (with_reducible first
   | exact nos h
   | (cases some_inj h; exact spec_IsSource.rt _)
   | exact (spec_IsSource.br _) _ (by omega) _ _ _ h
   | (simp only [Option.bind_some] at h)
   | (refine ite_by h ?_ ?_ <;> (intro hc h; (try simp only [nrm] at hc)))
   | refine itT ?_
   | refine itF ?_
   | (refine bind_by h (fun t ht h => ?_); refine (spec_IsFeature.ap_of (spec_IsFeature.go ht _ (by omega))).trans ?_; (try dsimp only at h ⊢))
   | (simp only [nr2] at h ⊢)
   | (exfalso; omega))
def spec_IsLevel.Fs : List (Spc env) := [spec_l1In.spec]
def spec_IsLevel.cut : Nat → Option (List (Lv SC)) := lk []
def spec_IsLevel.ret (r0 : Bool) : Option (HL eΓ [.b]) := some (r0, ())
def spec_IsLevel.run (k : Nat) (h : HL eΓ [.st .s46]) : Option (HL eΓ [.b]) := evF env spec_IsLevel.Fs Tryz.f62 spec_IsLevel.cut [.st .s46] [.b] k h
theorem spec_IsLevel.ef (k : Nat) (h0 : S46) : spec_IsLevel.run k (h0, ()) = spec_l1In.ap k h0.f0 0 9 fun r1 => if r1 = true then (spec_l1In.ap k h0.f1 0 200 fun r2 => if r2 = true then (spec_l1In.ap k h0.f2 0 100000 fun r3 => spec_IsLevel.ret r3) else (spec_IsLevel.ret false)) else (spec_IsLevel.ret false) := by kernel_rfl
def spec_IsLevel.toH (t : Bool) : HL eΓ [.b] := (t, ())
def spec_IsLevel.spec : Spc env := ⟨62, [.st .s46], [.b], spec_IsLevel.run⟩
def spec_IsLevel.ap {R : Type} (k : Nat) (h0 : S46) (K : Bool → Option R) : Option R := (spec_IsLevel.run k (h0, ())).bind fun r => K (r.1 : Bool)
theorem spec_IsLevel.ap_of {R : Type} {k : Nat} {h0 : S46} {r0 : Bool} {K : Bool → Option R} (h : spec_IsLevel.run k (h0, ()) = some (r0, ())) : spec_IsLevel.ap k h0 K = K r0 := by unfold spec_IsLevel.ap; rw [h]; rfl
theorem spec_IsLevel.snd : Snd env spec_IsLevel.spec := evF_snd env_ok (sndC spec_l1In.snd (sndN))
attribute [local irreducible] spec_IsLevel.run
theorem spec_IsLevel.rt (a0 : Bool) : spec_IsLevel.ret a0 = some (spec_IsLevel.toH (a0)) := rfl
theorem spec_IsLevel.go {a0_0 : Int} {a0_1 : Int} {a0_2 : Int} {t} (h : spec_IsLevel.f a0_0 a0_1 a0_2 = some t) (K : Nat) : spec_IsLevel.run K ((⟨a0_0, a0_1, a0_2⟩ : S46), ()) = some (spec_IsLevel.toH t) := by
  rw [spec_IsLevel.ef]
  (try dsimp only)
  unfold spec_IsLevel.f at h
  repeat' (with_reducible first
   | exact nos h
   | (cases some_inj h; exact spec_IsLevel.rt _)
   | (simp only [Option.bind_some] at h)
   | (refine ite_by h ?_ ?_ <;> (intro hc h; (try simp only [nrm] at hc)))
   | refine itT ?_
   | refine itF ?_
   | (refine bind_by h (fun t ht h => ?_); refine (spec_l1In.ap_of (spec_l1In.go ht _)).trans ?_; (try dsimp only at h ⊢))
   | (simp only [nr2] at h ⊢)
   | (exfalso; omega))
def spec_l9Feature.Fs : List (Spc env) := []
def spec_l9Feature.cut : Nat → Option (List (Lv SC)) := lk []
def spec_l9Feature.ret (r0 : S59) : Option (HL eΓ [.st .s59]) := some (r0, ())
def spec_l9Feature.run (k : Nat) (h : HL eΓ [.st .s59]) : Option (HL eΓ [.st .s59]) := evF env spec_l9Feature.Fs Tryz.f111 spec_l9Feature.cut [.st .s59] [.st .s59] k h
theorem spec_l9Feature.ef (k : Nat) (h0 : S59) : spec_l9Feature.run k (h0, ()) = if (0 + h0.f4.length) * 16 ≤ 140737488355328 then (spec_l9Feature.ret (⟨h0.f0, h0.f1, h0.f2, h0.f3, h0.f4⟩ : S59)) else none := by kernel_rfl
def spec_l9Feature.toH (t : Int × Int × Int × ByteArray × (List (S75))) : HL eΓ [.st .s59] := ((⟨t.1, t.2.1, t.2.2.1, t.2.2.2.1, t.2.2.2.2⟩ : S59), ())
def spec_l9Feature.spec : Spc env := ⟨111, [.st .s59], [.st .s59], spec_l9Feature.run⟩
def spec_l9Feature.ap {R : Type} (k : Nat) (h0 : S59) (K : S59 → Option R) : Option R := (spec_l9Feature.run k (h0, ())).bind fun r => K (r.1 : S59)
theorem spec_l9Feature.ap_of {R : Type} {k : Nat} {h0 : S59} {r0 : S59} {K : S59 → Option R} (h : spec_l9Feature.run k (h0, ()) = some (r0, ())) : spec_l9Feature.ap k h0 K = K r0 := by unfold spec_l9Feature.ap; rw [h]; rfl
theorem spec_l9Feature.snd : Snd env spec_l9Feature.spec := evF_snd env_ok (sndN)
attribute [local irreducible] spec_l9Feature.run
theorem spec_l9Feature.rt (a0 : Int) (a1 : Int) (a2 : Int) (a3 : ByteArray) (a4 : List S75) : spec_l9Feature.ret (⟨a0, a1, a2, a3, a4⟩ : S59) = some (spec_l9Feature.toH (a0, a1, a2, a3, a4)) := rfl
theorem spec_l9Feature.go {a0_0 : Int} {a0_1 : Int} {a0_2 : Int} {a0_3 : ByteArray} {l0_4 : List S75} {t} (h : spec_l9Feature.f a0_0 a0_1 a0_2 a0_3 l0_4 = some t) (K : Nat) : spec_l9Feature.run K ((⟨a0_0, a0_1, a0_2, a0_3, l0_4⟩ : S59), ()) = some (spec_l9Feature.toH t) := by
  rw [spec_l9Feature.ef]
  (try dsimp only)
  unfold spec_l9Feature.f at h
  repeat' (with_reducible first
   | exact nos h
   | (cases some_inj h; exact spec_l9Feature.rt _ _ _ _ _)
   | (simp only [Option.bind_some] at h)
   | (simp only [List.nil_append] at h)
   | (refine ite_by h ?_ ?_ <;> (intro hc h; (try simp only [nrm] at hc)))
   | refine itT ?_
   | refine itF ?_
   | (simp only [nr2] at h ⊢)
   | (exfalso; omega))
def spec_l23Ranked.Fs : List (Spc env) := [spec_l9Feature.spec]
def spec_l23Ranked.fin : St eΓ → Option (HL eΓ [.l 59 (.st .s59)]) := finR env Tryz.f63.results.toList [.l 59 (.st .s59)]
def spec_l23Ranked.cut : Nat → Option (List (Lv SC)) := lk [(3, [⟨0, none, false⟩, ⟨1, none, false⟩, ⟨5, none, false⟩, ⟨6, none, false⟩])]
def spec_l23Ranked.ret (r0 : List S59) : Option (HL eΓ [.l 59 (.st .s59)]) := some (r0, ())
def spec_l23Ranked.p3 (k : Nat) (x1 : Int) (x6 : Int) (x0 : List S59) (x5 : List S59) : Option (HL eΓ [.l 59 (.st .s59)]) := evM env spec_l23Ranked.Fs Tryz.f63.ntmps spec_l23Ranked.fin spec_l23Ranked.cut k [.code (sub_ [1, 1, 0, 1, 0, 0, 0, 0] (bodyOf Tryz.f63)), .code (sub_ [1, 1, 0, 1, 0, 0, 0, 1] (bodyOf Tryz.f63)), .code (sub_ [1, 1, 0, 1, 0, 0, 1] (bodyOf Tryz.f63)), .lp (sub_ [1, 1, 0, 1, 0, 0] (bodyOf Tryz.f63)), .blk 0, .code (sub_ [1, 1, 1] (bodyOf Tryz.f63))] (mkSt [(0, .c (.sl 0)), (1, .c (.v (.int .i64 x1))), (5, .c (.sl 1)), (6, .c (.v (.int .i64 x6)))] [.row .ro 59 (.st .s59) x0, .row .own 59 (.st .s59) x5])
theorem spec_l23Ranked.e3 (k : Nat) (x1 : Int) (x6 : Int) (x0 : List S59) (x5 : List S59) : spec_l23Ranked.p3 (k + 1) x1 x6 x0 x5 = if x6 < (x0.length : Int) then (if 0 ≤ x6 then (if x6 < (x0.length : Int) then (if ((rd_T59 x0 x6).f2) ≥ x1 then (if 0 ≤ x6 then (if x6 < (x0.length : Int) then (spec_l9Feature.ap k (⟨(rd_T59 x0 x6).f0, (rd_T59 x0 x6).f1, (rd_T59 x0 x6).f2, (rd_T59 x0 x6).f3, (rd_T59 x0 x6).f4⟩ : S59) fun r1 => if (x5.length + 1) * 64 ≤ 140737488355328 then (spec_l23Ranked.p3 k x1 (wrap64 (x6 + 1)) x0 (x5 ++ [(⟨r1.f0, r1.f1, r1.f2, r1.f3, r1.f4⟩ : S59)])) else none) else none) else none) else (spec_l23Ranked.p3 k x1 (wrap64 (x6 + 1)) x0 x5)) else none) else none) else (spec_l23Ranked.ret x5) := by kernel_rfl
def spec_l23Ranked.run (k : Nat) (h : HL eΓ [.l 59 (.st .s59), .i .i64]) : Option (HL eΓ [.l 59 (.st .s59)]) := evF env spec_l23Ranked.Fs Tryz.f63 spec_l23Ranked.cut [.l 59 (.st .s59), .i .i64] [.l 59 (.st .s59)] k h
theorem spec_l23Ranked.ef (k : Nat) (h0 : List S59) (h1 : Int) : spec_l23Ranked.run k (h0, h1, ()) = spec_l23Ranked.p3 k h1 0 h0 ([] : List S59) := by kernel_rfl
def spec_l23Ranked.toH (t : (List (S59))) : HL eΓ [.l 59 (.st .s59)] := (t, ())
def spec_l23Ranked.spec : Spc env := ⟨63, [.l 59 (.st .s59), .i .i64], [.l 59 (.st .s59)], spec_l23Ranked.run⟩
def spec_l23Ranked.ap {R : Type} (k : Nat) (h0 : List S59) (h1 : Int) (K : (List S59) → Option R) : Option R := (spec_l23Ranked.run k (h0, h1, ())).bind fun r => K (r.1 : List S59)
theorem spec_l23Ranked.ap_of {R : Type} {k : Nat} {h0 : List S59} {h1 : Int} {r0 : List S59} {K : (List S59) → Option R} (h : spec_l23Ranked.run k (h0, h1, ()) = some (r0, ())) : spec_l23Ranked.ap k h0 h1 K = K r0 := by unfold spec_l23Ranked.ap; rw [h]; rfl
theorem spec_l23Ranked.snd : Snd env spec_l23Ranked.spec := evF_snd env_ok (sndC spec_l9Feature.snd (sndN))
attribute [local irreducible] spec_l23Ranked.run
theorem spec_l23Ranked.rt (a0 : List S59) : spec_l23Ranked.ret a0 = some (spec_l23Ranked.toH (a0)) := rfl
theorem spec_l23Ranked.br (n : Nat) : (∀ K, n ≤ K → ∀ (x1 : Int) (x6 : Int) (x0 : List S59) (x5 : List S59) t, spec_l23Ranked.l0 n x0 x1 x5 x6 = some t → spec_l23Ranked.p3 K x1 x6 x0 x5 = some (spec_l23Ranked.toH t)) := by
  induction n using Nat.strongRecOn with
  | _ n ih =>
  intro K hK x1 x6 x0 x5 t h
  all_goals (rcases n with _ | k)
  all_goals (try (exact nos h))
  all_goals (obtain ⟨K, rfl⟩ : ∃ q, K = q + 1 := ⟨K - 1, by omega⟩)
  all_goals (first | rw [spec_l23Ranked.e3])
  all_goals (simp only [spec_l23Ranked.l0] at h)
  repeat' (with_reducible first
   | exact nos h
   | (cases some_inj h; exact spec_l23Ranked.rt _)
   | exact (ih _ (by omega)) _ (by omega) _ _ _ _ _ h
   | (simp only [Option.bind_some] at h)
   | (refine ite_by h ?_ ?_ <;> (intro hc h; (try simp only [nrm] at hc)))
   | refine itT ?_
   | refine itF ?_
   | (refine bind_by h (fun t ht h => ?_); refine (spec_l9Feature.ap_of (spec_l9Feature.go ht _)).trans ?_; (try dsimp only at h ⊢))
   | (simp only [nr2] at h ⊢)
   | (exfalso; omega))
theorem spec_l23Ranked.go {k : Nat} {l0 : List S59} {a1 : Int} {t} (h : spec_l23Ranked.f k l0 a1 = some t) (K : Nat) (hK : k ≤ K) : spec_l23Ranked.run K (l0, a1, ()) = some (spec_l23Ranked.toH t) := by
  rw [spec_l23Ranked.ef]
  (try dsimp only)
  unfold spec_l23Ranked.f at h
  repeat' (with_reducible first
   | exact nos h
   | (cases some_inj h; exact spec_l23Ranked.rt _)
   | exact (spec_l23Ranked.br _) _ (by omega) _ _ _ _ _ h
   | (simp only [Option.bind_some] at h)
   | (refine ite_by h ?_ ?_ <;> (intro hc h; (try simp only [nrm] at hc)))
   | refine itT ?_
   | refine itF ?_
   | (refine bind_by h (fun t ht h => ?_); refine (spec_l9Feature.ap_of (spec_l9Feature.go ht _)).trans ?_; (try dsimp only at h ⊢))
   | (simp only [nr2] at h ⊢)
   | (exfalso; omega))
def spec_IsAbove.Fs : List (Spc env) := []
def spec_IsAbove.cut : Nat → Option (List (Lv SC)) := lk []
def spec_IsAbove.ret (r0 : Bool) : Option (HL eΓ [.b]) := some (r0, ())
def spec_IsAbove.run (k : Nat) (h : HL eΓ [.st .s77, .st .s77]) : Option (HL eΓ [.b]) := evF env spec_IsAbove.Fs Tryz.f83 spec_IsAbove.cut [.st .s77, .st .s77] [.b] k h
theorem spec_IsAbove.ef (k : Nat) (h0 : S77) (h1 : S77) : spec_IsAbove.run k (h0, h1, ()) = if h0.f2 > h1.f2 then (spec_IsAbove.ret true) else (if h0.f2 = h1.f2 then (spec_IsAbove.ret (decide (h0.f0 < h1.f0))) else (spec_IsAbove.ret false)) := by kernel_rfl
def spec_IsAbove.toH (t : Bool) : HL eΓ [.b] := (t, ())
def spec_IsAbove.spec : Spc env := ⟨83, [.st .s77, .st .s77], [.b], spec_IsAbove.run⟩
theorem spec_IsAbove.snd : Snd env spec_IsAbove.spec := evF_snd env_ok (sndN)
attribute [local irreducible] spec_IsAbove.run
theorem spec_IsAbove.rt (a0 : Bool) : spec_IsAbove.ret a0 = some (spec_IsAbove.toH (a0)) := rfl
theorem spec_IsAbove.go {a0_0 : Int} {a0_1 : Int} {a0_2 : Int} {a0_3 : Int} {a1_0 : Int} {a1_1 : Int} {a1_2 : Int} {a1_3 : Int} {t} (h : spec_IsAbove.f a0_0 a0_1 a0_2 a0_3 a1_0 a1_1 a1_2 a1_3 = some t) (K : Nat) : spec_IsAbove.run K ((⟨a0_0, (⟨a0_1, a0_2⟩ : S75), a0_3⟩ : S77), (⟨a1_0, (⟨a1_1, a1_2⟩ : S75), a1_3⟩ : S77), ()) = some (spec_IsAbove.toH t) := by
  rw [spec_IsAbove.ef]
  (try dsimp only)
  unfold spec_IsAbove.f at h
  repeat' (with_reducible first
   | exact nos h
   | (cases some_inj h; exact spec_IsAbove.rt _)
   | (simp only [Option.bind_some] at h)
   | (refine ite_by h ?_ ?_ <;> (intro hc h; (try simp only [nrm] at hc)))
   | refine itT ?_
   | refine itF ?_
   | (simp only [nr2] at h ⊢)
   | (exfalso; omega))
theorem spec_IsAbove.calls (a0_0 : Int) (a0_1 : Int) (a0_2 : Int) (a0_3 : Int) (a1_0 : Int) (a1_1 : Int) (a1_2 : Int) (a1_3 : Int) (r : Bool) (w : World) (h : spec_IsAbove.f a0_0 a0_1 a0_2 a0_3 a1_0 a1_1 a1_2 a1_3 = some r) :
  Calls Tryz.prog 83 #[.agg #[.int .i64 a0_0, .int .i64 a0_1, .int .i64 a0_2, .int .i64 a0_3], .agg #[.int .i64 a1_0, .int .i64 a1_1, .int .i64 a1_2, .int .i64 a1_3]] w fun e w' => e = .returned (.bool r) ∧ Below w.heap.size w w' := by
  refine (spec_IsAbove.snd.calls _ _ _ (spec_IsAbove.go h 0) w [.agg #[.int .i64 a0_0, .int .i64 a0_1, .int .i64 a0_2, .int .i64 a0_3], .agg #[.int .i64 a1_0, .int .i64 a1_1, .int .i64 a1_2, .int .i64 a1_3]] ⟨⟨_, rfl, (H77.K _ _ _).2 ⟨rfl, rfl, rfl, rfl, trivial⟩⟩, ⟨_, rfl, (H77.K _ _ _).2 ⟨rfl, rfl, rfl, rfl, trivial⟩⟩, trivial⟩).mono ?_
  rintro e w' ⟨v, rfl, hB, vs, oks, rfl, hR, _⟩
  obtain ⟨x0_, vs, o0_, oks, rfl, rfl, m0_, hR⟩ := rmsC hR
  obtain rfl := rmsN hR
  obtain rfl := List.singleton_inj.1 (show [x0_] = [Value.bool r] from m0_)
  exact ⟨rfl, hB⟩
def spec_FarSquared.Fs : List (Spc env) := [spec_IsPoint.spec]
def spec_FarSquared.cut : Nat → Option (List (Lv SC)) := lk []
def spec_FarSquared.ret (r0 : Int) : Option (HL eΓ [.i .i64]) := some (r0, ())
def spec_FarSquared.run (k : Nat) (h : HL eΓ [.st .s75, .st .s75]) : Option (HL eΓ [.i .i64]) := evF env spec_FarSquared.Fs Tryz.f84 spec_FarSquared.cut [.st .s75, .st .s75] [.i .i64] k h
theorem spec_FarSquared.ef (k : Nat) (h0 : S75) (h1 : S75) : spec_FarSquared.run k (h0, h1, ()) = spec_IsPoint.ap k (⟨h0.f0, h0.f1⟩ : S75) fun r1 => if (!r1) = true then (spec_FarSquared.ret (-1)) else (spec_IsPoint.ap k (⟨h1.f0, h1.f1⟩ : S75) fun r2 => if (!r2) = true then (spec_FarSquared.ret (-1)) else (spec_FarSquared.ret (wrap64 ((wrap64 ((wrap64 (h0.f0 - h1.f0)) * (wrap64 (h0.f0 - h1.f0)))) + (wrap64 ((wrap64 (h0.f1 - h1.f1)) * (wrap64 (h0.f1 - h1.f1)))))))) := by kernel_rfl
def spec_FarSquared.toH (t : Int) : HL eΓ [.i .i64] := (t, ())
def spec_FarSquared.spec : Spc env := ⟨84, [.st .s75, .st .s75], [.i .i64], spec_FarSquared.run⟩
theorem spec_FarSquared.snd : Snd env spec_FarSquared.spec := evF_snd env_ok (sndC spec_IsPoint.snd (sndN))
attribute [local irreducible] spec_FarSquared.run
theorem spec_FarSquared.rt (a0 : Int) : spec_FarSquared.ret a0 = some (spec_FarSquared.toH (a0)) := rfl
theorem spec_FarSquared.go {a0_0 : Int} {a0_1 : Int} {a1_0 : Int} {a1_1 : Int} {t} (h : spec_FarSquared.f a0_0 a0_1 a1_0 a1_1 = some t) (K : Nat) : spec_FarSquared.run K ((⟨a0_0, a0_1⟩ : S75), (⟨a1_0, a1_1⟩ : S75), ()) = some (spec_FarSquared.toH t) := by
  rw [spec_FarSquared.ef]
  (try dsimp only)
  unfold spec_FarSquared.f at h
  repeat' (with_reducible first
   | exact nos h
   | (cases some_inj h; exact spec_FarSquared.rt _)
   | (simp only [Option.bind_some] at h)
   | (refine ite_by h ?_ ?_ <;> (intro hc h; (try simp only [nrm] at hc)))
   | refine itT ?_
   | refine itF ?_
   | (refine bind_by h (fun t ht h => ?_); refine (spec_IsPoint.ap_of (spec_IsPoint.go ht _)).trans ?_; (try dsimp only at h ⊢))
   | (simp only [nr2] at h ⊢)
   | (exfalso; omega))
theorem spec_FarSquared.calls (a0_0 : Int) (a0_1 : Int) (a1_0 : Int) (a1_1 : Int) (r : Int) (w : World) (h : spec_FarSquared.f a0_0 a0_1 a1_0 a1_1 = some r) :
  Calls Tryz.prog 84 #[.agg #[.int .i64 a0_0, .int .i64 a0_1], .agg #[.int .i64 a1_0, .int .i64 a1_1]] w fun e w' => e = .returned (.int .i64 r) ∧ Below w.heap.size w w' := by
  refine (spec_FarSquared.snd.calls _ _ _ (spec_FarSquared.go h 0) w [.agg #[.int .i64 a0_0, .int .i64 a0_1], .agg #[.int .i64 a1_0, .int .i64 a1_1]] ⟨⟨_, rfl, (H75.K _ _ _).2 ⟨rfl, rfl, trivial⟩⟩, ⟨_, rfl, (H75.K _ _ _).2 ⟨rfl, rfl, trivial⟩⟩, trivial⟩).mono ?_
  rintro e w' ⟨v, rfl, hB, vs, oks, rfl, hR, _⟩
  obtain ⟨x0_, vs, o0_, oks, rfl, rfl, m0_, hR⟩ := rmsC hR
  obtain rfl := rmsN hR
  obtain rfl := List.singleton_inj.1 (show [x0_] = [Value.int .i64 r] from m0_)
  exact ⟨rfl, hB⟩
end
end Go.Proofs.YtkomgmgpgnjooaaGreat.PFnExactShownIds
