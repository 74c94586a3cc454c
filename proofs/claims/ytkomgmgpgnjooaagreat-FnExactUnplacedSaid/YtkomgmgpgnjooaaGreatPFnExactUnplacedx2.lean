-- Written by a program of this session's (evlaw.py).
import Derived.Test.YtkomgmgpgnjooaaGreatPFnExactUnplacedx1
namespace Go.Proofs.YtkomgmgpgnjooaaGreat.PFnExactUnplaced
open Go.RowKit Go.Proofs.YtkomgmgpgnjooaaGreatW.PrintWords Go.Proofs.YtkomgmgpgnjooaaGreatW.PrintLast Go.Proofs.YtkomgmgpgnjooaaGreatW.PrintMore Go.Proofs.YtkomgmgpgnjooaaGreatGeo Go.Proofs.YtkomgmgpgnjooaaGreatHand Go.Proofs.YtkomgmgpgnjooaaGreatMeet Go.Proofs.YtkomgmgpgnjooaaGreatQuiet Go.Proofs.YtkomgmgpgnjooaaGreatZ
open Go Go.Proofs.YtkomgmgpgnjooaaGreatEv
attribute [local go_sem] max2_int min2_int max_two min_two max_three min_three max_four min_four   -- for this text's walks alone
set_option linter.unusedVariables false
set_option linter.unusedSimpArgs false



set_option linter.unusedSimpArgs false

attribute [local go_sem high] eqA75
set_option linter.unusedVariables false
set_option linter.unusedSimpArgs false
set_option maxRecDepth 100000
noncomputable section
inductive SC where
  | s52
  | s59
  | s75
  | s77
  | s80
  | s84
  | s133
  | s136
def scb : SC → SC → Bool
  | .s52, .s52 => true
  | .s59, .s59 => true
  | .s75, .s75 => true
  | .s77, .s77 => true
  | .s80, .s80 => true
  | .s84, .s84 => true
  | .s133, .s133 => true
  | .s136, .s136 => true
  | _, _ => false
theorem scbe : ∀ a b, scb a b = true → a = b := by intro a b; cases a <;> cases b <;> first | (intro _; rfl) | (intro h; cases h)
noncomputable def eΓ : SC → Type
  | .s52 => S52
  | .s59 => S59
  | .s75 => S75
  | .s77 => S77
  | .s80 => S80
  | .s84 => S84
  | .s133 => S133
  | .s136 => S136
def eFs : SC → List (Ty SC)
  | .s52 => [.i .i64, .i .i64, .i .i64, .s, .l 136 (.st .s136)]
  | .s59 => [.i .i64, .i .i64, .i .i64, .s, .l 75 (.st .s75)]
  | .s75 => [.i .i64, .i .i64]
  | .s77 => [.i .i64, .i .i64, .i .i64, .i .i64]
  | .s80 => [.i .i64, .i .i64, .i .i64, .i .i64]
  | .s84 => [.i .i64, .s, .i .i64, .i .i64, .i .i64, .i .i64]
  | .s133 => [.i .i64, .i .i64, .i .i64, .i .i64]
  | .s136 => [.i .i64, .i .i64]
noncomputable def eOpn : (n : SC) → eΓ n → HL eΓ (eFs n)
  | .s52 => fun (x : S52) => (x.f0, x.f1, x.f2, x.f3, x.f4, ())
  | .s59 => fun (x : S59) => (x.f0, x.f1, x.f2, x.f3, x.f4, ())
  | .s75 => fun (x : S75) => (x.f0, x.f1, ())
  | .s77 => fun (x : S77) => (x.f0, x.f1.f0, x.f1.f1, x.f2, ())
  | .s80 => fun (x : S80) => (x.f0.f0, x.f0.f1, x.f1.f0, x.f1.f1, ())
  | .s84 => fun (x : S84) => (x.f0, x.f1, x.f2.f0.f0, x.f2.f0.f1, x.f2.f1.f0, x.f2.f1.f1, ())
  | .s133 => fun (x : S133) => (x.f0.f0, x.f0.f1, x.f1.f0, x.f1.f1, ())
  | .s136 => fun (x : S136) => (x.f0, x.f1, ())
noncomputable def eSht : (n : SC) → HL eΓ (eFs n) → eΓ n
  | .s52 => fun h => (⟨h.1, h.2.1, h.2.2.1, h.2.2.2.1, h.2.2.2.2.1⟩ : S52)
  | .s59 => fun h => (⟨h.1, h.2.1, h.2.2.1, h.2.2.2.1, h.2.2.2.2.1⟩ : S59)
  | .s75 => fun h => (⟨h.1, h.2.1⟩ : S75)
  | .s77 => fun h => (⟨h.1, ⟨h.2.1, h.2.2.1⟩, h.2.2.2.1⟩ : S77)
  | .s80 => fun h => (⟨⟨h.1, h.2.1⟩, ⟨h.2.2.1, h.2.2.2.1⟩⟩ : S80)
  | .s84 => fun h => (⟨h.1, h.2.1, ⟨⟨h.2.2.1, h.2.2.2.1⟩, ⟨h.2.2.2.2.1, h.2.2.2.2.2.1⟩⟩⟩ : S84)
  | .s133 => fun h => (⟨⟨h.1, h.2.1⟩, ⟨h.2.2.1, h.2.2.2.1⟩⟩ : S133)
  | .s136 => fun h => (⟨h.1, h.2.1⟩ : S136)
noncomputable def eZ : (n : SC) → eΓ n
  | .s52 => z52
  | .s59 => z59
  | .s75 => z75
  | .s77 => z77
  | .s80 => z80
  | .s84 => z84
  | .s133 => z133
  | .s136 => z136
noncomputable def eK : (n : SC) → Kd (eΓ n)
  | .s52 => k52
  | .s59 => k59
  | .s75 => k75
  | .s77 => k77
  | .s80 => k80
  | .s84 => k84
  | .s133 => k133
  | .s136 => k136
def tSh : List (Nat × (Bool × Nat)) := [(2, (false, 1)), (3, (false, 1)), (4, (false, 1)), (5, (false, 1)), (6, (false, 1)), (9, (false, 1)), (10, (false, 1)), (11, (false, 1)), (12, (false, 1)), (21, (false, 1)), (22, (false, 1)), (23, (false, 1)), (27, (false, 1)), (37, (false, 1)), (50, (false, 1)), (52, (true, 5)), (57, (false, 1)), (59, (true, 5)), (70, (false, 1)), (73, (false, 1)), (75, (true, 2)), (77, (true, 4)), (80, (true, 4)), (84, (true, 6)), (99, (false, 1)), (105, (false, 1)), (108, (false, 1)), (133, (true, 4)), (136, (true, 2)), (138, (false, 1)), (146, (false, 1)), (148, (false, 1)), (166, (false, 1)), (194, (false, 1)), (195, (false, 1)), (198, (false, 1)), (199, (false, 1))]
def tZc : List (Nat × List Value) := [(2, [.int .i64 0]), (3, [.int .i64 0]), (4, [.bool false]), (5, [.int .u8 0]), (6, [.int .u8 0]), (9, [.string ⟨#[]⟩]), (10, [.string ⟨#[]⟩]), (11, [.string ⟨#[]⟩]), (12, [.int .u64 0]), (21, [.int .i32 0]), (22, [.slice none 0 0]), (23, [.slice none 0 0]), (27, [.slice none 0 0]), (37, [.slice none 0 0]), (50, [.slice none 0 0]), (52, [.int .i64 0, .int .i64 0, .int .i64 0, .string ⟨#[]⟩, .slice none 0 0]), (57, [.slice none 0 0]), (59, [.int .i64 0, .int .i64 0, .int .i64 0, .string ⟨#[]⟩, .slice none 0 0]), (70, [.slice none 0 0]), (73, [.slice none 0 0]), (75, [.int .i64 0, .int .i64 0]), (77, [.int .i64 0, .int .i64 0, .int .i64 0, .int .i64 0]), (80, [.int .i64 0, .int .i64 0, .int .i64 0, .int .i64 0]), (84, [.int .i64 0, .string ⟨#[]⟩, .int .i64 0, .int .i64 0, .int .i64 0, .int .i64 0]), (99, [.slice none 0 0]), (105, [.int .u64 0]), (108, [.slice none 0 0]), (133, [.int .i64 0, .int .i64 0, .int .i64 0, .int .i64 0]), (136, [.int .i64 0, .int .i64 0]), (138, [.int .i64 0]), (146, [.int .u32 0]), (148, [.int .u64 0]), (166, [.int .u64 0]), (194, [.int .u8 0]), (195, [.int .u8 0]), (198, [.int .i32 0]), (199, [.int .i32 0])]
def tFld : List (Nat × List (Nat × Nat × Bool)) := [(52, [(0, 1, false), (1, 1, false), (2, 1, false), (3, 1, false), (4, 1, false)]), (59, [(0, 1, false), (1, 1, false), (2, 1, false), (3, 1, false), (4, 1, false)]), (75, [(0, 1, false), (1, 1, false)]), (77, [(0, 1, false), (1, 2, true), (3, 1, false)]), (80, [(0, 2, true), (2, 2, true)]), (84, [(0, 1, false), (1, 1, false), (2, 4, true)]), (133, [(0, 2, true), (2, 2, true)]), (136, [(0, 1, false), (1, 1, false)])]
def tSl : List (Nat × (Nat × Ty SC × Nat × Nat × List Value)) := [(22, (52, .st .s52, 5, 64, [.int .i64 0, .int .i64 0, .int .i64 0, .string ⟨#[]⟩, .slice none 0 0])), (23, (3, .i .i64, 1, 8, [.int .i64 0])), (27, (59, .st .s59, 5, 64, [.int .i64 0, .int .i64 0, .int .i64 0, .string ⟨#[]⟩, .slice none 0 0])), (37, (84, .st .s84, 6, 56, [.int .i64 0, .string ⟨#[]⟩, .int .i64 0, .int .i64 0, .int .i64 0, .int .i64 0])), (50, (136, .st .s136, 2, 16, [.int .i64 0, .int .i64 0])), (57, (75, .st .s75, 2, 16, [.int .i64 0, .int .i64 0])), (70, (77, .st .s77, 4, 32, [.int .i64 0, .int .i64 0, .int .i64 0, .int .i64 0])), (73, (80, .st .s80, 4, 32, [.int .i64 0, .int .i64 0, .int .i64 0, .int .i64 0])), (99, (133, .st .s133, 4, 32, [.int .i64 0, .int .i64 0, .int .i64 0, .int .i64 0])), (108, (5, .i .u8, 1, 1, [.int .u8 0]))]
def tIk : List (Nat × IntKind) := [(2, .i64), (3, .i64), (5, .u8), (6, .u8), (12, .u64), (21, .i32), (105, .u64), (138, .i64), (146, .u32), (148, .u64), (166, .u64), (194, .u8), (195, .u8), (198, .i32), (199, .i32)]
def tStr : List Nat := [9, 10, 11]
def tEq : List (Nat × Nat) := [(75, 2), (136, 2)]
noncomputable def env : Env where
  P := Tryz.prog
  C := SC
  cb := scb
  cbe := scbe
  Γ := eΓ
  fs := eFs
  opn := eOpn
  sht := eSht
  z := eZ
  kst := eK
  sh := lk tSh
  zc := lk tZc
  sl := lk tSl
  ik := lk tIk
  fld := fun t i => (lkF tFld t i).map (·.1)
  pl := fun t => (lk tFld t).map fun l => l.map fun x => (x.1, x.2.1)
  str := fun t => tStr.any (Nat.beq t)
  eqt := fun t n => tEq.any fun p => Nat.beq p.1 t && Nat.beq p.2 n
theorem H52 : KH env k52 (eFs .s52) (eOpn .s52) := KH.iso (KH.pair (KH.one (E := env) (t := (.i .i64)) rfl) (KH.pair (KH.one (E := env) (t := (.i .i64)) rfl) (KH.pair (KH.one (E := env) (t := (.i .i64)) rfl) (KH.pair (KH.one (E := env) (t := .s) rfl) (KH.one (E := env) (t := (.l 136 (.st .s136))) rfl))))) _
theorem H59 : KH env k59 (eFs .s59) (eOpn .s59) := KH.iso (KH.pair (KH.one (E := env) (t := (.i .i64)) rfl) (KH.pair (KH.one (E := env) (t := (.i .i64)) rfl) (KH.pair (KH.one (E := env) (t := (.i .i64)) rfl) (KH.pair (KH.one (E := env) (t := .s) rfl) (KH.one (E := env) (t := (.l 75 (.st .s75))) rfl))))) _
theorem H75 : KH env k75 (eFs .s75) (eOpn .s75) := KH.iso (KH.pair (KH.one (E := env) (t := (.i .i64)) rfl) (KH.one (E := env) (t := (.i .i64)) rfl)) _
theorem H77 : KH env k77 (eFs .s77) (eOpn .s77) := KH.iso (KH.pair (KH.one (E := env) (t := (.i .i64)) rfl) (KH.pair (H75) (KH.one (E := env) (t := (.i .i64)) rfl))) _
theorem H80 : KH env k80 (eFs .s80) (eOpn .s80) := KH.iso (KH.pair (H75) (H75)) _
theorem H84 : KH env k84 (eFs .s84) (eOpn .s84) := KH.iso (KH.pair (KH.one (E := env) (t := (.i .i64)) rfl) (KH.pair (KH.one (E := env) (t := .s) rfl) (H80))) _
theorem H133 : KH env k133 (eFs .s133) (eOpn .s133) := KH.iso (KH.pair (H75) (H75)) _
theorem H136 : KH env k136 (eFs .s136) (eOpn .s136) := KH.iso (KH.pair (KH.one (E := env) (t := (.i .i64)) rfl) (KH.one (E := env) (t := (.i .i64)) rfl)) _
theorem env_ok : env.Ok := Env.ok_of (E := env) (tSh := tSh) (tZc := tZc) (tFld := tFld) (tSl := tSl) (tIk := tIk) (tStr := tStr) (tEq := tEq) (by kernel_rfl) (by intro n; cases n <;> rfl) (fun n => match n with | .s52 => H52 | .s59 => H59 | .s75 => H75 | .s77 => H77 | .s80 => H80 | .s84 => H84 | .s133 => H133 | .s136 => H136) (by intro n h; cases n <;> rfl) (by intro n x; cases n <;> rfl) (by intro n; cases n <;> rfl) rfl (by kernel_rfl) rfl (by kernel_rfl) (by kernel_rfl) rfl (by kernel_rfl) (by kernel_rfl) (by kernel_rfl) (by kernel_rfl) (by kernel_rfl) rfl rfl (by kernel_rfl) (by kernel_rfl) rfl (by kernel_rfl) rfl (by kernel_rfl) rfl (by kernel_rfl)
set_option maxRecDepth 100000
noncomputable def bodyOf (f : Func) : Code := match f.body with | some c => c | none => .skip
noncomputable def sub_ : List Nat → Code → Code
  | [], c => c
  | i :: r, c => match c with
    | .seq a b => sub_ r (match i with | 0 => a | _ => b)
    | .cond _ a b => sub_ r (match i with | 0 => a | _ => b)
    | .block _ a => sub_ r a
    | .loop a => sub_ r a
    | c => c
theorem sndN : ∀ s ∈ ([] : List (Spc env)), Snd env s := fun _ h => nomatch h
theorem sndC {s : Spc env} {l : List (Spc env)} (h : Snd env s) (hl : ∀ s ∈ l, Snd env s) : ∀ x ∈ s :: l, Snd env x := fun x hx => by rcases List.mem_cons.1 hx with rfl | hx; exact h; exact hl x hx
theorem ite_by {α : Type} {c : Prop} {d : Decidable c} {a b r : α} {p : Prop} (h : @ite α c d a b = r) (x : c → a = r → p) (y : ¬ c → b = r → p) : p := by by_cases q : c; exact x q (by rw [← h, if_pos q]); exact y q (by rw [← h, if_neg q])
theorem bind_by {α β : Type} {x : Option α} {f : α → Option β} {r : β} {p : Prop} (h : x.bind f = some r) (k : ∀ t, x = some t → f t = some r → p) : p := by obtain ⟨t, h1, h2⟩ := Option.bind_eq_some_iff.1 h; exact k t h1 h2
theorem evF_snd {E : Env} (hE : E.Ok) {F : List (Spc E)} (hF : ∀ s ∈ F, Snd E s) {id : FuncId} {fn : Func} {cut : Nat → Option (List (Lv E.C))} {pts rts : List (Ty E.C)} (hf : E.P.funcs[id]? = some fn := by kernel_rfl) (h1 : (fn.name == "runtime.NumGoroutine") = false := by kernel_rfl) (h2 : fn.body.isNone = false := by kernel_rfl) : Snd E ⟨id, pts, rts, fun k h => evF E F fn cut pts rts k h⟩ := ⟨⟨fn, hf, h1, h2⟩, fun k h r he w us hA => evF_calls hE hF hf he w us hA⟩
theorem beqI (a b : Int) : (a == b) = decide (a = b) := by by_cases h : a = b <;> simp [h]
theorem rmsC {E : Env} {w : World} {b : Nat} {t : Ty E.C} {ts : List (Ty E.C)} {h : HL E.Γ (t :: ts)} {vs : List Value} {oks : List (Nat → Prop)} (hR : RMs E w b (t :: ts) h vs oks) : ∃ u us ok os, vs = u :: us ∧ oks = ok :: os ∧ AK E (fun t x cs => (kd E t).M w b ok x cs) t h.1 u ∧ RMs E w b ts h.2 us os := by
  match vs, oks, hR with
  | u :: us, ok :: os, h => exact ⟨u, us, ok, os, rfl, rfl, h.1, h.2⟩
theorem rmsN {E : Env} {w : World} {b : Nat} {h : HL E.Γ ([] : List (Ty E.C))} {vs : List Value} {oks : List (Nat → Prop)} (hR : RMs E w b [] h vs oks) : vs = [] := by
  match vs, oks, hR with
  | [], _, _ => rfl
theorem some_inj {α : Type} {a b : α} (h : some a = some b) : a = b := Option.some.inj h
theorem nos {α : Type} {r : α} {p : Prop} (h : none = some r) : p := nomatch h
theorem tq_nat (n : Nat) (m : Int) : tq (n : Int) m = (n : Int) / m := by rw [tq_eq, Int.tdiv_eq_ediv_of_nonneg (by omega)]
theorem nln : (∀ {α : Type} (a b : List α), (a ++ b).length = a.length + b.length) ∧ (∀ {α : Type} (a : α) (l : List α), (a :: l).length = l.length + 1) ∧ (∀ {α : Type}, ([] : List α).length = 0) := ⟨fun a b => List.length_append, fun a l => rfl, rfl⟩
theorem nrm : (∀ (p : Prop) [Decidable p], (decide p = true) = p) ∧ (∀ a b : Bool, ((a && b) = true) = (a = true ∧ b = true)) ∧ (∀ {α : Type} [BEq α] [LawfulBEq α] (a b : α), (a == b) = true ↔ a = b) ∧ (∀ a : Bool, ((!a) = true) = (a = false)) ∧ (∀ b : Bool, (¬ b = true) = (b = false)) ∧ (∀ b : Bool, (¬ b = false) = (b = true)) ∧ (∀ (p : Prop) [Decidable p], (decide p = false) = ¬ p) ∧ (∀ a b : Bool, ((a || b) = true) = (a = true ∨ b = true)) ∧ ((false = true) = False) ∧ ((true = false) = False) ∧ ((¬ True) = False) ∧ ((¬ False) = True) ∧ (∀ p : Prop, (¬ ¬ p) = p) ∧ (∀ p : Prop, (p ∧ True) = p) :=
  ⟨fun p _ => decide_eq_true_eq, fun a b => Bool.and_eq_true a b, fun a b => beq_iff_eq, by simp, by simp, by simp, fun p _ => by simp, fun a b => Bool.or_eq_true a b, by simp, by simp, by simp, by simp, fun p => by simp [Classical.not_not], by simp⟩
theorem itT {α : Type} {c : Prop} {d : Decidable c} {a b r : α} (h : a = r) (hc : c := by first | assumption | omega | (simp only [nrm]; first | done | assumption | omega) | (simp only [nln] at hc ⊢; omega)) : @ite α c d a b = r := (if_pos hc).trans h
theorem itF {α : Type} {c : Prop} {d : Decidable c} {a b r : α} (h : b = r) (hc : ¬ c := by first | assumption | omega | (simp only [nrm]; first | done | assumption | omega) | (simp only [nln] at hc ⊢; omega)) : @ite α c d a b = r := (if_neg hc).trans h
theorem nr2 : (∀ (p : Prop) [Decidable p], decide (¬ p) = !decide p) ∧ (∀ (p q : Prop) [Decidable p] [Decidable q], decide (p ∧ q) = (decide p && decide q)) ∧ (decide True = true) ∧ (∀ b : Bool, (b && true) = b) ∧ (∀ a b : Bool, (!(a && b)) = (!a || !b)) ∧ (∀ a b : Int, (a == b) = decide (a = b)) ∧ (∀ n : Nat, ((n : Int)).toNat = n) ∧ (∀ {α : Type} (l : List α), l.take l.length = l) := ⟨fun p _ => by simp, fun p q _ _ => by simp, by simp, by simp, by simp, beqI, fun n => Int.toNat_natCast n, fun l => List.take_length⟩
def laws_szPointS.Fs : List (Spc env) := []
def laws_szPointS.cut : Nat → Option (List (Lv SC)) := lk []
def laws_szPointS.ret (r0 : Int) : Option (HL eΓ [.i .i64]) := some (r0, ())
def laws_szPointS.run (k : Nat) (h : HL eΓ [.l 136 (.st .s136), .i .i64]) : Option (HL eΓ [.i .i64]) := evF env laws_szPointS.Fs Tryz.f72 laws_szPointS.cut [.l 136 (.st .s136), .i .i64] [.i .i64] k h
theorem laws_szPointS.ef (k : Nat) (h0 : List S136) (h1 : Int) : laws_szPointS.run k (h0, h1, ()) = if (wrap64 (h1 - (h0.length : Int))) < 0 then (laws_szPointS.ret (-1)) else (laws_szPointS.ret (wrap64 (h1 - (h0.length : Int)))) := by kernel_rfl
def laws_szPointS.toH (t : Int) : HL eΓ [.i .i64] := (t, ())
def laws_szPointS.spec : Spc env := ⟨72, [.l 136 (.st .s136), .i .i64], [.i .i64], laws_szPointS.run⟩
def laws_szPointS.ap {R : Type} (k : Nat) (h0 : List S136) (h1 : Int) (K : Int → Option R) : Option R := (laws_szPointS.run k (h0, h1, ())).bind fun r => K (r.1 : Int)
theorem laws_szPointS.ap_of {R : Type} {k : Nat} {h0 : List S136} {h1 : Int} {r0 : Int} {K : Int → Option R} (h : laws_szPointS.run k (h0, h1, ()) = some (r0, ())) : laws_szPointS.ap k h0 h1 K = K r0 := by unfold laws_szPointS.ap; rw [h]; rfl
theorem laws_szPointS.snd : Snd env laws_szPointS.spec := evF_snd env_ok (sndN)
attribute [local irreducible] laws_szPointS.run
theorem laws_szPointS.rt (a0 : Int) : laws_szPointS.ret a0 = some (laws_szPointS.toH (a0)) := rfl
theorem laws_szPointS.go {l0 : List S136} {a1 : Int} {t} (h : laws_szPointS.f l0 a1 = some t) (K : Nat) : laws_szPointS.run K (l0, a1, ()) = some (laws_szPointS.toH t) := by
  rw [laws_szPointS.ef]
  (try dsimp only)
  unfold laws_szPointS.f at h
  repeat' (with_reducible first
   | exact nos h
   | (cases some_inj h; exact laws_szPointS.rt _)
   | (simp only [Option.bind_some] at h)
   | (refine ite_by h ?_ ?_ <;> (intro hc h; (try simp only [nrm] at hc)))
   | refine itT ?_
   | refine itF ?_
   | (simp only [nr2] at h ⊢)
   | (exfalso; omega))
def laws_szFeature.Fs : List (Spc env) := [laws_szPointS.spec]
def laws_szFeature.cut : Nat → Option (List (Lv SC)) := lk []
def laws_szFeature.ret (r0 : Int) : Option (HL eΓ [.i .i64]) := some (r0, ())
def laws_szFeature.run (k : Nat) (h : HL eΓ [.st .s52, .i .i64]) : Option (HL eΓ [.i .i64]) := evF env laws_szFeature.Fs Tryz.f30 laws_szFeature.cut [.st .s52, .i .i64] [.i .i64] k h
theorem laws_szFeature.ef (k : Nat) (h0 : S52) (h1 : Int) : laws_szFeature.run k (h0, h1, ()) = if (wrap64 (h1 - (h0.f3.size : Int))) < 0 then (laws_szFeature.ret (-1)) else (laws_szPointS.ap k h0.f4 (wrap64 (h1 - (h0.f3.size : Int))) fun r1 => if r1 < 0 then (laws_szFeature.ret (-1)) else (laws_szFeature.ret r1)) := by kernel_rfl
def laws_szFeature.toH (t : Int) : HL eΓ [.i .i64] := (t, ())
def laws_szFeature.spec : Spc env := ⟨30, [.st .s52, .i .i64], [.i .i64], laws_szFeature.run⟩
def laws_szFeature.ap {R : Type} (k : Nat) (h0 : S52) (h1 : Int) (K : Int → Option R) : Option R := (laws_szFeature.run k (h0, h1, ())).bind fun r => K (r.1 : Int)
theorem laws_szFeature.ap_of {R : Type} {k : Nat} {h0 : S52} {h1 : Int} {r0 : Int} {K : Int → Option R} (h : laws_szFeature.run k (h0, h1, ()) = some (r0, ())) : laws_szFeature.ap k h0 h1 K = K r0 := by unfold laws_szFeature.ap; rw [h]; rfl
theorem laws_szFeature.snd : Snd env laws_szFeature.spec := evF_snd env_ok (sndC laws_szPointS.snd (sndN))
attribute [local irreducible] laws_szFeature.run
theorem laws_szFeature.rt (a0 : Int) : laws_szFeature.ret a0 = some (laws_szFeature.toH (a0)) := rfl
theorem laws_szFeature.go {a0_0 : Int} {a0_1 : Int} {a0_2 : Int} {a0_3 : ByteArray} {l0_4 : List S136} {a1 : Int} {t} (h : laws_szFeature.f a0_0 a0_1 a0_2 a0_3 l0_4 a1 = some t) (K : Nat) : laws_szFeature.run K ((⟨a0_0, a0_1, a0_2, a0_3, l0_4⟩ : S52), a1, ()) = some (laws_szFeature.toH t) := by
  rw [laws_szFeature.ef]
  (try dsimp only)
  unfold laws_szFeature.f at h
  repeat' (with_reducible first
   | exact nos h
   | (cases some_inj h; exact laws_szFeature.rt _)
   | (simp only [Option.bind_some] at h)
   | (refine ite_by h ?_ ?_ <;> (intro hc h; (try simp only [nrm] at hc)))
   | refine itT ?_
   | refine itF ?_
   | (refine bind_by h (fun t ht h => ?_); refine (laws_szPointS.ap_of (laws_szPointS.go ht _)).trans ?_; (try dsimp only at h ⊢))
   | (simp only [nr2] at h ⊢)
   | (exfalso; omega))
def laws_szFeatureS.Fs : List (Spc env) := [laws_szFeature.spec]
def laws_szFeatureS.fin : St eΓ → Option (HL eΓ [.i .i64]) := finR env Tryz.f7.results.toList [.i .i64]
def laws_szFeatureS.cut : Nat → Option (List (Lv SC)) := lk [(5, [⟨0, none, false⟩, ⟨1, none, false⟩, ⟨5, none, false⟩])]
def laws_szFeatureS.ret (r0 : Int) : Option (HL eΓ [.i .i64]) := some (r0, ())
def laws_szFeatureS.p5 (k : Nat) (x1 : Int) (x5 : Int) (x0 : List S52) : Option (HL eΓ [.i .i64]) := evM env laws_szFeatureS.Fs Tryz.f7.ntmps laws_szFeatureS.fin laws_szFeatureS.cut k [.code (sub_ [1, 1, 1, 0, 1, 0, 0, 0, 0] (bodyOf Tryz.f7)), .code (sub_ [1, 1, 1, 0, 1, 0, 0, 0, 1] (bodyOf Tryz.f7)), .code (sub_ [1, 1, 1, 0, 1, 0, 0, 1] (bodyOf Tryz.f7)), .lp (sub_ [1, 1, 1, 0, 1, 0, 0] (bodyOf Tryz.f7)), .blk 0, .code (sub_ [1, 1, 1, 1] (bodyOf Tryz.f7))] (mkSt [(0, .c (.sl 0)), (1, .c (.v (.int .i64 x1))), (5, .c (.v (.int .i64 x5)))] [.row .ro 52 (.st .s52) x0])
theorem laws_szFeatureS.e5 (k : Nat) (x1 : Int) (x5 : Int) (x0 : List S52) : laws_szFeatureS.p5 (k + 1) x1 x5 x0 = if x5 < (x0.length : Int) then (if 0 ≤ x5 then (if x5 < (x0.length : Int) then (laws_szFeature.ap k (⟨(rd_T52 x0 x5).f0, (rd_T52 x0 x5).f1, (rd_T52 x0 x5).f2, (rd_T52 x0 x5).f3, (rd_T52 x0 x5).f4⟩ : S52) x1 fun r1 => if r1 < 0 then (laws_szFeatureS.ret (-1)) else (laws_szFeatureS.p5 k r1 (wrap64 (x5 + 1)) x0)) else none) else none) else (laws_szFeatureS.ret x1) := by kernel_rfl
def laws_szFeatureS.run (k : Nat) (h : HL eΓ [.l 52 (.st .s52), .i .i64]) : Option (HL eΓ [.i .i64]) := evF env laws_szFeatureS.Fs Tryz.f7 laws_szFeatureS.cut [.l 52 (.st .s52), .i .i64] [.i .i64] k h
theorem laws_szFeatureS.ef (k : Nat) (h0 : List S52) (h1 : Int) : laws_szFeatureS.run k (h0, h1, ()) = if (wrap64 (h1 - (h0.length : Int))) < 0 then (laws_szFeatureS.ret (-1)) else (laws_szFeatureS.p5 k (wrap64 (h1 - (h0.length : Int))) 0 h0) := by kernel_rfl
def laws_szFeatureS.toH (t : Int) : HL eΓ [.i .i64] := (t, ())
def laws_szFeatureS.spec : Spc env := ⟨7, [.l 52 (.st .s52), .i .i64], [.i .i64], laws_szFeatureS.run⟩
theorem laws_szFeatureS.snd : Snd env laws_szFeatureS.spec := evF_snd env_ok (sndC laws_szFeature.snd (sndN))
attribute [local irreducible] laws_szFeatureS.run
theorem laws_szFeatureS.rt (a0 : Int) : laws_szFeatureS.ret a0 = some (laws_szFeatureS.toH (a0)) := rfl
theorem laws_szFeatureS.br (n : Nat) : (∀ K, n ≤ K → ∀ (x1 : Int) (x5 : Int) (x0 : List S52) t, laws_szFeatureS.l0 n x0 x1 x5 = some t → laws_szFeatureS.p5 K x1 x5 x0 = some (laws_szFeatureS.toH t)) := by
  induction n using Nat.strongRecOn with
  | _ n ih =>
  intro K hK x1 x5 x0 t h
  all_goals (rcases n with _ | k)
  all_goals (try (exact nos h))
  all_goals (obtain ⟨K, rfl⟩ : ∃ q, K = q + 1 := ⟨K - 1, by omega⟩)
  all_goals (first | rw [laws_szFeatureS.e5])
  all_goals (simp only [laws_szFeatureS.l0] at h)
  repeat' (with_reducible first
   | exact nos h
   | (cases some_inj h; exact laws_szFeatureS.rt _)
   | exact (ih _ (by omega)) _ (by omega) _ _ _ _ h
   | (simp only [Option.bind_some] at h)
   | (refine ite_by h ?_ ?_ <;> (intro hc h; (try simp only [nrm] at hc)))
   | refine itT ?_
   | refine itF ?_
   | (refine bind_by h (fun t ht h => ?_); refine (laws_szFeature.ap_of (laws_szFeature.go ht _)).trans ?_; (try dsimp only at h ⊢))
   | (simp only [nr2] at h ⊢)
   | (exfalso; omega))
theorem laws_szFeatureS.go {k : Nat} {l0 : List S52} {a1 : Int} {t} (h : laws_szFeatureS.f k l0 a1 = some t) (K : Nat) (hK : k ≤ K) : laws_szFeatureS.run K (l0, a1, ()) = some (laws_szFeatureS.toH t) := by
  rw [laws_szFeatureS.ef]
  (try dsimp only)
  unfold laws_szFeatureS.f at h
  repeat' (with_reducible first
   | exact nos h
   | (cases some_inj h; exact laws_szFeatureS.rt _)
   | exact (laws_szFeatureS.br _) _ (by omega) _ _ _ _ h
   | (simp only [Option.bind_some] at h)
   | (refine ite_by h ?_ ?_ <;> (intro hc h; (try simp only [nrm] at hc)))
   | refine itT ?_
   | refine itF ?_
   | (refine bind_by h (fun t ht h => ?_); refine (laws_szFeature.ap_of (laws_szFeature.go ht _)).trans ?_; (try dsimp only at h ⊢))
   | (simp only [nr2] at h ⊢)
   | (exfalso; omega))
theorem laws_szFeatureS.calls (k : Nat) (A0 : Option Addr) (c0 : Nat) (l0 : List (S52)) (a1 : Int) (r : Int) (w : World) (hr0 : Kd.C k52 w A0 l0.length l0) (hc0 : l0.length ≤ c0) (h : laws_szFeatureS.f k l0 a1 = some r) :
  Calls Tryz.prog 7 #[.slice A0 l0.length c0, .int .i64 a1] w fun e w' => e = .returned (.int .i64 r) ∧ Below w.heap.size w w' := by
  refine (laws_szFeatureS.snd.calls _ _ _ (laws_szFeatureS.go h k (Nat.le_refl k)) w [.slice A0 l0.length c0, .int .i64 a1] ⟨⟨_, _, rfl, hc0, hr0⟩, rfl, trivial⟩).mono ?_
  rintro e w' ⟨v, rfl, hB, vs, oks, rfl, hR, _⟩
  obtain ⟨x0_, vs, o0_, oks, rfl, rfl, m0_, hR⟩ := rmsC hR
  obtain rfl := rmsN hR
  obtain rfl := List.singleton_inj.1 (show [x0_] = [Value.int .i64 r] from m0_)
  exact ⟨rfl, hB⟩
def laws_toPoint.Fs : List (Spc env) := []
def laws_toPoint.cut : Nat → Option (List (Lv SC)) := lk []
def laws_toPoint.ret (r0 : S75) : Option (HL eΓ [.st .s75]) := some (r0, ())
def laws_toPoint.run (k : Nat) (h : HL eΓ [.st .s136]) : Option (HL eΓ [.st .s75]) := evF env laws_toPoint.Fs Tryz.f122 laws_toPoint.cut [.st .s136] [.st .s75] k h
theorem laws_toPoint.ef (k : Nat) (h0 : S136) : laws_toPoint.run k (h0, ()) = laws_toPoint.ret (⟨h0.f0, h0.f1⟩ : S75) := by kernel_rfl
def laws_toPoint.toH (t : Int × Int) : HL eΓ [.st .s75] := ((⟨t.1, t.2⟩ : S75), ())
def laws_toPoint.spec : Spc env := ⟨122, [.st .s136], [.st .s75], laws_toPoint.run⟩
def laws_toPoint.ap {R : Type} (k : Nat) (h0 : S136) (K : S75 → Option R) : Option R := (laws_toPoint.run k (h0, ())).bind fun r => K (r.1 : S75)
theorem laws_toPoint.ap_of {R : Type} {k : Nat} {h0 : S136} {r0 : S75} {K : S75 → Option R} (h : laws_toPoint.run k (h0, ()) = some (r0, ())) : laws_toPoint.ap k h0 K = K r0 := by unfold laws_toPoint.ap; rw [h]; rfl
theorem laws_toPoint.snd : Snd env laws_toPoint.spec := evF_snd env_ok (sndN)
attribute [local irreducible] laws_toPoint.run
theorem laws_toPoint.rt (a0 : Int) (a1 : Int) : laws_toPoint.ret (⟨a0, a1⟩ : S75) = some (laws_toPoint.toH (a0, a1)) := rfl
theorem laws_toPoint.go {a0_0 : Int} {a0_1 : Int} {t} (h : laws_toPoint.f a0_0 a0_1 = some t) (K : Nat) : laws_toPoint.run K ((⟨a0_0, a0_1⟩ : S136), ()) = some (laws_toPoint.toH t) := by
  rw [laws_toPoint.ef]
  (try dsimp only)
  unfold laws_toPoint.f at h
  repeat' (with_reducible first
   | exact nos h
   | (cases some_inj h; exact laws_toPoint.rt _ _)
   | (simp only [Option.bind_some] at h)
   | (refine ite_by h ?_ ?_ <;> (intro hc h; (try simp only [nrm] at hc)))
   | refine itT ?_
   | refine itF ?_
   | (simp only [nr2] at h ⊢)
   | (exfalso; omega))
def laws_toPointS.Fs : List (Spc env) := [laws_toPoint.spec]
def laws_toPointS.fin : St eΓ → Option (HL eΓ [.l 75 (.st .s75)]) := finR env Tryz.f76.results.toList [.l 75 (.st .s75)]
def laws_toPointS.cut : Nat → Option (List (Lv SC)) := lk [(3, [⟨0, none, false⟩, ⟨3, none, false⟩, ⟨4, none, false⟩])]
def laws_toPointS.ret (r0 : List S75) : Option (HL eΓ [.l 75 (.st .s75)]) := some (r0, ())
def laws_toPointS.p3 (k : Nat) (x4 : Int) (x0 : List S136) (x3 : List S75) : Option (HL eΓ [.l 75 (.st .s75)]) := evM env laws_toPointS.Fs Tryz.f76.ntmps laws_toPointS.fin laws_toPointS.cut k [.code (sub_ [1, 1, 0, 1, 0, 0, 0, 0] (bodyOf Tryz.f76)), .code (sub_ [1, 1, 0, 1, 0, 0, 0, 1] (bodyOf Tryz.f76)), .code (sub_ [1, 1, 0, 1, 0, 0, 1] (bodyOf Tryz.f76)), .lp (sub_ [1, 1, 0, 1, 0, 0] (bodyOf Tryz.f76)), .blk 0, .code (sub_ [1, 1, 1] (bodyOf Tryz.f76))] (mkSt [(0, .c (.sl 0)), (3, .c (.sl 1)), (4, .c (.v (.int .i64 x4)))] [.row .ro 136 (.st .s136) x0, .row .own 75 (.st .s75) x3])
theorem laws_toPointS.e3 (k : Nat) (x4 : Int) (x0 : List S136) (x3 : List S75) : laws_toPointS.p3 (k + 1) x4 x0 x3 = if x4 < (x0.length : Int) then (if 0 ≤ x4 then (if x4 < (x0.length : Int) then (laws_toPoint.ap k (⟨(rd_T136 x0 x4).f0, (rd_T136 x0 x4).f1⟩ : S136) fun r1 => if 0 ≤ x4 then (if x4 < (x3.length : Int) then (laws_toPointS.p3 k (wrap64 (x4 + 1)) x0 (x3.set x4.toNat (⟨r1.f0, r1.f1⟩ : S75))) else none) else none) else none) else none) else (laws_toPointS.ret x3) := by kernel_rfl
def laws_toPointS.run (k : Nat) (h : HL eΓ [.l 136 (.st .s136)]) : Option (HL eΓ [.l 75 (.st .s75)]) := evF env laws_toPointS.Fs Tryz.f76 laws_toPointS.cut [.l 136 (.st .s136)] [.l 75 (.st .s75)] k h
theorem laws_toPointS.ef (k : Nat) (h0 : List S136) : laws_toPointS.run k (h0, ()) = if (h0.length : Int) = (h0.length : Int) then (if 0 ≤ (h0.length : Int) then (if (h0.length : Int).toNat * 16 ≤ 281474976710656 then (laws_toPointS.p3 k 0 h0 (List.replicate (h0.length : Int).toNat z75)) else none) else none) else none := by kernel_rfl
def laws_toPointS.toH (t : (List (S75))) : HL eΓ [.l 75 (.st .s75)] := (t, ())
def laws_toPointS.spec : Spc env := ⟨76, [.l 136 (.st .s136)], [.l 75 (.st .s75)], laws_toPointS.run⟩
def laws_toPointS.ap {R : Type} (k : Nat) (h0 : List S136) (K : (List S75) → Option R) : Option R := (laws_toPointS.run k (h0, ())).bind fun r => K (r.1 : List S75)
theorem laws_toPointS.ap_of {R : Type} {k : Nat} {h0 : List S136} {r0 : List S75} {K : (List S75) → Option R} (h : laws_toPointS.run k (h0, ()) = some (r0, ())) : laws_toPointS.ap k h0 K = K r0 := by unfold laws_toPointS.ap; rw [h]; rfl
theorem laws_toPointS.snd : Snd env laws_toPointS.spec := evF_snd env_ok (sndC laws_toPoint.snd (sndN))
attribute [local irreducible] laws_toPointS.run
theorem laws_toPointS.rt (a0 : List S75) : laws_toPointS.ret a0 = some (laws_toPointS.toH (a0)) := rfl
theorem laws_toPointS.br (n : Nat) : (∀ K, n ≤ K → ∀ (x4 : Int) (x0 : List S136) (x3 : List S75) t, laws_toPointS.l0 n x0 x3 x4 = some t → laws_toPointS.p3 K x4 x0 x3 = some (laws_toPointS.toH t)) := by
  induction n using Nat.strongRecOn with
  | _ n ih =>
  intro K hK x4 x0 x3 t h
  all_goals (rcases n with _ | k)
  all_goals (try (exact nos h))
  all_goals (obtain ⟨K, rfl⟩ : ∃ q, K = q + 1 := ⟨K - 1, by omega⟩)
  all_goals (first | rw [laws_toPointS.e3])
  all_goals (simp only [laws_toPointS.l0] at h)
  repeat' (with_reducible first
   | exact nos h
   | (cases some_inj h; exact laws_toPointS.rt _)
   | exact (ih _ (by omega)) _ (by omega) _ _ _ _ h
   | (simp only [Option.bind_some] at h)
   | (refine ite_by h ?_ ?_ <;> (intro hc h; (try simp only [nrm] at hc)))
   | refine itT ?_
   | refine itF ?_
   | (refine bind_by h (fun t ht h => ?_); refine (laws_toPoint.ap_of (laws_toPoint.go ht _)).trans ?_; (try dsimp only at h ⊢))
   | (simp only [nr2] at h ⊢)
   | (exfalso; omega))
theorem laws_toPointS.go {k : Nat} {l0 : List S136} {t} (h : laws_toPointS.f k l0 = some t) (K : Nat) (hK : k ≤ K) : laws_toPointS.run K (l0, ()) = some (laws_toPointS.toH t) := by
  rw [laws_toPointS.ef]
  (try dsimp only)
  unfold laws_toPointS.f at h
  repeat' (with_reducible first
   | exact nos h
   | (cases some_inj h; exact laws_toPointS.rt _)
   | exact (laws_toPointS.br _) _ (by omega) _ _ _ _ h
   | (simp only [Option.bind_some] at h)
   | (refine ite_by h ?_ ?_ <;> (intro hc h; (try simp only [nrm] at hc)))
   | refine itT ?_
   | refine itF ?_
   | (refine bind_by h (fun t ht h => ?_); refine (laws_toPoint.ap_of (laws_toPoint.go ht _)).trans ?_; (try dsimp only at h ⊢))
   | (simp only [nr2] at h ⊢)
   | (exfalso; omega))
def laws_toFeature.Fs : List (Spc env) := [laws_toPointS.spec]
def laws_toFeature.cut : Nat → Option (List (Lv SC)) := lk []
def laws_toFeature.ret (r0 : S59) : Option (HL eΓ [.st .s59]) := some (r0, ())
def laws_toFeature.run (k : Nat) (h : HL eΓ [.st .s52]) : Option (HL eΓ [.st .s59]) := evF env laws_toFeature.Fs Tryz.f33 laws_toFeature.cut [.st .s52] [.st .s59] k h
theorem laws_toFeature.ef (k : Nat) (h0 : S52) : laws_toFeature.run k (h0, ()) = laws_toPointS.ap k h0.f4 fun r1 => laws_toFeature.ret (⟨h0.f0, h0.f1, h0.f2, h0.f3, r1⟩ : S59) := by kernel_rfl
def laws_toFeature.toH (t : Int × Int × Int × ByteArray × (List (S75))) : HL eΓ [.st .s59] := ((⟨t.1, t.2.1, t.2.2.1, t.2.2.2.1, t.2.2.2.2⟩ : S59), ())
def laws_toFeature.spec : Spc env := ⟨33, [.st .s52], [.st .s59], laws_toFeature.run⟩
theorem laws_toFeature.snd : Snd env laws_toFeature.spec := evF_snd env_ok (sndC laws_toPointS.snd (sndN))
attribute [local irreducible] laws_toFeature.run
theorem laws_toFeature.rt (a0 : Int) (a1 : Int) (a2 : Int) (a3 : ByteArray) (a4 : List S75) : laws_toFeature.ret (⟨a0, a1, a2, a3, a4⟩ : S59) = some (laws_toFeature.toH (a0, a1, a2, a3, a4)) := rfl
theorem laws_toFeature.go {k : Nat} {a0_0 : Int} {a0_1 : Int} {a0_2 : Int} {a0_3 : ByteArray} {l0_4 : List S136} {t} (h : laws_toFeature.f k a0_0 a0_1 a0_2 a0_3 l0_4 = some t) (K : Nat) (hK : k ≤ K) : laws_toFeature.run K ((⟨a0_0, a0_1, a0_2, a0_3, l0_4⟩ : S52), ()) = some (laws_toFeature.toH t) := by
  rw [laws_toFeature.ef]
  (try dsimp only)
  unfold laws_toFeature.f at h
  repeat' (with_reducible first
   | exact nos h
   | (cases some_inj h; exact laws_toFeature.rt _ _ _ _ _)
   | (simp only [Option.bind_some] at h)
   | (refine ite_by h ?_ ?_ <;> (intro hc h; (try simp only [nrm] at hc)))
   | refine itT ?_
   | refine itF ?_
   | (refine bind_by h (fun t ht h => ?_); refine (laws_toPointS.ap_of (laws_toPointS.go ht _ (by omega))).trans ?_; (try dsimp only at h ⊢))
   | (simp only [nr2] at h ⊢)
   | (exfalso; omega))
theorem laws_toFeature.calls (k : Nat) (a0_0 : Int) (a0_1 : Int) (a0_2 : Int) (a0_3 : ByteArray) (A0_4 : Option Addr) (c0_4 : Nat) (l0_4 : List (S136)) (r1 : Int) (r2 : Int) (r3 : Int) (r4 : ByteArray) (r5 : List (S75)) (w : World) (hr0_4 : Kd.C k136 w A0_4 l0_4.length l0_4) (hc0_4 : l0_4.length ≤ c0_4) (h : laws_toFeature.f k a0_0 a0_1 a0_2 a0_3 l0_4 = some (r1, r2, r3, r4, r5)) :
  Calls Tryz.prog 33 #[.agg #[.int .i64 a0_0, .int .i64 a0_1, .int .i64 a0_2, .string a0_3, .slice A0_4 l0_4.length c0_4]] w fun e w' => ∃ v4_ : Value, e = .returned (.agg #[.int .i64 r1, .int .i64 r2, .int .i64 r3, .string r4, v4_]) ∧ Kd.R k75 75 w' w.heap.size (fun _ => True) v4_ r5 ∧ Below w.heap.size w w' := by
  refine (laws_toFeature.snd.calls _ _ _ (laws_toFeature.go h k (Nat.le_refl k)) w [.agg #[.int .i64 a0_0, .int .i64 a0_1, .int .i64 a0_2, .string a0_3, .slice A0_4 l0_4.length c0_4]] ⟨⟨_, rfl, (H52.K _ _ _).2 ⟨rfl, rfl, rfl, rfl, ⟨_, _, rfl, hc0_4, hr0_4⟩, trivial⟩⟩, trivial⟩).mono ?_
  rintro e w' ⟨v, rfl, hB, vs, oks, rfl, hR, _⟩
  obtain ⟨x0_, vs, o0_, oks, rfl, rfl, m0_, hR⟩ := rmsC hR
  obtain rfl := rmsN hR
  obtain ⟨y0, rfl, m0_⟩ := m0_
  have m0_ := (H59.M _ _ _ _ _).1 m0_
  match e0 : y0.toList, m0_ with
  | [d0_0, d0_1, d0_2, d0_3, d0_4], ⟨n0_0, n0_1, n0_2, n0_3, n0_4, _⟩ =>
  obtain rfl : y0 = #[d0_0, d0_1, d0_2, d0_3, d0_4] := by rw [← Array.toArray_toList (xs := y0), e0]
  obtain rfl := List.singleton_inj.1 (show [d0_0] = [Value.int .i64 r1] from n0_0)
  obtain rfl := List.singleton_inj.1 (show [d0_1] = [Value.int .i64 r2] from n0_1)
  obtain rfl := List.singleton_inj.1 (show [d0_2] = [Value.int .i64 r3] from n0_2)
  obtain rfl := List.singleton_inj.1 (show [d0_3] = [Value.string r4] from n0_3)
  obtain ⟨d0_4v, d0_4e, d0_4R⟩ := n0_4
  obtain rfl := List.singleton_inj.1 d0_4e
  exact ⟨_, rfl, Kd.R_mono d0_4R (fun _ _ => trivial), hB⟩
set_option maxHeartbeats 8000000 in
set_option maxRecDepth 100000 in
theorem laws_toFeatureS.calls (k : Nat) (A0 : Option Addr) (c0 : Nat) (l0 : List (S52)) (r : List (S59)) (w : World) (hr0 : Kd.C k52 w A0 l0.length l0) (hc0 : l0.length ≤ c0) (h : laws_toFeatureS.f k l0 = some r) :
  Calls Tryz.prog 9 #[.slice A0 l0.length c0] w fun e w' => ∃ v0_ : Value, e = .returned (v0_) ∧ Kd.S k59 59 w' w.heap.size (fun _ => True) v0_ r ∧ Below w.heap.size w w' := by
 have hu52 := Tryz.underlying52; have hu59 := Tryz.underlying59; have HR0 := Aside0.mk hr0; have HC0 := Aside0.mk hc0; clear hr0 hc0; have HB := Aside0.mk (Below.refl w.heap.size w); have H : (if 0 ≤ (l0.length : Int) then (if ((l0.length : Int) : Int).toNat ≤ 4398046511104 then (laws_toFeatureS.l0 k l0 (List.replicate ((l0.length : Int) : Int).toNat z59) 0) else (none)) else (none)) = some r := h; clear h
 by_cases c2 : 0 ≤ (l0.length : Int)
 ·rw [if_pos c2] at H; have c2b0 := eq_true c2; have c2b1 := decide_eq_true c2; clear c2
  by_cases c3 : ((l0.length : Int) : Int).toNat ≤ 4398046511104
  ·rw [if_pos c3] at H; have c3b0 := eq_true c3; have c3b1 := decide_eq_true c3; clear c3; obtain ⟨y121, hy121⟩ : ∃ y_ : List (S59), y_ = (List.replicate ((l0.length : Int) : Int).toNat z59) := ⟨_, rfl⟩
   replace H : (laws_toFeatureS.l0 k l0 y121 0) = some r := by first | (rw [hy121]; with_reducible exact H) | (have H2_ := (Option.bind_some _ _).symm.trans H; rw [hy121]; with_reducible exact H2_) | (have H2_ := (Option.bind_some _ _).symm.trans H; with_reducible exact H2_) | with_reducible exact H | (rw [hy121]; exact H) | exact H
   have Ny121 := Aside0.mk hy121; clear hy121; have H' := Aside0.mk H; clear H
   go_enter Tryz.func9, Tryz.ntmps9; go_wp2_with (first | ((with_reducible refine gate_dst (N := 7) rfl ?_); refine Kd.S_make k59 _ 59 rfl (N := 7) rfl 27 _ _ rfl (l0.length : Int) rfl rfl Tryz.underlying27 (.agg #[(.int .i64 0), (.int .i64 0), (.int .i64 0), (.string ⟨#[]⟩), (.slice none 0 0)]) 64 info59 rfl (by decide) (by omega) z59 (ok := fun _ => True) (okp := fun _ => True) (k59_mkM _ _ _ z59 (Kd.R_nil _ _ _ _ _)) (fun _ hk => hk) trivial (of_decide_eq_true az) (Nat.le_trans (Nat.mul_le_mul_right _ (of_decide_eq_true az : (l0.length : Int).toNat ≤ 4398046511104)) (by omega)) (Below.refl _ _) (Nat.le_refl _) ?_; intro v122 w4 ho5 hb hg_ hnew_; clear hg_ hnew_; (first | rw [← Ny121.out] at ho5 | (simp only [Int.reduceToNat] at ho5; rw [← Ny121.out] at ho5)); have HO123 := Aside0.mk (Kd.S_lower ho5 (below_size bz)); replace HB := Aside0.mk (below_step bz hb); clear hb ho5))
   go_loopg [4] k (fun kq v4 w' => ∃ (x3_1 : List (S59)) (x4_1 : Int), v4 = .int .i64 x4_1 ∧ Aside0 (laws_toFeatureS.l0 kq l0 x3_1 x4_1 = some r) ∧ Aside0 (kq ≤ k) ∧ Aside0 (Kd.S k59 59 w' w.heap.size (fun _ => True) v122 x3_1) ∧ Aside0 (Below w.heap.size w w'))
   case atStart => exact ⟨(y121), (0), rz, H', ⟨Nat.le_refl _⟩, ⟨by (with_reducible repeat (first | apply Kd.S_alloc | apply Kd.S_drewN | apply Kd.S_drew)); exact HO123.out⟩, ⟨bz⟩⟩
   case round =>
    clear H'; (try clear c2); (try clear c2b0); (try clear c2b1); (try clear p2); (try clear c3); (try clear c3b0); (try clear c3b1); obtain ⟨x3_1, x4_1, rfl, HA, HK1, HO_3, HB⟩ := hrel
    cases gk with
    | zero => exact absurd HA.out (by simp [laws_toFeatureS.l0])
    | succ k1 =>
     have H := HA.out; clear HA; simp only [laws_toFeatureS.l0] at H
     by_cases c6 : x4_1 < (l0.length : Int)
     ·rw [if_pos c6] at H; have c6b0 := decide_eq_true c6; clear c6
      by_cases c7 : 0 ≤ x4_1
      ·rw [if_pos c7] at H; have c7b0 := decide_eq_true c7; clear c7; replace H := Option.bind_eq_some_iff.mp H; obtain ⟨⟨t125, t126, t127, t128, t129⟩, A80, H⟩ := H; replace H : (if x4_1 < (x3_1.length : Int) then (laws_toFeatureS.l0 k1 l0 (x3_1.set (x4_1 : Int).toNat (⟨t125, t126, t127, t128, t129⟩ : S59)) (wrap64 (x4_1 + 1))) else (none)) = some r := H; have A8 := Aside0.mk A80; clear A80
       by_cases c9 : x4_1 < (x3_1.length : Int)
       ·rw [if_pos c9] at H; have c9b0 := decide_eq_true c9; clear c9; obtain ⟨y132, hy132⟩ : ∃ y_ : List (S59), y_ = (x3_1.set (x4_1 : Int).toNat (⟨t125, t126, t127, t128, t129⟩ : S59)) := ⟨_, rfl⟩
        replace H : (laws_toFeatureS.l0 k1 l0 y132 (wrap64 (x4_1 + 1))) = some r := by first | (rw [hy132]; with_reducible exact H) | (have H2_ := (Option.bind_some _ _).symm.trans H; rw [hy132]; with_reducible exact H2_) | (have H2_ := (Option.bind_some _ _).symm.trans H; with_reducible exact H2_) | with_reducible exact H | (rw [hy132]; exact H) | exact H
        have Ny132 := Aside0.mk hy132; clear hy132; have H' := Aside0.mk H; clear H; have p124 : 0 ≤ (x4_1 : Int) := of_decide_eq_true az; have q124 : x4_1 < (l0.length : Int) := of_decide_eq_true az; obtain ⟨ad124, A124_4, c124_4, e124, hx124_0, hx124_1, hx124_2, hx124_3, hx124_4, hl124_4, hi124_4⟩ := at_T52 HR0.out x4_1 p124 q124
        cases e124
        replace hx124_0 := xz HB hx124_0; replace hx124_1 := xz HB hx124_1; replace hx124_2 := xz HB hx124_2; replace hx124_3 := xz HB hx124_3; replace hx124_4 := xz HB hx124_4; have HR124_4 := Aside0.mk hi124_4; have HC124_4 := Aside0.mk hl124_4; clear hi124_4 hl124_4; replace p124 := eq_true p124; replace q124 := eq_true q124; go_wp2_with (first | ((with_reducible refine gt (some 20) rfl ?_); refine gc Tryz.func33 (laws_toFeature.calls k1 ((rd_T52 l0 x4_1).f0) ((rd_T52 l0 x4_1).f1) ((rd_T52 l0 x4_1).f2) ((rd_T52 l0 x4_1).f3) _ _ ((rd_T52 l0 x4_1).f4) t125 t126 t127 t128 t129 _ (cz (Kd.C_below HR124_4.out HB.out)) HC124_4.out A8.out) ?_; rintro e w11 ⟨v130, rfl, ho0, hb⟩; refine ⟨_, rfl, ?_⟩; replace HO_3 := Aside0.mk (Kd.S_elder' (by (with_reducible repeat (first | apply Kd.S_alloc | apply Kd.S_drewN | apply Kd.S_drew)); exact HO_3.out) (Kd.R_base ho0) hb); have HO131 := Aside0.mk (Kd.R_lower ho0 (below_size bz)); replace HB := Aside0.mk (below_step bz hb); (try clear hb); (try clear ho0); have p10 : 0 ≤ (x4_1 : Int) := of_decide_eq_true az; have q10 : (x4_1 : Int) < ((x3_1.length : Int) : Int) := of_decide_eq_true az; obtain ⟨go10, co10, eo10, gb10, gl10, cl10, HG10⟩ := Kd.S_form HO_3.out (by omega); (first | cases eo10 | (injection eo10 with ea_ en_ ec_; (first | subst ea_ | (injection ea_ with ea_; subst ea_)); subst ec_; clear en_)); have GB10 := Aside0.mk gb10; have GG10 := Aside0.mk HG10; clear gb10 gl10 HG10; obtain ⟨_, ce10, hcl10, hM10, hcc10, hfr10, _, _⟩ := Kd.S_elem HO_3.out z59 (x4_1 : Int) p10 q10; obtain ⟨ve10_4, rfl, ge10_4⟩ := k59_openM hM10; have hx10_0 : w11.cell? ⟨go10, (x4_1 : Int).toNat * 5, none⟩ = some (.int .i64 ((rd_T59 x3_1 x4_1).f0)) := hcc10 0 _ rfl; have hx10_1 : w11.cell? ⟨go10, (x4_1 : Int).toNat * 5 + 1, none⟩ = some (.int .i64 ((rd_T59 x3_1 x4_1).f1)) := hcc10 1 _ rfl; have hx10_2 : w11.cell? ⟨go10, (x4_1 : Int).toNat * 5 + 2, none⟩ = some (.int .i64 ((rd_T59 x3_1 x4_1).f2)) := hcc10 2 _ rfl; have hx10_3 : w11.cell? ⟨go10, (x4_1 : Int).toNat * 5 + 3, none⟩ = some (.string ((rd_T59 x3_1 x4_1).f3)) := hcc10 3 _ rfl; have hx10_4 : w11.cell? ⟨go10, (x4_1 : Int).toNat * 5 + 4, none⟩ = some (ve10_4) := hcc10 4 _ rfl; have hf10_0 : w11.frozen? ⟨go10, (x4_1 : Int).toNat * 5, none⟩ = false := hfr10 0; have hf10_1 : w11.frozen? ⟨go10, (x4_1 : Int).toNat * 5 + 1, none⟩ = false := hfr10 1; have hf10_2 : w11.frozen? ⟨go10, (x4_1 : Int).toNat * 5 + 2, none⟩ = false := hfr10 2; have hf10_3 : w11.frozen? ⟨go10, (x4_1 : Int).toNat * 5 + 3, none⟩ = false := hfr10 3; have hf10_4 : w11.frozen? ⟨go10, (x4_1 : Int).toNat * 5 + 4, none⟩ = false := hfr10 4; clear hcl10 hcc10 hfr10 hM10; replace p10 := eq_true p10; replace q10 := eq_true q10; have n_ := Aside0.mk (Kd.S_mono (ok' := (fun k_ => some k_ ≠ (v130 : Value).ownBlock)) HO_3.out (fun k_ hk => hk.2)); clear HO_3; have HO_3 := n_; clear n_; have HX12 := Aside0.mk (show Kd.S k59 59 w11 w.heap.size (fun k_ => ((fun _ => True)) k_ ∧ ¬ ((fun k_ => some k_ = (v130 : Value).ownBlock)) k_) (.slice (some ⟨go10, 0, none⟩) x3_1.length co10) x3_1 from (by (with_reducible repeat (first | apply Kd.S_alloc | apply Kd.S_drewN | apply Kd.S_drew)); exact Kd.S_mono HO_3.out (fun k_ hk => ⟨trivial, fun e_ => hk e_⟩))); obtain ⟨oki12, ce12, hcl12, hM12, hcc12, hfr12, hoki12, hH12⟩ := Kd.S_elem HX12.out z59 (x4_1 : Int) (of_decide_eq_true az) (by have h_ : (x4_1 : Int) < ((x3_1.length : Int) : Int) := of_decide_eq_true az; first | exact h_ | (have e_ := (Kd.S_reads' HO_3.out).1; omega) | simpa using h_); obtain ⟨ve12_4, rfl, ge12_4⟩ := k59_openM hM12; have HP12 := Kd.S_seg hH12 (of_decide_eq_true az) (by have h_ : (x4_1 : Int) < ((x3_1.length : Int) : Int) := of_decide_eq_true az; first | exact h_ | (have e_ := (Kd.S_reads' HO_3.out).1; omega) | simpa using h_) (seg := [.int .i64 t125, .int .i64 t126, .int .i64 t127, .string t128, v130]) (j := 0) (show 5 ≤ 5 from by decide) (x' := (⟨t125, t126, t127, t128, t129⟩ : S59)) (k59_mkM _ _ _ (⟨t125, t126, t127, t128, t129⟩ : S59) (Kd.R_mono (Kd.R_tight rfl (Kd.R_mono (ok' := fun k_ => ((fun _ => True)) k_ ∧ k_ ≠ go10) (Kd.R_apart' (HO131.out) (Kd.S_typed HO_3.out) (by decide)) (fun k_ hk => ⟨trivial, fun e_ => (hk.2) (by rw [e_]; rfl)⟩))) (fun _ h_ => Or.inr (h_)))) (fun _ hk => hk) (fun k_ hk_ => ((Kd.R_mono (ok' := fun k_ => ((fun _ => True)) k_ ∧ k_ ≠ go10) (Kd.R_apart' (HO131.out) (Kd.S_typed HO_3.out) (by decide)) (fun k_ hk => ⟨trivial, fun e_ => (hk.2) (by rw [e_]; rfl)⟩))).1 k_ hk_.symm); have hx12_0 := hcc12 0 _ rfl; (try simp only [show (k59).sz = 5 from rfl, Nat.mul_one, Nat.add_zero] at hx12_0); have hf12_0 := hfr12 0; (try simp only [show (k59).sz = 5 from rfl, Nat.mul_one, Nat.add_zero] at hf12_0); have hx12_1 := hcc12 1 _ rfl; (try simp only [show (k59).sz = 5 from rfl, Nat.mul_one, Nat.add_zero] at hx12_1); have hf12_1 := hfr12 1; (try simp only [show (k59).sz = 5 from rfl, Nat.mul_one, Nat.add_zero] at hf12_1); have hx12_2 := hcc12 2 _ rfl; (try simp only [show (k59).sz = 5 from rfl, Nat.mul_one, Nat.add_zero] at hx12_2); have hf12_2 := hfr12 2; (try simp only [show (k59).sz = 5 from rfl, Nat.mul_one, Nat.add_zero] at hf12_2); have hx12_3 := hcc12 3 _ rfl; (try simp only [show (k59).sz = 5 from rfl, Nat.mul_one, Nat.add_zero] at hx12_3); have hf12_3 := hfr12 3; (try simp only [show (k59).sz = 5 from rfl, Nat.mul_one, Nat.add_zero] at hf12_3); have hx12_4 := hcc12 4 _ rfl; (try simp only [show (k59).sz = 5 from rfl, Nat.mul_one, Nat.add_zero] at hx12_4); have hf12_4 := hfr12 4; (try simp only [show (k59).sz = 5 from rfl, Nat.mul_one, Nat.add_zero] at hf12_4); clear hcl12 hcc12 hfr12 hM12 hoki12 hH12; have HS12_4 : ∀ (a_ : Addr) (m_ : Mode) (W_ : World), (store a_ (v130) m_).run Tryz.prog W_ = stored Tryz.prog W_ a_ (v130) m_ := by (obtain ⟨_, _, e_⟩ := Kd.R_slice (HO131.out)); intro a_ m_ W_; rw [e_]; exact run_store _ _ _ _ _ rfl) | ((with_reducible refine gate_store (t := 59) (p := 21) rfl ?_); refine store_event (t := 59) (p := 21) (v := ?vo_w13) (w1 := (((((w11.setCell ⟨go10, (x4_1 : Int).toNat * 5, none⟩ (.int .i64 t125)).setCell ⟨go10, (x4_1 : Int).toNat * 5 + 1, none⟩ (.int .i64 t126)).setCell ⟨go10, (x4_1 : Int).toNat * 5 + 2, none⟩ (.int .i64 t127)).setCell ⟨go10, (x4_1 : Int).toNat * 5 + 3, none⟩ (.string t128)).setCell ⟨go10, (x4_1 : Int).toNat * 5 + 4, none⟩ (v130))) ?hg ?ho ?hn ?hr ?_; (case ho => rfl); (case hg => rfl); (case hn => rfl); (case hr => first | (go_simp; done) | (go_simp; rfl)); intro w13 hw; have hg : w11.grownBy w13 (some go10) := (by rw [hw]; exact HP12.2); have hp_ : Kd.S k59 59 w13 w.heap.size (fun _ => True) (.slice (some ⟨go10, 0, none⟩) x3_1.length co10) y132 := (by rw [hw, Ny132.out]; exact HP12.1); clear HP12; have n0_ := Aside0.mk (hp_); have n1_ := Aside0.mk ((by rw [hw]; exact below_set (below_set (below_set (below_set (below_set (HB.out) GB10.out) GB10.out) GB10.out) GB10.out) GB10.out : Below w.heap.size w w13)); clear HO_3; clear HB; clear HO131; have HO_3 := n0_; have HB := n1_; clear n0_ n1_; clear hg hw hp_))
        go_roundg k1
        case measure => have := HK1.out; omega
        case rel => exact ⟨(y132), (wrap64 (x4_1 + 1)), rz, H', ⟨by have := HK1.out; omega⟩, ⟨by (with_reducible repeat (first | apply Kd.S_alloc | apply Kd.S_drewN | apply Kd.S_drew)); exact HO_3.out⟩, ⟨bz⟩⟩
       ·rw [if_neg c9] at H
        exact absurd H (by simp)
      ·rw [if_neg c7] at H
       exact absurd H (by simp)
     ·rw [if_neg c6] at H; have c6b0 := decide_eq_false c6; clear c6; obtain rfl := Option.some.inj H; go_wp2; go_ret
      exact ⟨_, ez, by (with_reducible repeat (first | apply Kd.S_alloc | apply Kd.S_drewN | apply Kd.S_drew)); exact HO_3.out, bz⟩
  ·rw [if_neg c3] at H
   exact absurd H (by simp)
 ·rw [if_neg c2] at H
  exact absurd H (by simp)
def laws_eqPoint.Fs : List (Spc env) := []
def laws_eqPoint.cut : Nat → Option (List (Lv SC)) := lk []
def laws_eqPoint.ret (r0 : Bool) : Option (HL eΓ [.b]) := some (r0, ())
def laws_eqPoint.run (k : Nat) (h : HL eΓ [.st .s75, .st .s75]) : Option (HL eΓ [.b]) := evF env laws_eqPoint.Fs Tryz.f136 laws_eqPoint.cut [.st .s75, .st .s75] [.b] k h
theorem laws_eqPoint.ef (k : Nat) (h0 : S75) (h1 : S75) : laws_eqPoint.run k (h0, h1, ()) = if ¬ h0.f0 = h1.f0 then (laws_eqPoint.ret false) else (if ¬ h0.f1 = h1.f1 then (laws_eqPoint.ret false) else (laws_eqPoint.ret true)) := by kernel_rfl
def laws_eqPoint.toH (t : Bool) : HL eΓ [.b] := (t, ())
def laws_eqPoint.spec : Spc env := ⟨136, [.st .s75, .st .s75], [.b], laws_eqPoint.run⟩
def laws_eqPoint.ap {R : Type} (k : Nat) (h0 : S75) (h1 : S75) (K : Bool → Option R) : Option R := (laws_eqPoint.run k (h0, h1, ())).bind fun r => K (r.1 : Bool)
theorem laws_eqPoint.ap_of {R : Type} {k : Nat} {h0 : S75} {h1 : S75} {r0 : Bool} {K : Bool → Option R} (h : laws_eqPoint.run k (h0, h1, ()) = some (r0, ())) : laws_eqPoint.ap k h0 h1 K = K r0 := by unfold laws_eqPoint.ap; rw [h]; rfl
theorem laws_eqPoint.snd : Snd env laws_eqPoint.spec := evF_snd env_ok (sndN)
attribute [local irreducible] laws_eqPoint.run
theorem laws_eqPoint.rt (a0 : Bool) : laws_eqPoint.ret a0 = some (laws_eqPoint.toH (a0)) := rfl
theorem laws_eqPoint.go {a0_0 : Int} {a0_1 : Int} {a1_0 : Int} {a1_1 : Int} {t} (h : laws_eqPoint.f a0_0 a0_1 a1_0 a1_1 = some t) (K : Nat) : laws_eqPoint.run K ((⟨a0_0, a0_1⟩ : S75), (⟨a1_0, a1_1⟩ : S75), ()) = some (laws_eqPoint.toH t) := by
  rw [laws_eqPoint.ef]
  (try dsimp only)
  unfold laws_eqPoint.f at h
  repeat' (with_reducible first
   | exact nos h
   | (cases some_inj h; exact laws_eqPoint.rt _)
   | (simp only [Option.bind_some] at h)
   | (refine ite_by h ?_ ?_ <;> (intro hc h; (try simp only [nrm] at hc)))
   | refine itT ?_
   | refine itF ?_
   | (simp only [nr2] at h ⊢)
   | (exfalso; omega))
def laws_eqPointS.Fs : List (Spc env) := [laws_eqPoint.spec]
def laws_eqPointS.fin : St eΓ → Option (HL eΓ [.b]) := finR env Tryz.f82.results.toList [.b]
def laws_eqPointS.cut : Nat → Option (List (Lv SC)) := lk [(4, [⟨0, none, false⟩, ⟨1, none, false⟩, ⟨5, none, false⟩])]
def laws_eqPointS.ret (r0 : Bool) : Option (HL eΓ [.b]) := some (r0, ())
def laws_eqPointS.p4 (k : Nat) (x5 : Int) (x0 : List S75) (x1 : List S75) : Option (HL eΓ [.b]) := evM env laws_eqPointS.Fs Tryz.f82.ntmps laws_eqPointS.fin laws_eqPointS.cut k [.code (sub_ [1, 1, 0, 1, 0, 0, 0, 0] (bodyOf Tryz.f82)), .code (sub_ [1, 1, 0, 1, 0, 0, 0, 1] (bodyOf Tryz.f82)), .code (sub_ [1, 1, 0, 1, 0, 0, 1] (bodyOf Tryz.f82)), .lp (sub_ [1, 1, 0, 1, 0, 0] (bodyOf Tryz.f82)), .blk 0, .code (sub_ [1, 1, 1] (bodyOf Tryz.f82))] (mkSt [(0, .c (.sl 0)), (1, .c (.sl 1)), (5, .c (.v (.int .i64 x5)))] [.row .ro 75 (.st .s75) x0, .row .ro 75 (.st .s75) x1])
theorem laws_eqPointS.e4 (k : Nat) (x5 : Int) (x0 : List S75) (x1 : List S75) : laws_eqPointS.p4 (k + 1) x5 x0 x1 = if x5 < (x0.length : Int) then (if 0 ≤ x5 then (if x5 < (x0.length : Int) then (if 0 ≤ x5 then (if x5 < (x1.length : Int) then (laws_eqPoint.ap k (⟨(rd_T75 x0 x5).f0, (rd_T75 x0 x5).f1⟩ : S75) (⟨(rd_T75 x1 x5).f0, (rd_T75 x1 x5).f1⟩ : S75) fun r1 => if (!r1) = true then (laws_eqPointS.ret false) else (laws_eqPointS.p4 k (wrap64 (x5 + 1)) x0 x1)) else none) else none) else none) else none) else (laws_eqPointS.ret true) := by kernel_rfl
def laws_eqPointS.run (k : Nat) (h : HL eΓ [.l 75 (.st .s75), .l 75 (.st .s75)]) : Option (HL eΓ [.b]) := evF env laws_eqPointS.Fs Tryz.f82 laws_eqPointS.cut [.l 75 (.st .s75), .l 75 (.st .s75)] [.b] k h
theorem laws_eqPointS.ef (k : Nat) (h0 : List S75) (h1 : List S75) : laws_eqPointS.run k (h0, h1, ()) = if ¬ (h0.length : Int) = (h1.length : Int) then (laws_eqPointS.ret false) else (laws_eqPointS.p4 k 0 h0 h1) := by kernel_rfl
def laws_eqPointS.toH (t : Bool) : HL eΓ [.b] := (t, ())
def laws_eqPointS.spec : Spc env := ⟨82, [.l 75 (.st .s75), .l 75 (.st .s75)], [.b], laws_eqPointS.run⟩
def laws_eqPointS.ap {R : Type} (k : Nat) (h0 : List S75) (h1 : List S75) (K : Bool → Option R) : Option R := (laws_eqPointS.run k (h0, h1, ())).bind fun r => K (r.1 : Bool)
theorem laws_eqPointS.ap_of {R : Type} {k : Nat} {h0 : List S75} {h1 : List S75} {r0 : Bool} {K : Bool → Option R} (h : laws_eqPointS.run k (h0, h1, ()) = some (r0, ())) : laws_eqPointS.ap k h0 h1 K = K r0 := by unfold laws_eqPointS.ap; rw [h]; rfl
theorem laws_eqPointS.snd : Snd env laws_eqPointS.spec := evF_snd env_ok (sndC laws_eqPoint.snd (sndN))
attribute [local irreducible] laws_eqPointS.run
theorem laws_eqPointS.rt (a0 : Bool) : laws_eqPointS.ret a0 = some (laws_eqPointS.toH (a0)) := rfl
theorem laws_eqPointS.br (n : Nat) : (∀ K, n ≤ K → ∀ (x5 : Int) (x0 : List S75) (x1 : List S75) t, laws_eqPointS.l0 n x0 x1 x5 = some t → laws_eqPointS.p4 K x5 x0 x1 = some (laws_eqPointS.toH t)) := by
  induction n using Nat.strongRecOn with
  | _ n ih =>
  intro K hK x5 x0 x1 t h
  all_goals (rcases n with _ | k)
  all_goals (try (exact nos h))
  all_goals (obtain ⟨K, rfl⟩ : ∃ q, K = q + 1 := ⟨K - 1, by omega⟩)
  all_goals (first | rw [laws_eqPointS.e4])
  all_goals (simp only [laws_eqPointS.l0] at h)
  repeat' (with_reducible first
   | exact nos h
   | (cases some_inj h; exact laws_eqPointS.rt _)
   | exact (ih _ (by omega)) _ (by omega) _ _ _ _ h
   | (simp only [Option.bind_some] at h)
   | (refine ite_by h ?_ ?_ <;> (intro hc h; (try simp only [nrm] at hc)))
   | refine itT ?_
   | refine itF ?_
   | (refine bind_by h (fun t ht h => ?_); refine (laws_eqPoint.ap_of (laws_eqPoint.go ht _)).trans ?_; (try dsimp only at h ⊢))
   | (simp only [nr2] at h ⊢)
   | (exfalso; omega))
theorem laws_eqPointS.go {k : Nat} {l0 : List S75} {l1 : List S75} {t} (h : laws_eqPointS.f k l0 l1 = some t) (K : Nat) (hK : k ≤ K) : laws_eqPointS.run K (l0, l1, ()) = some (laws_eqPointS.toH t) := by
  rw [laws_eqPointS.ef]
  (try dsimp only)
  unfold laws_eqPointS.f at h
  repeat' (with_reducible first
   | exact nos h
   | (cases some_inj h; exact laws_eqPointS.rt _)
   | exact (laws_eqPointS.br _) _ (by omega) _ _ _ _ h
   | (simp only [Option.bind_some] at h)
   | (refine ite_by h ?_ ?_ <;> (intro hc h; (try simp only [nrm] at hc)))
   | refine itT ?_
   | refine itF ?_
   | (refine bind_by h (fun t ht h => ?_); refine (laws_eqPoint.ap_of (laws_eqPoint.go ht _)).trans ?_; (try dsimp only at h ⊢))
   | (simp only [nr2] at h ⊢)
   | (exfalso; omega))
def laws_eqFeature.Fs : List (Spc env) := [laws_eqPointS.spec]
def laws_eqFeature.cut : Nat → Option (List (Lv SC)) := lk []
def laws_eqFeature.ret (r0 : Bool) : Option (HL eΓ [.b]) := some (r0, ())
def laws_eqFeature.run (k : Nat) (h : HL eΓ [.st .s59, .st .s59]) : Option (HL eΓ [.b]) := evF env laws_eqFeature.Fs Tryz.f41 laws_eqFeature.cut [.st .s59, .st .s59] [.b] k h
theorem laws_eqFeature.ef (k : Nat) (h0 : S59) (h1 : S59) : laws_eqFeature.run k (h0, h1, ()) = if ¬ h0.f0 = h1.f0 then (laws_eqFeature.ret false) else (if ¬ h0.f1 = h1.f1 then (laws_eqFeature.ret false) else (if ¬ h0.f2 = h1.f2 then (laws_eqFeature.ret false) else (if ¬ h0.f3.toList = h1.f3.toList then (laws_eqFeature.ret false) else (laws_eqPointS.ap k h0.f4 h1.f4 fun r1 => if (!r1) = true then (laws_eqFeature.ret false) else (laws_eqFeature.ret true))))) := by kernel_rfl
def laws_eqFeature.toH (t : Bool) : HL eΓ [.b] := (t, ())
def laws_eqFeature.spec : Spc env := ⟨41, [.st .s59, .st .s59], [.b], laws_eqFeature.run⟩
def laws_eqFeature.ap {R : Type} (k : Nat) (h0 : S59) (h1 : S59) (K : Bool → Option R) : Option R := (laws_eqFeature.run k (h0, h1, ())).bind fun r => K (r.1 : Bool)
theorem laws_eqFeature.ap_of {R : Type} {k : Nat} {h0 : S59} {h1 : S59} {r0 : Bool} {K : Bool → Option R} (h : laws_eqFeature.run k (h0, h1, ()) = some (r0, ())) : laws_eqFeature.ap k h0 h1 K = K r0 := by unfold laws_eqFeature.ap; rw [h]; rfl
theorem laws_eqFeature.snd : Snd env laws_eqFeature.spec := evF_snd env_ok (sndC laws_eqPointS.snd (sndN))
attribute [local irreducible] laws_eqFeature.run
theorem laws_eqFeature.rt (a0 : Bool) : laws_eqFeature.ret a0 = some (laws_eqFeature.toH (a0)) := rfl
theorem laws_eqFeature.go {k : Nat} {a0_0 : Int} {a0_1 : Int} {a0_2 : Int} {a0_3 : ByteArray} {l0_4 : List S75} {a1_0 : Int} {a1_1 : Int} {a1_2 : Int} {a1_3 : ByteArray} {l1_4 : List S75} {t} (h : laws_eqFeature.f k a0_0 a0_1 a0_2 a0_3 l0_4 a1_0 a1_1 a1_2 a1_3 l1_4 = some t) (K : Nat) (hK : k ≤ K) : laws_eqFeature.run K ((⟨a0_0, a0_1, a0_2, a0_3, l0_4⟩ : S59), (⟨a1_0, a1_1, a1_2, a1_3, l1_4⟩ : S59), ()) = some (laws_eqFeature.toH t) := by
  rw [laws_eqFeature.ef]
  (try dsimp only)
  unfold laws_eqFeature.f at h
  repeat' (with_reducible first
   | exact nos h
   | (cases some_inj h; exact laws_eqFeature.rt _)
   | (simp only [Option.bind_some] at h)
   | (refine ite_by h ?_ ?_ <;> (intro hc h; (try simp only [nrm] at hc)))
   | refine itT ?_
   | refine itF ?_
   | (refine bind_by h (fun t ht h => ?_); refine (laws_eqPointS.ap_of (laws_eqPointS.go ht _ (by omega))).trans ?_; (try dsimp only at h ⊢))
   | (simp only [nr2] at h ⊢)
   | (exfalso; omega))
def laws_eqFeatureS.Fs : List (Spc env) := [laws_eqFeature.spec]
def laws_eqFeatureS.fin : St eΓ → Option (HL eΓ [.b]) := finR env Tryz.f13.results.toList [.b]
def laws_eqFeatureS.cut : Nat → Option (List (Lv SC)) := lk [(4, [⟨0, none, false⟩, ⟨1, none, false⟩, ⟨5, none, false⟩])]
def laws_eqFeatureS.ret (r0 : Bool) : Option (HL eΓ [.b]) := some (r0, ())
def laws_eqFeatureS.p4 (k : Nat) (x5 : Int) (x0 : List S59) (x1 : List S59) : Option (HL eΓ [.b]) := evM env laws_eqFeatureS.Fs Tryz.f13.ntmps laws_eqFeatureS.fin laws_eqFeatureS.cut k [.code (sub_ [1, 1, 0, 1, 0, 0, 0, 0] (bodyOf Tryz.f13)), .code (sub_ [1, 1, 0, 1, 0, 0, 0, 1] (bodyOf Tryz.f13)), .code (sub_ [1, 1, 0, 1, 0, 0, 1] (bodyOf Tryz.f13)), .lp (sub_ [1, 1, 0, 1, 0, 0] (bodyOf Tryz.f13)), .blk 0, .code (sub_ [1, 1, 1] (bodyOf Tryz.f13))] (mkSt [(0, .c (.sl 0)), (1, .c (.sl 1)), (5, .c (.v (.int .i64 x5)))] [.row .ro 59 (.st .s59) x0, .row .ro 59 (.st .s59) x1])
theorem laws_eqFeatureS.e4 (k : Nat) (x5 : Int) (x0 : List S59) (x1 : List S59) : laws_eqFeatureS.p4 (k + 1) x5 x0 x1 = if x5 < (x0.length : Int) then (if 0 ≤ x5 then (if x5 < (x0.length : Int) then (if 0 ≤ x5 then (if x5 < (x1.length : Int) then (laws_eqFeature.ap k (⟨(rd_T59 x0 x5).f0, (rd_T59 x0 x5).f1, (rd_T59 x0 x5).f2, (rd_T59 x0 x5).f3, (rd_T59 x0 x5).f4⟩ : S59) (⟨(rd_T59 x1 x5).f0, (rd_T59 x1 x5).f1, (rd_T59 x1 x5).f2, (rd_T59 x1 x5).f3, (rd_T59 x1 x5).f4⟩ : S59) fun r1 => if (!r1) = true then (laws_eqFeatureS.ret false) else (laws_eqFeatureS.p4 k (wrap64 (x5 + 1)) x0 x1)) else none) else none) else none) else none) else (laws_eqFeatureS.ret true) := by kernel_rfl
def laws_eqFeatureS.run (k : Nat) (h : HL eΓ [.l 59 (.st .s59), .l 59 (.st .s59)]) : Option (HL eΓ [.b]) := evF env laws_eqFeatureS.Fs Tryz.f13 laws_eqFeatureS.cut [.l 59 (.st .s59), .l 59 (.st .s59)] [.b] k h
theorem laws_eqFeatureS.ef (k : Nat) (h0 : List S59) (h1 : List S59) : laws_eqFeatureS.run k (h0, h1, ()) = if ¬ (h0.length : Int) = (h1.length : Int) then (laws_eqFeatureS.ret false) else (laws_eqFeatureS.p4 k 0 h0 h1) := by kernel_rfl
def laws_eqFeatureS.toH (t : Bool) : HL eΓ [.b] := (t, ())
def laws_eqFeatureS.spec : Spc env := ⟨13, [.l 59 (.st .s59), .l 59 (.st .s59)], [.b], laws_eqFeatureS.run⟩
theorem laws_eqFeatureS.snd : Snd env laws_eqFeatureS.spec := evF_snd env_ok (sndC laws_eqFeature.snd (sndN))
attribute [local irreducible] laws_eqFeatureS.run
theorem laws_eqFeatureS.rt (a0 : Bool) : laws_eqFeatureS.ret a0 = some (laws_eqFeatureS.toH (a0)) := rfl
theorem laws_eqFeatureS.br (n : Nat) : (∀ K, n ≤ K → ∀ (x5 : Int) (x0 : List S59) (x1 : List S59) t, laws_eqFeatureS.l0 n x0 x1 x5 = some t → laws_eqFeatureS.p4 K x5 x0 x1 = some (laws_eqFeatureS.toH t)) := by
  induction n using Nat.strongRecOn with
  | _ n ih =>
  intro K hK x5 x0 x1 t h
  all_goals (rcases n with _ | k)
  all_goals (try (exact nos h))
  all_goals (obtain ⟨K, rfl⟩ : ∃ q, K = q + 1 := ⟨K - 1, by omega⟩)
  all_goals (first | rw [laws_eqFeatureS.e4])
  all_goals (simp only [laws_eqFeatureS.l0] at h)
  repeat' (with_reducible first
   | exact nos h
   | (cases some_inj h; exact laws_eqFeatureS.rt _)
   | exact (ih _ (by omega)) _ (by omega) _ _ _ _ h
   | (simp only [Option.bind_some] at h)
   | (refine ite_by h ?_ ?_ <;> (intro hc h; (try simp only [nrm] at hc)))
   | refine itT ?_
   | refine itF ?_
   | (refine bind_by h (fun t ht h => ?_); refine (laws_eqFeature.ap_of (laws_eqFeature.go ht _ (by omega))).trans ?_; (try dsimp only at h ⊢))
   | (simp only [nr2] at h ⊢)
   | (exfalso; omega))
theorem laws_eqFeatureS.go {k : Nat} {l0 : List S59} {l1 : List S59} {t} (h : laws_eqFeatureS.f k l0 l1 = some t) (K : Nat) (hK : k ≤ K) : laws_eqFeatureS.run K (l0, l1, ()) = some (laws_eqFeatureS.toH t) := by
  rw [laws_eqFeatureS.ef]
  (try dsimp only)
  unfold laws_eqFeatureS.f at h
  repeat' (with_reducible first
   | exact nos h
   | (cases some_inj h; exact laws_eqFeatureS.rt _)
   | exact (laws_eqFeatureS.br _) _ (by omega) _ _ _ _ h
   | (simp only [Option.bind_some] at h)
   | (refine ite_by h ?_ ?_ <;> (intro hc h; (try simp only [nrm] at hc)))
   | refine itT ?_
   | refine itF ?_
   | (refine bind_by h (fun t ht h => ?_); refine (laws_eqFeature.ap_of (laws_eqFeature.go ht _ (by omega))).trans ?_; (try dsimp only at h ⊢))
   | (simp only [nr2] at h ⊢)
   | (exfalso; omega))
theorem laws_eqFeatureS.calls (k : Nat) (A0 : Option Addr) (c0 : Nat) (l0 : List (S59)) (A1 : Option Addr) (c1 : Nat) (l1 : List (S59)) (r : Bool) (w : World) (hr0 : Kd.C k59 w A0 l0.length l0) (hc0 : l0.length ≤ c0) (hr1 : Kd.C k59 w A1 l1.length l1) (hc1 : l1.length ≤ c1) (h : laws_eqFeatureS.f k l0 l1 = some r) :
  Calls Tryz.prog 13 #[.slice A0 l0.length c0, .slice A1 l1.length c1] w fun e w' => e = .returned (.bool r) ∧ Below w.heap.size w w' := by
  refine (laws_eqFeatureS.snd.calls _ _ _ (laws_eqFeatureS.go h k (Nat.le_refl k)) w [.slice A0 l0.length c0, .slice A1 l1.length c1] ⟨⟨_, _, rfl, hc0, hr0⟩, ⟨_, _, rfl, hc1, hr1⟩, trivial⟩).mono ?_
  rintro e w' ⟨v, rfl, hB, vs, oks, rfl, hR, _⟩
  obtain ⟨x0_, vs, o0_, oks, rfl, rfl, m0_, hR⟩ := rmsC hR
  obtain rfl := rmsN hR
  obtain rfl := List.singleton_inj.1 (show [x0_] = [Value.bool r] from m0_)
  exact ⟨rfl, hB⟩
def spec_IsAbove.Fs : List (Spc env) := []
def spec_IsAbove.cut : Nat → Option (List (Lv SC)) := lk []
def spec_IsAbove.ret (r0 : Bool) : Option (HL eΓ [.b]) := some (r0, ())
def spec_IsAbove.run (k : Nat) (h : HL eΓ [.st .s77, .st .s77]) : Option (HL eΓ [.b]) := evF env spec_IsAbove.Fs Tryz.f83 spec_IsAbove.cut [.st .s77, .st .s77] [.b] k h
theorem spec_IsAbove.ef (k : Nat) (h0 : S77) (h1 : S77) : spec_IsAbove.run k (h0, h1, ()) = if h0.f2 > h1.f2 then (spec_IsAbove.ret true) else (if h0.f2 = h1.f2 then (spec_IsAbove.ret (decide (h0.f0 < h1.f0))) else (spec_IsAbove.ret false)) := by kernel_rfl
def spec_IsAbove.toH (t : Bool) : HL eΓ [.b] := (t, ())
def spec_IsAbove.spec : Spc env := ⟨83, [.st .s77, .st .s77], [.b], spec_IsAbove.run⟩
theorem spec_IsAbove.snd : Snd env spec_IsAbove.spec := evF_snd env_ok (sndN)
attribute [local irreducible] spec_IsAbove.run
theorem spec_IsAbove.rt (a0 : Bool) : spec_IsAbove.ret a0 = some (spec_IsAbove.toH (a0)) := rfl
theorem spec_IsAbove.go {a0_0 : Int} {a0_1 : Int} {a0_2 : Int} {a0_3 : Int} {a1_0 : Int} {a1_1 : Int} {a1_2 : Int} {a1_3 : Int} {t} (h : spec_IsAbove.f a0_0 a0_1 a0_2 a0_3 a1_0 a1_1 a1_2 a1_3 = some t) (K : Nat) : spec_IsAbove.run K ((⟨a0_0, (⟨a0_1, a0_2⟩ : S75), a0_3⟩ : S77), (⟨a1_0, (⟨a1_1, a1_2⟩ : S75), a1_3⟩ : S77), ()) = some (spec_IsAbove.toH t) := by
  rw [spec_IsAbove.ef]
  (try dsimp only)
  unfold spec_IsAbove.f at h
  repeat' (with_reducible first
   | exact nos h
   | (cases some_inj h; exact spec_IsAbove.rt _)
   | (simp only [Option.bind_some] at h)
   | (refine ite_by h ?_ ?_ <;> (intro hc h; (try simp only [nrm] at hc)))
   | refine itT ?_
   | refine itF ?_
   | (simp only [nr2] at h ⊢)
   | (exfalso; omega))
theorem spec_IsAbove.calls (a0_0 : Int) (a0_1 : Int) (a0_2 : Int) (a0_3 : Int) (a1_0 : Int) (a1_1 : Int) (a1_2 : Int) (a1_3 : Int) (r : Bool) (w : World) (h : spec_IsAbove.f a0_0 a0_1 a0_2 a0_3 a1_0 a1_1 a1_2 a1_3 = some r) :
  Calls Tryz.prog 83 #[.agg #[.int .i64 a0_0, .int .i64 a0_1, .int .i64 a0_2, .int .i64 a0_3], .agg #[.int .i64 a1_0, .int .i64 a1_1, .int .i64 a1_2, .int .i64 a1_3]] w fun e w' => e = .returned (.bool r) ∧ Below w.heap.size w w' := by
  refine (spec_IsAbove.snd.calls _ _ _ (spec_IsAbove.go h 0) w [.agg #[.int .i64 a0_0, .int .i64 a0_1, .int .i64 a0_2, .int .i64 a0_3], .agg #[.int .i64 a1_0, .int .i64 a1_1, .int .i64 a1_2, .int .i64 a1_3]] ⟨⟨_, rfl, (H77.K _ _ _).2 ⟨rfl, rfl, rfl, rfl, trivial⟩⟩, ⟨_, rfl, (H77.K _ _ _).2 ⟨rfl, rfl, rfl, rfl, trivial⟩⟩, trivial⟩).mono ?_
  rintro e w' ⟨v, rfl, hB, vs, oks, rfl, hR, _⟩
  obtain ⟨x0_, vs, o0_, oks, rfl, rfl, m0_, hR⟩ := rmsC hR
  obtain rfl := rmsN hR
  obtain rfl := List.singleton_inj.1 (show [x0_] = [Value.bool r] from m0_)
  exact ⟨rfl, hB⟩
def spec_l1In.toH (t : Bool) : HL eΓ [.b] := (t, ())
def spec_l1In.run (k : Nat) (h : HL eΓ [.i .i64, .i .i64, .i .i64]) : Option (HL eΓ [.b]) := (spec_l1In.f (h.1 : Int) (h.2.1 : Int) (h.2.2.1 : Int)).map spec_l1In.toH
def spec_l1In.spec : Spc env := ⟨90, [.i .i64, .i .i64, .i .i64], [.b], spec_l1In.run⟩
def spec_l1In.ap {R : Type} (k : Nat) (h0 : Int) (h1 : Int) (h2 : Int) (K : Bool → Option R) : Option R := (spec_l1In.run k (h0, h1, h2, ())).bind fun r => K (r.1 : Bool)
theorem spec_l1In.ap_of {R : Type} {k : Nat} {h0 : Int} {h1 : Int} {h2 : Int} {r0 : Bool} {K : Bool → Option R} (h : spec_l1In.run k (h0, h1, h2, ()) = some (r0, ())) : spec_l1In.ap k h0 h1 h2 K = K r0 := by unfold spec_l1In.ap; rw [h]; rfl
theorem spec_l1In.go {a0 : Int} {a1 : Int} {a2 : Int} {t} (h : spec_l1In.f a0 a1 a2 = some t) (K : Nat) : spec_l1In.run K (a0, a1, a2, ()) = some (spec_l1In.toH t) := by
  show Option.map _ (spec_l1In.f a0 a1 a2) = _
  rw [h]; rfl
theorem spec_l1In.snd : Snd env spec_l1In.spec := ⟨⟨Tryz.f90, by kernel_rfl, by kernel_rfl, by kernel_rfl⟩, fun k h r he w us hA => by
  obtain ⟨t, ht, rfl⟩ := Option.map_eq_some_iff.1 (show (spec_l1In.f (h.1 : Int) (h.2.1 : Int) (h.2.2.1 : Int)).map spec_l1In.toH = some r from he)
  match us, hA with
  | [u0, u1, u2], ⟨q0, q1, q2, _⟩ =>
  obtain rfl := List.singleton_inj.1 (show [u0] = [Value.int .i64 (h.1 : Int)] from q0)
  obtain rfl := List.singleton_inj.1 (show [u1] = [Value.int .i64 (h.2.1 : Int)] from q1)
  obtain rfl := List.singleton_inj.1 (show [u2] = [Value.int .i64 (h.2.2.1 : Int)] from q2)
  refine (spec_l1In.calls (w := w) (h := ht) ).mono ?_
  rintro e w' ⟨he, hw⟩
  exact ⟨_, he, (by obtain ⟨_, rfl⟩ := hw; exact Below.refl _ _), [.bool t], [fun _ => False], rfl, ⟨rfl, trivial⟩, by simp [DJ]⟩⟩
def spec_IsPoint.toH (t : Bool) : HL eΓ [.b] := (t, ())
def spec_IsPoint.run (k : Nat) (h : HL eΓ [.st .s75]) : Option (HL eΓ [.b]) := (spec_IsPoint.f ((h.1 : S75).f0) ((h.1 : S75).f1)).map spec_IsPoint.toH
def spec_IsPoint.spec : Spc env := ⟨88, [.st .s75], [.b], spec_IsPoint.run⟩
def spec_IsPoint.ap {R : Type} (k : Nat) (h0 : S75) (K : Bool → Option R) : Option R := (spec_IsPoint.run k (h0, ())).bind fun r => K (r.1 : Bool)
theorem spec_IsPoint.ap_of {R : Type} {k : Nat} {h0 : S75} {r0 : Bool} {K : Bool → Option R} (h : spec_IsPoint.run k (h0, ()) = some (r0, ())) : spec_IsPoint.ap k h0 K = K r0 := by unfold spec_IsPoint.ap; rw [h]; rfl
theorem spec_IsPoint.go {a0_0 : Int} {a0_1 : Int} {t} (h : spec_IsPoint.f a0_0 a0_1 = some t) (K : Nat) : spec_IsPoint.run K ((⟨a0_0, a0_1⟩ : S75), ()) = some (spec_IsPoint.toH t) := by
  show Option.map _ (spec_IsPoint.f a0_0 a0_1) = _
  rw [h]; rfl
theorem spec_IsPoint.snd : Snd env spec_IsPoint.spec := ⟨⟨Tryz.f88, by kernel_rfl, by kernel_rfl, by kernel_rfl⟩, fun k h r he w us hA => by
  obtain ⟨t, ht, rfl⟩ := Option.map_eq_some_iff.1 (show (spec_IsPoint.f ((h.1 : S75).f0) ((h.1 : S75).f1)).map spec_IsPoint.toH = some r from he)
  match us, hA with
  | [u0], ⟨q0, _⟩ =>
  obtain ⟨v0, rfl, q0⟩ := q0
  have q0 := (H75.K _ _ _).1 q0
  match e0 : v0.toList, q0 with
  | [c0_0, c0_1], ⟨p0_0, p0_1, _⟩ =>
  obtain rfl : v0 = #[c0_0, c0_1] := by rw [← Array.toArray_toList (xs := v0), e0]
  obtain rfl := List.singleton_inj.1 (show [c0_0] = [Value.int .i64 ((h.1 : S75).f0)] from p0_0)
  obtain rfl := List.singleton_inj.1 (show [c0_1] = [Value.int .i64 ((h.1 : S75).f1)] from p0_1)
  refine (spec_IsPoint.calls (w := w) (h := ht) ).mono ?_
  rintro e w' ⟨he, hw⟩
  exact ⟨_, he, hw, [.bool t], [fun _ => False], rfl, ⟨rfl, trivial⟩, by simp [DJ]⟩⟩
def spec_FarSquared.Fs : List (Spc env) := [spec_IsPoint.spec]
def spec_FarSquared.cut : Nat → Option (List (Lv SC)) := lk []
def spec_FarSquared.ret (r0 : Int) : Option (HL eΓ [.i .i64]) := some (r0, ())
def spec_FarSquared.run (k : Nat) (h : HL eΓ [.st .s75, .st .s75]) : Option (HL eΓ [.i .i64]) := evF env spec_FarSquared.Fs Tryz.f84 spec_FarSquared.cut [.st .s75, .st .s75] [.i .i64] k h
theorem spec_FarSquared.ef (k : Nat) (h0 : S75) (h1 : S75) : spec_FarSquared.run k (h0, h1, ()) = spec_IsPoint.ap k (⟨h0.f0, h0.f1⟩ : S75) fun r1 => if (!r1) = true then (spec_FarSquared.ret (-1)) else (spec_IsPoint.ap k (⟨h1.f0, h1.f1⟩ : S75) fun r2 => if (!r2) = true then (spec_FarSquared.ret (-1)) else (spec_FarSquared.ret (wrap64 ((wrap64 ((wrap64 (h0.f0 - h1.f0)) * (wrap64 (h0.f0 - h1.f0)))) + (wrap64 ((wrap64 (h0.f1 - h1.f1)) * (wrap64 (h0.f1 - h1.f1)))))))) := by kernel_rfl
def spec_FarSquared.toH (t : Int) : HL eΓ [.i .i64] := (t, ())
def spec_FarSquared.spec : Spc env := ⟨84, [.st .s75, .st .s75], [.i .i64], spec_FarSquared.run⟩
theorem spec_FarSquared.snd : Snd env spec_FarSquared.spec := evF_snd env_ok (sndC spec_IsPoint.snd (sndN))
attribute [local irreducible] spec_FarSquared.run
theorem spec_FarSquared.rt (a0 : Int) : spec_FarSquared.ret a0 = some (spec_FarSquared.toH (a0)) := rfl
theorem spec_FarSquared.go {a0_0 : Int} {a0_1 : Int} {a1_0 : Int} {a1_1 : Int} {t} (h : spec_FarSquared.f a0_0 a0_1 a1_0 a1_1 = some t) (K : Nat) : spec_FarSquared.run K ((⟨a0_0, a0_1⟩ : S75), (⟨a1_0, a1_1⟩ : S75), ()) = some (spec_FarSquared.toH t) := by
  rw [spec_FarSquared.ef]
  (try dsimp only)
  unfold spec_FarSquared.f at h
  repeat' (with_reducible first
   | exact nos h
   | (cases some_inj h; exact spec_FarSquared.rt _)
   | (simp only [Option.bind_some] at h)
   | (refine ite_by h ?_ ?_ <;> (intro hc h; (try simp only [nrm] at hc)))
   | refine itT ?_
   | refine itF ?_
   | (refine bind_by h (fun t ht h => ?_); refine (spec_IsPoint.ap_of (spec_IsPoint.go ht _)).trans ?_; (try dsimp only at h ⊢))
   | (simp only [nr2] at h ⊢)
   | (exfalso; omega))
theorem spec_FarSquared.calls (a0_0 : Int) (a0_1 : Int) (a1_0 : Int) (a1_1 : Int) (r : Int) (w : World) (h : spec_FarSquared.f a0_0 a0_1 a1_0 a1_1 = some r) :
  Calls Tryz.prog 84 #[.agg #[.int .i64 a0_0, .int .i64 a0_1], .agg #[.int .i64 a1_0, .int .i64 a1_1]] w fun e w' => e = .returned (.int .i64 r) ∧ Below w.heap.size w w' := by
  refine (spec_FarSquared.snd.calls _ _ _ (spec_FarSquared.go h 0) w [.agg #[.int .i64 a0_0, .int .i64 a0_1], .agg #[.int .i64 a1_0, .int .i64 a1_1]] ⟨⟨_, rfl, (H75.K _ _ _).2 ⟨rfl, rfl, trivial⟩⟩, ⟨_, rfl, (H75.K _ _ _).2 ⟨rfl, rfl, trivial⟩⟩, trivial⟩).mono ?_
  rintro e w' ⟨v, rfl, hB, vs, oks, rfl, hR, _⟩
  obtain ⟨x0_, vs, o0_, oks, rfl, rfl, m0_, hR⟩ := rmsC hR
  obtain rfl := rmsN hR
  obtain rfl := List.singleton_inj.1 (show [x0_] = [Value.int .i64 r] from m0_)
  exact ⟨rfl, hB⟩
set_option maxHeartbeats 8000000 in
set_option maxRecDepth 100000 in
theorem spec_l14Kept.calls (A0 : Option Addr) (c0 : Nat) (l0 : List S77) (a1 : Int) (r : List S77) (w : World) (hr0 : Kd.C k77 w A0 l0.length l0) (hc0 : l0.length ≤ c0) (h : spec_l14Kept.f l0 a1 = some r) :
    Calls Tryz.prog 44 #[.slice A0 l0.length c0, .int .i64 a1] w fun e w' => ∃ v0_ : Value, e = .returned (v0_) ∧ Kd.R k77 77 w' w.heap.size (fun _ => True) v0_ r ∧ Below w.heap.size w w' := by
  unfold spec_l14Kept.f at h
  by_cases hlt0 : l0.length < 2199023255552
  rotate_left
  · rw [if_neg hlt0] at h; cases h
  rw [if_pos hlt0] at h
  have KR0 := Aside0.mk hr0
  have KC0 := Aside0.mk hc0
  have LM0 := Aside0.mk hlt0
  have HX := Aside0.mk h
  clear hr0 hc0 h hlt0
  have HOi : Aside0 (Kd.R k77 77 (w.alloc (.cells #[] 77 (0, 0))) w.heap.size (fun _ => True) (.slice (some ⟨w.heap.size, 0, none⟩) 0 0) []) := ⟨⟨fun _ _ => trivial, [], ⟨rfl, .inr ⟨w.heap.size, 0, #[], rfl, Nat.le_refl _, Array.getElem?_push_size, Nat.le_refl _, by decide, rfl, rfl⟩⟩, Reps.none _ _⟩⟩
  have HBi : Aside0 (Below w.heap.size w (w.alloc (.cells #[] 77 (0, 0)))) := ⟨below_alloc (Below.refl _ _) _⟩
  have mixed : Tryz.prog.follows Departure.mixedOrders = true := by kernel_rfl
  go_enter Tryz.func44, Tryz.ntmps44
  go_upto_block 0 with (fail)
  go_cut [5] (fun s5 wc => Aside0 (Kd.R k77 77 wc w.heap.size (fun _ => True) s5 (sortL l0)) ∧ Aside0 (Below w.heap.size w wc))
  case first =>
    go_wp2_with fail
    go_loopg [5, 6] l0.length (fun gg s5 s6 wr => ∃ (i : Nat) (ys : List S77), s6 = .int .i64 (i : Int) ∧ i ≤ l0.length ∧ l0.length - i ≤ gg ∧ Aside0 ((l0.drop i).foldl putL ys = sortL l0) ∧ Aside0 (ys.length = i) ∧ Aside0 (Kd.R k77 77 wr w.heap.size (fun _ => True) s5 ys) ∧ Aside0 (Below w.heap.size w wr))
    case atStart => exact ⟨0, [], rfl, Nat.zero_le _, by omega, ⟨rfl⟩, ⟨rfl⟩, HOi, HBi⟩
    case round =>
      clear HOi HBi
      obtain ⟨i, ys, rfl, hi, hg, HF, HY, HO, HB⟩ := hrel
      by_cases hlt : i < l0.length
      · have q1 : (i : Int) < (l0.length : Int) := by omega
        have q0 : 0 ≤ (i : Int) := by omega
        have m1 : l0.length - (i + 1) < l0.length - i := by omega
        have e0 : wrap64 ((i : Int) + 1) = ((i + 1 : Nat) : Int) := lk_add i (by have := LM0.out; omega)
        obtain ⟨ad, rfl, hx0, hx1, hx2, hx3⟩ := at_T77 KR0.out (i : Int) q0 q1
        unfold rd_T77 at hx0 hx1 hx2 hx3
        rw [Int.toNat_natCast] at hx0 hx1 hx2 hx3
        have hF := HF.out
        rw [fl_drop hlt] at hF
        generalize l0.getD i z77 = x at hx0 hx1 hx2 hx3 hF
        obtain ⟨x0, ⟨x1, x2⟩, x3⟩ := x
        dsimp only at hx0 hx1 hx2 hx3
        have HF2 := Aside0.mk hF
        have HXc : Aside0 (wr.cell? (ad.add (i * 4)) = some (.int .i64 x0) ∧ wr.cell? ⟨(ad.add (i * 4)).block, (ad.add (i * 4)).off + 1, none⟩ = some (.int .i64 x1) ∧ wr.cell? ⟨(ad.add (i * 4)).block, (ad.add (i * 4)).off + 2, none⟩ = some (.int .i64 x2) ∧ wr.cell? ⟨(ad.add (i * 4)).block, (ad.add (i * 4)).off + 3, none⟩ = some (.int .i64 x3)) := ⟨⟨(HB.out.cell (World.block_lt_of_cell? w _ hx0)).trans hx0, (HB.out.cell (World.block_lt_of_cell? w _ hx1)).trans hx1, (HB.out.cell (World.block_lt_of_cell? w _ hx2)).trans hx2, (HB.out.cell (World.block_lt_of_cell? w _ hx3)).trans hx3⟩⟩
        have M1 := Aside0.mk m1
        have E0 := Aside0.mk e0
        have LMy := Aside0.mk (show ys.length < 2199023255552 by have := HY.out; have := LM0.out; omega)
        clear hx0 hx1 hx2 hx3 hF HF m1 e0
        replace q1 := eq_true q1
        replace q0 := eq_true q0
        obtain ⟨Ay, cy, rfl⟩ := Kd.R_slice HO.out
        go_upto_block 2 with (fail)
        go_cut [7] (fun s7 wc => ∃ p : Nat, s7 = .int .i64 (p : Int) ∧ Aside0 (p = posL ys ⟨x0, ⟨x1, x2⟩, x3⟩ ys.length) ∧ Aside0 (wc.cell? (ad.add (i * 4)) = some (.int .i64 x0) ∧ wc.cell? ⟨(ad.add (i * 4)).block, (ad.add (i * 4)).off + 1, none⟩ = some (.int .i64 x1) ∧ wc.cell? ⟨(ad.add (i * 4)).block, (ad.add (i * 4)).off + 2, none⟩ = some (.int .i64 x2) ∧ wc.cell? ⟨(ad.add (i * 4)).block, (ad.add (i * 4)).off + 3, none⟩ = some (.int .i64 x3)) ∧ Aside0 (Kd.R k77 77 wc w.heap.size (fun _ => True) (.slice Ay ys.length cy) ys) ∧ Aside0 (Below w.heap.size w wc))
        case first =>
          go_wp2_with fail
          go_loopg [7] ys.length (fun gh s7 wq => ∃ k : Nat, s7 = .int .i64 (k : Int) ∧ k ≤ ys.length ∧ k ≤ gh ∧ Aside0 (posL ys ⟨x0, ⟨x1, x2⟩, x3⟩ k = posL ys ⟨x0, ⟨x1, x2⟩, x3⟩ ys.length) ∧ Aside0 (wq.cell? (ad.add (i * 4)) = some (.int .i64 x0) ∧ wq.cell? ⟨(ad.add (i * 4)).block, (ad.add (i * 4)).off + 1, none⟩ = some (.int .i64 x1) ∧ wq.cell? ⟨(ad.add (i * 4)).block, (ad.add (i * 4)).off + 2, none⟩ = some (.int .i64 x2) ∧ wq.cell? ⟨(ad.add (i * 4)).block, (ad.add (i * 4)).off + 3, none⟩ = some (.int .i64 x3)) ∧ Aside0 (Kd.R k77 77 wq w.heap.size (fun _ => True) (.slice Ay ys.length cy) ys) ∧ Aside0 (Below w.heap.size w wq))
          case atStart => exact ⟨ys.length, rfl, Nat.le_refl _, Nat.le_refl _, ⟨rfl⟩, HXc, HO, HB⟩
          case round =>
            clear HXc HO HB
            obtain ⟨k, rfl, hk, hgk, HP, HXc, HO, HB⟩ := hrel
            have hX0 := fun (d : Nat) (os : Array Obj) => lkcell HXc.out.1 d os
            have hX1 := fun (d : Nat) (os : Array Obj) => lkcell HXc.out.2.1 d os
            have hX2 := fun (d : Nat) (os : Array Obj) => lkcell HXc.out.2.2.1 d os
            have hX3 := fun (d : Nat) (os : Array Obj) => lkcell HXc.out.2.2.2 d os
            rcases Nat.eq_zero_or_pos k with rfl | hpos
            · have z1 : ((0 : Int) < ((0 : Nat) : Int)) = False := eq_false (by omega)
              go_wp2_with fail
              refine wq_region (by kernel_rfl) (by kernel_rfl) ?_
              iterate 14 (refine wq_step (fun K hK => ?_); go_simp; (first | (refine hK _ ?_; clear hK K) | (apply Exists.intro; refine ⟨fun _ => ?_, hK _ ?_⟩; (first | rfl | (go_simp; done) | (go_simp; rfl)); clear hK K)))
              refine wq_nil ?_
              intro w1 hb
              have q_HXc : Aside0 (w1.cell? (ad.add (i * 4)) = some (.int .i64 x0) ∧ w1.cell? ⟨(ad.add (i * 4)).block, (ad.add (i * 4)).off + 1, none⟩ = some (.int .i64 x1) ∧ w1.cell? ⟨(ad.add (i * 4)).block, (ad.add (i * 4)).off + 2, none⟩ = some (.int .i64 x2) ∧ w1.cell? ⟨(ad.add (i * 4)).block, (ad.add (i * 4)).off + 3, none⟩ = some (.int .i64 x3)) := Aside0.mk (⟨(hb.cell (World.block_lt_of_cell? _ _ HXc.out.1)).trans HXc.out.1, (hb.cell (World.block_lt_of_cell? _ _ HXc.out.2.1)).trans HXc.out.2.1, (hb.cell (World.block_lt_of_cell? _ _ HXc.out.2.2.1)).trans HXc.out.2.2.1, (hb.cell (World.block_lt_of_cell? _ _ HXc.out.2.2.2)).trans HXc.out.2.2.2⟩)
              have q_HO := Aside0.mk (Kd.R_below HO.out hb)
              have q_HB := Aside0.mk (below_step HB.out hb)
              clear hb HXc HO HB
              have HXc := q_HXc
              have HO := q_HO
              have HB := q_HB
              clear q_HXc q_HO q_HB
              go_wp2_with fail
              go_meet
              case rel => exact ⟨0, by first | rfl | (simp; done), HP, HXc, HO, HB⟩
            · have hk9 : k ≤ 9223372036854775807 := by have := LMy.out; omega
              have e1 : wrap64 ((k : Int) - 1) = ((k - 1 : Nat) : Int) := lk_sub k hpos hk9
              have e2 : IntKind.i64.wrap ((k : Int) - 1) = ((k - 1 : Nat) : Int) := (i64_w _).trans e1
              have z1 : ((0 : Int) < (k : Int)) = True := eq_true (by omega)
              have z2 : (0 ≤ ((k - 1 : Nat) : Int)) = True := eq_true (by omega)
              have z3 : (((k - 1 : Nat) : Int) < (ys.length : Int)) = True := eq_true (by omega)
              have z4 : (0 < k) = True := eq_true hpos
              have z5 : (k - 1 < ys.length) = True := eq_true (by omega)
              have z6 : (i < l0.length) = True := eq_true hlt
              obtain ⟨ad2, rfl, hy0, hy1, hy2, hy3⟩ := at_T77 (Kd.R_reads' HO.out).2.2 ((k - 1 : Nat) : Int) (by omega) (by omega)
              unfold rd_T77 at hy0 hy1 hy2 hy3
              rw [Int.toNat_natCast] at hy0 hy1 hy2 hy3
              have hP := HP.out
              have hkk : k - 1 + 1 = k := by omega
              rw [← hkk, posL, hkk] at hP
              generalize ys.getD (k - 1) z77 = y at hy0 hy1 hy2 hy3 hP
              obtain ⟨y0, ⟨y1, y2⟩, y3⟩ := y
              dsimp only at hy0 hy1 hy2 hy3
              have hY0 := fun (d : Nat) (os : Array Obj) => lkcell hy0 d os
              have hY1 := fun (d : Nat) (os : Array Obj) => lkcell hy1 d os
              have hY2 := fun (d : Nat) (os : Array Obj) => lkcell hy2 d os
              have hY3 := fun (d : Nat) (os : Array Obj) => lkcell hy3 d os
              have hab := ab_s x0 x1 x2 x3 y0 y1 y2 y3
              have hk1 : k - 1 ≤ ys.length := by omega
              have hg1 : k - 1 < k := by omega
              clear hy0 hy1 hy2 hy3 hpos hk9 hkk HP
              cases hb_ : abL ⟨x0, ⟨x1, x2⟩, x3⟩ ⟨y0, ⟨y1, y2⟩, y3⟩ with
              | true =>
                rw [hb_] at hab hP
                have HP2 := Aside0.mk ((if_pos rfl).symm.trans hP)
                have HAB := Aside0.mk hab
                clear hab hP hb_
                go_wp2_with fail
                refine wq_region (by kernel_rfl) (by kernel_rfl) ?_
                iterate 14 (refine wq_step (fun K hK => ?_); go_simp; (first | (refine hK _ ?_; clear hK K) | (apply Exists.intro; refine ⟨fun _ => ?_, hK _ ?_⟩; (first | rfl | (go_simp; done) | (go_simp; rfl) | exact qc (fun W => spec_IsAbove.calls _ _ _ _ _ _ _ _ _ W HAB.out) _ _); clear hK K)))
                refine wq_nil ?_
                intro w1 hb
                have q_HXc : Aside0 (w1.cell? (ad.add (i * 4)) = some (.int .i64 x0) ∧ w1.cell? ⟨(ad.add (i * 4)).block, (ad.add (i * 4)).off + 1, none⟩ = some (.int .i64 x1) ∧ w1.cell? ⟨(ad.add (i * 4)).block, (ad.add (i * 4)).off + 2, none⟩ = some (.int .i64 x2) ∧ w1.cell? ⟨(ad.add (i * 4)).block, (ad.add (i * 4)).off + 3, none⟩ = some (.int .i64 x3)) := Aside0.mk (⟨(hb.cell (World.block_lt_of_cell? _ _ HXc.out.1)).trans HXc.out.1, (hb.cell (World.block_lt_of_cell? _ _ HXc.out.2.1)).trans HXc.out.2.1, (hb.cell (World.block_lt_of_cell? _ _ HXc.out.2.2.1)).trans HXc.out.2.2.1, (hb.cell (World.block_lt_of_cell? _ _ HXc.out.2.2.2)).trans HXc.out.2.2.2⟩)
                have q_HO := Aside0.mk (Kd.R_below HO.out hb)
                have q_HB := Aside0.mk (below_step HB.out hb)
                clear hb HXc HO HB
                have HXc := q_HXc
                have HO := q_HO
                have HB := q_HB
                clear q_HXc q_HO q_HB
                go_wp2_with fail
                go_roundg (k - 1)
                case measure => omega
                case rel => exact ⟨k - 1, by first | rfl | rw [e1] | rw [e2], hk1, Nat.le_refl _, HP2, HXc, HO, HB⟩
              | false =>
                rw [hb_] at hab hP
                have HP2 : Aside0 (k = posL ys ⟨x0, ⟨x1, x2⟩, x3⟩ ys.length) := ⟨(if_neg (by decide)).symm.trans hP⟩
                have HAB := Aside0.mk hab
                clear hab hP hb_
                go_wp2_with fail
                refine wq_region (by kernel_rfl) (by kernel_rfl) ?_
                iterate 14 (refine wq_step (fun K hK => ?_); go_simp; (first | (refine hK _ ?_; clear hK K) | (apply Exists.intro; refine ⟨fun _ => ?_, hK _ ?_⟩; (first | rfl | (go_simp; done) | (go_simp; rfl) | exact qc (fun W => spec_IsAbove.calls _ _ _ _ _ _ _ _ _ W HAB.out) _ _); clear hK K)))
                refine wq_nil ?_
                intro w1 hb
                have q_HXc : Aside0 (w1.cell? (ad.add (i * 4)) = some (.int .i64 x0) ∧ w1.cell? ⟨(ad.add (i * 4)).block, (ad.add (i * 4)).off + 1, none⟩ = some (.int .i64 x1) ∧ w1.cell? ⟨(ad.add (i * 4)).block, (ad.add (i * 4)).off + 2, none⟩ = some (.int .i64 x2) ∧ w1.cell? ⟨(ad.add (i * 4)).block, (ad.add (i * 4)).off + 3, none⟩ = some (.int .i64 x3)) := Aside0.mk (⟨(hb.cell (World.block_lt_of_cell? _ _ HXc.out.1)).trans HXc.out.1, (hb.cell (World.block_lt_of_cell? _ _ HXc.out.2.1)).trans HXc.out.2.1, (hb.cell (World.block_lt_of_cell? _ _ HXc.out.2.2.1)).trans HXc.out.2.2.1, (hb.cell (World.block_lt_of_cell? _ _ HXc.out.2.2.2)).trans HXc.out.2.2.2⟩)
                have q_HO := Aside0.mk (Kd.R_below HO.out hb)
                have q_HB := Aside0.mk (below_step HB.out hb)
                clear hb HXc HO HB
                have HXc := q_HXc
                have HO := q_HO
                have HB := q_HB
                clear q_HXc q_HO q_HB
                go_wp2_with fail
                go_meet
                case rel => exact ⟨k, rfl, HP2, HXc, HO, HB⟩
        case rest =>
          clear HXc HO HB
          obtain ⟨p, rfl, HP, HXc, HO, HB⟩ := hcut
          have HL := Aside0.mk (show p ≤ ys.length by rw [HP.out]; exact posL_le _ _ _)
          have EP : Aside0 (putL ys ⟨x0, ⟨x1, x2⟩, x3⟩ = (ys.take p ++ [⟨x0, ⟨x1, x2⟩, x3⟩]) ++ ys.drop p) := ⟨by unfold putL; rw [← HP.out]⟩
          have LM := Aside0.mk (show ys.length < 2199023255552 by have := LMy.out; omega)
          go_upto_region 8 with (fail)
          have HC0 := Aside0.mk (Kd.R_reads' HO.out).2.1
          have HR0 := Aside0.mk (Kd.R_reads' HO.out).2.2
          have HBc := Aside0.mk (below_drew1 HB.out)
          have HS : Aside0 (wc.drew.cell? (ad.add (i * 4)) = some (.int .i64 x0) ∧ wc.drew.cell? ⟨(ad.add (i * 4)).block, (ad.add (i * 4)).off + 1, none⟩ = some (.int .i64 x1) ∧ wc.drew.cell? ⟨(ad.add (i * 4)).block, (ad.add (i * 4)).off + 2, none⟩ = some (.int .i64 x2) ∧ wc.drew.cell? ⟨(ad.add (i * 4)).block, (ad.add (i * 4)).off + 3, none⟩ = some (.int .i64 x3)) := HXc
          have HYL := Aside0.mk (show (putL ys ⟨x0, ⟨x1, x2⟩, x3⟩).length = i + 1 by rw [putL_len, HY.out])
          clear HO HB HXc HP
          obtain ⟨i0, hi0, _, hsz, _⟩ := info_parts info77
          have hl := HL.out
          have d1 : (0 ≤ (p : Int)) = True := eq_true (by omega)
          have d2 : ((p : Int) ≤ (ys.length : Int)) = True := eq_true (by omega)
          have hcutA := cut_to (P := Tryz.prog) 70 77 .i64 Tryz.underlying70 hi0 Ay ys.length cy (p : Int) (by omega) (by omega) HC0.out
          have hcutB := cut_from (P := Tryz.prog) 70 77 .i64 Tryz.underlying70 hi0 4 hsz Ay ys.length cy (p : Int) (by omega) (by omega)
          have hrA := Kd.C_take (m := (p : Int).toNat) (Kd.C_drew HR0.out) (by omega)
          have hrB := Kd.C_drop (m := (p : Int).toNat) (c := cy) (Kd.C_drew HR0.out) (by omega) HC0.out
          obtain ⟨yA, hyA⟩ : ∃ y_ : List S77, y_ = ys.take (p : Int).toNat := ⟨_, rfl⟩
          obtain ⟨yB, hyB⟩ : ∃ y_ : List S77, y_ = ys.drop (p : Int).toNat := ⟨_, rfl⟩
          have hlA : yA.length = (p : Int).toNat := by rw [hyA, List.length_take]; omega
          have hlB : yB.length = ys.length - (p : Int).toNat := by rw [hyB, List.length_drop]
          rw [← hyA] at hrA
          rw [← hyB] at hrB
          rw [← hlA] at hcutA
          obtain ⟨B1, hB1⟩ : ∃ A1, A1 = (if cy = (p : Int).toNat then Ay else (Ay : Option Addr).map (·.add ((p : Int).toNat * 4))) := ⟨_, rfl⟩
          obtain ⟨cB, hcB⟩ : ∃ c1, c1 = cy - (p : Int).toNat := ⟨_, rfl⟩
          replace hrB : Kd.C k77 wc.drew B1 yB.length yB := by rw [hB1]; exact hrB
          rw [← hlB, ← hB1, ← hcB] at hcutB
          have LA := Aside0.mk (show yA.length + 1 + yB.length < 4398046511104 by have := LM.out; omega)
          have YA := Aside0.mk (show yA = ys.take p from hyA)
          have YB := Aside0.mk (show yB = ys.drop p from hyB)
          have HA := Aside0.mk hrA
          have HB2 := Aside0.mk hrB
          clear hrA hrB hyA hyB hlA hlB hB1 hcB hi0 hsz hl
          refine start_ (n := 16) (S := fun w' => w'.cell? (ad.add (i * 4)) = some (.int .i64 x0) ∧ w'.cell? ⟨(ad.add (i * 4)).block, (ad.add (i * 4)).off + 1, none⟩ = some (.int .i64 x1) ∧ w'.cell? ⟨(ad.add (i * 4)).block, (ad.add (i * 4)).off + 2, none⟩ = some (.int .i64 x2) ∧ w'.cell? ⟨(ad.add (i * 4)).block, (ad.add (i * 4)).off + 3, none⟩ = some (.int .i64 x3)) (ds := []) #[false,false,false,false,false,false,false,false,false,false,false,false,false,false,false,false] (by kernel_rfl) rfl rfl HS.out (fun hHeld => ?_)
          refine with_tabW lk.tab8 lk.bits8 (fun HT_ HW_ => ?_)
          have SX : Aside0 (∀ w', Below wc.drew.heap.size wc.drew w' → w'.cell? (ad.add (i * 4)) = some (.int .i64 x0) ∧ w'.cell? ⟨(ad.add (i * 4)).block, (ad.add (i * 4)).off + 1, none⟩ = some (.int .i64 x1) ∧ w'.cell? ⟨(ad.add (i * 4)).block, (ad.add (i * 4)).off + 2, none⟩ = some (.int .i64 x2) ∧ w'.cell? ⟨(ad.add (i * 4)).block, (ad.add (i * 4)).off + 3, none⟩ = some (.int .i64 x3)) := ⟨fun w' hb => ⟨(hb.cell (World.block_lt_of_cell? _ _ hHeld.1)).trans hHeld.1, (hb.cell (World.block_lt_of_cell? _ _ hHeld.2.1)).trans hHeld.2.1, (hb.cell (World.block_lt_of_cell? _ _ hHeld.2.2.1)).trans hHeld.2.2.1, (hb.cell (World.block_lt_of_cell? _ _ hHeld.2.2.2)).trans hHeld.2.2.2⟩⟩
          generalize wc.drew = WD at HA HB2 HBc hHeld SX HS ⊢
          have HB := Aside0.mk (Below.refl WD.heap.size WD)
          refine pz HT_ 1 38 ?_
          refine pz HT_ 2 39 ?_
          refine pz HT_ 3 40 ?_
          refine pz HT_ 5 42 ?_
          refine pz HT_ 6 43 ?_
          refine pz HT_ 7 44 ?_
          refine tz4 HT_ HW_ hHeld 8 45 ?_
          refine pz HT_ 11 48 ?_
          refine pz HT_ 12 49 ?_
          refine pz HT_ 13 50 ?_
          refine join_ (σ := Value × Value × Value) 3 #[true,true,true,true,true,true,true,true,true,true,false,true,true,true,false,false] (fun s_ => [(37, s_.1), (41, s_.2.1), (46, s_.2.2)]) (fun s_ w' => Kd.R k77 77 w' WD.heap.size (fun k_ => some k_ ≠ (s_.2.2 : Value).ownBlock) s_.2.1 yA ∧ Kd.R k77 77 w' WD.heap.size (fun k_ => some k_ ≠ (s_.2.1 : Value).ownBlock) s_.2.2 [(⟨x0, ⟨x1, x2⟩, x3⟩ : S77)] ∧ Below WD.heap.size WD w') ?_ ?_
          rotate_left
          · intro hCont
            refine two_ (i := 0) (j := 9) (Ni := some 37) (Nj := some 46) #[true,true,true,true,false,true,true,true,true,false,false,true,true,true,false,false] #[false,true,true,true,false,true,true,true,true,true,false,true,true,true,false,false] rfl rfl rfl rfl (two_of HT_.out (by kernel_rfl)) (by decide) (by decide) (fun K hK => ?_) (fun K hK => ?_)
            · refine Kd.R_lit_step k77 _ 77 ?hg (N := 37) ?hd (xs := ([] : List S77)) (inner := []) (ok := fun _ => True) (okp := fun _ => True) ?hr ?hp (fun _ hk => hk) trivial (Below.refl _ _) (Nat.le_refl _) (by simp) ?_; (case hd => rfl); (case hg => rfl); (case hr => first | (go_simp; done) | (go_simp; rfl)); (case hp => exact (Reps.none _ _)); intro v0n wN hoN hb hg_ hnew_; clear hg_ hnew_
              have H0 := Aside0.mk (Kd.R_lower hoN (below_size HB.out)); replace HB := Aside0.mk (below_step HB.out hb); clear hb hoN
              refine hK.out _ _ (SX.out _ HB.out) (fun hHeld => ?_); clear hK K
              refine nz 37 ?_
              refine two_ (i := 4) (j := 9) (Ni := some 41) (Nj := some 46) #[true,true,true,true,true,true,true,true,true,false,false,true,true,true,false,false] #[true,true,true,true,false,true,true,true,true,true,false,true,true,true,false,false] rfl rfl rfl rfl (two_of HT_.out (by kernel_rfl)) (by decide) (by decide) (fun K hK => ?_) (fun K hK => ?_)
              · refine Kd.R_append_rows_step k77 (w0 := WD) WD.heap.size (by rfl) (.tmp 37) (.tmp 40) 70 77 (.agg #[(.int .i64 0), (.int .i64 0), (.int .i64 0), (.int .i64 0)]) 32 rfl Tryz.underlying70 info77 rfl (by decide) (by omega) v0n [] yA _ _ _ (fun _ => True) (fun _ => False) rfl rfl H0.out (Kd.C_below HA.out HB.out) (fun _ _ h => h) (fun _ h => h.elim) (fun _ _ => trivial) HB.out (below_size HB.out) (by have := LA.out; simp; omega) ?_; intro v2n wN hoN hb hg hat
                rw [List.nil_append] at hoN; have H2 := Aside0.mk hoN; replace HB := Aside0.mk hb; clear H0 hoN hb hg hat
                refine hK.out _ _ (SX.out _ HB.out) (fun hHeld => ?_); clear hK K
                refine nz 41 ?_; refine oz HT_ 9 (some 46) (fun K hK => ?_)
                refine Kd.R_lit_step k77 _ 77 ?hg (N := 46) ?hd (xs := ([(⟨x0, ⟨x1, x2⟩, x3⟩ : S77)] : List S77)) (inner := [.int .i64 x0, .int .i64 x1, .int .i64 x2, .int .i64 x3]) (ok := fun _ => True) (okp := fun _ => True) ?hr ?hp (fun _ hk => hk) trivial (Below.refl _ _) (Nat.le_refl _) (by simp) ?_; (case hd => rfl); (case hg => rfl); (case hr => first | (go_simp; done) | (go_simp; rfl)); (case hp => exact (Reps.c4 (show Kd.M k77 _ _ _ (⟨x0, ⟨x1, x2⟩, x3⟩ : S77) [.int .i64 x0, .int .i64 x1, .int .i64 x2, .int .i64 x3] from k77_mkM _ _ _ _) (Reps.none _ _))); intro v1n wN hoN hb hg_ hnew_; clear hg_ hnew_
                have H1 := Aside0.mk (Kd.R_lower (Kd.R_new' hoN (Kd.R_lt H2.out)) (below_size HB.out)); replace H2 := Aside0.mk (Kd.R_elder' H2.out (Kd.R_base hoN) hb); replace HB := Aside0.mk (below_step HB.out hb); clear hb hoN
                refine hK.out _ _ (SX.out _ HB.out) (fun hHeld => ?_); clear hK K
                refine nz 46 ?_
                exact norm_ (by simp only [putAll, Act.put, List.setIfInBounds_toArray, List.set_cons_zero, List.set_cons_succ]) (hCont (v0n, v2n, v1n) _ ⟨(Kd.R_mono H2.out (fun _ hk => hk.2)), (Kd.R_mono H1.out (fun _ hk => hk.2)), HB.out⟩)
              · refine Kd.R_lit_step k77 _ 77 ?hg (N := 46) ?hd (xs := ([(⟨x0, ⟨x1, x2⟩, x3⟩ : S77)] : List S77)) (inner := [.int .i64 x0, .int .i64 x1, .int .i64 x2, .int .i64 x3]) (ok := fun _ => True) (okp := fun _ => True) ?hr ?hp (fun _ hk => hk) trivial (Below.refl _ _) (Nat.le_refl _) (by simp) ?_; (case hd => rfl); (case hg => rfl); (case hr => first | (go_simp; done) | (go_simp; rfl)); (case hp => exact (Reps.c4 (show Kd.M k77 _ _ _ (⟨x0, ⟨x1, x2⟩, x3⟩ : S77) [.int .i64 x0, .int .i64 x1, .int .i64 x2, .int .i64 x3] from k77_mkM _ _ _ _) (Reps.none _ _))); intro v1n wN hoN hb hg_ hnew_; clear hg_ hnew_
                have H1 := Aside0.mk (Kd.R_lower (Kd.R_new' hoN (Kd.R_lt H0.out)) (below_size HB.out)); replace H0 := Aside0.mk (Kd.R_elder' H0.out (Kd.R_base hoN) hb); replace HB := Aside0.mk (below_step HB.out hb); clear hb hoN
                refine hK.out _ _ (SX.out _ HB.out) (fun hHeld => ?_); clear hK K
                refine nz 46 ?_; refine oz HT_ 4 (some 41) (fun K hK => ?_)
                refine Kd.R_append_rows_step k77 (w0 := WD) WD.heap.size (by rfl) (.tmp 37) (.tmp 40) 70 77 (.agg #[(.int .i64 0), (.int .i64 0), (.int .i64 0), (.int .i64 0)]) 32 rfl Tryz.underlying70 info77 rfl (by decide) (by omega) v0n [] yA _ _ _ (fun k_ => some k_ ≠ (v1n : Value).ownBlock) (fun _ => False) rfl rfl (Kd.R_mono H0.out (fun _ hk => hk.2)) (Kd.C_below HA.out HB.out) (fun _ _ h => h) (fun _ h => h.elim) (fun k_ hk => Kd.fresh' (Kd.R_lt H1.out) k_ hk) HB.out (below_size HB.out) (by have := LA.out; simp; omega) ?_; intro v2n wN hoN hb hg hat
                rw [List.nil_append] at hoN; have n0_ := Aside0.mk (Kd.R_after (ok := (fun _ => True)) H1.out hg hat); have H2 := Aside0.mk hoN; replace HB := Aside0.mk hb; clear H1 H0 hoN hb hg hat; have H1 := n0_; clear n0_
                refine hK.out _ _ (SX.out _ HB.out) (fun hHeld => ?_); clear hK K
                refine nz 41 ?_
                exact norm_ (by simp only [putAll, Act.put, List.setIfInBounds_toArray, List.set_cons_zero, List.set_cons_succ]) (hCont (v0n, v2n, v1n) _ ⟨H2.out, (Kd.R_mono H1.out (fun _ hk => hk.2)), HB.out⟩)
            · refine Kd.R_lit_step k77 _ 77 ?hg (N := 46) ?hd (xs := ([(⟨x0, ⟨x1, x2⟩, x3⟩ : S77)] : List S77)) (inner := [.int .i64 x0, .int .i64 x1, .int .i64 x2, .int .i64 x3]) (ok := fun _ => True) (okp := fun _ => True) ?hr ?hp (fun _ hk => hk) trivial (Below.refl _ _) (Nat.le_refl _) (by simp) ?_; (case hd => rfl); (case hg => rfl); (case hr => first | (go_simp; done) | (go_simp; rfl)); (case hp => exact (Reps.c4 (show Kd.M k77 _ _ _ (⟨x0, ⟨x1, x2⟩, x3⟩ : S77) [.int .i64 x0, .int .i64 x1, .int .i64 x2, .int .i64 x3] from k77_mkM _ _ _ _) (Reps.none _ _))); intro v1n wN hoN hb hg_ hnew_; clear hg_ hnew_
              have H1 := Aside0.mk (Kd.R_lower hoN (below_size HB.out)); replace HB := Aside0.mk (below_step HB.out hb); clear hb hoN
              refine hK.out _ _ (SX.out _ HB.out) (fun hHeld => ?_); clear hK K
              refine nz 46 ?_; refine oz HT_ 0 (some 37) (fun K hK => ?_)
              refine Kd.R_lit_step k77 _ 77 ?hg (N := 37) ?hd (xs := ([] : List S77)) (inner := []) (ok := fun _ => True) (okp := fun _ => True) ?hr ?hp (fun _ hk => hk) trivial (Below.refl _ _) (Nat.le_refl _) (by simp) ?_; (case hd => rfl); (case hg => rfl); (case hr => first | (go_simp; done) | (go_simp; rfl)); (case hp => exact (Reps.none _ _)); intro v0n wN hoN hb hg_ hnew_; clear hg_ hnew_
              have H0 := Aside0.mk (Kd.R_lower (Kd.R_new' hoN (Kd.R_lt H1.out)) (below_size HB.out)); replace H1 := Aside0.mk (Kd.R_elder' H1.out (Kd.R_base hoN) hb); replace HB := Aside0.mk (below_step HB.out hb); clear hb hoN
              refine hK.out _ _ (SX.out _ HB.out) (fun hHeld => ?_); clear hK K
              refine nz 37 ?_; refine oz HT_ 4 (some 41) (fun K hK => ?_)
              refine Kd.R_append_rows_step k77 (w0 := WD) WD.heap.size (by rfl) (.tmp 37) (.tmp 40) 70 77 (.agg #[(.int .i64 0), (.int .i64 0), (.int .i64 0), (.int .i64 0)]) 32 rfl Tryz.underlying70 info77 rfl (by decide) (by omega) v0n [] yA _ _ _ (fun k_ => some k_ ≠ (v1n : Value).ownBlock) (fun _ => False) rfl rfl (Kd.R_mono H0.out (fun _ hk => hk.2)) (Kd.C_below HA.out HB.out) (fun _ _ h => h) (fun _ h => h.elim) (fun k_ hk => Kd.fresh' (Kd.R_lt H1.out) k_ hk) HB.out (below_size HB.out) (by have := LA.out; simp; omega) ?_; intro v2n wN hoN hb hg hat
              rw [List.nil_append] at hoN; have n0_ := Aside0.mk (Kd.R_after (ok := (fun _ => True)) H1.out hg hat); have H2 := Aside0.mk hoN; replace HB := Aside0.mk hb; clear H1 H0 hoN hb hg hat; have H1 := n0_; clear n0_
              refine hK.out _ _ (SX.out _ HB.out) (fun hHeld => ?_); clear hK K
              refine nz 41 ?_
              exact norm_ (by simp only [putAll, Act.put, List.setIfInBounds_toArray, List.set_cons_zero, List.set_cons_succ]) (hCont (v0n, v2n, v1n) _ ⟨H2.out, (Kd.R_mono H1.out (fun _ hk => hk.2)), HB.out⟩)
          rintro ⟨v0n, v2n, v1n⟩ wN ⟨h0_, h1_, h2_⟩
          clear HB
          have H2 := Aside0.mk h0_; have H1 := Aside0.mk h1_; have HB := Aside0.mk h2_; clear h0_ h1_ h2_; have hHeld := SX.out _ HB.out; obtain ⟨Ax, cx, ex⟩ := Kd.R_slice H1.out; subst ex
          refine norm_ (a' := ?_) ?_ ?_
          rotate_left
          · show putAll _ _ = _
            simp only [putAll, Act.put, List.setIfInBounds_toArray, List.set_cons_zero, List.set_cons_succ]
            rfl
          refine oz HT_ 10 (some 47) (fun K hK => ?_)
          refine Kd.R_append_rows_step k77 (w0 := WD) WD.heap.size (by rfl) (.tmp 41) (.tmp 46) 70 77 (.agg #[(.int .i64 0), (.int .i64 0), (.int .i64 0), (.int .i64 0)]) 32 rfl Tryz.underlying70 info77 rfl (by decide) (by omega) v2n yA [(⟨x0, ⟨x1, x2⟩, x3⟩ : S77)] _ _ _ (fun _ => True) (fun _ => False) rfl rfl (Kd.R_mono H2.out (fun _ _ => trivial)) (Kd.R_reads' H1.out).2.2 (fun _ _ h => h) (fun _ h => h.elim) (fun _ _ => trivial) HB.out (below_size HB.out) (by have := LA.out; simp; omega) ?_; intro v3n wN hoN hb hg hat
          have H3 := Aside0.mk hoN; replace HB := Aside0.mk hb; clear H1 H2 hoN hb hg hat
          refine hK.out _ _ (SX.out _ HB.out) (fun hHeld => ?_); clear hK K
          refine nz 47 ?_; refine oz HT_ 14 (some 51) (fun K hK => ?_)
          refine Kd.R_append_rows_step k77 (w0 := WD) WD.heap.size (by rfl) (.tmp 47) (.tmp 50) 70 77 (.agg #[(.int .i64 0), (.int .i64 0), (.int .i64 0), (.int .i64 0)]) 32 rfl Tryz.underlying70 info77 rfl (by decide) (by omega) v3n (yA ++ [(⟨x0, ⟨x1, x2⟩, x3⟩ : S77)]) yB _ _ _ (fun _ => True) (fun _ => False) rfl rfl H3.out (Kd.C_below HB2.out HB.out) (fun _ _ h => h) (fun _ h => h.elim) (fun _ _ => trivial) HB.out (below_size HB.out) (by have := LA.out; simp; omega) ?_; intro v4n wN hoN hb hg hat
          have H4 := Aside0.mk hoN; replace HB := Aside0.mk hb; clear H3 hoN hb hg hat
          refine hK.out _ _ (SX.out _ HB.out) (fun hHeld => ?_); clear hK K
          refine nz 51 ?_; refine pz HT_ 15 5 ?_; refine dz HT_ ?_
          obtain ⟨Ay, cy, ey⟩ := Kd.R_slice H4.out; subst ey
          clear HA HB2 hHeld SX HS hcutA hcutB d1 d2
          have HO4 := Aside0.mk (Kd.R_lower H4.out (below_size HBc.out)); have HB4 := Aside0.mk (below_step HBc.out HB.out)
          clear H4 HB HBc
          have e0 := E0.out
          go_wp2_with fail
          go_roundg (l0.length - (i + 1))
          case measure => exact Nat.lt_of_lt_of_le M1.out hg
          case rel => exact ⟨i + 1, putL ys ⟨x0, ⟨x1, x2⟩, x3⟩, by first | rfl | rw [e0], hlt, Nat.le_refl _, HF2, HYL, ⟨by rw [show putL ys ⟨x0, ⟨x1, x2⟩, x3⟩ = (yA ++ [⟨x0, ⟨x1, x2⟩, x3⟩]) ++ yB by rw [YA.out, YB.out]; exact EP.out]; exact HO4.out⟩, HB4⟩
      · have ei : i = l0.length := by omega
        subst ei
        have q1 : ((l0.length : Int) < (l0.length : Int)) = False := eq_false (by omega)
        have hF := HF.out
        rw [List.drop_length, List.foldl_nil] at hF
        subst hF
        clear HF HY
        go_wp2_with fail
        go_meet
        case rel => exact ⟨HO, HB⟩
  case rest =>
    clear HOi HBi
    obtain ⟨HO, HB⟩ := hcut
    generalize wc = W0 at *
    have HX2 := HX.out
    have LS := Aside0.mk (show (sortL l0).length < 2199023255552 by rw [sortL_len]; exact LM0.out)
    generalize sortL l0 = L at HO HX2 LS
    have HX := Aside0.mk HX2
    clear HX2
    obtain ⟨A5, c5, rfl⟩ := Kd.R_slice HO.out
    have HSC := Aside0.mk (Kd.R_reads' HO.out).2.2
    have HSi : Aside0 (Kd.C k77 (W0.alloc (.cells #[] 77 (0, 0))) A5 L.length L) := ⟨Kd.C_alloc (Kd.R_reads' HO.out).2.2 _⟩
    have HOi : Aside0 (Kd.R k77 77 (W0.alloc (.cells #[] 77 (0, 0))) W0.heap.size (fun _ => True) (.slice (some ⟨W0.heap.size, 0, none⟩) 0 0) []) := ⟨⟨fun _ _ => trivial, [], ⟨rfl, .inr ⟨W0.heap.size, 0, #[], rfl, Nat.le_refl _, Array.getElem?_push_size, Nat.le_refl _, by decide, rfl, rfl⟩⟩, Reps.none _ _⟩⟩
    have HBi : Aside0 (Below W0.heap.size W0 (W0.alloc (.cells #[] 77 (0, 0)))) := ⟨below_alloc (Below.refl _ _) _⟩
    have HBW := HB
    clear HO HB
    go_upto_block 4 with (fail)
    go_wp2_with fail
    go_loopg [8, 9] L.length (fun gg s8 s9 wr => ∃ (i : Nat) (out : List S77), s9 = .int .i64 (i : Int) ∧ i ≤ L.length ∧ L.length - i ≤ gg ∧ Aside0 (keptS (wrap64 (a1 * a1)) (L.drop i) out = some r) ∧ Aside0 (out.length ≤ i) ∧ Aside0 (Kd.C k77 wr A5 L.length L) ∧ Aside0 (Kd.R k77 77 wr W0.heap.size (fun _ => True) s8 out) ∧ Aside0 (Below W0.heap.size W0 wr))
    case atStart => exact ⟨0, [], rfl, Nat.zero_le _, by omega, HX, ⟨Nat.le_refl _⟩, HSi, HOi, HBi⟩
    case round =>
      clear HSi HOi HBi HX
      obtain ⟨i, out, rfl, hi, hg, HX, HL, HS, HO, HB⟩ := hrel
      by_cases hlt : i < L.length
      · have q1 : (i : Int) < (L.length : Int) := by omega
        have q0 : 0 ≤ (i : Int) := by omega
        have m1 : L.length - (i + 1) < L.length - i := by omega
        have e0 : wrap64 ((i : Int) + 1) = ((i + 1 : Nat) : Int) := lk_add i (by have := LS.out; omega)
        obtain ⟨ad, rfl, hx0, hx1, hx2, hx3⟩ := at_T77 HS.out (i : Int) q0 q1
        unfold rd_T77 at hx0 hx1 hx2 hx3
        rw [Int.toNat_natCast] at hx0 hx1 hx2 hx3
        have hX := HX.out
        rw [kept_drop hlt] at hX
        generalize L.getD i z77 = x at hx0 hx1 hx2 hx3 hX
        obtain ⟨b0, hk0, hX⟩ := Option.bind_eq_some_iff.mp hX
        have HK0 := Aside0.mk hk0
        have HX2 := Aside0.mk hX
        obtain ⟨x0, ⟨x1, x2⟩, x3⟩ := x
        dsimp only at hx0 hx1 hx2 hx3
        have HXc : Aside0 (wr.cell? (ad.add (i * 4)) = some (.int .i64 x0) ∧ wr.cell? ⟨(ad.add (i * 4)).block, (ad.add (i * 4)).off + 1, none⟩ = some (.int .i64 x1) ∧ wr.cell? ⟨(ad.add (i * 4)).block, (ad.add (i * 4)).off + 2, none⟩ = some (.int .i64 x2) ∧ wr.cell? ⟨(ad.add (i * 4)).block, (ad.add (i * 4)).off + 3, none⟩ = some (.int .i64 x3)) := ⟨⟨hx0, hx1, hx2, hx3⟩⟩
        have M1 := Aside0.mk m1
        have E0 := Aside0.mk e0
        have LMo := Aside0.mk (show out.length < 2199023255552 by have := HL.out; have := LS.out; omega)
        clear hx0 hx1 hx2 hx3 hX hk0 HX m1 e0
        replace q1 := eq_true q1
        replace q0 := eq_true q0
        have q2 := eq_true hlt
        obtain ⟨Ao, co, rfl⟩ := Kd.R_slice HO.out
        go_upto_block 6 with (fail)
        go_cut [10] (fun s10 wq => s10 = .bool b0 ∧ Aside0 (wq.cell? (ad.add (i * 4)) = some (.int .i64 x0) ∧ wq.cell? ⟨(ad.add (i * 4)).block, (ad.add (i * 4)).off + 1, none⟩ = some (.int .i64 x1) ∧ wq.cell? ⟨(ad.add (i * 4)).block, (ad.add (i * 4)).off + 2, none⟩ = some (.int .i64 x2) ∧ wq.cell? ⟨(ad.add (i * 4)).block, (ad.add (i * 4)).off + 3, none⟩ = some (.int .i64 x3)) ∧ Aside0 (Kd.C k77 wq (some ad) L.length L) ∧ Aside0 (Kd.R k77 77 wq W0.heap.size (fun _ => True) (.slice Ao out.length co) out) ∧ Aside0 (Below W0.heap.size W0 wq))
        case first =>
          go_wp2_with fail
          go_loopg [10, 11] out.length (fun gh s10 s11 wq => ∃ (k : Nat) (b : Bool), s10 = .bool b ∧ s11 = .int .i64 (k : Int) ∧ k ≤ out.length ∧ out.length - k ≤ gh ∧ Aside0 (kpS (wrap64 (a1 * a1)) ⟨x0, ⟨x1, x2⟩, x3⟩ (out.drop k) b = some b0) ∧ Aside0 (wq.cell? (ad.add (i * 4)) = some (.int .i64 x0) ∧ wq.cell? ⟨(ad.add (i * 4)).block, (ad.add (i * 4)).off + 1, none⟩ = some (.int .i64 x1) ∧ wq.cell? ⟨(ad.add (i * 4)).block, (ad.add (i * 4)).off + 2, none⟩ = some (.int .i64 x2) ∧ wq.cell? ⟨(ad.add (i * 4)).block, (ad.add (i * 4)).off + 3, none⟩ = some (.int .i64 x3)) ∧ Aside0 (Kd.C k77 wq (some ad) L.length L) ∧ Aside0 (Kd.R k77 77 wq W0.heap.size (fun _ => True) (.slice Ao out.length co) out) ∧ Aside0 (Below W0.heap.size W0 wq))
          case atStart => exact ⟨0, true, rfl, rfl, Nat.zero_le _, by omega, HK0, HXc, HS, HO, HB⟩
          case round =>
            clear HXc HS HO HB HK0
            obtain ⟨k, b, rfl, rfl, hk, hgk, HK0, HXc, HS, HO, HB⟩ := hrel
            by_cases hltk : k < out.length
            · have z1 : (k : Int) < (out.length : Int) := by omega
              have z0 : 0 ≤ (k : Int) := by omega
              have m2 : out.length - (k + 1) < out.length - k := by omega
              have e1 : wrap64 ((k : Int) + 1) = ((k + 1 : Nat) : Int) := lk_add k (by have := LMo.out; omega)
              have hK := HK0.out
              rw [kp_drop hltk] at hK
              cases b with
              | false =>
                have HK2 := Aside0.mk ((if_neg (by decide)).symm.trans hK)
                have E1 := Aside0.mk e1
                have M2 := Aside0.mk m2
                clear hK HK0 e1 m2
                replace z1 := eq_true z1
                go_wp2_with fail
                refine wq_region (by kernel_rfl) (by kernel_rfl) ?_
                iterate 19 (refine wq_step (fun K hK => ?_); go_simp; (first | (refine hK _ ?_; clear hK K) | (apply Exists.intro; refine ⟨fun _ => ?_, hK _ ?_⟩; (first | rfl | (go_simp; done) | (go_simp; rfl)); clear hK K)))
                refine wq_nil ?_
                intro w1 hb
                have q_HXc : Aside0 (w1.cell? (ad.add (i * 4)) = some (.int .i64 x0) ∧ w1.cell? ⟨(ad.add (i * 4)).block, (ad.add (i * 4)).off + 1, none⟩ = some (.int .i64 x1) ∧ w1.cell? ⟨(ad.add (i * 4)).block, (ad.add (i * 4)).off + 2, none⟩ = some (.int .i64 x2) ∧ w1.cell? ⟨(ad.add (i * 4)).block, (ad.add (i * 4)).off + 3, none⟩ = some (.int .i64 x3)) := Aside0.mk (⟨(hb.cell (World.block_lt_of_cell? _ _ HXc.out.1)).trans HXc.out.1, (hb.cell (World.block_lt_of_cell? _ _ HXc.out.2.1)).trans HXc.out.2.1, (hb.cell (World.block_lt_of_cell? _ _ HXc.out.2.2.1)).trans HXc.out.2.2.1, (hb.cell (World.block_lt_of_cell? _ _ HXc.out.2.2.2)).trans HXc.out.2.2.2⟩)
                have q_HS := Aside0.mk (Kd.C_below HS.out hb)
                have q_HO := Aside0.mk (Kd.R_below HO.out hb)
                have q_HB := Aside0.mk (below_step HB.out hb)
                clear hb HXc HS HO HB
                have HXc := q_HXc
                have HS := q_HS
                have HO := q_HO
                have HB := q_HB
                clear q_HXc q_HS q_HO q_HB
                have e1 := E1.out
                go_wp2_with fail
                go_roundg (out.length - (k + 1))
                case measure => exact Nat.lt_of_lt_of_le M2.out hgk
                case rel => exact ⟨k + 1, false, by first | rfl | (simp; done), by first | rfl | rw [e1], hltk, Nat.le_refl _, HK2, HXc, HS, HO, HB⟩
              | true =>
                replace hK := (if_pos rfl).symm.trans hK
                obtain ⟨ad2, rfl, hy0, hy1, hy2, hy3⟩ := at_T77 (Kd.R_reads' HO.out).2.2 (k : Int) z0 z1
                unfold rd_T77 at hy0 hy1 hy2 hy3
                rw [Int.toNat_natCast] at hy0 hy1 hy2 hy3
                generalize out.getD k z77 = y at hy0 hy1 hy2 hy3 hK
                obtain ⟨y0, ⟨y1, y2⟩, y3⟩ := y
                dsimp only at hy0 hy1 hy2 hy3 hK
                obtain ⟨t, hfar, hK⟩ := Option.bind_eq_some_iff.mp hK
                have hY1 := fun (d : Nat) (os : Array Obj) => lkcell hy1 d os
                have hY2 := fun (d : Nat) (os : Array Obj) => lkcell hy2 d os
                have hX1 := fun (d : Nat) (os : Array Obj) => lkcell HXc.out.2.1 d os
                have hX2 := fun (d : Nat) (os : Array Obj) => lkcell HXc.out.2.2.1 d os
                have HFAR := Aside0.mk hfar
                have E1 := Aside0.mk e1
                have M2 := Aside0.mk m2
                have z2 := eq_true hltk
                replace z1 := eq_true z1
                replace z0 := eq_true z0
                obtain ⟨F, hF⟩ : ∃ F, F = wrap64 (a1 * a1) := ⟨_, rfl⟩
                rw [← hF] at hK
                have f1 : wrap64 (a1 * a1) = F := hF.symm
                have f2 : IntKind.i64.wrap (a1 * a1) = F := (i64_w _).trans f1
                by_cases hc : F ≤ t
                · have HK2 : Aside0 (kpS (wrap64 (a1 * a1)) ⟨x0, ⟨x1, x2⟩, x3⟩ (out.drop (k + 1)) true = some b0) := ⟨by rw [f1]; rw [decide_eq_true hc] at hK; exact hK⟩
                  have c1 := eq_true hc
                  clear hK HK0 e1 m2 hfar hy0 hy1 hy2 hy3 hF hc
                  go_wp2_with fail
                  refine wq_region (by kernel_rfl) (by kernel_rfl) ?_
                  iterate 19 (refine wq_step (fun K hK => ?_); go_simp; (first | (refine hK _ ?_; clear hK K) | (apply Exists.intro; refine ⟨fun _ => ?_, hK _ ?_⟩; (first | rfl | (go_simp; done) | (go_simp; rfl) | exact qc (fun W => spec_FarSquared.calls _ _ _ _ _ W HFAR.out) _ _); clear hK K)))
                  refine wq_nil ?_
                  intro w1 hb
                  have q_HXc : Aside0 (w1.cell? (ad.add (i * 4)) = some (.int .i64 x0) ∧ w1.cell? ⟨(ad.add (i * 4)).block, (ad.add (i * 4)).off + 1, none⟩ = some (.int .i64 x1) ∧ w1.cell? ⟨(ad.add (i * 4)).block, (ad.add (i * 4)).off + 2, none⟩ = some (.int .i64 x2) ∧ w1.cell? ⟨(ad.add (i * 4)).block, (ad.add (i * 4)).off + 3, none⟩ = some (.int .i64 x3)) := Aside0.mk (⟨(hb.cell (World.block_lt_of_cell? _ _ HXc.out.1)).trans HXc.out.1, (hb.cell (World.block_lt_of_cell? _ _ HXc.out.2.1)).trans HXc.out.2.1, (hb.cell (World.block_lt_of_cell? _ _ HXc.out.2.2.1)).trans HXc.out.2.2.1, (hb.cell (World.block_lt_of_cell? _ _ HXc.out.2.2.2)).trans HXc.out.2.2.2⟩)
                  have q_HS := Aside0.mk (Kd.C_below HS.out hb)
                  have q_HO := Aside0.mk (Kd.R_below HO.out hb)
                  have q_HB := Aside0.mk (below_step HB.out hb)
                  clear hb HXc HS HO HB
                  have HXc := q_HXc
                  have HS := q_HS
                  have HO := q_HO
                  have HB := q_HB
                  clear q_HXc q_HS q_HO q_HB
                  clear f1 f2 c1
                  have e1 := E1.out
                  go_wp2_with fail
                  go_roundg (out.length - (k + 1))
                  case measure => exact Nat.lt_of_lt_of_le M2.out hgk
                  case rel => exact ⟨k + 1, true, by first | rfl | (simp; done), by first | rfl | rw [e1], hltk, Nat.le_refl _, HK2, HXc, HS, HO, HB⟩
                · have HK2 : Aside0 (kpS (wrap64 (a1 * a1)) ⟨x0, ⟨x1, x2⟩, x3⟩ (out.drop (k + 1)) false = some b0) := ⟨by rw [f1]; rw [decide_eq_false hc] at hK; exact hK⟩
                  have c1 := eq_false hc
                  clear hK HK0 e1 m2 hfar hy0 hy1 hy2 hy3 hF hc
                  go_wp2_with fail
                  refine wq_region (by kernel_rfl) (by kernel_rfl) ?_
                  iterate 19 (refine wq_step (fun K hK => ?_); go_simp; (first | (refine hK _ ?_; clear hK K) | (apply Exists.intro; refine ⟨fun _ => ?_, hK _ ?_⟩; (first | rfl | (go_simp; done) | (go_simp; rfl) | exact qc (fun W => spec_FarSquared.calls _ _ _ _ _ W HFAR.out) _ _); clear hK K)))
                  refine wq_nil ?_
                  intro w1 hb
                  have q_HXc : Aside0 (w1.cell? (ad.add (i * 4)) = some (.int .i64 x0) ∧ w1.cell? ⟨(ad.add (i * 4)).block, (ad.add (i * 4)).off + 1, none⟩ = some (.int .i64 x1) ∧ w1.cell? ⟨(ad.add (i * 4)).block, (ad.add (i * 4)).off + 2, none⟩ = some (.int .i64 x2) ∧ w1.cell? ⟨(ad.add (i * 4)).block, (ad.add (i * 4)).off + 3, none⟩ = some (.int .i64 x3)) := Aside0.mk (⟨(hb.cell (World.block_lt_of_cell? _ _ HXc.out.1)).trans HXc.out.1, (hb.cell (World.block_lt_of_cell? _ _ HXc.out.2.1)).trans HXc.out.2.1, (hb.cell (World.block_lt_of_cell? _ _ HXc.out.2.2.1)).trans HXc.out.2.2.1, (hb.cell (World.block_lt_of_cell? _ _ HXc.out.2.2.2)).trans HXc.out.2.2.2⟩)
                  have q_HS := Aside0.mk (Kd.C_below HS.out hb)
                  have q_HO := Aside0.mk (Kd.R_below HO.out hb)
                  have q_HB := Aside0.mk (below_step HB.out hb)
                  clear hb HXc HS HO HB
                  have HXc := q_HXc
                  have HS := q_HS
                  have HO := q_HO
                  have HB := q_HB
                  clear q_HXc q_HS q_HO q_HB
                  clear f1 f2 c1
                  have e1 := E1.out
                  go_wp2_with fail
                  go_roundg (out.length - (k + 1))
                  case measure => exact Nat.lt_of_lt_of_le M2.out hgk
                  case rel => exact ⟨k + 1, false, by first | rfl | (simp; done), by first | rfl | rw [e1], hltk, Nat.le_refl _, HK2, HXc, HS, HO, HB⟩
            · have ek : k = out.length := by omega
              subst ek
              have z1 : ((out.length : Int) < (out.length : Int)) = False := eq_false (by omega)
              have hK := HK0.out
              rw [List.drop_length, kpS] at hK
              obtain rfl := Option.some.inj hK
              clear hK HK0
              go_wp2_with fail
              go_meet
              case rel => exact ⟨rfl, HXc, HS, HO, HB⟩
        case rest =>
          clear HXc HS HO HB HK0
          obtain ⟨rfl, HXc, HS, HO, HB⟩ := hcut
          have e0 := E0.out
          cases b0 with
          | false =>
            have HX3 := Aside0.mk (show keptS (wrap64 (a1 * a1)) (L.drop (i + 1)) out = some r from HX2.out)
            clear HX2
            go_wp2_with fail
            go_roundg (L.length - (i + 1))
            case measure => exact Nat.lt_of_lt_of_le M1.out hg
            case rel => exact ⟨i + 1, out, by first | rfl | rw [e0], hlt, Nat.le_refl _, HX3, ⟨by have := HL.out; omega⟩, HS, HO, HB⟩
          | true =>
            have HX3 := Aside0.mk (show keptS (wrap64 (a1 * a1)) (L.drop (i + 1)) (out ++ [⟨x0, ⟨x1, x2⟩, x3⟩]) = some r from HX2.out)
            clear HX2
            obtain ⟨p0, p1, p2, p3⟩ := HXc.out
            go_wp2_with (first | ((with_reducible refine gate_dst (N := 89) rfl ?_); (try (refine gate_guard (by rfl) ?_; dsimp only)); refine Kd.R_lit k77 _ 77 ?hg (N := 89) ?hd (xs := ([⟨x0, ⟨x1, x2⟩, x3⟩] : List S77)) (inner := [.int .i64 x0, .int .i64 x1, .int .i64 x2, .int .i64 x3]) (ok := fun _ => True) (okp := fun _ => True) ?hr ?hp (fun _ hk => hk) trivial (Below.refl _ _) (Nat.le_refl _) (by simp) ?_; (case hd => rfl); (case hg => rfl); (case hr => first | (go_simp; done) | (go_simp; rfl)); (case hp => exact (Reps.c4 (show Kd.M k77 _ _ _ (⟨x0, ⟨x1, x2⟩, x3⟩ : S77) [.int .i64 x0, .int .i64 x1, .int .i64 x2, .int .i64 x3] from k77_mkM _ _ _ _) (Reps.none _ _))); intro v11 w11 ho hb hg_ hnew_; clear hg_ hnew_; have n0_ := Aside0.mk (Kd.R_below HO.out hb); have n1_ := Aside0.mk (below_step HB.out hb); have n2_ := Aside0.mk (Kd.C_below HS.out hb); have HN := Aside0.mk ho; clear HO HB HS ho hb p0 p1 p2 p3; have HO := n0_; have HB := n1_; have HS := n2_; clear n0_ n1_ n2_; obtain ⟨Ax, cx, ex⟩ := Kd.R_slice HN.out; subst ex) | ((with_reducible refine gate_builtin (b := .append) (xs := #[.tmp 84, .tmp 89]) rfl ?_); (try (refine gate_guard (by rfl) ?_; dsimp only)); at_builtin; refine Kd.R_append_rows k77 (w0 := W0) W0.heap.size rfl (.tmp 84) (.tmp 89) 70 77 (.agg #[(.int .i64 0), (.int .i64 0), (.int .i64 0), (.int .i64 0)]) 32 rfl Tryz.underlying70 info77 rfl (by decide) (by omega) (.slice Ao out.length co) out [⟨x0, ⟨x1, x2⟩, x3⟩] _ _ _ (fun _ => True) (fun _ => False) rfl rfl HO.out (Kd.R_reads' HN.out).2.2 (fun _ _ h => h) (fun _ h => h.elim) (fun _ _ => trivial) HB.out (below_size HB.out) (by have := LMo.out; simp; omega) ?_; intro v12 w12 ho hb hg_ hat_; have n2_ := Aside0.mk (Kd.C_below HSC.out hb); clear HO HB HS HN; have HO := Aside0.mk ho; have HB := Aside0.mk hb; have HS := n2_; clear n2_ ho hb hg_ hat_))
            go_roundg (L.length - (i + 1))
            case measure => exact Nat.lt_of_lt_of_le M1.out hg
            case rel => exact ⟨i + 1, out ++ [⟨x0, ⟨x1, x2⟩, x3⟩], by first | rfl | rw [e0], hlt, Nat.le_refl _, HX3, ⟨by have := HL.out; simp; omega⟩, HS, HO, HB⟩
      · have ei : i = L.length := by omega
        subst ei
        have q1 : ((L.length : Int) < (L.length : Int)) = False := eq_false (by omega)
        have hX := HX.out
        rw [List.drop_length, keptS] at hX
        obtain rfl := Option.some.inj hX
        clear hX HX
        go_wp2_with fail
        go_ret
        exact ⟨_, rfl, Kd.R_lower HO.out (below_size HBW.out), below_step HBW.out HB.out⟩
def spec_IsName.Fs : List (Spc env) := [spec_l1In.spec]
def spec_IsName.fin : St eΓ → Option (HL eΓ [.b]) := finR env Tryz.f89.results.toList [.b]
def spec_IsName.cut : Nat → Option (List (Lv SC)) := lk [(2, [⟨0, none, false⟩, ⟨3, none, false⟩])]
def spec_IsName.ret (r0 : Bool) : Option (HL eΓ [.b]) := some (r0, ())
def spec_IsName.p2 (k : Nat) (x0 : ByteArray) (x3 : Int) : Option (HL eΓ [.b]) := evM env spec_IsName.Fs Tryz.f89.ntmps spec_IsName.fin spec_IsName.cut k [.code (sub_ [1, 0, 1, 0, 0, 0, 0] (bodyOf Tryz.f89)), .code (sub_ [1, 0, 1, 0, 0, 0, 1] (bodyOf Tryz.f89)), .code (sub_ [1, 0, 1, 0, 0, 1] (bodyOf Tryz.f89)), .lp (sub_ [1, 0, 1, 0, 0] (bodyOf Tryz.f89)), .blk 0, .code (sub_ [1, 1] (bodyOf Tryz.f89))] (mkSt [(0, .c (.v (.string x0))), (3, .c (.v (.int .i64 x3)))] [])
theorem spec_IsName.e2 (k : Nat) (x0 : ByteArray) (x3 : Int) : spec_IsName.p2 (k + 1) x0 x3 = if x3 < (x0.size : Int) then (if 0 ≤ x3 then (if x3 < (x0.size : Int) then (if (bt x0 x3) < 97 then (spec_IsName.ret false) else (if 0 ≤ x3 then (if x3 < (x0.size : Int) then (if (bt x0 x3) > 122 then (spec_IsName.ret false) else (spec_IsName.p2 k x0 (wrap64 (x3 + 1)))) else none) else none)) else none) else none) else (spec_l1In.ap k (x0.size : Int) 1 8 fun r1 => spec_IsName.ret r1) := by kernel_rfl
def spec_IsName.run (k : Nat) (h : HL eΓ [.s]) : Option (HL eΓ [.b]) := evF env spec_IsName.Fs Tryz.f89 spec_IsName.cut [.s] [.b] k h
theorem spec_IsName.ef (k : Nat) (h0 : ByteArray) : spec_IsName.run k (h0, ()) = spec_IsName.p2 k h0 0 := by kernel_rfl
def spec_IsName.toH (t : Bool) : HL eΓ [.b] := (t, ())
def spec_IsName.spec : Spc env := ⟨89, [.s], [.b], spec_IsName.run⟩
def spec_IsName.ap {R : Type} (k : Nat) (h0 : ByteArray) (K : Bool → Option R) : Option R := (spec_IsName.run k (h0, ())).bind fun r => K (r.1 : Bool)
theorem spec_IsName.ap_of {R : Type} {k : Nat} {h0 : ByteArray} {r0 : Bool} {K : Bool → Option R} (h : spec_IsName.run k (h0, ()) = some (r0, ())) : spec_IsName.ap k h0 K = K r0 := by unfold spec_IsName.ap; rw [h]; rfl
theorem spec_IsName.snd : Snd env spec_IsName.spec := evF_snd env_ok (sndC spec_l1In.snd (sndN))
attribute [local irreducible] spec_IsName.run
theorem spec_IsName.rt (a0 : Bool) : spec_IsName.ret a0 = some (spec_IsName.toH (a0)) := rfl
theorem spec_IsName.br (n : Nat) : (∀ K, n ≤ K → ∀ (x0 : ByteArray) (x3 : Int) t, spec_IsName.l0 n x0 x3 = some t → spec_IsName.p2 K x0 x3 = some (spec_IsName.toH t)) := by
  induction n using Nat.strongRecOn with
  | _ n ih =>
  intro K hK x0 x3 t h
  all_goals (rcases n with _ | k)
  all_goals (try (exact nos h))
  all_goals (obtain ⟨K, rfl⟩ : ∃ q, K = q + 1 := ⟨K - 1, by omega⟩)
  all_goals (first | rw [spec_IsName.e2])
  all_goals (simp only [spec_IsName.l0] at h)
  repeat' (with_reducible first
   | exact nos h
   | (cases some_inj h; exact spec_IsName.rt _)
   | exact (ih _ (by omega)) _ (by omega) _ _ _ h
   | (simp only [Option.bind_some] at h)
   | (refine ite_by h ?_ ?_ <;> (intro hc h; (try simp only [nrm] at hc)))
   | refine itT ?_
   | refine itF ?_
   | (refine bind_by h (fun t ht h => ?_); refine (spec_l1In.ap_of (spec_l1In.go ht _)).trans ?_; (try dsimp only at h ⊢))
   | (simp only [nr2] at h ⊢)
   | (exfalso; omega))
theorem spec_IsName.go {k : Nat} {a0 : ByteArray} {t} (h : spec_IsName.f k a0 = some t) (K : Nat) (hK : k ≤ K) : spec_IsName.run K (a0, ()) = some (spec_IsName.toH t) := by
  rw [spec_IsName.ef]
  (try dsimp only)
  unfold spec_IsName.f at h
  repeat' (with_reducible first
   | exact nos h
   | (cases some_inj h; exact spec_IsName.rt _)
   | exact (spec_IsName.br _) _ (by omega) _ _ _ h
   | (simp only [Option.bind_some] at h)
   | (refine ite_by h ?_ ?_ <;> (intro hc h; (try simp only [nrm] at hc)))
   | refine itT ?_
   | refine itF ?_
   | (refine bind_by h (fun t ht h => ?_); refine (spec_l1In.ap_of (spec_l1In.go ht _)).trans ?_; (try dsimp only at h ⊢))
   | (simp only [nr2] at h ⊢)
   | (exfalso; omega))
def spec_IsSegment.toH (t : Bool) : HL eΓ [.b] := (t, ())
def spec_IsSegment.run (k : Nat) (h : HL eΓ [.st .s133]) : Option (HL eΓ [.b]) := (spec_IsSegment.f ((h.1 : S133).f0.f0) ((h.1 : S133).f0.f1) ((h.1 : S133).f1.f0) ((h.1 : S133).f1.f1)).map spec_IsSegment.toH
def spec_IsSegment.spec : Spc env := ⟨164, [.st .s133], [.b], spec_IsSegment.run⟩
def spec_IsSegment.ap {R : Type} (k : Nat) (h0 : S133) (K : Bool → Option R) : Option R := (spec_IsSegment.run k (h0, ())).bind fun r => K (r.1 : Bool)
theorem spec_IsSegment.ap_of {R : Type} {k : Nat} {h0 : S133} {r0 : Bool} {K : Bool → Option R} (h : spec_IsSegment.run k (h0, ()) = some (r0, ())) : spec_IsSegment.ap k h0 K = K r0 := by unfold spec_IsSegment.ap; rw [h]; rfl
theorem spec_IsSegment.go {a0_0 : Int} {a0_1 : Int} {a0_2 : Int} {a0_3 : Int} {t} (h : spec_IsSegment.f a0_0 a0_1 a0_2 a0_3 = some t) (K : Nat) : spec_IsSegment.run K ((⟨(⟨a0_0, a0_1⟩ : S75), (⟨a0_2, a0_3⟩ : S75)⟩ : S133), ()) = some (spec_IsSegment.toH t) := by
  show Option.map _ (spec_IsSegment.f a0_0 a0_1 a0_2 a0_3) = _
  rw [h]; rfl
theorem spec_IsSegment.snd : Snd env spec_IsSegment.spec := ⟨⟨Tryz.f164, by kernel_rfl, by kernel_rfl, by kernel_rfl⟩, fun k h r he w us hA => by
  obtain ⟨t, ht, rfl⟩ := Option.map_eq_some_iff.1 (show (spec_IsSegment.f ((h.1 : S133).f0.f0) ((h.1 : S133).f0.f1) ((h.1 : S133).f1.f0) ((h.1 : S133).f1.f1)).map spec_IsSegment.toH = some r from he)
  match us, hA with
  | [u0], ⟨q0, _⟩ =>
  obtain ⟨v0, rfl, q0⟩ := q0
  have q0 := (H133.K _ _ _).1 q0
  match e0 : v0.toList, q0 with
  | [c0_0, c0_1, c0_2, c0_3], ⟨p0_0, p0_1, p0_2, p0_3, _⟩ =>
  obtain rfl : v0 = #[c0_0, c0_1, c0_2, c0_3] := by rw [← Array.toArray_toList (xs := v0), e0]
  obtain rfl := List.singleton_inj.1 (show [c0_0] = [Value.int .i64 ((h.1 : S133).f0.f0)] from p0_0)
  obtain rfl := List.singleton_inj.1 (show [c0_1] = [Value.int .i64 ((h.1 : S133).f0.f1)] from p0_1)
  obtain rfl := List.singleton_inj.1 (show [c0_2] = [Value.int .i64 ((h.1 : S133).f1.f0)] from p0_2)
  obtain rfl := List.singleton_inj.1 (show [c0_3] = [Value.int .i64 ((h.1 : S133).f1.f1)] from p0_3)
  refine (spec_IsSegment.calls (w := w) (h := ht) ).mono ?_
  rintro e w' ⟨he, hw⟩
  exact ⟨_, he, hw, [.bool t], [fun _ => False], rfl, ⟨rfl, trivial⟩, by simp [DJ]⟩⟩
def spec_l7Segments.Fs : List (Spc env) := []
def spec_l7Segments.fin : St eΓ → Option (HL eΓ [.l 133 (.st .s133)]) := finR env Tryz.f168.results.toList [.l 133 (.st .s133)]
def spec_l7Segments.cut : Nat → Option (List (Lv SC)) := lk [(3, [⟨0, none, false⟩, ⟨3, none, false⟩, ⟨4, none, false⟩])]
def spec_l7Segments.ret (r0 : List S133) : Option (HL eΓ [.l 133 (.st .s133)]) := some (r0, ())
def spec_l7Segments.p3 (k : Nat) (x4 : Int) (x0 : List S75) (x3 : List S133) : Option (HL eΓ [.l 133 (.st .s133)]) := evM env spec_l7Segments.Fs Tryz.f168.ntmps spec_l7Segments.fin spec_l7Segments.cut k [.code (sub_ [1, 1, 0, 1, 0, 0, 0, 0] (bodyOf Tryz.f168)), .code (sub_ [1, 1, 0, 1, 0, 0, 0, 1] (bodyOf Tryz.f168)), .code (sub_ [1, 1, 0, 1, 0, 0, 1] (bodyOf Tryz.f168)), .lp (sub_ [1, 1, 0, 1, 0, 0] (bodyOf Tryz.f168)), .blk 0, .code (sub_ [1, 1, 1] (bodyOf Tryz.f168))] (mkSt [(0, .c (.sl 0)), (3, .c (.sl 1)), (4, .c (.v (.int .i64 x4)))] [.row .ro 75 (.st .s75) x0, .row .own 133 (.st .s133) x3])
theorem spec_l7Segments.e3 (k : Nat) (x4 : Int) (x0 : List S75) (x3 : List S133) : spec_l7Segments.p3 (k + 1) x4 x0 x3 = if x4 < (x0.length : Int) then (if 0 ≤ x4 then (if x4 < (x0.length : Int) then (if (x0.length : Int) = 0 then none else (if 0 ≤ (Int.tmod (wrap64 (x4 + 1)) (x0.length : Int)) then (if (Int.tmod (wrap64 (x4 + 1)) (x0.length : Int)) < (x0.length : Int) then (if (x3.length + 1) * 32 ≤ 140737488355328 then (spec_l7Segments.p3 k (wrap64 (x4 + 1)) x0 (x3 ++ [(⟨(⟨(rd_T75 x0 x4).f0, (rd_T75 x0 x4).f1⟩ : S75), (⟨(rd_T75 x0 (Int.tmod (wrap64 (x4 + 1)) (x0.length : Int))).f0, (rd_T75 x0 (Int.tmod (wrap64 (x4 + 1)) (x0.length : Int))).f1⟩ : S75)⟩ : S133)])) else none) else none) else none)) else none) else none) else (spec_l7Segments.ret x3) := by kernel_rfl
def spec_l7Segments.run (k : Nat) (h : HL eΓ [.l 75 (.st .s75)]) : Option (HL eΓ [.l 133 (.st .s133)]) := evF env spec_l7Segments.Fs Tryz.f168 spec_l7Segments.cut [.l 75 (.st .s75)] [.l 133 (.st .s133)] k h
theorem spec_l7Segments.ef (k : Nat) (h0 : List S75) : spec_l7Segments.run k (h0, ()) = spec_l7Segments.p3 k 0 h0 ([] : List S133) := by kernel_rfl
def spec_l7Segments.toH (t : (List (S133))) : HL eΓ [.l 133 (.st .s133)] := (t, ())
def spec_l7Segments.spec : Spc env := ⟨168, [.l 75 (.st .s75)], [.l 133 (.st .s133)], spec_l7Segments.run⟩
def spec_l7Segments.ap {R : Type} (k : Nat) (h0 : List S75) (K : (List S133) → Option R) : Option R := (spec_l7Segments.run k (h0, ())).bind fun r => K (r.1 : List S133)
theorem spec_l7Segments.ap_of {R : Type} {k : Nat} {h0 : List S75} {r0 : List S133} {K : (List S133) → Option R} (h : spec_l7Segments.run k (h0, ()) = some (r0, ())) : spec_l7Segments.ap k h0 K = K r0 := by unfold spec_l7Segments.ap; rw [h]; rfl
theorem spec_l7Segments.snd : Snd env spec_l7Segments.spec := evF_snd env_ok (sndN)
attribute [local irreducible] spec_l7Segments.run
theorem spec_l7Segments.rt (a0 : List S133) : spec_l7Segments.ret a0 = some (spec_l7Segments.toH (a0)) := rfl
theorem spec_l7Segments.br (n : Nat) : (∀ K, n ≤ K → ∀ (x4 : Int) (x0 : List S75) (x3 : List S133) t, spec_l7Segments.l0 n x0 x3 x4 = some t → spec_l7Segments.p3 K x4 x0 x3 = some (spec_l7Segments.toH t)) := by
  induction n using Nat.strongRecOn with
  | _ n ih =>
  intro K hK x4 x0 x3 t h
  all_goals (rcases n with _ | k)
  all_goals (try (exact nos h))
  all_goals (obtain ⟨K, rfl⟩ : ∃ q, K = q + 1 := ⟨K - 1, by omega⟩)
  all_goals (first | rw [spec_l7Segments.e3])
  all_goals (simp only [spec_l7Segments.l0] at h)
  repeat' (with_reducible first
   | exact nos h
   | (cases some_inj h; exact spec_l7Segments.rt _)
   | exact (ih _ (by omega)) _ (by omega) _ _ _ _ h
   | (simp only [Option.bind_some] at h)
   | (refine ite_by h ?_ ?_ <;> (intro hc h; (try simp only [nrm] at hc)))
   | refine itT ?_
   | refine itF ?_
   | (simp only [nr2] at h ⊢)
   | (exfalso; omega))
theorem spec_l7Segments.go {k : Nat} {l0 : List S75} {t} (h : spec_l7Segments.f k l0 = some t) (K : Nat) (hK : k ≤ K) : spec_l7Segments.run K (l0, ()) = some (spec_l7Segments.toH t) := by
  rw [spec_l7Segments.ef]
  (try dsimp only)
  unfold spec_l7Segments.f at h
  repeat' (with_reducible first
   | exact nos h
   | (cases some_inj h; exact spec_l7Segments.rt _)
   | exact (spec_l7Segments.br _) _ (by omega) _ _ _ _ h
   | (simp only [Option.bind_some] at h)
   | (refine ite_by h ?_ ?_ <;> (intro hc h; (try simp only [nrm] at hc)))
   | refine itT ?_
   | refine itF ?_
   | (simp only [nr2] at h ⊢)
   | (exfalso; omega))
def spec_Min.toH (t : Int) : HL eΓ [.i .i64] := (t, ())
def spec_Min.run (k : Nat) (h : HL eΓ [.i .i64, .i .i64]) : Option (HL eΓ [.i .i64]) := (spec_Min.f (h.1 : Int) (h.2.1 : Int)).map spec_Min.toH
def spec_Min.spec : Spc env := ⟨117, [.i .i64, .i .i64], [.i .i64], spec_Min.run⟩
def spec_Min.ap {R : Type} (k : Nat) (h0 : Int) (h1 : Int) (K : Int → Option R) : Option R := (spec_Min.run k (h0, h1, ())).bind fun r => K (r.1 : Int)
theorem spec_Min.ap_of {R : Type} {k : Nat} {h0 : Int} {h1 : Int} {r0 : Int} {K : Int → Option R} (h : spec_Min.run k (h0, h1, ()) = some (r0, ())) : spec_Min.ap k h0 h1 K = K r0 := by unfold spec_Min.ap; rw [h]; rfl
theorem spec_Min.go {a0 : Int} {a1 : Int} {t} (h : spec_Min.f a0 a1 = some t) (K : Nat) : spec_Min.run K (a0, a1, ()) = some (spec_Min.toH t) := by
  show Option.map _ (spec_Min.f a0 a1) = _
  rw [h]; rfl
theorem spec_Min.snd : Snd env spec_Min.spec := ⟨⟨Tryz.f117, by kernel_rfl, by kernel_rfl, by kernel_rfl⟩, fun k h r he w us hA => by
  obtain ⟨t, ht, rfl⟩ := Option.map_eq_some_iff.1 (show (spec_Min.f (h.1 : Int) (h.2.1 : Int)).map spec_Min.toH = some r from he)
  match us, hA with
  | [u0, u1], ⟨q0, q1, _⟩ =>
  obtain rfl := List.singleton_inj.1 (show [u0] = [Value.int .i64 (h.1 : Int)] from q0)
  obtain rfl := List.singleton_inj.1 (show [u1] = [Value.int .i64 (h.2.1 : Int)] from q1)
  refine (spec_Min.calls (w := w) (h := ht) ).mono ?_
  rintro e w' ⟨he, hw⟩
  exact ⟨_, he, (by obtain ⟨_, rfl⟩ := hw; exact Below.refl _ _), [.int .i64 t], [fun _ => False], rfl, ⟨rfl, trivial⟩, by simp [DJ]⟩⟩
def spec_Max.toH (t : Int) : HL eΓ [.i .i64] := (t, ())
def spec_Max.run (k : Nat) (h : HL eΓ [.i .i64, .i .i64]) : Option (HL eΓ [.i .i64]) := (spec_Max.f (h.1 : Int) (h.2.1 : Int)).map spec_Max.toH
def spec_Max.spec : Spc env := ⟨138, [.i .i64, .i .i64], [.i .i64], spec_Max.run⟩
def spec_Max.ap {R : Type} (k : Nat) (h0 : Int) (h1 : Int) (K : Int → Option R) : Option R := (spec_Max.run k (h0, h1, ())).bind fun r => K (r.1 : Int)
theorem spec_Max.ap_of {R : Type} {k : Nat} {h0 : Int} {h1 : Int} {r0 : Int} {K : Int → Option R} (h : spec_Max.run k (h0, h1, ()) = some (r0, ())) : spec_Max.ap k h0 h1 K = K r0 := by unfold spec_Max.ap; rw [h]; rfl
theorem spec_Max.go {a0 : Int} {a1 : Int} {t} (h : spec_Max.f a0 a1 = some t) (K : Nat) : spec_Max.run K (a0, a1, ()) = some (spec_Max.toH t) := by
  show Option.map _ (spec_Max.f a0 a1) = _
  rw [h]; rfl
theorem spec_Max.snd : Snd env spec_Max.spec := ⟨⟨Tryz.f138, by kernel_rfl, by kernel_rfl, by kernel_rfl⟩, fun k h r he w us hA => by
  obtain ⟨t, ht, rfl⟩ := Option.map_eq_some_iff.1 (show (spec_Max.f (h.1 : Int) (h.2.1 : Int)).map spec_Max.toH = some r from he)
  match us, hA with
  | [u0, u1], ⟨q0, q1, _⟩ =>
  obtain rfl := List.singleton_inj.1 (show [u0] = [Value.int .i64 (h.1 : Int)] from q0)
  obtain rfl := List.singleton_inj.1 (show [u1] = [Value.int .i64 (h.2.1 : Int)] from q1)
  refine (spec_Max.calls (w := w) (h := ht) ).mono ?_
  rintro e w' ⟨he, hw⟩
  exact ⟨_, he, (by obtain ⟨_, rfl⟩ := hw; exact Below.refl _ _), [.int .i64 t], [fun _ => False], rfl, ⟨rfl, trivial⟩, by simp [DJ]⟩⟩
def spec_IsOn.toH (t : Bool) : HL eΓ [.b] := (t, ())
def spec_IsOn.run (k : Nat) (h : HL eΓ [.st .s133, .st .s75]) : Option (HL eΓ [.b]) := (spec_IsOn.f ((h.1 : S133).f0.f0) ((h.1 : S133).f0.f1) ((h.1 : S133).f1.f0) ((h.1 : S133).f1.f1) ((h.2.1 : S75).f0) ((h.2.1 : S75).f1)).map spec_IsOn.toH
def spec_IsOn.spec : Spc env := ⟨203, [.st .s133, .st .s75], [.b], spec_IsOn.run⟩
def spec_IsOn.ap {R : Type} (k : Nat) (h0 : S133) (h1 : S75) (K : Bool → Option R) : Option R := (spec_IsOn.run k (h0, h1, ())).bind fun r => K (r.1 : Bool)
theorem spec_IsOn.ap_of {R : Type} {k : Nat} {h0 : S133} {h1 : S75} {r0 : Bool} {K : Bool → Option R} (h : spec_IsOn.run k (h0, h1, ()) = some (r0, ())) : spec_IsOn.ap k h0 h1 K = K r0 := by unfold spec_IsOn.ap; rw [h]; rfl
theorem spec_IsOn.go {a0_0 : Int} {a0_1 : Int} {a0_2 : Int} {a0_3 : Int} {a1_0 : Int} {a1_1 : Int} {t} (h : spec_IsOn.f a0_0 a0_1 a0_2 a0_3 a1_0 a1_1 = some t) (K : Nat) : spec_IsOn.run K ((⟨(⟨a0_0, a0_1⟩ : S75), (⟨a0_2, a0_3⟩ : S75)⟩ : S133), (⟨a1_0, a1_1⟩ : S75), ()) = some (spec_IsOn.toH t) := by
  show Option.map _ (spec_IsOn.f a0_0 a0_1 a0_2 a0_3 a1_0 a1_1) = _
  rw [h]; rfl
theorem spec_IsOn.snd : Snd env spec_IsOn.spec := ⟨⟨Tryz.f203, by kernel_rfl, by kernel_rfl, by kernel_rfl⟩, fun k h r he w us hA => by
  obtain ⟨t, ht, rfl⟩ := Option.map_eq_some_iff.1 (show (spec_IsOn.f ((h.1 : S133).f0.f0) ((h.1 : S133).f0.f1) ((h.1 : S133).f1.f0) ((h.1 : S133).f1.f1) ((h.2.1 : S75).f0) ((h.2.1 : S75).f1)).map spec_IsOn.toH = some r from he)
  match us, hA with
  | [u0, u1], ⟨q0, q1, _⟩ =>
  obtain ⟨v0, rfl, q0⟩ := q0
  have q0 := (H133.K _ _ _).1 q0
  match e0 : v0.toList, q0 with
  | [c0_0, c0_1, c0_2, c0_3], ⟨p0_0, p0_1, p0_2, p0_3, _⟩ =>
  obtain rfl : v0 = #[c0_0, c0_1, c0_2, c0_3] := by rw [← Array.toArray_toList (xs := v0), e0]
  obtain rfl := List.singleton_inj.1 (show [c0_0] = [Value.int .i64 ((h.1 : S133).f0.f0)] from p0_0)
  obtain rfl := List.singleton_inj.1 (show [c0_1] = [Value.int .i64 ((h.1 : S133).f0.f1)] from p0_1)
  obtain rfl := List.singleton_inj.1 (show [c0_2] = [Value.int .i64 ((h.1 : S133).f1.f0)] from p0_2)
  obtain rfl := List.singleton_inj.1 (show [c0_3] = [Value.int .i64 ((h.1 : S133).f1.f1)] from p0_3)
  obtain ⟨v1, rfl, q1⟩ := q1
  have q1 := (H75.K _ _ _).1 q1
  match e1 : v1.toList, q1 with
  | [c1_0, c1_1], ⟨p1_0, p1_1, _⟩ =>
  obtain rfl : v1 = #[c1_0, c1_1] := by rw [← Array.toArray_toList (xs := v1), e1]
  obtain rfl := List.singleton_inj.1 (show [c1_0] = [Value.int .i64 ((h.2.1 : S75).f0)] from p1_0)
  obtain rfl := List.singleton_inj.1 (show [c1_1] = [Value.int .i64 ((h.2.1 : S75).f1)] from p1_1)
  refine (spec_IsOn.calls (w := w) (h := ht) ).mono ?_
  rintro e w' ⟨he, hw⟩
  exact ⟨_, he, hw, [.bool t], [fun _ => False], rfl, ⟨rfl, trivial⟩, by simp [DJ]⟩⟩
def spec_l5Shared.Fs : List (Spc env) := [spec_IsOn.spec]
def spec_l5Shared.fin : St eΓ → Option (HL eΓ [.i .i64]) := finR env Tryz.f196.results.toList [.i .i64]
def spec_l5Shared.cut : Nat → Option (List (Lv SC)) := lk [(4, [⟨2, none, false⟩, ⟨3, none, false⟩, ⟨5, none, false⟩, ⟨6, none, false⟩, ⟨7, none, false⟩]), (8, [⟨2, none, false⟩, ⟨3, none, false⟩, ⟨5, none, false⟩, ⟨6, none, false⟩, ⟨7, none, false⟩, ⟨8, none, false⟩, ⟨9, none, false⟩])]
def spec_l5Shared.ret (r0 : Int) : Option (HL eΓ [.i .i64]) := some (r0, ())
def spec_l5Shared.p4 (k : Nat) (x7 : Int) (b0_0 : Int) (b0_1 : Int) (b0_2 : Int) (b0_3 : Int) (b1_0 : Int) (b1_1 : Int) (b1_2 : Int) (b1_3 : Int) (x5 : List S75) (x6 : List S75) : Option (HL eΓ [.i .i64]) := evM env spec_l5Shared.Fs Tryz.f196.ntmps spec_l5Shared.fin spec_l5Shared.cut k [.code (sub_ [1, 1, 1, 0, 1, 0, 0, 0, 0] (bodyOf Tryz.f196)), .code (sub_ [1, 1, 1, 0, 1, 0, 0, 0, 1] (bodyOf Tryz.f196)), .code (sub_ [1, 1, 1, 0, 1, 0, 0, 1] (bodyOf Tryz.f196)), .lp (sub_ [1, 1, 1, 0, 1, 0, 0] (bodyOf Tryz.f196)), .blk 0, .code (sub_ [1, 1, 1, 1] (bodyOf Tryz.f196))] (mkSt [(2, .c (.ptr 0 0)), (3, .c (.ptr 1 0)), (5, .c (.sl 2)), (6, .c (.sl 3)), (7, .c (.v (.int .i64 x7)))] [.box 133 [.v (.int .i64 b0_0), .v (.int .i64 b0_1), .v (.int .i64 b0_2), .v (.int .i64 b0_3)], .box 133 [.v (.int .i64 b1_0), .v (.int .i64 b1_1), .v (.int .i64 b1_2), .v (.int .i64 b1_3)], .row .own 75 (.st .s75) x5, .row .own 75 (.st .s75) x6])
def spec_l5Shared.p8 (k : Nat) (x7 : Int) (x8 : Bool) (x9 : Int) (b0_0 : Int) (b0_1 : Int) (b0_2 : Int) (b0_3 : Int) (b1_0 : Int) (b1_1 : Int) (b1_2 : Int) (b1_3 : Int) (x5 : List S75) (x6 : List S75) : Option (HL eΓ [.i .i64]) := evM env spec_l5Shared.Fs Tryz.f196.ntmps spec_l5Shared.fin spec_l5Shared.cut k [.code (sub_ [1, 1, 1, 0, 1, 0, 0, 1, 0, 0, 1, 0, 1, 0, 0, 0, 0] (bodyOf Tryz.f196)), .code (sub_ [1, 1, 1, 0, 1, 0, 0, 1, 0, 0, 1, 0, 1, 0, 0, 0, 1] (bodyOf Tryz.f196)), .code (sub_ [1, 1, 1, 0, 1, 0, 0, 1, 0, 0, 1, 0, 1, 0, 0, 1] (bodyOf Tryz.f196)), .lp (sub_ [1, 1, 1, 0, 1, 0, 0, 1, 0, 0, 1, 0, 1, 0, 0] (bodyOf Tryz.f196)), .blk 2, .code (sub_ [1, 1, 1, 0, 1, 0, 0, 1, 0, 0, 1, 1] (bodyOf Tryz.f196)), .blk 1, .code (sub_ [1, 1, 1, 0, 1, 0, 0, 1, 1] (bodyOf Tryz.f196)), .lp (sub_ [1, 1, 1, 0, 1, 0, 0] (bodyOf Tryz.f196)), .blk 0, .code (sub_ [1, 1, 1, 1] (bodyOf Tryz.f196))] (mkSt [(2, .c (.ptr 0 0)), (3, .c (.ptr 1 0)), (5, .c (.sl 2)), (6, .c (.sl 3)), (7, .c (.v (.int .i64 x7))), (8, .c (.v (.bool x8))), (9, .c (.v (.int .i64 x9)))] [.box 133 [.v (.int .i64 b0_0), .v (.int .i64 b0_1), .v (.int .i64 b0_2), .v (.int .i64 b0_3)], .box 133 [.v (.int .i64 b1_0), .v (.int .i64 b1_1), .v (.int .i64 b1_2), .v (.int .i64 b1_3)], .row .own 75 (.st .s75) x5, .row .own 75 (.st .s75) x6])
theorem spec_l5Shared.e4 (k : Nat) (x7 : Int) (b0_0 : Int) (b0_1 : Int) (b0_2 : Int) (b0_3 : Int) (b1_0 : Int) (b1_1 : Int) (b1_2 : Int) (b1_3 : Int) (x5 : List S75) (x6 : List S75) : spec_l5Shared.p4 (k + 1) x7 b0_0 b0_1 b0_2 b0_3 b1_0 b1_1 b1_2 b1_3 x5 x6 = if x7 < 4 then (if x7 < 2 then (if 0 ≤ x7 then (if x7 < (x6.length : Int) then (spec_IsOn.ap k (⟨(⟨b1_0, b1_1⟩ : S75), (⟨b1_2, b1_3⟩ : S75)⟩ : S133) (⟨(rd_T75 x6 x7).f0, (rd_T75 x6 x7).f1⟩ : S75) fun r1 => if r1 = true then (spec_l5Shared.p8 k x7 true 0 b0_0 b0_1 b0_2 b0_3 b1_0 b1_1 b1_2 b1_3 x5 x6) else (if x7 ≥ 2 then (if 0 ≤ x7 then (if x7 < (x6.length : Int) then (spec_IsOn.ap k (⟨(⟨b0_0, b0_1⟩ : S75), (⟨b0_2, b0_3⟩ : S75)⟩ : S133) (⟨(rd_T75 x6 x7).f0, (rd_T75 x6 x7).f1⟩ : S75) fun r2 => spec_l5Shared.p8 k x7 r2 0 b0_0 b0_1 b0_2 b0_3 b1_0 b1_1 b1_2 b1_3 x5 x6) else none) else none) else (spec_l5Shared.p8 k x7 false 0 b0_0 b0_1 b0_2 b0_3 b1_0 b1_1 b1_2 b1_3 x5 x6))) else none) else none) else (if x7 ≥ 2 then (if 0 ≤ x7 then (if x7 < (x6.length : Int) then (spec_IsOn.ap k (⟨(⟨b0_0, b0_1⟩ : S75), (⟨b0_2, b0_3⟩ : S75)⟩ : S133) (⟨(rd_T75 x6 x7).f0, (rd_T75 x6 x7).f1⟩ : S75) fun r3 => spec_l5Shared.p8 k x7 r3 0 b0_0 b0_1 b0_2 b0_3 b1_0 b1_1 b1_2 b1_3 x5 x6) else none) else none) else (spec_l5Shared.p8 k x7 false 0 b0_0 b0_1 b0_2 b0_3 b1_0 b1_1 b1_2 b1_3 x5 x6))) else (spec_l5Shared.ret (x5.length : Int)) := by kernel_rfl
theorem spec_l5Shared.e8 (k : Nat) (x7 : Int) (x8 : Bool) (x9 : Int) (b0_0 : Int) (b0_1 : Int) (b0_2 : Int) (b0_3 : Int) (b1_0 : Int) (b1_1 : Int) (b1_2 : Int) (b1_3 : Int) (x5 : List S75) (x6 : List S75) : spec_l5Shared.p8 (k + 1) x7 x8 x9 b0_0 b0_1 b0_2 b0_3 b1_0 b1_1 b1_2 b1_3 x5 x6 = if x9 < (x5.length : Int) then (if x8 = true then (if 0 ≤ x9 then (if x9 < (x5.length : Int) then (if 0 ≤ x7 then (if x7 < (x6.length : Int) then (spec_l5Shared.p8 k x7 (decide (¬ (((rd_T75 x5 x9).f0) = ((rd_T75 x6 x7).f0) ∧ (((rd_T75 x5 x9).f1) = ((rd_T75 x6 x7).f1) ∧ True)))) (wrap64 (x9 + 1)) b0_0 b0_1 b0_2 b0_3 b1_0 b1_1 b1_2 b1_3 x5 x6) else none) else none) else none) else none) else (spec_l5Shared.p8 k x7 false (wrap64 (x9 + 1)) b0_0 b0_1 b0_2 b0_3 b1_0 b1_1 b1_2 b1_3 x5 x6)) else (if x8 = true then (if 0 ≤ x7 then (if x7 < (x6.length : Int) then (if (x5.length + 1) * 16 ≤ 140737488355328 then (spec_l5Shared.p4 k (wrap64 (x7 + 1)) b0_0 b0_1 b0_2 b0_3 b1_0 b1_1 b1_2 b1_3 (x5 ++ [(⟨(rd_T75 x6 x7).f0, (rd_T75 x6 x7).f1⟩ : S75)]) x6) else none) else none) else none) else (spec_l5Shared.p4 k (wrap64 (x7 + 1)) b0_0 b0_1 b0_2 b0_3 b1_0 b1_1 b1_2 b1_3 x5 x6)) := by kernel_rfl
def spec_l5Shared.run (k : Nat) (h : HL eΓ [.st .s133, .st .s133]) : Option (HL eΓ [.i .i64]) := evF env spec_l5Shared.Fs Tryz.f196 spec_l5Shared.cut [.st .s133, .st .s133] [.i .i64] k h
theorem spec_l5Shared.ef (k : Nat) (h0 : S133) (h1 : S133) : spec_l5Shared.run k (h0, h1, ()) = spec_l5Shared.p4 k 0 h0.f0.f0 h0.f0.f1 h0.f1.f0 h0.f1.f1 h1.f0.f0 h1.f0.f1 h1.f1.f0 h1.f1.f1 ([] : List S75) ([(⟨h0.f0.f0, h0.f0.f1⟩ : S75), (⟨h0.f1.f0, h0.f1.f1⟩ : S75), (⟨h1.f0.f0, h1.f0.f1⟩ : S75), (⟨h1.f1.f0, h1.f1.f1⟩ : S75)] : List S75) := by kernel_rfl
def spec_l5Shared.toH (t : Int) : HL eΓ [.i .i64] := (t, ())
def spec_l5Shared.spec : Spc env := ⟨196, [.st .s133, .st .s133], [.i .i64], spec_l5Shared.run⟩
theorem spec_l5Shared.snd : Snd env spec_l5Shared.spec := evF_snd env_ok (sndC spec_IsOn.snd (sndN))
attribute [local irreducible] spec_l5Shared.run
theorem spec_l5Shared.rt (a0 : Int) : spec_l5Shared.ret a0 = some (spec_l5Shared.toH (a0)) := rfl
theorem spec_l5Shared.br (n : Nat) : (∀ K, n ≤ K → ∀ (x7 : Int) (b0_0 : Int) (b0_1 : Int) (b0_2 : Int) (b0_3 : Int) (b1_0 : Int) (b1_1 : Int) (b1_2 : Int) (b1_3 : Int) (x5 : List S75) (x6 : List S75) t, spec_l5Shared.l0 n x5 x6 x7 b0_0 b0_1 b0_2 b0_3 b1_0 b1_1 b1_2 b1_3 = some t → spec_l5Shared.p4 K x7 b0_0 b0_1 b0_2 b0_3 b1_0 b1_1 b1_2 b1_3 x5 x6 = some (spec_l5Shared.toH t)) ∧ (∀ K, n ≤ K → ∀ (x7 : Int) (x8 : Bool) (x9 : Int) (b0_0 : Int) (b0_1 : Int) (b0_2 : Int) (b0_3 : Int) (b1_0 : Int) (b1_1 : Int) (b1_2 : Int) (b1_3 : Int) (x5 : List S75) (x6 : List S75) t, spec_l5Shared.l1 n x5 x6 x7 x8 x9 b0_0 b0_1 b0_2 b0_3 b1_0 b1_1 b1_2 b1_3 = some t → spec_l5Shared.p8 K x7 x8 x9 b0_0 b0_1 b0_2 b0_3 b1_0 b1_1 b1_2 b1_3 x5 x6 = some (spec_l5Shared.toH t)) := by
  induction n using Nat.strongRecOn with
  | _ n ih =>
  refine ⟨fun K hK x7 b0_0 b0_1 b0_2 b0_3 b1_0 b1_1 b1_2 b1_3 x5 x6 t h => ?_, fun K hK x7 x8 x9 b0_0 b0_1 b0_2 b0_3 b1_0 b1_1 b1_2 b1_3 x5 x6 t h => ?_⟩
  all_goals (rcases n with _ | k)
  all_goals (try (exact nos h))
  all_goals (obtain ⟨K, rfl⟩ : ∃ q, K = q + 1 := ⟨K - 1, by omega⟩)
  all_goals (first | rw [spec_l5Shared.e4] | rw [spec_l5Shared.e8])
  all_goals (simp only [spec_l5Shared.l0, spec_l5Shared.l1] at h)
  repeat' (with_reducible first
   | exact nos h
   | (cases some_inj h; exact spec_l5Shared.rt _)
   | exact (ih _ (by omega)).1 _ (by omega) _ _ _ _ _ _ _ _ _ _ _ _ h
   | exact (ih _ (by omega)).2 _ (by omega) _ _ _ _ _ _ _ _ _ _ _ _ _ _ h
   | ((have q : spec_l5Shared.j1 k _ _ _ _ _ _ _ _ _ _ _ _ = some _ := h; clear q); rcases k with _ | k <;> simp only [spec_l5Shared.j1, reduceCtorEq] at h)
   | (simp only [Option.bind_some] at h)
   | (refine ite_by h ?_ ?_ <;> (intro hc h; (try simp only [nrm] at hc)))
   | refine itT ?_
   | refine itF ?_
   | (refine bind_by h (fun t ht h => ?_); refine (spec_IsOn.ap_of (spec_IsOn.go ht _)).trans ?_; (try dsimp only at h ⊢))
   | (simp only [nr2] at h ⊢)
   | (exfalso; omega))
theorem spec_l5Shared.go {k : Nat} {a0_0 : Int} {a0_1 : Int} {a0_2 : Int} {a0_3 : Int} {a1_0 : Int} {a1_1 : Int} {a1_2 : Int} {a1_3 : Int} {t} (h : spec_l5Shared.f k a0_0 a0_1 a0_2 a0_3 a1_0 a1_1 a1_2 a1_3 = some t) (K : Nat) (hK : k ≤ K) : spec_l5Shared.run K ((⟨(⟨a0_0, a0_1⟩ : S75), (⟨a0_2, a0_3⟩ : S75)⟩ : S133), (⟨(⟨a1_0, a1_1⟩ : S75), (⟨a1_2, a1_3⟩ : S75)⟩ : S133), ()) = some (spec_l5Shared.toH t) := by
  rw [spec_l5Shared.ef]
  (try dsimp only)
  unfold spec_l5Shared.f at h
  repeat' (with_reducible first
   | exact nos h
   | (cases some_inj h; exact spec_l5Shared.rt _)
   | exact (spec_l5Shared.br _).1 _ (by omega) _ _ _ _ _ _ _ _ _ _ _ _ h
   | exact (spec_l5Shared.br _).2 _ (by omega) _ _ _ _ _ _ _ _ _ _ _ _ _ _ h
   | ((have q : spec_l5Shared.j1 k _ _ _ _ _ _ _ _ _ _ _ _ = some _ := h; clear q); rcases k with _ | k <;> simp only [spec_l5Shared.j1, reduceCtorEq] at h)
   | (simp only [Option.bind_some] at h)
   | (refine ite_by h ?_ ?_ <;> (intro hc h; (try simp only [nrm] at hc)))
   | refine itT ?_
   | refine itF ?_
   | (refine bind_by h (fun t ht h => ?_); refine (spec_IsOn.ap_of (spec_IsOn.go ht _)).trans ?_; (try dsimp only at h ⊢))
   | (simp only [nr2] at h ⊢)
   | (exfalso; omega))
theorem spec_l5Shared.calls (k : Nat) (a0_0 : Int) (a0_1 : Int) (a0_2 : Int) (a0_3 : Int) (a1_0 : Int) (a1_1 : Int) (a1_2 : Int) (a1_3 : Int) (r : Int) (w : World) (h : spec_l5Shared.f k a0_0 a0_1 a0_2 a0_3 a1_0 a1_1 a1_2 a1_3 = some r) :
  Calls Tryz.prog 196 #[.agg #[.int .i64 a0_0, .int .i64 a0_1, .int .i64 a0_2, .int .i64 a0_3], .agg #[.int .i64 a1_0, .int .i64 a1_1, .int .i64 a1_2, .int .i64 a1_3]] w fun e w' => e = .returned (.int .i64 r) ∧ Below w.heap.size w w' := by
  refine (spec_l5Shared.snd.calls _ _ _ (spec_l5Shared.go h k (Nat.le_refl k)) w [.agg #[.int .i64 a0_0, .int .i64 a0_1, .int .i64 a0_2, .int .i64 a0_3], .agg #[.int .i64 a1_0, .int .i64 a1_1, .int .i64 a1_2, .int .i64 a1_3]] ⟨⟨_, rfl, (H133.K _ _ _).2 ⟨rfl, rfl, rfl, rfl, trivial⟩⟩, ⟨_, rfl, (H133.K _ _ _).2 ⟨rfl, rfl, rfl, rfl, trivial⟩⟩, trivial⟩).mono ?_
  rintro e w' ⟨v, rfl, hB, vs, oks, rfl, hR, _⟩
  obtain ⟨x0_, vs, o0_, oks, rfl, rfl, m0_, hR⟩ := rmsC hR
  obtain rfl := rmsN hR
  obtain rfl := List.singleton_inj.1 (show [x0_] = [Value.int .i64 r] from m0_)
  exact ⟨rfl, hB⟩
theorem spec_HowMeet.any (a b c d e f g h : Int) (w : World) : Calls Tryz.prog 180 #[.agg #[.int .i64 a, .int .i64 b, .int .i64 c, .int .i64 d], .agg #[.int .i64 e, .int .i64 f, .int .i64 g, .int .i64 h]] w fun e_ w' => e_ = .returned (.int .i64 (howS a b c d e f g h)) ∧ Below w.heap.size w w' := by
  unfold howS
  cases hs : isSeg a b c d
  · rw [if_pos (.inl rfl)]; exact spec_HowMeet.no1 a b c d e f g h hs w
  · cases ht : isSeg e f g h
    · rw [if_pos (.inr rfl)]; exact spec_HowMeet.no2 a b c d e f g h hs ht w
    · obtain ⟨y1, y2⟩ := wrap_three _ _ (sd_bd a b c d e f) (sd_bd a b c d g h); obtain ⟨y3, y4⟩ := wrap_three _ _ (sd_bd e f g h a b) (sd_bd e f g h c d); obtain ⟨K, hK⟩ := share_s a b c d e f g h; refine (spec_HowMeet.wlk a b c d e f g h _ _ _ _ _ _ (shareI a b c d e f g h) _ _ _ _ hs ht rfl rfl rfl rfl rfl rfl rfl rfl rfl rfl y2 y4 (fun W => spec_l5Shared.calls K _ _ _ _ _ _ _ _ _ W (hK K (Nat.le_refl _))) w).mono ?_; rintro e_ w' ⟨rfl, hb⟩; refine ⟨?_, hb⟩; rw [y1, y3, if_neg (show ¬ (true = false ∨ true = false) by simp)]; simp only [Bool.or_eq_true, decide_eq_true_eq, or_assoc]
theorem spec_HowMeet.calls (a0_0 : Int) (a0_1 : Int) (a0_2 : Int) (a0_3 : Int) (a1_0 : Int) (a1_1 : Int) (a1_2 : Int) (a1_3 : Int) (r : Int) (w : World) (h : spec_HowMeet.f a0_0 a0_1 a0_2 a0_3 a1_0 a1_1 a1_2 a1_3 = some r) :
    Calls Tryz.prog 180 #[.agg #[.int .i64 a0_0, .int .i64 a0_1, .int .i64 a0_2, .int .i64 a0_3], .agg #[.int .i64 a1_0, .int .i64 a1_1, .int .i64 a1_2, .int .i64 a1_3]] w fun e w' => e = .returned (.int .i64 r) ∧ Below w.heap.size w w' := by
  obtain rfl := Option.some.inj h
  exact spec_HowMeet.any a0_0 a0_1 a0_2 a0_3 a1_0 a1_1 a1_2 a1_3 w
def spec_HowMeet.toH (t : Int) : HL eΓ [.i .i64] := (t, ())
def spec_HowMeet.run (k : Nat) (h : HL eΓ [.st .s133, .st .s133]) : Option (HL eΓ [.i .i64]) := (spec_HowMeet.f ((h.1 : S133).f0.f0) ((h.1 : S133).f0.f1) ((h.1 : S133).f1.f0) ((h.1 : S133).f1.f1) ((h.2.1 : S133).f0.f0) ((h.2.1 : S133).f0.f1) ((h.2.1 : S133).f1.f0) ((h.2.1 : S133).f1.f1)).map spec_HowMeet.toH
def spec_HowMeet.spec : Spc env := ⟨180, [.st .s133, .st .s133], [.i .i64], spec_HowMeet.run⟩
def spec_HowMeet.ap {R : Type} (k : Nat) (h0 : S133) (h1 : S133) (K : Int → Option R) : Option R := (spec_HowMeet.run k (h0, h1, ())).bind fun r => K (r.1 : Int)
theorem spec_HowMeet.ap_of {R : Type} {k : Nat} {h0 : S133} {h1 : S133} {r0 : Int} {K : Int → Option R} (h : spec_HowMeet.run k (h0, h1, ()) = some (r0, ())) : spec_HowMeet.ap k h0 h1 K = K r0 := by unfold spec_HowMeet.ap; rw [h]; rfl
theorem spec_HowMeet.go {a0_0 : Int} {a0_1 : Int} {a0_2 : Int} {a0_3 : Int} {a1_0 : Int} {a1_1 : Int} {a1_2 : Int} {a1_3 : Int} {t} (h : spec_HowMeet.f a0_0 a0_1 a0_2 a0_3 a1_0 a1_1 a1_2 a1_3 = some t) (K : Nat) : spec_HowMeet.run K ((⟨(⟨a0_0, a0_1⟩ : S75), (⟨a0_2, a0_3⟩ : S75)⟩ : S133), (⟨(⟨a1_0, a1_1⟩ : S75), (⟨a1_2, a1_3⟩ : S75)⟩ : S133), ()) = some (spec_HowMeet.toH t) := by
  show Option.map _ (spec_HowMeet.f a0_0 a0_1 a0_2 a0_3 a1_0 a1_1 a1_2 a1_3) = _
  rw [h]; rfl
theorem spec_HowMeet.snd : Snd env spec_HowMeet.spec := ⟨⟨Tryz.f180, by kernel_rfl, by kernel_rfl, by kernel_rfl⟩, fun k h r he w us hA => by
  obtain ⟨t, ht, rfl⟩ := Option.map_eq_some_iff.1 (show (spec_HowMeet.f ((h.1 : S133).f0.f0) ((h.1 : S133).f0.f1) ((h.1 : S133).f1.f0) ((h.1 : S133).f1.f1) ((h.2.1 : S133).f0.f0) ((h.2.1 : S133).f0.f1) ((h.2.1 : S133).f1.f0) ((h.2.1 : S133).f1.f1)).map spec_HowMeet.toH = some r from he)
  match us, hA with
  | [u0, u1], ⟨q0, q1, _⟩ =>
  obtain ⟨v0, rfl, q0⟩ := q0
  have q0 := (H133.K _ _ _).1 q0
  match e0 : v0.toList, q0 with
  | [c0_0, c0_1, c0_2, c0_3], ⟨p0_0, p0_1, p0_2, p0_3, _⟩ =>
  obtain rfl : v0 = #[c0_0, c0_1, c0_2, c0_3] := by rw [← Array.toArray_toList (xs := v0), e0]
  obtain rfl := List.singleton_inj.1 (show [c0_0] = [Value.int .i64 ((h.1 : S133).f0.f0)] from p0_0)
  obtain rfl := List.singleton_inj.1 (show [c0_1] = [Value.int .i64 ((h.1 : S133).f0.f1)] from p0_1)
  obtain rfl := List.singleton_inj.1 (show [c0_2] = [Value.int .i64 ((h.1 : S133).f1.f0)] from p0_2)
  obtain rfl := List.singleton_inj.1 (show [c0_3] = [Value.int .i64 ((h.1 : S133).f1.f1)] from p0_3)
  obtain ⟨v1, rfl, q1⟩ := q1
  have q1 := (H133.K _ _ _).1 q1
  match e1 : v1.toList, q1 with
  | [c1_0, c1_1, c1_2, c1_3], ⟨p1_0, p1_1, p1_2, p1_3, _⟩ =>
  obtain rfl : v1 = #[c1_0, c1_1, c1_2, c1_3] := by rw [← Array.toArray_toList (xs := v1), e1]
  obtain rfl := List.singleton_inj.1 (show [c1_0] = [Value.int .i64 ((h.2.1 : S133).f0.f0)] from p1_0)
  obtain rfl := List.singleton_inj.1 (show [c1_1] = [Value.int .i64 ((h.2.1 : S133).f0.f1)] from p1_1)
  obtain rfl := List.singleton_inj.1 (show [c1_2] = [Value.int .i64 ((h.2.1 : S133).f1.f0)] from p1_2)
  obtain rfl := List.singleton_inj.1 (show [c1_3] = [Value.int .i64 ((h.2.1 : S133).f1.f1)] from p1_3)
  refine (spec_HowMeet.calls (w := w) (h := ht) ).mono ?_
  rintro e w' ⟨he, hw⟩
  exact ⟨_, he, hw, [.int .i64 t], [fun _ => False], rfl, ⟨rfl, trivial⟩, by simp [DJ]⟩⟩
def spec_IsRing.Fs : List (Spc env) := [spec_l1In.spec, spec_l7Segments.spec, spec_IsSegment.spec, spec_HowMeet.spec]
def spec_IsRing.fin : St eΓ → Option (HL eΓ [.b]) := finR env Tryz.f137.results.toList [.b]
def spec_IsRing.cut : Nat → Option (List (Lv SC)) := lk [(5, [⟨3, none, false⟩, ⟨4, none, false⟩]), (10, [⟨3, none, false⟩, ⟨4, none, false⟩, ⟨5, none, false⟩])]
def spec_IsRing.ret (r0 : Bool) : Option (HL eΓ [.b]) := some (r0, ())
def spec_IsRing.p5 (k : Nat) (x4 : Int) (x3 : List S133) : Option (HL eΓ [.b]) := evM env spec_IsRing.Fs Tryz.f137.ntmps spec_IsRing.fin spec_IsRing.cut k [.code (sub_ [1, 1, 1, 0, 1, 0, 0, 0, 0] (bodyOf Tryz.f137)), .code (sub_ [1, 1, 1, 0, 1, 0, 0, 0, 1] (bodyOf Tryz.f137)), .code (sub_ [1, 1, 1, 0, 1, 0, 0, 1] (bodyOf Tryz.f137)), .lp (sub_ [1, 1, 1, 0, 1, 0, 0] (bodyOf Tryz.f137)), .blk 0, .code (sub_ [1, 1, 1, 1] (bodyOf Tryz.f137))] (mkSt [(3, .c (.sl 0)), (4, .c (.v (.int .i64 x4)))] [.row .own 133 (.st .s133) x3])
def spec_IsRing.p10 (k : Nat) (x4 : Int) (x5 : Int) (x3 : List S133) : Option (HL eΓ [.b]) := evM env spec_IsRing.Fs Tryz.f137.ntmps spec_IsRing.fin spec_IsRing.cut k [.code (sub_ [1, 1, 1, 0, 1, 0, 0, 1, 0, 0, 1, 1, 0, 0, 0, 0] (bodyOf Tryz.f137)), .code (sub_ [1, 1, 1, 0, 1, 0, 0, 1, 0, 0, 1, 1, 0, 0, 0, 1] (bodyOf Tryz.f137)), .code (sub_ [1, 1, 1, 0, 1, 0, 0, 1, 0, 0, 1, 1, 0, 0, 1] (bodyOf Tryz.f137)), .lp (sub_ [1, 1, 1, 0, 1, 0, 0, 1, 0, 0, 1, 1, 0, 0] (bodyOf Tryz.f137)), .blk 2, .blk 1, .code (sub_ [1, 1, 1, 0, 1, 0, 0, 1, 1] (bodyOf Tryz.f137)), .lp (sub_ [1, 1, 1, 0, 1, 0, 0] (bodyOf Tryz.f137)), .blk 0, .code (sub_ [1, 1, 1, 1] (bodyOf Tryz.f137))] (mkSt [(3, .c (.sl 0)), (4, .c (.v (.int .i64 x4))), (5, .c (.v (.int .i64 x5)))] [.row .own 133 (.st .s133) x3])
theorem spec_IsRing.e5 (k : Nat) (x4 : Int) (x3 : List S133) : spec_IsRing.p5 (k + 1) x4 x3 = if x4 < (x3.length : Int) then (if 0 ≤ x4 then (if x4 < (x3.length : Int) then (spec_IsSegment.ap k (⟨(⟨(rd_T133 x3 x4).f0.f0, (rd_T133 x3 x4).f0.f1⟩ : S75), (⟨(rd_T133 x3 x4).f1.f0, (rd_T133 x3 x4).f1.f1⟩ : S75)⟩ : S133) fun r1 => if (!r1) = true then (spec_IsRing.ret false) else (spec_IsRing.p10 k x4 0 x3)) else none) else none) else (spec_IsRing.ret true) := by kernel_rfl
theorem spec_IsRing.e10 (k : Nat) (x4 : Int) (x5 : Int) (x3 : List S133) : spec_IsRing.p10 (k + 1) x4 x5 x3 = if x5 < x4 then (if (wrap64 (x5 + 1)) = x4 then (if 0 ≤ x4 then (if x4 < (x3.length : Int) then (if 0 ≤ x5 then (if x5 < (x3.length : Int) then (spec_HowMeet.ap k (⟨(⟨(rd_T133 x3 x4).f0.f0, (rd_T133 x3 x4).f0.f1⟩ : S75), (⟨(rd_T133 x3 x4).f1.f0, (rd_T133 x3 x4).f1.f1⟩ : S75)⟩ : S133) (⟨(⟨(rd_T133 x3 x5).f0.f0, (rd_T133 x3 x5).f0.f1⟩ : S75), (⟨(rd_T133 x3 x5).f1.f0, (rd_T133 x3 x5).f1.f1⟩ : S75)⟩ : S133) fun r1 => if ¬ r1 = 1 then (spec_IsRing.ret false) else (spec_IsRing.p10 k x4 (wrap64 (x5 + 1)) x3)) else none) else none) else none) else none) else (if x5 = 0 then (if (wrap64 (x4 + 1)) = (x3.length : Int) then (if 0 ≤ x4 then (if x4 < (x3.length : Int) then (if 0 ≤ x5 then (if x5 < (x3.length : Int) then (spec_HowMeet.ap k (⟨(⟨(rd_T133 x3 x4).f0.f0, (rd_T133 x3 x4).f0.f1⟩ : S75), (⟨(rd_T133 x3 x4).f1.f0, (rd_T133 x3 x4).f1.f1⟩ : S75)⟩ : S133) (⟨(⟨(rd_T133 x3 x5).f0.f0, (rd_T133 x3 x5).f0.f1⟩ : S75), (⟨(rd_T133 x3 x5).f1.f0, (rd_T133 x3 x5).f1.f1⟩ : S75)⟩ : S133) fun r2 => if ¬ r2 = 1 then (spec_IsRing.ret false) else (spec_IsRing.p10 k x4 (wrap64 (x5 + 1)) x3)) else none) else none) else none) else none) else (if 0 ≤ x4 then (if x4 < (x3.length : Int) then (if 0 ≤ x5 then (if x5 < (x3.length : Int) then (spec_HowMeet.ap k (⟨(⟨(rd_T133 x3 x4).f0.f0, (rd_T133 x3 x4).f0.f1⟩ : S75), (⟨(rd_T133 x3 x4).f1.f0, (rd_T133 x3 x4).f1.f1⟩ : S75)⟩ : S133) (⟨(⟨(rd_T133 x3 x5).f0.f0, (rd_T133 x3 x5).f0.f1⟩ : S75), (⟨(rd_T133 x3 x5).f1.f0, (rd_T133 x3 x5).f1.f1⟩ : S75)⟩ : S133) fun r3 => if ¬ r3 = 0 then (spec_IsRing.ret false) else (spec_IsRing.p10 k x4 (wrap64 (x5 + 1)) x3)) else none) else none) else none) else none)) else (if 0 ≤ x4 then (if x4 < (x3.length : Int) then (if 0 ≤ x5 then (if x5 < (x3.length : Int) then (spec_HowMeet.ap k (⟨(⟨(rd_T133 x3 x4).f0.f0, (rd_T133 x3 x4).f0.f1⟩ : S75), (⟨(rd_T133 x3 x4).f1.f0, (rd_T133 x3 x4).f1.f1⟩ : S75)⟩ : S133) (⟨(⟨(rd_T133 x3 x5).f0.f0, (rd_T133 x3 x5).f0.f1⟩ : S75), (⟨(rd_T133 x3 x5).f1.f0, (rd_T133 x3 x5).f1.f1⟩ : S75)⟩ : S133) fun r4 => if ¬ r4 = 0 then (spec_IsRing.ret false) else (spec_IsRing.p10 k x4 (wrap64 (x5 + 1)) x3)) else none) else none) else none) else none))) else (spec_IsRing.p5 k (wrap64 (x4 + 1)) x3) := by kernel_rfl
def spec_IsRing.run (k : Nat) (h : HL eΓ [.l 75 (.st .s75)]) : Option (HL eΓ [.b]) := evF env spec_IsRing.Fs Tryz.f137 spec_IsRing.cut [.l 75 (.st .s75)] [.b] k h
theorem spec_IsRing.ef (k : Nat) (h0 : List S75) : spec_IsRing.run k (h0, ()) = spec_l1In.ap k (h0.length : Int) 3 10 fun r1 => if (!r1) = true then (spec_IsRing.ret false) else (spec_l7Segments.ap k h0 fun r2 => spec_IsRing.p5 k 0 r2) := by kernel_rfl
def spec_IsRing.toH (t : Bool) : HL eΓ [.b] := (t, ())
def spec_IsRing.spec : Spc env := ⟨137, [.l 75 (.st .s75)], [.b], spec_IsRing.run⟩
def spec_IsRing.ap {R : Type} (k : Nat) (h0 : List S75) (K : Bool → Option R) : Option R := (spec_IsRing.run k (h0, ())).bind fun r => K (r.1 : Bool)
theorem spec_IsRing.ap_of {R : Type} {k : Nat} {h0 : List S75} {r0 : Bool} {K : Bool → Option R} (h : spec_IsRing.run k (h0, ()) = some (r0, ())) : spec_IsRing.ap k h0 K = K r0 := by unfold spec_IsRing.ap; rw [h]; rfl
theorem spec_IsRing.snd : Snd env spec_IsRing.spec := evF_snd env_ok (sndC spec_l1In.snd (sndC spec_l7Segments.snd (sndC spec_IsSegment.snd (sndC spec_HowMeet.snd (sndN)))))
attribute [local irreducible] spec_IsRing.run
theorem spec_IsRing.rt (a0 : Bool) : spec_IsRing.ret a0 = some (spec_IsRing.toH (a0)) := rfl
end
end Go.Proofs.YtkomgmgpgnjooaaGreat.PFnExactUnplaced
