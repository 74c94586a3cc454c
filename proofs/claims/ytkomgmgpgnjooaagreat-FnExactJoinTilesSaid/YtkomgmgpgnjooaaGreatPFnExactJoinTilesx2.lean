-- Written by a program of this session's (evlaw.py).
import Derived.Test.YtkomgmgpgnjooaaGreatPFnExactJoinTilesx1
namespace Go.Proofs.YtkomgmgpgnjooaaGreat.PFnExactJoinTiles
open Go.RowKit Go.Proofs.YtkomgmgpgnjooaaGreatW.PrintWords Go.Proofs.YtkomgmgpgnjooaaGreatW.PrintLast Go.Proofs.YtkomgmgpgnjooaaGreatW.PrintMore Go.Proofs.YtkomgmgpgnjooaaGreatGeo Go.Proofs.YtkomgmgpgnjooaaGreatHand Go.Proofs.YtkomgmgpgnjooaaGreatMeet Go.Proofs.YtkomgmgpgnjooaaGreatQuiet Go.Proofs.YtkomgmgpgnjooaaGreatZ Go.Proofs.YtkomgmgpgnjooaaGreatTwo
open Go Go.Proofs.YtkomgmgpgnjooaaGreatEv
attribute [local go_sem] max2_int min2_int max_two min_two max_three min_three max_four min_four   -- for this text's walks alone
set_option linter.unusedVariables false
set_option linter.unusedSimpArgs false



set_option linter.unusedSimpArgs false

attribute [local go_sem high] eqA75
attribute [local go_sem high] eqAP
set_option linter.unusedVariables false
set_option linter.unusedSimpArgs false
set_option maxRecDepth 100000
noncomputable section
structure S80 where
  f0 : S75
  f1 : S75
def z80 : S80 := ⟨z75, z75⟩
def k80 : Kd S80 := Kd.iso (Kd.pair k75 k75) (fun x : S80 => (x.f0, x.f1))
inductive SC where
  | s52
  | s56
  | s59
  | s75
  | s80
  | s133
  | s136
def scb : SC → SC → Bool
  | .s52, .s52 => true
  | .s56, .s56 => true
  | .s59, .s59 => true
  | .s75, .s75 => true
  | .s80, .s80 => true
  | .s133, .s133 => true
  | .s136, .s136 => true
  | _, _ => false
theorem scbe : ∀ a b, scb a b = true → a = b := by intro a b; cases a <;> cases b <;> first | (intro _; rfl) | (intro h; cases h)
noncomputable def eΓ : SC → Type
  | .s52 => S52
  | .s56 => S56
  | .s59 => S59
  | .s75 => S75
  | .s80 => S80
  | .s133 => S133
  | .s136 => S136
def eFs : SC → List (Ty SC)
  | .s52 => [.i .i64, .i .i64, .i .i64, .s, .l 136 (.st .s136)]
  | .s56 => [.i .i64, .i .i64]
  | .s59 => [.i .i64, .i .i64, .i .i64, .s, .l 75 (.st .s75)]
  | .s75 => [.i .i64, .i .i64]
  | .s80 => [.i .i64, .i .i64, .i .i64, .i .i64]
  | .s133 => [.i .i64, .i .i64, .i .i64, .i .i64]
  | .s136 => [.i .i64, .i .i64]
noncomputable def eOpn : (n : SC) → eΓ n → HL eΓ (eFs n)
  | .s52 => fun (x : S52) => (x.f0, x.f1, x.f2, x.f3, x.f4, ())
  | .s56 => fun (x : S56) => (x.f0, x.f1, ())
  | .s59 => fun (x : S59) => (x.f0, x.f1, x.f2, x.f3, x.f4, ())
  | .s75 => fun (x : S75) => (x.f0, x.f1, ())
  | .s80 => fun (x : S80) => (x.f0.f0, x.f0.f1, x.f1.f0, x.f1.f1, ())
  | .s133 => fun (x : S133) => (x.f0.f0, x.f0.f1, x.f1.f0, x.f1.f1, ())
  | .s136 => fun (x : S136) => (x.f0, x.f1, ())
noncomputable def eSht : (n : SC) → HL eΓ (eFs n) → eΓ n
  | .s52 => fun h => (⟨h.1, h.2.1, h.2.2.1, h.2.2.2.1, h.2.2.2.2.1⟩ : S52)
  | .s56 => fun h => (⟨h.1, h.2.1⟩ : S56)
  | .s59 => fun h => (⟨h.1, h.2.1, h.2.2.1, h.2.2.2.1, h.2.2.2.2.1⟩ : S59)
  | .s75 => fun h => (⟨h.1, h.2.1⟩ : S75)
  | .s80 => fun h => (⟨⟨h.1, h.2.1⟩, ⟨h.2.2.1, h.2.2.2.1⟩⟩ : S80)
  | .s133 => fun h => (⟨⟨h.1, h.2.1⟩, ⟨h.2.2.1, h.2.2.2.1⟩⟩ : S133)
  | .s136 => fun h => (⟨h.1, h.2.1⟩ : S136)
noncomputable def eZ : (n : SC) → eΓ n
  | .s52 => z52
  | .s56 => z56
  | .s59 => z59
  | .s75 => z75
  | .s80 => z80
  | .s133 => z133
  | .s136 => z136
noncomputable def eK : (n : SC) → Kd (eΓ n)
  | .s52 => k52
  | .s56 => k56
  | .s59 => k59
  | .s75 => k75
  | .s80 => k80
  | .s133 => k133
  | .s136 => k136
def tSh : List (Nat × (Bool × Nat)) := [(2, (false, 1)), (3, (false, 1)), (4, (false, 1)), (5, (false, 1)), (6, (false, 1)), (9, (false, 1)), (10, (false, 1)), (11, (false, 1)), (12, (false, 1)), (21, (false, 1)), (22, (false, 1)), (23, (false, 1)), (25, (false, 1)), (27, (false, 1)), (50, (false, 1)), (52, (true, 5)), (56, (true, 2)), (57, (false, 1)), (59, (true, 5)), (73, (false, 1)), (75, (true, 2)), (80, (true, 4)), (99, (false, 1)), (105, (false, 1)), (108, (false, 1)), (133, (true, 4)), (136, (true, 2)), (138, (false, 1)), (146, (false, 1)), (148, (false, 1)), (166, (false, 1)), (194, (false, 1)), (195, (false, 1)), (198, (false, 1)), (199, (false, 1))]
def tZc : List (Nat × List Value) := [(2, [.int .i64 0]), (3, [.int .i64 0]), (4, [.bool false]), (5, [.int .u8 0]), (6, [.int .u8 0]), (9, [.string ⟨#[]⟩]), (10, [.string ⟨#[]⟩]), (11, [.string ⟨#[]⟩]), (12, [.int .u64 0]), (21, [.int .i32 0]), (22, [.slice none 0 0]), (23, [.slice none 0 0]), (25, [.slice none 0 0]), (27, [.slice none 0 0]), (50, [.slice none 0 0]), (52, [.int .i64 0, .int .i64 0, .int .i64 0, .string ⟨#[]⟩, .slice none 0 0]), (56, [.int .i64 0, .int .i64 0]), (57, [.slice none 0 0]), (59, [.int .i64 0, .int .i64 0, .int .i64 0, .string ⟨#[]⟩, .slice none 0 0]), (73, [.slice none 0 0]), (75, [.int .i64 0, .int .i64 0]), (80, [.int .i64 0, .int .i64 0, .int .i64 0, .int .i64 0]), (99, [.slice none 0 0]), (105, [.int .u64 0]), (108, [.slice none 0 0]), (133, [.int .i64 0, .int .i64 0, .int .i64 0, .int .i64 0]), (136, [.int .i64 0, .int .i64 0]), (138, [.int .i64 0]), (146, [.int .u32 0]), (148, [.int .u64 0]), (166, [.int .u64 0]), (194, [.int .u8 0]), (195, [.int .u8 0]), (198, [.int .i32 0]), (199, [.int .i32 0])]
def tFld : List (Nat × List (Nat × Nat × Bool)) := [(52, [(0, 1, false), (1, 1, false), (2, 1, false), (3, 1, false), (4, 1, false)]), (56, [(0, 1, false), (1, 1, false)]), (59, [(0, 1, false), (1, 1, false), (2, 1, false), (3, 1, false), (4, 1, false)]), (75, [(0, 1, false), (1, 1, false)]), (80, [(0, 2, true), (2, 2, true)]), (133, [(0, 2, true), (2, 2, true)]), (136, [(0, 1, false), (1, 1, false)])]
def tSl : List (Nat × (Nat × Ty SC × Nat × Nat × List Value)) := [(22, (52, .st .s52, 5, 64, [.int .i64 0, .int .i64 0, .int .i64 0, .string ⟨#[]⟩, .slice none 0 0])), (23, (3, .i .i64, 1, 8, [.int .i64 0])), (25, (56, .st .s56, 2, 16, [.int .i64 0, .int .i64 0])), (27, (59, .st .s59, 5, 64, [.int .i64 0, .int .i64 0, .int .i64 0, .string ⟨#[]⟩, .slice none 0 0])), (50, (136, .st .s136, 2, 16, [.int .i64 0, .int .i64 0])), (57, (75, .st .s75, 2, 16, [.int .i64 0, .int .i64 0])), (73, (80, .st .s80, 4, 32, [.int .i64 0, .int .i64 0, .int .i64 0, .int .i64 0])), (99, (133, .st .s133, 4, 32, [.int .i64 0, .int .i64 0, .int .i64 0, .int .i64 0])), (108, (5, .i .u8, 1, 1, [.int .u8 0]))]
def tIk : List (Nat × IntKind) := [(2, .i64), (3, .i64), (5, .u8), (6, .u8), (12, .u64), (21, .i32), (105, .u64), (138, .i64), (146, .u32), (148, .u64), (166, .u64), (194, .u8), (195, .u8), (198, .i32), (199, .i32)]
def tStr : List Nat := [9, 10, 11]
def tEq : List (Nat × Nat) := [(56, 2), (75, 2), (136, 2)]
noncomputable def env : Env where
  P := Tryz.prog
  C := SC
  cb := scb
  cbe := scbe
  Γ := eΓ
  fs := eFs
  opn := eOpn
  sht := eSht
  z := eZ
  kst := eK
  sh := lk tSh
  zc := lk tZc
  sl := lk tSl
  ik := lk tIk
  fld := fun t i => (lkF tFld t i).map (·.1)
  pl := fun t => (lk tFld t).map fun l => l.map fun x => (x.1, x.2.1)
  str := fun t => tStr.any (Nat.beq t)
  eqt := fun t n => tEq.any fun p => Nat.beq p.1 t && Nat.beq p.2 n
theorem H52 : KH env k52 (eFs .s52) (eOpn .s52) := KH.iso (KH.pair (KH.one (E := env) (t := (.i .i64)) rfl) (KH.pair (KH.one (E := env) (t := (.i .i64)) rfl) (KH.pair (KH.one (E := env) (t := (.i .i64)) rfl) (KH.pair (KH.one (E := env) (t := .s) rfl) (KH.one (E := env) (t := (.l 136 (.st .s136))) rfl))))) _
theorem H56 : KH env k56 (eFs .s56) (eOpn .s56) := KH.iso (KH.pair (KH.one (E := env) (t := (.i .i64)) rfl) (KH.one (E := env) (t := (.i .i64)) rfl)) _
theorem H59 : KH env k59 (eFs .s59) (eOpn .s59) := KH.iso (KH.pair (KH.one (E := env) (t := (.i .i64)) rfl) (KH.pair (KH.one (E := env) (t := (.i .i64)) rfl) (KH.pair (KH.one (E := env) (t := (.i .i64)) rfl) (KH.pair (KH.one (E := env) (t := .s) rfl) (KH.one (E := env) (t := (.l 75 (.st .s75))) rfl))))) _
theorem H75 : KH env k75 (eFs .s75) (eOpn .s75) := KH.iso (KH.pair (KH.one (E := env) (t := (.i .i64)) rfl) (KH.one (E := env) (t := (.i .i64)) rfl)) _
theorem H80 : KH env k80 (eFs .s80) (eOpn .s80) := KH.iso (KH.pair (H75) (H75)) _
theorem H133 : KH env k133 (eFs .s133) (eOpn .s133) := KH.iso (KH.pair (H75) (H75)) _
theorem H136 : KH env k136 (eFs .s136) (eOpn .s136) := KH.iso (KH.pair (KH.one (E := env) (t := (.i .i64)) rfl) (KH.one (E := env) (t := (.i .i64)) rfl)) _
theorem env_ok : env.Ok := Env.ok_of (E := env) (tSh := tSh) (tZc := tZc) (tFld := tFld) (tSl := tSl) (tIk := tIk) (tStr := tStr) (tEq := tEq) (by kernel_rfl) (by intro n; cases n <;> rfl) (fun n => match n with | .s52 => H52 | .s56 => H56 | .s59 => H59 | .s75 => H75 | .s80 => H80 | .s133 => H133 | .s136 => H136) (by intro n h; cases n <;> rfl) (by intro n x; cases n <;> rfl) (by intro n; cases n <;> rfl) rfl (by kernel_rfl) rfl (by kernel_rfl) (by kernel_rfl) rfl (by kernel_rfl) (by kernel_rfl) (by kernel_rfl) (by kernel_rfl) (by kernel_rfl) rfl rfl (by kernel_rfl) (by kernel_rfl) rfl (by kernel_rfl) rfl (by kernel_rfl) rfl (by kernel_rfl)
set_option maxRecDepth 100000
noncomputable def bodyOf (f : Func) : Code := match f.body with | some c => c | none => .skip
noncomputable def sub_ : List Nat → Code → Code
  | [], c => c
  | i :: r, c => match c with
    | .seq a b => sub_ r (match i with | 0 => a | _ => b)
    | .cond _ a b => sub_ r (match i with | 0 => a | _ => b)
    | .block _ a => sub_ r a
    | .loop a => sub_ r a
    | c => c
theorem sndN : ∀ s ∈ ([] : List (Spc env)), Snd env s := fun _ h => nomatch h
theorem sndC {s : Spc env} {l : List (Spc env)} (h : Snd env s) (hl : ∀ s ∈ l, Snd env s) : ∀ x ∈ s :: l, Snd env x := fun x hx => by rcases List.mem_cons.1 hx with rfl | hx; exact h; exact hl x hx
theorem ite_by {α : Type} {c : Prop} {d : Decidable c} {a b r : α} {p : Prop} (h : @ite α c d a b = r) (x : c → a = r → p) (y : ¬ c → b = r → p) : p := by by_cases q : c; exact x q (by rw [← h, if_pos q]); exact y q (by rw [← h, if_neg q])
theorem bind_by {α β : Type} {x : Option α} {f : α → Option β} {r : β} {p : Prop} (h : x.bind f = some r) (k : ∀ t, x = some t → f t = some r → p) : p := by obtain ⟨t, h1, h2⟩ := Option.bind_eq_some_iff.1 h; exact k t h1 h2
theorem evF_snd {E : Env} (hE : E.Ok) {F : List (Spc E)} (hF : ∀ s ∈ F, Snd E s) {id : FuncId} {fn : Func} {cut : Nat → Option (List (Lv E.C))} {pts rts : List (Ty E.C)} (hf : E.P.funcs[id]? = some fn := by kernel_rfl) (h1 : (fn.name == "runtime.NumGoroutine") = false := by kernel_rfl) (h2 : fn.body.isNone = false := by kernel_rfl) : Snd E ⟨id, pts, rts, fun k h => evF E F fn cut pts rts k h⟩ := ⟨⟨fn, hf, h1, h2⟩, fun k h r he w us hA => evF_calls hE hF hf he w us hA⟩
theorem beqI (a b : Int) : (a == b) = decide (a = b) := by by_cases h : a = b <;> simp [h]
theorem rmsC {E : Env} {w : World} {b : Nat} {t : Ty E.C} {ts : List (Ty E.C)} {h : HL E.Γ (t :: ts)} {vs : List Value} {oks : List (Nat → Prop)} (hR : RMs E w b (t :: ts) h vs oks) : ∃ u us ok os, vs = u :: us ∧ oks = ok :: os ∧ AK E (fun t x cs => (kd E t).M w b ok x cs) t h.1 u ∧ RMs E w b ts h.2 us os := by
  match vs, oks, hR with
  | u :: us, ok :: os, h => exact ⟨u, us, ok, os, rfl, rfl, h.1, h.2⟩
theorem rmsN {E : Env} {w : World} {b : Nat} {h : HL E.Γ ([] : List (Ty E.C))} {vs : List Value} {oks : List (Nat → Prop)} (hR : RMs E w b [] h vs oks) : vs = [] := by
  match vs, oks, hR with
  | [], _, _ => rfl
theorem some_inj {α : Type} {a b : α} (h : some a = some b) : a = b := Option.some.inj h
theorem nos {α : Type} {r : α} {p : Prop} (h : none = some r) : p := nomatch h
theorem tq_nat (n : Nat) (m : Int) : tq (n : Int) m = (n : Int) / m := by rw [tq_eq, Int.tdiv_eq_ediv_of_nonneg (by omega)]
theorem nln : (∀ {α : Type} (a b : List α), (a ++ b).length = a.length + b.length) ∧ (∀ {α : Type} (a : α) (l : List α), (a :: l).length = l.length + 1) ∧ (∀ {α : Type}, ([] : List α).length = 0) := ⟨fun a b => List.length_append, fun a l => rfl, rfl⟩
theorem nrm : (∀ (p : Prop) [Decidable p], (decide p = true) = p) ∧ (∀ a b : Bool, ((a && b) = true) = (a = true ∧ b = true)) ∧ (∀ {α : Type} [BEq α] [LawfulBEq α] (a b : α), (a == b) = true ↔ a = b) ∧ (∀ a : Bool, ((!a) = true) = (a = false)) ∧ (∀ b : Bool, (¬ b = true) = (b = false)) ∧ (∀ b : Bool, (¬ b = false) = (b = true)) ∧ (∀ (p : Prop) [Decidable p], (decide p = false) = ¬ p) ∧ (∀ a b : Bool, ((a || b) = true) = (a = true ∨ b = true)) ∧ ((false = true) = False) ∧ ((true = false) = False) ∧ ((¬ True) = False) ∧ ((¬ False) = True) ∧ (∀ p : Prop, (¬ ¬ p) = p) ∧ (∀ p : Prop, (p ∧ True) = p) :=
  ⟨fun p _ => decide_eq_true_eq, fun a b => Bool.and_eq_true a b, fun a b => beq_iff_eq, by simp, by simp, by simp, fun p _ => by simp, fun a b => Bool.or_eq_true a b, by simp, by simp, by simp, by simp, fun p => by simp [Classical.not_not], by simp⟩
theorem itT {α : Type} {c : Prop} {d : Decidable c} {a b r : α} (h : a = r) (hc : c := by first | assumption | omega | (simp only [nrm]; first | done | assumption | omega) | (simp only [nln] at hc ⊢; omega)) : @ite α c d a b = r := (if_pos hc).trans h
theorem itF {α : Type} {c : Prop} {d : Decidable c} {a b r : α} (h : b = r) (hc : ¬ c := by first | assumption | omega | (simp only [nrm]; first | done | assumption | omega) | (simp only [nln] at hc ⊢; omega)) : @ite α c d a b = r := (if_neg hc).trans h
theorem nr2 : (∀ (p : Prop) [Decidable p], decide (¬ p) = !decide p) ∧ (∀ (p q : Prop) [Decidable p] [Decidable q], decide (p ∧ q) = (decide p && decide q)) ∧ (decide True = true) ∧ (∀ b : Bool, (b && true) = b) ∧ (∀ a b : Bool, (!(a && b)) = (!a || !b)) ∧ (∀ a b : Int, (a == b) = decide (a = b)) ∧ (∀ n : Nat, ((n : Int)).toNat = n) ∧ (∀ {α : Type} (l : List α), l.take l.length = l) := ⟨fun p _ => by simp, fun p q _ _ => by simp, by simp, by simp, by simp, beqI, fun n => Int.toNat_natCast n, fun l => List.take_length⟩
def laws_szPointS.Fs : List (Spc env) := []
def laws_szPointS.cut : Nat → Option (List (Lv SC)) := lk []
def laws_szPointS.ret (r0 : Int) : Option (HL eΓ [.i .i64]) := some (r0, ())
def laws_szPointS.run (k : Nat) (h : HL eΓ [.l 136 (.st .s136), .i .i64]) : Option (HL eΓ [.i .i64]) := evF env laws_szPointS.Fs Tryz.f72 laws_szPointS.cut [.l 136 (.st .s136), .i .i64] [.i .i64] k h
theorem laws_szPointS.ef (k : Nat) (h0 : List S136) (h1 : Int) : laws_szPointS.run k (h0, h1, ()) = if (wrap64 (h1 - (h0.length : Int))) < 0 then (laws_szPointS.ret (-1)) else (laws_szPointS.ret (wrap64 (h1 - (h0.length : Int)))) := by kernel_rfl
def laws_szPointS.toH (t : Int) : HL eΓ [.i .i64] := (t, ())
def laws_szPointS.spec : Spc env := ⟨72, [.l 136 (.st .s136), .i .i64], [.i .i64], laws_szPointS.run⟩
def laws_szPointS.ap {R : Type} (k : Nat) (h0 : List S136) (h1 : Int) (K : Int → Option R) : Option R := (laws_szPointS.run k (h0, h1, ())).bind fun r => K (r.1 : Int)
theorem laws_szPointS.ap_of {R : Type} {k : Nat} {h0 : List S136} {h1 : Int} {r0 : Int} {K : Int → Option R} (h : laws_szPointS.run k (h0, h1, ()) = some (r0, ())) : laws_szPointS.ap k h0 h1 K = K r0 := by unfold laws_szPointS.ap; rw [h]; rfl
theorem laws_szPointS.snd : Snd env laws_szPointS.spec := evF_snd env_ok (sndN)
attribute [local irreducible] laws_szPointS.run
theorem laws_szPointS.rt (a0 : Int) : laws_szPointS.ret a0 = some (laws_szPointS.toH (a0)) := rfl
theorem laws_szPointS.go {l0 : List S136} {a1 : Int} {t} (h : laws_szPointS.f l0 a1 = some t) (K : Nat) : laws_szPointS.run K (l0, a1, ()) = some (laws_szPointS.toH t) := by
  rw [laws_szPointS.ef]
  (try dsimp only)
  unfold laws_szPointS.f at h
  repeat' (with_reducible first
   | exact nos h
   | (cases some_inj h; exact laws_szPointS.rt _)
   | (simp only [Option.bind_some] at h)
   | (refine ite_by h ?_ ?_ <;> (intro hc h; (try simp only [nrm] at hc)))
   | refine itT ?_
   | refine itF ?_
   | (simp only [nr2] at h ⊢)
   | (exfalso; omega))
def laws_szFeature.Fs : List (Spc env) := [laws_szPointS.spec]
def laws_szFeature.cut : Nat → Option (List (Lv SC)) := lk []
def laws_szFeature.ret (r0 : Int) : Option (HL eΓ [.i .i64]) := some (r0, ())
def laws_szFeature.run (k : Nat) (h : HL eΓ [.st .s52, .i .i64]) : Option (HL eΓ [.i .i64]) := evF env laws_szFeature.Fs Tryz.f30 laws_szFeature.cut [.st .s52, .i .i64] [.i .i64] k h
theorem laws_szFeature.ef (k : Nat) (h0 : S52) (h1 : Int) : laws_szFeature.run k (h0, h1, ()) = if (wrap64 (h1 - (h0.f3.size : Int))) < 0 then (laws_szFeature.ret (-1)) else (laws_szPointS.ap k h0.f4 (wrap64 (h1 - (h0.f3.size : Int))) fun r1 => if r1 < 0 then (laws_szFeature.ret (-1)) else (laws_szFeature.ret r1)) := by kernel_rfl
def laws_szFeature.toH (t : Int) : HL eΓ [.i .i64] := (t, ())
def laws_szFeature.spec : Spc env := ⟨30, [.st .s52, .i .i64], [.i .i64], laws_szFeature.run⟩
def laws_szFeature.ap {R : Type} (k : Nat) (h0 : S52) (h1 : Int) (K : Int → Option R) : Option R := (laws_szFeature.run k (h0, h1, ())).bind fun r => K (r.1 : Int)
theorem laws_szFeature.ap_of {R : Type} {k : Nat} {h0 : S52} {h1 : Int} {r0 : Int} {K : Int → Option R} (h : laws_szFeature.run k (h0, h1, ()) = some (r0, ())) : laws_szFeature.ap k h0 h1 K = K r0 := by unfold laws_szFeature.ap; rw [h]; rfl
theorem laws_szFeature.snd : Snd env laws_szFeature.spec := evF_snd env_ok (sndC laws_szPointS.snd (sndN))
attribute [local irreducible] laws_szFeature.run
theorem laws_szFeature.rt (a0 : Int) : laws_szFeature.ret a0 = some (laws_szFeature.toH (a0)) := rfl
theorem laws_szFeature.go {a0_0 : Int} {a0_1 : Int} {a0_2 : Int} {a0_3 : ByteArray} {l0_4 : List S136} {a1 : Int} {t} (h : laws_szFeature.f a0_0 a0_1 a0_2 a0_3 l0_4 a1 = some t) (K : Nat) : laws_szFeature.run K ((⟨a0_0, a0_1, a0_2, a0_3, l0_4⟩ : S52), a1, ()) = some (laws_szFeature.toH t) := by
  rw [laws_szFeature.ef]
  (try dsimp only)
  unfold laws_szFeature.f at h
  repeat' (with_reducible first
   | exact nos h
   | (cases some_inj h; exact laws_szFeature.rt _)
   | (simp only [Option.bind_some] at h)
   | (refine ite_by h ?_ ?_ <;> (intro hc h; (try simp only [nrm] at hc)))
   | refine itT ?_
   | refine itF ?_
   | (refine bind_by h (fun t ht h => ?_); refine (laws_szPointS.ap_of (laws_szPointS.go ht _)).trans ?_; (try dsimp only at h ⊢))
   | (simp only [nr2] at h ⊢)
   | (exfalso; omega))
def laws_szFeatureS.Fs : List (Spc env) := [laws_szFeature.spec]
def laws_szFeatureS.fin : St eΓ → Option (HL eΓ [.i .i64]) := finR env Tryz.f7.results.toList [.i .i64]
def laws_szFeatureS.cut : Nat → Option (List (Lv SC)) := lk [(5, [⟨0, none, false⟩, ⟨1, none, false⟩, ⟨5, none, false⟩])]
def laws_szFeatureS.ret (r0 : Int) : Option (HL eΓ [.i .i64]) := some (r0, ())
def laws_szFeatureS.p5 (k : Nat) (x1 : Int) (x5 : Int) (x0 : List S52) : Option (HL eΓ [.i .i64]) := evM env laws_szFeatureS.Fs Tryz.f7.ntmps laws_szFeatureS.fin laws_szFeatureS.cut k [.code (sub_ [1, 1, 1, 0, 1, 0, 0, 0, 0] (bodyOf Tryz.f7)), .code (sub_ [1, 1, 1, 0, 1, 0, 0, 0, 1] (bodyOf Tryz.f7)), .code (sub_ [1, 1, 1, 0, 1, 0, 0, 1] (bodyOf Tryz.f7)), .lp (sub_ [1, 1, 1, 0, 1, 0, 0] (bodyOf Tryz.f7)), .blk 0, .code (sub_ [1, 1, 1, 1] (bodyOf Tryz.f7))] (mkSt [(0, .c (.sl 0)), (1, .c (.v (.int .i64 x1))), (5, .c (.v (.int .i64 x5)))] [.row .ro 52 (.st .s52) x0])
theorem laws_szFeatureS.e5 (k : Nat) (x1 : Int) (x5 : Int) (x0 : List S52) : laws_szFeatureS.p5 (k + 1) x1 x5 x0 = if x5 < (x0.length : Int) then (if 0 ≤ x5 then (if x5 < (x0.length : Int) then (laws_szFeature.ap k (⟨(rd_T52 x0 x5).f0, (rd_T52 x0 x5).f1, (rd_T52 x0 x5).f2, (rd_T52 x0 x5).f3, (rd_T52 x0 x5).f4⟩ : S52) x1 fun r1 => if r1 < 0 then (laws_szFeatureS.ret (-1)) else (laws_szFeatureS.p5 k r1 (wrap64 (x5 + 1)) x0)) else none) else none) else (laws_szFeatureS.ret x1) := by kernel_rfl
def laws_szFeatureS.run (k : Nat) (h : HL eΓ [.l 52 (.st .s52), .i .i64]) : Option (HL eΓ [.i .i64]) := evF env laws_szFeatureS.Fs Tryz.f7 laws_szFeatureS.cut [.l 52 (.st .s52), .i .i64] [.i .i64] k h
theorem laws_szFeatureS.ef (k : Nat) (h0 : List S52) (h1 : Int) : laws_szFeatureS.run k (h0, h1, ()) = if (wrap64 (h1 - (h0.length : Int))) < 0 then (laws_szFeatureS.ret (-1)) else (laws_szFeatureS.p5 k (wrap64 (h1 - (h0.length : Int))) 0 h0) := by kernel_rfl
def laws_szFeatureS.toH (t : Int) : HL eΓ [.i .i64] := (t, ())
def laws_szFeatureS.spec : Spc env := ⟨7, [.l 52 (.st .s52), .i .i64], [.i .i64], laws_szFeatureS.run⟩
theorem laws_szFeatureS.snd : Snd env laws_szFeatureS.spec := evF_snd env_ok (sndC laws_szFeature.snd (sndN))
attribute [local irreducible] laws_szFeatureS.run
theorem laws_szFeatureS.rt (a0 : Int) : laws_szFeatureS.ret a0 = some (laws_szFeatureS.toH (a0)) := rfl
theorem laws_szFeatureS.br (n : Nat) : (∀ K, n ≤ K → ∀ (x1 : Int) (x5 : Int) (x0 : List S52) t, laws_szFeatureS.l0 n x0 x1 x5 = some t → laws_szFeatureS.p5 K x1 x5 x0 = some (laws_szFeatureS.toH t)) := by
  induction n using Nat.strongRecOn with
  | _ n ih =>
  intro K hK x1 x5 x0 t h
  all_goals (rcases n with _ | k)
  all_goals (try (exact nos h))
  all_goals (obtain ⟨K, rfl⟩ : ∃ q, K = q + 1 := ⟨K - 1, by omega⟩)
  all_goals (first | rw [laws_szFeatureS.e5])
  all_goals (simp only [laws_szFeatureS.l0] at h)
  repeat' (with_reducible first
   | exact nos h
   | (cases some_inj h; exact laws_szFeatureS.rt _)
   | exact (ih _ (by omega)) _ (by omega) _ _ _ _ h
   | (simp only [Option.bind_some] at h)
   | (refine ite_by h ?_ ?_ <;> (intro hc h; (try simp only [nrm] at hc)))
   | refine itT ?_
   | refine itF ?_
   | (refine bind_by h (fun t ht h => ?_); refine (laws_szFeature.ap_of (laws_szFeature.go ht _)).trans ?_; (try dsimp only at h ⊢))
   | (simp only [nr2] at h ⊢)
   | (exfalso; omega))
theorem laws_szFeatureS.go {k : Nat} {l0 : List S52} {a1 : Int} {t} (h : laws_szFeatureS.f k l0 a1 = some t) (K : Nat) (hK : k ≤ K) : laws_szFeatureS.run K (l0, a1, ()) = some (laws_szFeatureS.toH t) := by
  rw [laws_szFeatureS.ef]
  (try dsimp only)
  unfold laws_szFeatureS.f at h
  repeat' (with_reducible first
   | exact nos h
   | (cases some_inj h; exact laws_szFeatureS.rt _)
   | exact (laws_szFeatureS.br _) _ (by omega) _ _ _ _ h
   | (simp only [Option.bind_some] at h)
   | (refine ite_by h ?_ ?_ <;> (intro hc h; (try simp only [nrm] at hc)))
   | refine itT ?_
   | refine itF ?_
   | (refine bind_by h (fun t ht h => ?_); refine (laws_szFeature.ap_of (laws_szFeature.go ht _)).trans ?_; (try dsimp only at h ⊢))
   | (simp only [nr2] at h ⊢)
   | (exfalso; omega))
theorem laws_szFeatureS.calls (k : Nat) (A0 : Option Addr) (c0 : Nat) (l0 : List (S52)) (a1 : Int) (r : Int) (w : World) (hr0 : Kd.C k52 w A0 l0.length l0) (hc0 : l0.length ≤ c0) (h : laws_szFeatureS.f k l0 a1 = some r) :
  Calls Tryz.prog 7 #[.slice A0 l0.length c0, .int .i64 a1] w fun e w' => e = .returned (.int .i64 r) ∧ Below w.heap.size w w' := by
  refine (laws_szFeatureS.snd.calls _ _ _ (laws_szFeatureS.go h k (Nat.le_refl k)) w [.slice A0 l0.length c0, .int .i64 a1] ⟨⟨_, _, rfl, hc0, hr0⟩, rfl, trivial⟩).mono ?_
  rintro e w' ⟨v, rfl, hB, vs, oks, rfl, hR, _⟩
  obtain ⟨x0_, vs, o0_, oks, rfl, rfl, m0_, hR⟩ := rmsC hR
  obtain rfl := rmsN hR
  obtain rfl := List.singleton_inj.1 (show [x0_] = [Value.int .i64 r] from m0_)
  exact ⟨rfl, hB⟩
def impl_InRange.toH (t : Bool) : HL eΓ [.b] := (t, ())
def impl_InRange.run (k : Nat) (h : HL eΓ [.i .i64, .i .i64, .i .i64]) : Option (HL eΓ [.b]) := (impl_InRange.f (h.1 : Int) (h.2.1 : Int) (h.2.2.1 : Int)).map impl_InRange.toH
def impl_InRange.spec : Spc env := ⟨104, [.i .i64, .i .i64, .i .i64], [.b], impl_InRange.run⟩
def impl_InRange.ap {R : Type} (k : Nat) (h0 : Int) (h1 : Int) (h2 : Int) (K : Bool → Option R) : Option R := (impl_InRange.run k (h0, h1, h2, ())).bind fun r => K (r.1 : Bool)
theorem impl_InRange.ap_of {R : Type} {k : Nat} {h0 : Int} {h1 : Int} {h2 : Int} {r0 : Bool} {K : Bool → Option R} (h : impl_InRange.run k (h0, h1, h2, ()) = some (r0, ())) : impl_InRange.ap k h0 h1 h2 K = K r0 := by unfold impl_InRange.ap; rw [h]; rfl
theorem impl_InRange.go {a0 : Int} {a1 : Int} {a2 : Int} {t} (h : impl_InRange.f a0 a1 a2 = some t) (K : Nat) : impl_InRange.run K (a0, a1, a2, ()) = some (impl_InRange.toH t) := by
  show Option.map _ (impl_InRange.f a0 a1 a2) = _
  rw [h]; rfl
theorem impl_InRange.snd : Snd env impl_InRange.spec := ⟨⟨Tryz.f104, by kernel_rfl, by kernel_rfl, by kernel_rfl⟩, fun k h r he w us hA => by
  obtain ⟨t, ht, rfl⟩ := Option.map_eq_some_iff.1 (show (impl_InRange.f (h.1 : Int) (h.2.1 : Int) (h.2.2.1 : Int)).map impl_InRange.toH = some r from he)
  match us, hA with
  | [u0, u1, u2], ⟨q0, q1, q2, _⟩ =>
  obtain rfl := List.singleton_inj.1 (show [u0] = [Value.int .i64 (h.1 : Int)] from q0)
  obtain rfl := List.singleton_inj.1 (show [u1] = [Value.int .i64 (h.2.1 : Int)] from q1)
  obtain rfl := List.singleton_inj.1 (show [u2] = [Value.int .i64 (h.2.2.1 : Int)] from q2)
  refine (impl_InRange.calls (w := w) (h := ht) ).mono ?_
  rintro e w' ⟨he, hw⟩
  exact ⟨_, he, (by obtain ⟨_, rfl⟩ := hw; exact Below.refl _ _), [.bool t], [fun _ => False], rfl, ⟨rfl, trivial⟩, by simp [DJ]⟩⟩
def impl_IsPoint.toH (t : Bool) : HL eΓ [.b] := (t, ())
def impl_IsPoint.run (k : Nat) (h : HL eΓ [.st .s75]) : Option (HL eΓ [.b]) := (impl_IsPoint.f ((h.1 : S75).f0) ((h.1 : S75).f1)).map impl_IsPoint.toH
def impl_IsPoint.spec : Spc env := ⟨102, [.st .s75], [.b], impl_IsPoint.run⟩
def impl_IsPoint.ap {R : Type} (k : Nat) (h0 : S75) (K : Bool → Option R) : Option R := (impl_IsPoint.run k (h0, ())).bind fun r => K (r.1 : Bool)
theorem impl_IsPoint.ap_of {R : Type} {k : Nat} {h0 : S75} {r0 : Bool} {K : Bool → Option R} (h : impl_IsPoint.run k (h0, ()) = some (r0, ())) : impl_IsPoint.ap k h0 K = K r0 := by unfold impl_IsPoint.ap; rw [h]; rfl
theorem impl_IsPoint.go {a0_0 : Int} {a0_1 : Int} {t} (h : impl_IsPoint.f a0_0 a0_1 = some t) (K : Nat) : impl_IsPoint.run K ((⟨a0_0, a0_1⟩ : S75), ()) = some (impl_IsPoint.toH t) := by
  show Option.map _ (impl_IsPoint.f a0_0 a0_1) = _
  rw [h]; rfl
theorem impl_IsPoint.snd : Snd env impl_IsPoint.spec := ⟨⟨Tryz.f102, by kernel_rfl, by kernel_rfl, by kernel_rfl⟩, fun k h r he w us hA => by
  obtain ⟨t, ht, rfl⟩ := Option.map_eq_some_iff.1 (show (impl_IsPoint.f ((h.1 : S75).f0) ((h.1 : S75).f1)).map impl_IsPoint.toH = some r from he)
  match us, hA with
  | [u0], ⟨q0, _⟩ =>
  obtain ⟨v0, rfl, q0⟩ := q0
  have q0 := (H75.K _ _ _).1 q0
  match e0 : v0.toList, q0 with
  | [c0_0, c0_1], ⟨p0_0, p0_1, _⟩ =>
  obtain rfl : v0 = #[c0_0, c0_1] := by rw [← Array.toArray_toList (xs := v0), e0]
  obtain rfl := List.singleton_inj.1 (show [c0_0] = [Value.int .i64 ((h.1 : S75).f0)] from p0_0)
  obtain rfl := List.singleton_inj.1 (show [c0_1] = [Value.int .i64 ((h.1 : S75).f1)] from p0_1)
  refine (impl_IsPoint.calls (w := w) (h := ht) ).mono ?_
  rintro e w' ⟨he, hw⟩
  exact ⟨_, he, hw, [.bool t], [fun _ => False], rfl, ⟨rfl, trivial⟩, by simp [DJ]⟩⟩
def impl_IsName.Fs : List (Spc env) := [impl_InRange.spec]
def impl_IsName.fin : St eΓ → Option (HL eΓ [.b]) := finR env Tryz.f103.results.toList [.b]
def impl_IsName.cut : Nat → Option (List (Lv SC)) := lk [(2, [⟨0, none, false⟩, ⟨5, none, false⟩, ⟨6, none, false⟩])]
def impl_IsName.ret (r0 : Bool) : Option (HL eΓ [.b]) := some (r0, ())
def impl_IsName.p2 (k : Nat) (x0 : ByteArray) (x5 : Int) (x6 : Int) : Option (HL eΓ [.b]) := evM env impl_IsName.Fs Tryz.f103.ntmps impl_IsName.fin impl_IsName.cut k [.code (sub_ [1, 0, 1, 0, 0, 0] (bodyOf Tryz.f103)), .code (sub_ [1, 0, 1, 0, 0, 1] (bodyOf Tryz.f103)), .lp (sub_ [1, 0, 1, 0, 0] (bodyOf Tryz.f103)), .blk 0, .code (sub_ [1, 1] (bodyOf Tryz.f103))] (mkSt [(0, .c (.v (.string x0))), (5, .c (.v (.int .i64 x5))), (6, .c (.v (.int .i64 x6)))] [])
theorem impl_IsName.e2 (k : Nat) (x0 : ByteArray) (x5 : Int) (x6 : Int) : impl_IsName.p2 (k + 1) x0 x5 x6 = if x6 < x5 then (if 0 ≤ x6 then (if x6 < (x0.size : Int) then (if (bt x0 x6) < 97 then (impl_IsName.ret false) else (if 0 ≤ x6 then (if x6 < (x0.size : Int) then (if (bt x0 x6) > 122 then (impl_IsName.ret false) else (impl_IsName.p2 k x0 x5 (wrap64 (x6 + 1)))) else none) else none)) else none) else none) else (impl_InRange.ap k (x0.size : Int) 1 8 fun r1 => impl_IsName.ret r1) := by kernel_rfl
def impl_IsName.run (k : Nat) (h : HL eΓ [.s]) : Option (HL eΓ [.b]) := evF env impl_IsName.Fs Tryz.f103 impl_IsName.cut [.s] [.b] k h
theorem impl_IsName.ef (k : Nat) (h0 : ByteArray) : impl_IsName.run k (h0, ()) = impl_IsName.p2 k h0 (h0.size : Int) 0 := by kernel_rfl
def impl_IsName.toH (t : Bool) : HL eΓ [.b] := (t, ())
def impl_IsName.spec : Spc env := ⟨103, [.s], [.b], impl_IsName.run⟩
def impl_IsName.ap {R : Type} (k : Nat) (h0 : ByteArray) (K : Bool → Option R) : Option R := (impl_IsName.run k (h0, ())).bind fun r => K (r.1 : Bool)
theorem impl_IsName.ap_of {R : Type} {k : Nat} {h0 : ByteArray} {r0 : Bool} {K : Bool → Option R} (h : impl_IsName.run k (h0, ()) = some (r0, ())) : impl_IsName.ap k h0 K = K r0 := by unfold impl_IsName.ap; rw [h]; rfl
theorem impl_IsName.snd : Snd env impl_IsName.spec := evF_snd env_ok (sndC impl_InRange.snd (sndN))
attribute [local irreducible] impl_IsName.run
theorem impl_IsName.rt (a0 : Bool) : impl_IsName.ret a0 = some (impl_IsName.toH (a0)) := rfl
theorem impl_IsName.br (n : Nat) : (∀ K, n ≤ K → ∀ (x0 : ByteArray) (x5 : Int) (x6 : Int) t, impl_IsName.l0 n x0 x5 x6 = some t → impl_IsName.p2 K x0 x5 x6 = some (impl_IsName.toH t)) := by
  induction n using Nat.strongRecOn with
  | _ n ih =>
  intro K hK x0 x5 x6 t h
  all_goals (rcases n with _ | k)
  all_goals (try (exact nos h))
  all_goals (obtain ⟨K, rfl⟩ : ∃ q, K = q + 1 := ⟨K - 1, by omega⟩)
  all_goals (first | rw [impl_IsName.e2])
  all_goals (simp only [impl_IsName.l0] at h)
  repeat' (with_reducible first
   | exact nos h
   | (cases some_inj h; exact impl_IsName.rt _)
   | exact (ih _ (by omega)) _ (by omega) _ _ _ _ h
   | (simp only [Option.bind_some] at h)
   | (refine ite_by h ?_ ?_ <;> (intro hc h; (try simp only [nrm] at hc)))
   | refine itT ?_
   | refine itF ?_
   | (refine bind_by h (fun t ht h => ?_); refine (impl_InRange.ap_of (impl_InRange.go ht _)).trans ?_; (try dsimp only at h ⊢))
   | (simp only [nr2] at h ⊢)
   | (exfalso; omega))
theorem impl_IsName.go {k : Nat} {a0 : ByteArray} {t} (h : impl_IsName.f k a0 = some t) (K : Nat) (hK : k ≤ K) : impl_IsName.run K (a0, ()) = some (impl_IsName.toH t) := by
  rw [impl_IsName.ef]
  (try dsimp only)
  unfold impl_IsName.f at h
  repeat' (with_reducible first
   | exact nos h
   | (cases some_inj h; exact impl_IsName.rt _)
   | exact (impl_IsName.br _) _ (by omega) _ _ _ _ h
   | (simp only [Option.bind_some] at h)
   | (refine ite_by h ?_ ?_ <;> (intro hc h; (try simp only [nrm] at hc)))
   | refine itT ?_
   | refine itF ?_
   | (refine bind_by h (fun t ht h => ?_); refine (impl_InRange.ap_of (impl_InRange.go ht _)).trans ?_; (try dsimp only at h ⊢))
   | (simp only [nr2] at h ⊢)
   | (exfalso; omega))
def impl_IsSegment.toH (t : Bool) : HL eΓ [.b] := (t, ())
def impl_IsSegment.run (k : Nat) (h : HL eΓ [.st .s133]) : Option (HL eΓ [.b]) := (impl_IsSegment.f ((h.1 : S133).f0.f0) ((h.1 : S133).f0.f1) ((h.1 : S133).f1.f0) ((h.1 : S133).f1.f1)).map impl_IsSegment.toH
def impl_IsSegment.spec : Spc env := ⟨171, [.st .s133], [.b], impl_IsSegment.run⟩
def impl_IsSegment.ap {R : Type} (k : Nat) (h0 : S133) (K : Bool → Option R) : Option R := (impl_IsSegment.run k (h0, ())).bind fun r => K (r.1 : Bool)
theorem impl_IsSegment.ap_of {R : Type} {k : Nat} {h0 : S133} {r0 : Bool} {K : Bool → Option R} (h : impl_IsSegment.run k (h0, ()) = some (r0, ())) : impl_IsSegment.ap k h0 K = K r0 := by unfold impl_IsSegment.ap; rw [h]; rfl
theorem impl_IsSegment.go {a0_0 : Int} {a0_1 : Int} {a0_2 : Int} {a0_3 : Int} {t} (h : impl_IsSegment.f a0_0 a0_1 a0_2 a0_3 = some t) (K : Nat) : impl_IsSegment.run K ((⟨(⟨a0_0, a0_1⟩ : S75), (⟨a0_2, a0_3⟩ : S75)⟩ : S133), ()) = some (impl_IsSegment.toH t) := by
  show Option.map _ (impl_IsSegment.f a0_0 a0_1 a0_2 a0_3) = _
  rw [h]; rfl
theorem impl_IsSegment.snd : Snd env impl_IsSegment.spec := ⟨⟨Tryz.f171, by kernel_rfl, by kernel_rfl, by kernel_rfl⟩, fun k h r he w us hA => by
  obtain ⟨t, ht, rfl⟩ := Option.map_eq_some_iff.1 (show (impl_IsSegment.f ((h.1 : S133).f0.f0) ((h.1 : S133).f0.f1) ((h.1 : S133).f1.f0) ((h.1 : S133).f1.f1)).map impl_IsSegment.toH = some r from he)
  match us, hA with
  | [u0], ⟨q0, _⟩ =>
  obtain ⟨v0, rfl, q0⟩ := q0
  have q0 := (H133.K _ _ _).1 q0
  match e0 : v0.toList, q0 with
  | [c0_0, c0_1, c0_2, c0_3], ⟨p0_0, p0_1, p0_2, p0_3, _⟩ =>
  obtain rfl : v0 = #[c0_0, c0_1, c0_2, c0_3] := by rw [← Array.toArray_toList (xs := v0), e0]
  obtain rfl := List.singleton_inj.1 (show [c0_0] = [Value.int .i64 ((h.1 : S133).f0.f0)] from p0_0)
  obtain rfl := List.singleton_inj.1 (show [c0_1] = [Value.int .i64 ((h.1 : S133).f0.f1)] from p0_1)
  obtain rfl := List.singleton_inj.1 (show [c0_2] = [Value.int .i64 ((h.1 : S133).f1.f0)] from p0_2)
  obtain rfl := List.singleton_inj.1 (show [c0_3] = [Value.int .i64 ((h.1 : S133).f1.f1)] from p0_3)
  refine (impl_IsSegment.calls (w := w) (h := ht) ).mono ?_
  rintro e w' ⟨he, hw⟩
  exact ⟨_, he, hw, [.bool t], [fun _ => False], rfl, ⟨rfl, trivial⟩, by simp [DJ]⟩⟩
def impl_around.Fs : List (Spc env) := []
def impl_around.fin : St eΓ → Option (HL eΓ [.l 133 (.st .s133)]) := finR env Tryz.f183.results.toList [.l 133 (.st .s133)]
def impl_around.cut : Nat → Option (List (Lv SC)) := lk [(3, [⟨0, none, false⟩, ⟨3, none, false⟩, ⟨7, none, false⟩, ⟨8, none, false⟩, ⟨9, none, false⟩])]
def impl_around.ret (r0 : List S133) : Option (HL eΓ [.l 133 (.st .s133)]) := some (r0, ())
def impl_around.p3 (k : Nat) (x8 : Int) (x9 : Int) (x0 : List S75) (x3 : List S133) : Option (HL eΓ [.l 133 (.st .s133)]) := evM env impl_around.Fs Tryz.f183.ntmps impl_around.fin impl_around.cut k [.code (sub_ [1, 1, 0, 1, 0, 0, 0] (bodyOf Tryz.f183)), .code (sub_ [1, 1, 0, 1, 0, 0, 1] (bodyOf Tryz.f183)), .lp (sub_ [1, 1, 0, 1, 0, 0] (bodyOf Tryz.f183)), .blk 0, .code (sub_ [1, 1, 1] (bodyOf Tryz.f183))] (mkSt [(0, .c (.sl 0)), (3, .c (.sl 1)), (7, .c (.sl 0)), (8, .c (.v (.int .i64 x8))), (9, .c (.v (.int .i64 x9)))] [.row .ro 75 (.st .s75) x0, .row .own 133 (.st .s133) x3])
theorem impl_around.e3 (k : Nat) (x8 : Int) (x9 : Int) (x0 : List S75) (x3 : List S133) : impl_around.p3 (k + 1) x8 x9 x0 x3 = if x9 < x8 then (if 0 ≤ x9 then (if x9 < (x0.length : Int) then (if (x0.length : Int) = 0 then none else (if 0 ≤ (Int.tmod (wrap64 (x9 + 1)) (x0.length : Int)) then (if (Int.tmod (wrap64 (x9 + 1)) (x0.length : Int)) < (x0.length : Int) then (if (x3.length + 1) * 32 ≤ 140737488355328 then (impl_around.p3 k x8 (wrap64 (x9 + 1)) x0 (x3 ++ [(⟨(⟨(rd_T75 x0 x9).f0, (rd_T75 x0 x9).f1⟩ : S75), (⟨(rd_T75 x0 (Int.tmod (wrap64 (x9 + 1)) (x0.length : Int))).f0, (rd_T75 x0 (Int.tmod (wrap64 (x9 + 1)) (x0.length : Int))).f1⟩ : S75)⟩ : S133)])) else none) else none) else none)) else none) else none) else (impl_around.ret x3) := by kernel_rfl
def impl_around.run (k : Nat) (h : HL eΓ [.l 75 (.st .s75)]) : Option (HL eΓ [.l 133 (.st .s133)]) := evF env impl_around.Fs Tryz.f183 impl_around.cut [.l 75 (.st .s75)] [.l 133 (.st .s133)] k h
theorem impl_around.ef (k : Nat) (h0 : List S75) : impl_around.run k (h0, ()) = impl_around.p3 k (h0.length : Int) 0 h0 ([] : List S133) := by kernel_rfl
def impl_around.toH (t : (List (S133))) : HL eΓ [.l 133 (.st .s133)] := (t, ())
def impl_around.spec : Spc env := ⟨183, [.l 75 (.st .s75)], [.l 133 (.st .s133)], impl_around.run⟩
def impl_around.ap {R : Type} (k : Nat) (h0 : List S75) (K : (List S133) → Option R) : Option R := (impl_around.run k (h0, ())).bind fun r => K (r.1 : List S133)
theorem impl_around.ap_of {R : Type} {k : Nat} {h0 : List S75} {r0 : List S133} {K : (List S133) → Option R} (h : impl_around.run k (h0, ()) = some (r0, ())) : impl_around.ap k h0 K = K r0 := by unfold impl_around.ap; rw [h]; rfl
theorem impl_around.snd : Snd env impl_around.spec := evF_snd env_ok (sndN)
attribute [local irreducible] impl_around.run
theorem impl_around.rt (a0 : List S133) : impl_around.ret a0 = some (impl_around.toH (a0)) := rfl
theorem impl_around.br (n : Nat) : (∀ K, n ≤ K → ∀ (x8 : Int) (x9 : Int) (x0 : List S75) (x3 : List S133) t, impl_around.l0 n x0 x3 x0 x8 x9 = some t → impl_around.p3 K x8 x9 x0 x3 = some (impl_around.toH t)) := by
  induction n using Nat.strongRecOn with
  | _ n ih =>
  intro K hK x8 x9 x0 x3 t h
  all_goals (rcases n with _ | k)
  all_goals (try (exact nos h))
  all_goals (obtain ⟨K, rfl⟩ : ∃ q, K = q + 1 := ⟨K - 1, by omega⟩)
  all_goals (first | rw [impl_around.e3])
  all_goals (simp only [impl_around.l0] at h)
  repeat' (with_reducible first
   | exact nos h
   | (cases some_inj h; exact impl_around.rt _)
   | exact (ih _ (by omega)) _ (by omega) _ _ _ _ _ h
   | (simp only [Option.bind_some] at h)
   | (refine ite_by h ?_ ?_ <;> (intro hc h; (try simp only [nrm] at hc)))
   | refine itT ?_
   | refine itF ?_
   | (simp only [nr2] at h ⊢)
   | (exfalso; omega))
theorem impl_around.go {k : Nat} {l0 : List S75} {t} (h : impl_around.f k l0 = some t) (K : Nat) (hK : k ≤ K) : impl_around.run K (l0, ()) = some (impl_around.toH t) := by
  rw [impl_around.ef]
  (try dsimp only)
  unfold impl_around.f at h
  repeat' (with_reducible first
   | exact nos h
   | (cases some_inj h; exact impl_around.rt _)
   | exact (impl_around.br _) _ (by omega) _ _ _ _ _ h
   | (simp only [Option.bind_some] at h)
   | (refine ite_by h ?_ ?_ <;> (intro hc h; (try simp only [nrm] at hc)))
   | refine itT ?_
   | refine itF ?_
   | (simp only [nr2] at h ⊢)
   | (exfalso; omega))
def impl_SideOf.toH (t : Int) : HL eΓ [.i .i64] := (t, ())
def impl_SideOf.run (k : Nat) (h : HL eΓ [.st .s75, .st .s75, .st .s75]) : Option (HL eΓ [.i .i64]) := (impl_SideOf.f ((h.1 : S75).f0) ((h.1 : S75).f1) ((h.2.1 : S75).f0) ((h.2.1 : S75).f1) ((h.2.2.1 : S75).f0) ((h.2.2.1 : S75).f1)).map impl_SideOf.toH
def impl_SideOf.spec : Spc env := ⟨174, [.st .s75, .st .s75, .st .s75], [.i .i64], impl_SideOf.run⟩
def impl_SideOf.ap {R : Type} (k : Nat) (h0 : S75) (h1 : S75) (h2 : S75) (K : Int → Option R) : Option R := (impl_SideOf.run k (h0, h1, h2, ())).bind fun r => K (r.1 : Int)
theorem impl_SideOf.ap_of {R : Type} {k : Nat} {h0 : S75} {h1 : S75} {h2 : S75} {r0 : Int} {K : Int → Option R} (h : impl_SideOf.run k (h0, h1, h2, ()) = some (r0, ())) : impl_SideOf.ap k h0 h1 h2 K = K r0 := by unfold impl_SideOf.ap; rw [h]; rfl
theorem impl_SideOf.go {a0_0 : Int} {a0_1 : Int} {a1_0 : Int} {a1_1 : Int} {a2_0 : Int} {a2_1 : Int} {t} (h : impl_SideOf.f a0_0 a0_1 a1_0 a1_1 a2_0 a2_1 = some t) (K : Nat) : impl_SideOf.run K ((⟨a0_0, a0_1⟩ : S75), (⟨a1_0, a1_1⟩ : S75), (⟨a2_0, a2_1⟩ : S75), ()) = some (impl_SideOf.toH t) := by
  show Option.map _ (impl_SideOf.f a0_0 a0_1 a1_0 a1_1 a2_0 a2_1) = _
  rw [h]; rfl
theorem impl_SideOf.snd : Snd env impl_SideOf.spec := ⟨⟨Tryz.f174, by kernel_rfl, by kernel_rfl, by kernel_rfl⟩, fun k h r he w us hA => by
  obtain ⟨t, ht, rfl⟩ := Option.map_eq_some_iff.1 (show (impl_SideOf.f ((h.1 : S75).f0) ((h.1 : S75).f1) ((h.2.1 : S75).f0) ((h.2.1 : S75).f1) ((h.2.2.1 : S75).f0) ((h.2.2.1 : S75).f1)).map impl_SideOf.toH = some r from he)
  match us, hA with
  | [u0, u1, u2], ⟨q0, q1, q2, _⟩ =>
  obtain ⟨v0, rfl, q0⟩ := q0
  have q0 := (H75.K _ _ _).1 q0
  match e0 : v0.toList, q0 with
  | [c0_0, c0_1], ⟨p0_0, p0_1, _⟩ =>
  obtain rfl : v0 = #[c0_0, c0_1] := by rw [← Array.toArray_toList (xs := v0), e0]
  obtain rfl := List.singleton_inj.1 (show [c0_0] = [Value.int .i64 ((h.1 : S75).f0)] from p0_0)
  obtain rfl := List.singleton_inj.1 (show [c0_1] = [Value.int .i64 ((h.1 : S75).f1)] from p0_1)
  obtain ⟨v1, rfl, q1⟩ := q1
  have q1 := (H75.K _ _ _).1 q1
  match e1 : v1.toList, q1 with
  | [c1_0, c1_1], ⟨p1_0, p1_1, _⟩ =>
  obtain rfl : v1 = #[c1_0, c1_1] := by rw [← Array.toArray_toList (xs := v1), e1]
  obtain rfl := List.singleton_inj.1 (show [c1_0] = [Value.int .i64 ((h.2.1 : S75).f0)] from p1_0)
  obtain rfl := List.singleton_inj.1 (show [c1_1] = [Value.int .i64 ((h.2.1 : S75).f1)] from p1_1)
  obtain ⟨v2, rfl, q2⟩ := q2
  have q2 := (H75.K _ _ _).1 q2
  match e2 : v2.toList, q2 with
  | [c2_0, c2_1], ⟨p2_0, p2_1, _⟩ =>
  obtain rfl : v2 = #[c2_0, c2_1] := by rw [← Array.toArray_toList (xs := v2), e2]
  obtain rfl := List.singleton_inj.1 (show [c2_0] = [Value.int .i64 ((h.2.2.1 : S75).f0)] from p2_0)
  obtain rfl := List.singleton_inj.1 (show [c2_1] = [Value.int .i64 ((h.2.2.1 : S75).f1)] from p2_1)
  refine (impl_SideOf.calls (w := w) (h := ht) ).mono ?_
  rintro e w' ⟨he, hw⟩
  exact ⟨_, he, hw, [.int .i64 t], [fun _ => False], rfl, ⟨rfl, trivial⟩, by simp [DJ]⟩⟩
def impl_BeforePoint.toH (t : Bool) : HL eΓ [.b] := (t, ())
def impl_BeforePoint.run (k : Nat) (h : HL eΓ [.st .s75, .st .s75]) : Option (HL eΓ [.b]) := (impl_BeforePoint.f ((h.1 : S75).f0) ((h.1 : S75).f1) ((h.2.1 : S75).f0) ((h.2.1 : S75).f1)).map impl_BeforePoint.toH
def impl_BeforePoint.spec : Spc env := ⟨199, [.st .s75, .st .s75], [.b], impl_BeforePoint.run⟩
def impl_BeforePoint.ap {R : Type} (k : Nat) (h0 : S75) (h1 : S75) (K : Bool → Option R) : Option R := (impl_BeforePoint.run k (h0, h1, ())).bind fun r => K (r.1 : Bool)
theorem impl_BeforePoint.ap_of {R : Type} {k : Nat} {h0 : S75} {h1 : S75} {r0 : Bool} {K : Bool → Option R} (h : impl_BeforePoint.run k (h0, h1, ()) = some (r0, ())) : impl_BeforePoint.ap k h0 h1 K = K r0 := by unfold impl_BeforePoint.ap; rw [h]; rfl
theorem impl_BeforePoint.go {a0_0 : Int} {a0_1 : Int} {a1_0 : Int} {a1_1 : Int} {t} (h : impl_BeforePoint.f a0_0 a0_1 a1_0 a1_1 = some t) (K : Nat) : impl_BeforePoint.run K ((⟨a0_0, a0_1⟩ : S75), (⟨a1_0, a1_1⟩ : S75), ()) = some (impl_BeforePoint.toH t) := by
  show Option.map _ (impl_BeforePoint.f a0_0 a0_1 a1_0 a1_1) = _
  rw [h]; rfl
theorem impl_BeforePoint.snd : Snd env impl_BeforePoint.spec := ⟨⟨Tryz.f199, by kernel_rfl, by kernel_rfl, by kernel_rfl⟩, fun k h r he w us hA => by
  obtain ⟨t, ht, rfl⟩ := Option.map_eq_some_iff.1 (show (impl_BeforePoint.f ((h.1 : S75).f0) ((h.1 : S75).f1) ((h.2.1 : S75).f0) ((h.2.1 : S75).f1)).map impl_BeforePoint.toH = some r from he)
  match us, hA with
  | [u0, u1], ⟨q0, q1, _⟩ =>
  obtain ⟨v0, rfl, q0⟩ := q0
  have q0 := (H75.K _ _ _).1 q0
  match e0 : v0.toList, q0 with
  | [c0_0, c0_1], ⟨p0_0, p0_1, _⟩ =>
  obtain rfl : v0 = #[c0_0, c0_1] := by rw [← Array.toArray_toList (xs := v0), e0]
  obtain rfl := List.singleton_inj.1 (show [c0_0] = [Value.int .i64 ((h.1 : S75).f0)] from p0_0)
  obtain rfl := List.singleton_inj.1 (show [c0_1] = [Value.int .i64 ((h.1 : S75).f1)] from p0_1)
  obtain ⟨v1, rfl, q1⟩ := q1
  have q1 := (H75.K _ _ _).1 q1
  match e1 : v1.toList, q1 with
  | [c1_0, c1_1], ⟨p1_0, p1_1, _⟩ =>
  obtain rfl : v1 = #[c1_0, c1_1] := by rw [← Array.toArray_toList (xs := v1), e1]
  obtain rfl := List.singleton_inj.1 (show [c1_0] = [Value.int .i64 ((h.2.1 : S75).f0)] from p1_0)
  obtain rfl := List.singleton_inj.1 (show [c1_1] = [Value.int .i64 ((h.2.1 : S75).f1)] from p1_1)
  refine (impl_BeforePoint.calls (w := w) (h := ht) ).mono ?_
  rintro e w' ⟨he, hw⟩
  exact ⟨_, he, hw, [.bool t], [fun _ => False], rfl, ⟨rfl, trivial⟩, by simp [DJ]⟩⟩
def impl_TurnSegment.Fs : List (Spc env) := []
def impl_TurnSegment.cut : Nat → Option (List (Lv SC)) := lk []
def impl_TurnSegment.ret (r0 : S133) : Option (HL eΓ [.st .s133]) := some (r0, ())
def impl_TurnSegment.run (k : Nat) (h : HL eΓ [.st .s133]) : Option (HL eΓ [.st .s133]) := evF env impl_TurnSegment.Fs Tryz.f205 impl_TurnSegment.cut [.st .s133] [.st .s133] k h
theorem impl_TurnSegment.ef (k : Nat) (h0 : S133) : impl_TurnSegment.run k (h0, ()) = impl_TurnSegment.ret (⟨(⟨h0.f1.f0, h0.f1.f1⟩ : S75), (⟨h0.f0.f0, h0.f0.f1⟩ : S75)⟩ : S133) := by kernel_rfl
def impl_TurnSegment.toH (t : Int × Int × Int × Int) : HL eΓ [.st .s133] := ((⟨(⟨t.1, t.2.1⟩ : S75), (⟨t.2.2.1, t.2.2.2⟩ : S75)⟩ : S133), ())
def impl_TurnSegment.spec : Spc env := ⟨205, [.st .s133], [.st .s133], impl_TurnSegment.run⟩
def impl_TurnSegment.ap {R : Type} (k : Nat) (h0 : S133) (K : S133 → Option R) : Option R := (impl_TurnSegment.run k (h0, ())).bind fun r => K (r.1 : S133)
theorem impl_TurnSegment.ap_of {R : Type} {k : Nat} {h0 : S133} {r0 : S133} {K : S133 → Option R} (h : impl_TurnSegment.run k (h0, ()) = some (r0, ())) : impl_TurnSegment.ap k h0 K = K r0 := by unfold impl_TurnSegment.ap; rw [h]; rfl
theorem impl_TurnSegment.snd : Snd env impl_TurnSegment.spec := evF_snd env_ok (sndN)
attribute [local irreducible] impl_TurnSegment.run
theorem impl_TurnSegment.rt (a0 : Int) (a1 : Int) (a2 : Int) (a3 : Int) : impl_TurnSegment.ret (⟨(⟨a0, a1⟩ : S75), (⟨a2, a3⟩ : S75)⟩ : S133) = some (impl_TurnSegment.toH (a0, a1, a2, a3)) := rfl
theorem impl_TurnSegment.go {a0_0 : Int} {a0_1 : Int} {a0_2 : Int} {a0_3 : Int} {t} (h : impl_TurnSegment.f a0_0 a0_1 a0_2 a0_3 = some t) (K : Nat) : impl_TurnSegment.run K ((⟨(⟨a0_0, a0_1⟩ : S75), (⟨a0_2, a0_3⟩ : S75)⟩ : S133), ()) = some (impl_TurnSegment.toH t) := by
  rw [impl_TurnSegment.ef]
  (try dsimp only)
  unfold impl_TurnSegment.f at h
  repeat' (with_reducible first
   | exact nos h
   | (cases some_inj h; exact impl_TurnSegment.rt _ _ _ _)
   | (simp only [Option.bind_some] at h)
   | (refine ite_by h ?_ ?_ <;> (intro hc h; (try simp only [nrm] at hc)))
   | refine itT ?_
   | refine itF ?_
   | (simp only [nr2] at h ⊢)
   | (exfalso; omega))
def impl_forward.Fs : List (Spc env) := [impl_BeforePoint.spec, impl_TurnSegment.spec]
def impl_forward.cut : Nat → Option (List (Lv SC)) := lk []
def impl_forward.ret (r0 : S133) : Option (HL eΓ [.st .s133]) := some (r0, ())
def impl_forward.run (k : Nat) (h : HL eΓ [.st .s133]) : Option (HL eΓ [.st .s133]) := evF env impl_forward.Fs Tryz.f198 impl_forward.cut [.st .s133] [.st .s133] k h
theorem impl_forward.ef (k : Nat) (h0 : S133) : impl_forward.run k (h0, ()) = impl_BeforePoint.ap k (⟨h0.f1.f0, h0.f1.f1⟩ : S75) (⟨h0.f0.f0, h0.f0.f1⟩ : S75) fun r1 => if r1 = true then (impl_TurnSegment.ap k (⟨(⟨h0.f0.f0, h0.f0.f1⟩ : S75), (⟨h0.f1.f0, h0.f1.f1⟩ : S75)⟩ : S133) fun r2 => impl_forward.ret (⟨(⟨r2.f0.f0, r2.f0.f1⟩ : S75), (⟨r2.f1.f0, r2.f1.f1⟩ : S75)⟩ : S133)) else (impl_forward.ret (⟨(⟨h0.f0.f0, h0.f0.f1⟩ : S75), (⟨h0.f1.f0, h0.f1.f1⟩ : S75)⟩ : S133)) := by kernel_rfl
def impl_forward.toH (t : Int × Int × Int × Int) : HL eΓ [.st .s133] := ((⟨(⟨t.1, t.2.1⟩ : S75), (⟨t.2.2.1, t.2.2.2⟩ : S75)⟩ : S133), ())
def impl_forward.spec : Spc env := ⟨198, [.st .s133], [.st .s133], impl_forward.run⟩
def impl_forward.ap {R : Type} (k : Nat) (h0 : S133) (K : S133 → Option R) : Option R := (impl_forward.run k (h0, ())).bind fun r => K (r.1 : S133)
theorem impl_forward.ap_of {R : Type} {k : Nat} {h0 : S133} {r0 : S133} {K : S133 → Option R} (h : impl_forward.run k (h0, ()) = some (r0, ())) : impl_forward.ap k h0 K = K r0 := by unfold impl_forward.ap; rw [h]; rfl
theorem impl_forward.snd : Snd env impl_forward.spec := evF_snd env_ok (sndC impl_BeforePoint.snd (sndC impl_TurnSegment.snd (sndN)))
attribute [local irreducible] impl_forward.run
theorem impl_forward.rt (a0 : Int) (a1 : Int) (a2 : Int) (a3 : Int) : impl_forward.ret (⟨(⟨a0, a1⟩ : S75), (⟨a2, a3⟩ : S75)⟩ : S133) = some (impl_forward.toH (a0, a1, a2, a3)) := rfl
theorem impl_forward.go {a0_0 : Int} {a0_1 : Int} {a0_2 : Int} {a0_3 : Int} {t} (h : impl_forward.f a0_0 a0_1 a0_2 a0_3 = some t) (K : Nat) : impl_forward.run K ((⟨(⟨a0_0, a0_1⟩ : S75), (⟨a0_2, a0_3⟩ : S75)⟩ : S133), ()) = some (impl_forward.toH t) := by
  rw [impl_forward.ef]
  (try dsimp only)
  unfold impl_forward.f at h
  repeat' (with_reducible first
   | exact nos h
   | (cases some_inj h; exact impl_forward.rt _ _ _ _)
   | (simp only [Option.bind_some] at h)
   | (refine ite_by h ?_ ?_ <;> (intro hc h; (try simp only [nrm] at hc)))
   | refine itT ?_
   | refine itF ?_
   | (refine bind_by h (fun t ht h => ?_); (first | refine (impl_BeforePoint.ap_of (impl_BeforePoint.go ht _)).trans ?_ | refine (impl_TurnSegment.ap_of (impl_TurnSegment.go ht _)).trans ?_); (try dsimp only at h ⊢))
   | (simp only [nr2] at h ⊢)
   | (exfalso; omega))
def impl_IsOn.toH (t : Bool) : HL eΓ [.b] := (t, ())
def impl_IsOn.run (k : Nat) (h : HL eΓ [.st .s133, .st .s75]) : Option (HL eΓ [.b]) := (impl_IsOn.f ((h.1 : S133).f0.f0) ((h.1 : S133).f0.f1) ((h.1 : S133).f1.f0) ((h.1 : S133).f1.f1) ((h.2.1 : S75).f0) ((h.2.1 : S75).f1)).map impl_IsOn.toH
def impl_IsOn.spec : Spc env := ⟨200, [.st .s133, .st .s75], [.b], impl_IsOn.run⟩
def impl_IsOn.ap {R : Type} (k : Nat) (h0 : S133) (h1 : S75) (K : Bool → Option R) : Option R := (impl_IsOn.run k (h0, h1, ())).bind fun r => K (r.1 : Bool)
theorem impl_IsOn.ap_of {R : Type} {k : Nat} {h0 : S133} {h1 : S75} {r0 : Bool} {K : Bool → Option R} (h : impl_IsOn.run k (h0, h1, ()) = some (r0, ())) : impl_IsOn.ap k h0 h1 K = K r0 := by unfold impl_IsOn.ap; rw [h]; rfl
theorem impl_IsOn.go {a0_0 : Int} {a0_1 : Int} {a0_2 : Int} {a0_3 : Int} {a1_0 : Int} {a1_1 : Int} {t} (h : impl_IsOn.f a0_0 a0_1 a0_2 a0_3 a1_0 a1_1 = some t) (K : Nat) : impl_IsOn.run K ((⟨(⟨a0_0, a0_1⟩ : S75), (⟨a0_2, a0_3⟩ : S75)⟩ : S133), (⟨a1_0, a1_1⟩ : S75), ()) = some (impl_IsOn.toH t) := by
  show Option.map _ (impl_IsOn.f a0_0 a0_1 a0_2 a0_3 a1_0 a1_1) = _
  rw [h]; rfl
theorem impl_IsOn.snd : Snd env impl_IsOn.spec := ⟨⟨Tryz.f200, by kernel_rfl, by kernel_rfl, by kernel_rfl⟩, fun k h r he w us hA => by
  obtain ⟨t, ht, rfl⟩ := Option.map_eq_some_iff.1 (show (impl_IsOn.f ((h.1 : S133).f0.f0) ((h.1 : S133).f0.f1) ((h.1 : S133).f1.f0) ((h.1 : S133).f1.f1) ((h.2.1 : S75).f0) ((h.2.1 : S75).f1)).map impl_IsOn.toH = some r from he)
  match us, hA with
  | [u0, u1], ⟨q0, q1, _⟩ =>
  obtain ⟨v0, rfl, q0⟩ := q0
  have q0 := (H133.K _ _ _).1 q0
  match e0 : v0.toList, q0 with
  | [c0_0, c0_1, c0_2, c0_3], ⟨p0_0, p0_1, p0_2, p0_3, _⟩ =>
  obtain rfl : v0 = #[c0_0, c0_1, c0_2, c0_3] := by rw [← Array.toArray_toList (xs := v0), e0]
  obtain rfl := List.singleton_inj.1 (show [c0_0] = [Value.int .i64 ((h.1 : S133).f0.f0)] from p0_0)
  obtain rfl := List.singleton_inj.1 (show [c0_1] = [Value.int .i64 ((h.1 : S133).f0.f1)] from p0_1)
  obtain rfl := List.singleton_inj.1 (show [c0_2] = [Value.int .i64 ((h.1 : S133).f1.f0)] from p0_2)
  obtain rfl := List.singleton_inj.1 (show [c0_3] = [Value.int .i64 ((h.1 : S133).f1.f1)] from p0_3)
  obtain ⟨v1, rfl, q1⟩ := q1
  have q1 := (H75.K _ _ _).1 q1
  match e1 : v1.toList, q1 with
  | [c1_0, c1_1], ⟨p1_0, p1_1, _⟩ =>
  obtain rfl : v1 = #[c1_0, c1_1] := by rw [← Array.toArray_toList (xs := v1), e1]
  obtain rfl := List.singleton_inj.1 (show [c1_0] = [Value.int .i64 ((h.2.1 : S75).f0)] from p1_0)
  obtain rfl := List.singleton_inj.1 (show [c1_1] = [Value.int .i64 ((h.2.1 : S75).f1)] from p1_1)
  refine (impl_IsOn.calls (w := w) (h := ht) ).mono ?_
  rintro e w' ⟨he, hw⟩
  exact ⟨_, he, hw, [.bool t], [fun _ => False], rfl, ⟨rfl, trivial⟩, by simp [DJ]⟩⟩
def impl_HowMeet.Fs : List (Spc env) := [impl_IsSegment.spec, impl_SideOf.spec, impl_forward.spec, impl_BeforePoint.spec, impl_IsOn.spec]
def impl_HowMeet.cut : Nat → Option (List (Lv SC)) := lk []
def impl_HowMeet.ret (r0 : Int) : Option (HL eΓ [.i .i64]) := some (r0, ())
def impl_HowMeet.run (k : Nat) (h : HL eΓ [.st .s133, .st .s133]) : Option (HL eΓ [.i .i64]) := evF env impl_HowMeet.Fs Tryz.f184 impl_HowMeet.cut [.st .s133, .st .s133] [.i .i64] k h
theorem impl_HowMeet.ef (k : Nat) (h0 : S133) (h1 : S133) : impl_HowMeet.run k (h0, h1, ()) = impl_IsSegment.ap k (⟨(⟨h0.f0.f0, h0.f0.f1⟩ : S75), (⟨h0.f1.f0, h0.f1.f1⟩ : S75)⟩ : S133) fun r1 => if (!r1) = true then (impl_HowMeet.ret 0) else (impl_IsSegment.ap k (⟨(⟨h1.f0.f0, h1.f0.f1⟩ : S75), (⟨h1.f1.f0, h1.f1.f1⟩ : S75)⟩ : S133) fun r2 => if (!r2) = true then (impl_HowMeet.ret 0) else (impl_SideOf.ap k (⟨h0.f0.f0, h0.f0.f1⟩ : S75) (⟨h0.f1.f0, h0.f1.f1⟩ : S75) (⟨h1.f0.f0, h1.f0.f1⟩ : S75) fun r3 => impl_SideOf.ap k (⟨h0.f0.f0, h0.f0.f1⟩ : S75) (⟨h0.f1.f0, h0.f1.f1⟩ : S75) (⟨h1.f1.f0, h1.f1.f1⟩ : S75) fun r4 => if r3 = 0 then (if r4 = 0 then (impl_forward.ap k (⟨(⟨h0.f0.f0, h0.f0.f1⟩ : S75), (⟨h0.f1.f0, h0.f1.f1⟩ : S75)⟩ : S133) fun r5 => impl_forward.ap k (⟨(⟨h1.f0.f0, h1.f0.f1⟩ : S75), (⟨h1.f1.f0, h1.f1.f1⟩ : S75)⟩ : S133) fun r6 => impl_BeforePoint.ap k (⟨r5.f0.f0, r5.f0.f1⟩ : S75) (⟨r6.f0.f0, r6.f0.f1⟩ : S75) fun r7 => if r7 = true then (impl_BeforePoint.ap k (⟨r6.f1.f0, r6.f1.f1⟩ : S75) (⟨r5.f1.f0, r5.f1.f1⟩ : S75) fun r8 => if r8 = true then (impl_BeforePoint.ap k (⟨r6.f1.f0, r6.f1.f1⟩ : S75) (⟨r6.f0.f0, r6.f0.f1⟩ : S75) fun r9 => if r9 = true then (impl_HowMeet.ret 0) else (if r6.f0.f0 = r6.f1.f0 ∧ (r6.f0.f1 = r6.f1.f1 ∧ True) then (impl_HowMeet.ret 1) else (impl_HowMeet.ret 3))) else (impl_BeforePoint.ap k (⟨r5.f1.f0, r5.f1.f1⟩ : S75) (⟨r6.f0.f0, r6.f0.f1⟩ : S75) fun r10 => if r10 = true then (impl_HowMeet.ret 0) else (if r6.f0.f0 = r5.f1.f0 ∧ (r6.f0.f1 = r5.f1.f1 ∧ True) then (impl_HowMeet.ret 1) else (impl_HowMeet.ret 3)))) else (impl_BeforePoint.ap k (⟨r6.f1.f0, r6.f1.f1⟩ : S75) (⟨r5.f1.f0, r5.f1.f1⟩ : S75) fun r11 => if r11 = true then (impl_BeforePoint.ap k (⟨r6.f1.f0, r6.f1.f1⟩ : S75) (⟨r5.f0.f0, r5.f0.f1⟩ : S75) fun r12 => if r12 = true then (impl_HowMeet.ret 0) else (if r5.f0.f0 = r6.f1.f0 ∧ (r5.f0.f1 = r6.f1.f1 ∧ True) then (impl_HowMeet.ret 1) else (impl_HowMeet.ret 3))) else (impl_BeforePoint.ap k (⟨r5.f1.f0, r5.f1.f1⟩ : S75) (⟨r5.f0.f0, r5.f0.f1⟩ : S75) fun r13 => if r13 = true then (impl_HowMeet.ret 0) else (if r5.f0.f0 = r5.f1.f0 ∧ (r5.f0.f1 = r5.f1.f1 ∧ True) then (impl_HowMeet.ret 1) else (impl_HowMeet.ret 3))))) else (if (wrap64 (r3 * r4)) < 0 then (impl_SideOf.ap k (⟨h1.f0.f0, h1.f0.f1⟩ : S75) (⟨h1.f1.f0, h1.f1.f1⟩ : S75) (⟨h0.f0.f0, h0.f0.f1⟩ : S75) fun r14 => impl_SideOf.ap k (⟨h1.f0.f0, h1.f0.f1⟩ : S75) (⟨h1.f1.f0, h1.f1.f1⟩ : S75) (⟨h0.f1.f0, h0.f1.f1⟩ : S75) fun r15 => if (wrap64 (r14 * r15)) < 0 then (impl_HowMeet.ret 2) else (impl_IsOn.ap k (⟨(⟨h0.f0.f0, h0.f0.f1⟩ : S75), (⟨h0.f1.f0, h0.f1.f1⟩ : S75)⟩ : S133) (⟨h1.f0.f0, h1.f0.f1⟩ : S75) fun r16 => if r16 = true then (impl_HowMeet.ret 1) else (impl_IsOn.ap k (⟨(⟨h0.f0.f0, h0.f0.f1⟩ : S75), (⟨h0.f1.f0, h0.f1.f1⟩ : S75)⟩ : S133) (⟨h1.f1.f0, h1.f1.f1⟩ : S75) fun r17 => if r17 = true then (impl_HowMeet.ret 1) else (impl_IsOn.ap k (⟨(⟨h1.f0.f0, h1.f0.f1⟩ : S75), (⟨h1.f1.f0, h1.f1.f1⟩ : S75)⟩ : S133) (⟨h0.f0.f0, h0.f0.f1⟩ : S75) fun r18 => if r18 = true then (impl_HowMeet.ret 1) else (impl_IsOn.ap k (⟨(⟨h1.f0.f0, h1.f0.f1⟩ : S75), (⟨h1.f1.f0, h1.f1.f1⟩ : S75)⟩ : S133) (⟨h0.f1.f0, h0.f1.f1⟩ : S75) fun r19 => if r19 = true then (impl_HowMeet.ret 1) else (impl_HowMeet.ret 0)))))) else (impl_IsOn.ap k (⟨(⟨h0.f0.f0, h0.f0.f1⟩ : S75), (⟨h0.f1.f0, h0.f1.f1⟩ : S75)⟩ : S133) (⟨h1.f0.f0, h1.f0.f1⟩ : S75) fun r20 => if r20 = true then (impl_HowMeet.ret 1) else (impl_IsOn.ap k (⟨(⟨h0.f0.f0, h0.f0.f1⟩ : S75), (⟨h0.f1.f0, h0.f1.f1⟩ : S75)⟩ : S133) (⟨h1.f1.f0, h1.f1.f1⟩ : S75) fun r21 => if r21 = true then (impl_HowMeet.ret 1) else (impl_IsOn.ap k (⟨(⟨h1.f0.f0, h1.f0.f1⟩ : S75), (⟨h1.f1.f0, h1.f1.f1⟩ : S75)⟩ : S133) (⟨h0.f0.f0, h0.f0.f1⟩ : S75) fun r22 => if r22 = true then (impl_HowMeet.ret 1) else (impl_IsOn.ap k (⟨(⟨h1.f0.f0, h1.f0.f1⟩ : S75), (⟨h1.f1.f0, h1.f1.f1⟩ : S75)⟩ : S133) (⟨h0.f1.f0, h0.f1.f1⟩ : S75) fun r23 => if r23 = true then (impl_HowMeet.ret 1) else (impl_HowMeet.ret 0))))))) else (if (wrap64 (r3 * r4)) < 0 then (impl_SideOf.ap k (⟨h1.f0.f0, h1.f0.f1⟩ : S75) (⟨h1.f1.f0, h1.f1.f1⟩ : S75) (⟨h0.f0.f0, h0.f0.f1⟩ : S75) fun r24 => impl_SideOf.ap k (⟨h1.f0.f0, h1.f0.f1⟩ : S75) (⟨h1.f1.f0, h1.f1.f1⟩ : S75) (⟨h0.f1.f0, h0.f1.f1⟩ : S75) fun r25 => if (wrap64 (r24 * r25)) < 0 then (impl_HowMeet.ret 2) else (impl_IsOn.ap k (⟨(⟨h0.f0.f0, h0.f0.f1⟩ : S75), (⟨h0.f1.f0, h0.f1.f1⟩ : S75)⟩ : S133) (⟨h1.f0.f0, h1.f0.f1⟩ : S75) fun r26 => if r26 = true then (impl_HowMeet.ret 1) else (impl_IsOn.ap k (⟨(⟨h0.f0.f0, h0.f0.f1⟩ : S75), (⟨h0.f1.f0, h0.f1.f1⟩ : S75)⟩ : S133) (⟨h1.f1.f0, h1.f1.f1⟩ : S75) fun r27 => if r27 = true then (impl_HowMeet.ret 1) else (impl_IsOn.ap k (⟨(⟨h1.f0.f0, h1.f0.f1⟩ : S75), (⟨h1.f1.f0, h1.f1.f1⟩ : S75)⟩ : S133) (⟨h0.f0.f0, h0.f0.f1⟩ : S75) fun r28 => if r28 = true then (impl_HowMeet.ret 1) else (impl_IsOn.ap k (⟨(⟨h1.f0.f0, h1.f0.f1⟩ : S75), (⟨h1.f1.f0, h1.f1.f1⟩ : S75)⟩ : S133) (⟨h0.f1.f0, h0.f1.f1⟩ : S75) fun r29 => if r29 = true then (impl_HowMeet.ret 1) else (impl_HowMeet.ret 0)))))) else (impl_IsOn.ap k (⟨(⟨h0.f0.f0, h0.f0.f1⟩ : S75), (⟨h0.f1.f0, h0.f1.f1⟩ : S75)⟩ : S133) (⟨h1.f0.f0, h1.f0.f1⟩ : S75) fun r30 => if r30 = true then (impl_HowMeet.ret 1) else (impl_IsOn.ap k (⟨(⟨h0.f0.f0, h0.f0.f1⟩ : S75), (⟨h0.f1.f0, h0.f1.f1⟩ : S75)⟩ : S133) (⟨h1.f1.f0, h1.f1.f1⟩ : S75) fun r31 => if r31 = true then (impl_HowMeet.ret 1) else (impl_IsOn.ap k (⟨(⟨h1.f0.f0, h1.f0.f1⟩ : S75), (⟨h1.f1.f0, h1.f1.f1⟩ : S75)⟩ : S133) (⟨h0.f0.f0, h0.f0.f1⟩ : S75) fun r32 => if r32 = true then (impl_HowMeet.ret 1) else (impl_IsOn.ap k (⟨(⟨h1.f0.f0, h1.f0.f1⟩ : S75), (⟨h1.f1.f0, h1.f1.f1⟩ : S75)⟩ : S133) (⟨h0.f1.f0, h0.f1.f1⟩ : S75) fun r33 => if r33 = true then (impl_HowMeet.ret 1) else (impl_HowMeet.ret 0)))))))) := by kernel_rfl
def impl_HowMeet.toH (t : Int) : HL eΓ [.i .i64] := (t, ())
def impl_HowMeet.spec : Spc env := ⟨184, [.st .s133, .st .s133], [.i .i64], impl_HowMeet.run⟩
def impl_HowMeet.ap {R : Type} (k : Nat) (h0 : S133) (h1 : S133) (K : Int → Option R) : Option R := (impl_HowMeet.run k (h0, h1, ())).bind fun r => K (r.1 : Int)
theorem impl_HowMeet.ap_of {R : Type} {k : Nat} {h0 : S133} {h1 : S133} {r0 : Int} {K : Int → Option R} (h : impl_HowMeet.run k (h0, h1, ()) = some (r0, ())) : impl_HowMeet.ap k h0 h1 K = K r0 := by unfold impl_HowMeet.ap; rw [h]; rfl
theorem impl_HowMeet.snd : Snd env impl_HowMeet.spec := evF_snd env_ok (sndC impl_IsSegment.snd (sndC impl_SideOf.snd (sndC impl_forward.snd (sndC impl_BeforePoint.snd (sndC impl_IsOn.snd (sndN))))))
attribute [local irreducible] impl_HowMeet.run
theorem impl_HowMeet.rt (a0 : Int) : impl_HowMeet.ret a0 = some (impl_HowMeet.toH (a0)) := rfl
theorem impl_HowMeet.go {k : Nat} {a0_0 : Int} {a0_1 : Int} {a0_2 : Int} {a0_3 : Int} {a1_0 : Int} {a1_1 : Int} {a1_2 : Int} {a1_3 : Int} {t} (h : impl_HowMeet.f k a0_0 a0_1 a0_2 a0_3 a1_0 a1_1 a1_2 a1_3 = some t) (K : Nat) (hK : k ≤ K) : impl_HowMeet.run K ((⟨(⟨a0_0, a0_1⟩ : S75), (⟨a0_2, a0_3⟩ : S75)⟩ : S133), (⟨(⟨a1_0, a1_1⟩ : S75), (⟨a1_2, a1_3⟩ : S75)⟩ : S133), ()) = some (impl_HowMeet.toH t) := by
  rw [impl_HowMeet.ef]
  (try dsimp only)
  unfold impl_HowMeet.f at h
  repeat' (with_reducible first
   | exact nos h
   | (cases some_inj h; exact impl_HowMeet.rt _)
   | ((have q : impl_HowMeet.j0 k _ _ _ _ _ _ _ _ _ = some _ := h; clear q); rcases k with _ | k <;> simp only [impl_HowMeet.j0, reduceCtorEq] at h)
   | ((have q : impl_HowMeet.j1 k _ _ _ _ _ _ _ _ _ _ _ = some _ := h; clear q); rcases k with _ | k <;> simp only [impl_HowMeet.j1, reduceCtorEq] at h)
   | ((have q : impl_HowMeet.j2 k _ _ _ _ _ _ _ _ = some _ := h; clear q); rcases k with _ | k <;> simp only [impl_HowMeet.j2, reduceCtorEq] at h)
   | ((have q : impl_HowMeet.j3 k _ _ _ _ = some _ := h; clear q); rcases k with _ | k <;> simp only [impl_HowMeet.j3, reduceCtorEq] at h)
   | ((have q : impl_HowMeet.j4 k _ _ _ _ _ _ _ _ _ = some _ := h; clear q); rcases k with _ | k <;> simp only [impl_HowMeet.j4, reduceCtorEq] at h)
   | (simp only [Option.bind_some] at h)
   | (refine ite_by h ?_ ?_ <;> (intro hc h; (try simp only [nrm] at hc)))
   | refine itT ?_
   | refine itF ?_
   | (refine bind_by h (fun t ht h => ?_); (first | refine (impl_IsSegment.ap_of (impl_IsSegment.go ht _)).trans ?_ | refine (impl_SideOf.ap_of (impl_SideOf.go ht _)).trans ?_ | refine (impl_forward.ap_of (impl_forward.go ht _)).trans ?_ | refine (impl_BeforePoint.ap_of (impl_BeforePoint.go ht _)).trans ?_ | refine (impl_IsOn.ap_of (impl_IsOn.go ht _)).trans ?_); (try dsimp only at h ⊢))
   | (simp only [nr2] at h ⊢)
   | (exfalso; omega))
def impl_IsRing.Fs : List (Spc env) := [impl_around.spec, impl_IsSegment.spec, impl_HowMeet.spec]
def impl_IsRing.fin : St eΓ → Option (HL eΓ [.b]) := finR env Tryz.f140.results.toList [.b]
def impl_IsRing.cut : Nat → Option (List (Lv SC)) := lk [(5, [⟨3, none, false⟩, ⟨18, none, false⟩, ⟨19, none, false⟩]), (10, [⟨3, none, false⟩, ⟨4, none, false⟩, ⟨18, none, false⟩, ⟨19, none, false⟩, ⟨28, none, false⟩, ⟨29, none, false⟩])]
def impl_IsRing.ret (r0 : Bool) : Option (HL eΓ [.b]) := some (r0, ())
def impl_IsRing.p5 (k : Nat) (x18 : Int) (x19 : Int) (x3 : List S133) : Option (HL eΓ [.b]) := evM env impl_IsRing.Fs Tryz.f140.ntmps impl_IsRing.fin impl_IsRing.cut k [.code (sub_ [1, 1, 1, 0, 1, 0, 0, 0] (bodyOf Tryz.f140)), .code (sub_ [1, 1, 1, 0, 1, 0, 0, 1] (bodyOf Tryz.f140)), .lp (sub_ [1, 1, 1, 0, 1, 0, 0] (bodyOf Tryz.f140)), .blk 0, .code (sub_ [1, 1, 1, 1] (bodyOf Tryz.f140))] (mkSt [(3, .c (.sl 0)), (18, .c (.v (.int .i64 x18))), (19, .c (.v (.int .i64 x19)))] [.row .own 133 (.st .s133) x3])
def impl_IsRing.p10 (k : Nat) (x4 : Int) (x18 : Int) (x19 : Int) (x28 : Int) (x29 : Int) (x3 : List S133) : Option (HL eΓ [.b]) := evM env impl_IsRing.Fs Tryz.f140.ntmps impl_IsRing.fin impl_IsRing.cut k [.code (sub_ [1, 1, 1, 0, 1, 0, 0, 1, 1, 0, 0, 1, 1, 1, 0, 0, 0] (bodyOf Tryz.f140)), .code (sub_ [1, 1, 1, 0, 1, 0, 0, 1, 1, 0, 0, 1, 1, 1, 0, 0, 1] (bodyOf Tryz.f140)), .lp (sub_ [1, 1, 1, 0, 1, 0, 0, 1, 1, 0, 0, 1, 1, 1, 0, 0] (bodyOf Tryz.f140)), .blk 2, .blk 1, .code (sub_ [1, 1, 1, 0, 1, 0, 0, 1, 1, 1] (bodyOf Tryz.f140)), .lp (sub_ [1, 1, 1, 0, 1, 0, 0] (bodyOf Tryz.f140)), .blk 0, .code (sub_ [1, 1, 1, 1] (bodyOf Tryz.f140))] (mkSt [(3, .c (.sl 0)), (4, .c (.v (.int .i64 x4))), (18, .c (.v (.int .i64 x18))), (19, .c (.v (.int .i64 x19))), (28, .c (.v (.int .i64 x28))), (29, .c (.v (.int .i64 x29)))] [.row .own 133 (.st .s133) x3])
theorem impl_IsRing.e5 (k : Nat) (x18 : Int) (x19 : Int) (x3 : List S133) : impl_IsRing.p5 (k + 1) x18 x19 x3 = if x19 < x18 then (if 0 ≤ x19 then (if x19 < (x3.length : Int) then (impl_IsSegment.ap k (⟨(⟨(rd_T133 x3 x19).f0.f0, (rd_T133 x3 x19).f0.f1⟩ : S75), (⟨(rd_T133 x3 x19).f1.f0, (rd_T133 x3 x19).f1.f1⟩ : S75)⟩ : S133) fun r1 => if (!r1) = true then (impl_IsRing.ret false) else (impl_IsRing.p10 k x19 x18 x19 x19 0 x3)) else none) else none) else (impl_IsRing.ret true) := by kernel_rfl
theorem impl_IsRing.e10 (k : Nat) (x4 : Int) (x18 : Int) (x19 : Int) (x28 : Int) (x29 : Int) (x3 : List S133) : impl_IsRing.p10 (k + 1) x4 x18 x19 x28 x29 x3 = if x29 < x28 then (if x29 = (wrap64 (x4 - 1)) then (if 0 ≤ x4 then (if x4 < (x3.length : Int) then (if 0 ≤ x29 then (if x29 < (x3.length : Int) then (impl_HowMeet.ap k (⟨(⟨(rd_T133 x3 x4).f0.f0, (rd_T133 x3 x4).f0.f1⟩ : S75), (⟨(rd_T133 x3 x4).f1.f0, (rd_T133 x3 x4).f1.f1⟩ : S75)⟩ : S133) (⟨(⟨(rd_T133 x3 x29).f0.f0, (rd_T133 x3 x29).f0.f1⟩ : S75), (⟨(rd_T133 x3 x29).f1.f0, (rd_T133 x3 x29).f1.f1⟩ : S75)⟩ : S133) fun r1 => if ¬ r1 = 1 then (impl_IsRing.ret false) else (impl_IsRing.p10 k x4 x18 x19 x28 (wrap64 (x29 + 1)) x3)) else none) else none) else none) else none) else (if x29 = 0 then (if x4 = (wrap64 ((x3.length : Int) - 1)) then (if 0 ≤ x4 then (if x4 < (x3.length : Int) then (if 0 ≤ x29 then (if x29 < (x3.length : Int) then (impl_HowMeet.ap k (⟨(⟨(rd_T133 x3 x4).f0.f0, (rd_T133 x3 x4).f0.f1⟩ : S75), (⟨(rd_T133 x3 x4).f1.f0, (rd_T133 x3 x4).f1.f1⟩ : S75)⟩ : S133) (⟨(⟨(rd_T133 x3 x29).f0.f0, (rd_T133 x3 x29).f0.f1⟩ : S75), (⟨(rd_T133 x3 x29).f1.f0, (rd_T133 x3 x29).f1.f1⟩ : S75)⟩ : S133) fun r2 => if ¬ r2 = 1 then (impl_IsRing.ret false) else (impl_IsRing.p10 k x4 x18 x19 x28 (wrap64 (x29 + 1)) x3)) else none) else none) else none) else none) else (if 0 ≤ x4 then (if x4 < (x3.length : Int) then (if 0 ≤ x29 then (if x29 < (x3.length : Int) then (impl_HowMeet.ap k (⟨(⟨(rd_T133 x3 x4).f0.f0, (rd_T133 x3 x4).f0.f1⟩ : S75), (⟨(rd_T133 x3 x4).f1.f0, (rd_T133 x3 x4).f1.f1⟩ : S75)⟩ : S133) (⟨(⟨(rd_T133 x3 x29).f0.f0, (rd_T133 x3 x29).f0.f1⟩ : S75), (⟨(rd_T133 x3 x29).f1.f0, (rd_T133 x3 x29).f1.f1⟩ : S75)⟩ : S133) fun r3 => if ¬ r3 = 0 then (impl_IsRing.ret false) else (impl_IsRing.p10 k x4 x18 x19 x28 (wrap64 (x29 + 1)) x3)) else none) else none) else none) else none)) else (if 0 ≤ x4 then (if x4 < (x3.length : Int) then (if 0 ≤ x29 then (if x29 < (x3.length : Int) then (impl_HowMeet.ap k (⟨(⟨(rd_T133 x3 x4).f0.f0, (rd_T133 x3 x4).f0.f1⟩ : S75), (⟨(rd_T133 x3 x4).f1.f0, (rd_T133 x3 x4).f1.f1⟩ : S75)⟩ : S133) (⟨(⟨(rd_T133 x3 x29).f0.f0, (rd_T133 x3 x29).f0.f1⟩ : S75), (⟨(rd_T133 x3 x29).f1.f0, (rd_T133 x3 x29).f1.f1⟩ : S75)⟩ : S133) fun r4 => if ¬ r4 = 0 then (impl_IsRing.ret false) else (impl_IsRing.p10 k x4 x18 x19 x28 (wrap64 (x29 + 1)) x3)) else none) else none) else none) else none))) else (impl_IsRing.p5 k x18 (wrap64 (x19 + 1)) x3) := by kernel_rfl
def impl_IsRing.run (k : Nat) (h : HL eΓ [.l 75 (.st .s75)]) : Option (HL eΓ [.b]) := evF env impl_IsRing.Fs Tryz.f140 impl_IsRing.cut [.l 75 (.st .s75)] [.b] k h
theorem impl_IsRing.ef (k : Nat) (h0 : List S75) : impl_IsRing.run k (h0, ()) = if (h0.length : Int) < 3 then (impl_IsRing.ret false) else (if (h0.length : Int) > 10 then (impl_IsRing.ret false) else (impl_around.ap k h0 fun r1 => impl_IsRing.p5 k (r1.length : Int) 0 r1)) := by kernel_rfl
def impl_IsRing.toH (t : Bool) : HL eΓ [.b] := (t, ())
def impl_IsRing.spec : Spc env := ⟨140, [.l 75 (.st .s75)], [.b], impl_IsRing.run⟩
def impl_IsRing.ap {R : Type} (k : Nat) (h0 : List S75) (K : Bool → Option R) : Option R := (impl_IsRing.run k (h0, ())).bind fun r => K (r.1 : Bool)
theorem impl_IsRing.ap_of {R : Type} {k : Nat} {h0 : List S75} {r0 : Bool} {K : Bool → Option R} (h : impl_IsRing.run k (h0, ()) = some (r0, ())) : impl_IsRing.ap k h0 K = K r0 := by unfold impl_IsRing.ap; rw [h]; rfl
theorem impl_IsRing.snd : Snd env impl_IsRing.spec := evF_snd env_ok (sndC impl_around.snd (sndC impl_IsSegment.snd (sndC impl_HowMeet.snd (sndN))))
attribute [local irreducible] impl_IsRing.run
theorem impl_IsRing.rt (a0 : Bool) : impl_IsRing.ret a0 = some (impl_IsRing.toH (a0)) := rfl
theorem impl_IsRing.br (n : Nat) : (∀ K, n ≤ K → ∀ (x18 : Int) (x19 : Int) (x3 : List S133) t, impl_IsRing.l0 n x3 x18 x19 = some t → impl_IsRing.p5 K x18 x19 x3 = some (impl_IsRing.toH t)) ∧ (∀ K, n ≤ K → ∀ (x4 : Int) (x18 : Int) (x19 : Int) (x28 : Int) (x29 : Int) (x3 : List S133) t, impl_IsRing.l1 n x3 x4 x18 x19 x28 x29 = some t → impl_IsRing.p10 K x4 x18 x19 x28 x29 x3 = some (impl_IsRing.toH t)) := by
  induction n using Nat.strongRecOn with
  | _ n ih =>
  refine ⟨fun K hK x18 x19 x3 t h => ?_, fun K hK x4 x18 x19 x28 x29 x3 t h => ?_⟩
  all_goals (rcases n with _ | k)
  all_goals (try (exact nos h))
  all_goals (obtain ⟨K, rfl⟩ : ∃ q, K = q + 1 := ⟨K - 1, by omega⟩)
  all_goals (first | rw [impl_IsRing.e5] | rw [impl_IsRing.e10])
  all_goals (simp only [impl_IsRing.l0, impl_IsRing.l1] at h)
  repeat' (with_reducible first
   | exact nos h
   | (cases some_inj h; exact impl_IsRing.rt _)
   | exact (ih _ (by omega)).1 _ (by omega) _ _ _ _ h
   | exact (ih _ (by omega)).2 _ (by omega) _ _ _ _ _ _ _ h
   | ((have q : impl_IsRing.j0 k _ _ = some _ := h; clear q); rcases k with _ | k <;> simp only [impl_IsRing.j0, reduceCtorEq] at h)
   | ((have q : impl_IsRing.j3 k _ _ _ _ _ _ _ _ _ = some _ := h; clear q); rcases k with _ | k <;> simp only [impl_IsRing.j3, reduceCtorEq] at h)
   | (simp only [Option.bind_some] at h)
   | (refine ite_by h ?_ ?_ <;> (intro hc h; (try simp only [nrm] at hc)))
   | refine itT ?_
   | refine itF ?_
   | (refine bind_by h (fun t ht h => ?_); (first | refine (impl_around.ap_of (impl_around.go ht _ (by omega))).trans ?_ | refine (impl_IsSegment.ap_of (impl_IsSegment.go ht _)).trans ?_ | refine (impl_HowMeet.ap_of (impl_HowMeet.go ht _ (by omega))).trans ?_); (try dsimp only at h ⊢))
   | (simp only [nr2] at h ⊢)
   | (exfalso; omega))
theorem impl_IsRing.go {k : Nat} {l0 : List S75} {t} (h : impl_IsRing.f k l0 = some t) (K : Nat) (hK : k ≤ K) : impl_IsRing.run K (l0, ()) = some (impl_IsRing.toH t) := by
  rw [impl_IsRing.ef]
  (try dsimp only)
  unfold impl_IsRing.f at h
  repeat' (with_reducible first
   | exact nos h
   | (cases some_inj h; exact impl_IsRing.rt _)
   | exact (impl_IsRing.br _).1 _ (by omega) _ _ _ _ h
   | exact (impl_IsRing.br _).2 _ (by omega) _ _ _ _ _ _ _ h
   | ((have q : impl_IsRing.j0 k _ _ = some _ := h; clear q); rcases k with _ | k <;> simp only [impl_IsRing.j0, reduceCtorEq] at h)
   | ((have q : impl_IsRing.j3 k _ _ _ _ _ _ _ _ _ = some _ := h; clear q); rcases k with _ | k <;> simp only [impl_IsRing.j3, reduceCtorEq] at h)
   | (simp only [Option.bind_some] at h)
   | (refine ite_by h ?_ ?_ <;> (intro hc h; (try simp only [nrm] at hc)))
   | refine itT ?_
   | refine itF ?_
   | (refine bind_by h (fun t ht h => ?_); (first | refine (impl_around.ap_of (impl_around.go ht _ (by omega))).trans ?_ | refine (impl_IsSegment.ap_of (impl_IsSegment.go ht _)).trans ?_ | refine (impl_HowMeet.ap_of (impl_HowMeet.go ht _ (by omega))).trans ?_); (try dsimp only at h ⊢))
   | (simp only [nr2] at h ⊢)
   | (exfalso; omega))
def impl_IsLine.Fs : List (Spc env) := [impl_IsPoint.spec]
def impl_IsLine.fin : St eΓ → Option (HL eΓ [.b]) := finR env Tryz.f189.results.toList [.b]
def impl_IsLine.cut : Nat → Option (List (Lv SC)) := lk [(4, [⟨0, none, false⟩, ⟨13, none, false⟩, ⟨14, none, false⟩, ⟨15, none, false⟩])]
def impl_IsLine.ret (r0 : Bool) : Option (HL eΓ [.b]) := some (r0, ())
def impl_IsLine.p4 (k : Nat) (x14 : Int) (x15 : Int) (x0 : List S75) : Option (HL eΓ [.b]) := evM env impl_IsLine.Fs Tryz.f189.ntmps impl_IsLine.fin impl_IsLine.cut k [.code (sub_ [1, 1, 0, 1, 0, 0, 0] (bodyOf Tryz.f189)), .code (sub_ [1, 1, 0, 1, 0, 0, 1] (bodyOf Tryz.f189)), .lp (sub_ [1, 1, 0, 1, 0, 0] (bodyOf Tryz.f189)), .blk 0, .code (sub_ [1, 1, 1] (bodyOf Tryz.f189))] (mkSt [(0, .c (.sl 0)), (13, .c (.sl 0)), (14, .c (.v (.int .i64 x14))), (15, .c (.v (.int .i64 x15)))] [.row .ro 75 (.st .s75) x0])
theorem impl_IsLine.e4 (k : Nat) (x14 : Int) (x15 : Int) (x0 : List S75) : impl_IsLine.p4 (k + 1) x14 x15 x0 = if x15 < x14 then (if 0 ≤ x15 then (if x15 < (x0.length : Int) then (impl_IsPoint.ap k (⟨(rd_T75 x0 x15).f0, (rd_T75 x0 x15).f1⟩ : S75) fun r1 => if (!r1) = true then (impl_IsLine.ret false) else (if x15 > 0 then (if 0 ≤ (wrap64 (x15 - 1)) then (if (wrap64 (x15 - 1)) < (x0.length : Int) then (if ((rd_T75 x0 x15).f0) = ((rd_T75 x0 (wrap64 (x15 - 1))).f0) ∧ (((rd_T75 x0 x15).f1) = ((rd_T75 x0 (wrap64 (x15 - 1))).f1) ∧ True) then (impl_IsLine.ret false) else (impl_IsLine.p4 k x14 (wrap64 (x15 + 1)) x0)) else none) else none) else (impl_IsLine.p4 k x14 (wrap64 (x15 + 1)) x0))) else none) else none) else (impl_IsLine.ret true) := by kernel_rfl
def impl_IsLine.run (k : Nat) (h : HL eΓ [.l 75 (.st .s75)]) : Option (HL eΓ [.b]) := evF env impl_IsLine.Fs Tryz.f189 impl_IsLine.cut [.l 75 (.st .s75)] [.b] k h
theorem impl_IsLine.ef (k : Nat) (h0 : List S75) : impl_IsLine.run k (h0, ()) = if (h0.length : Int) < 2 then (impl_IsLine.ret false) else (if (h0.length : Int) > 10 then (impl_IsLine.ret false) else (impl_IsLine.p4 k (h0.length : Int) 0 h0)) := by kernel_rfl
def impl_IsLine.toH (t : Bool) : HL eΓ [.b] := (t, ())
def impl_IsLine.spec : Spc env := ⟨189, [.l 75 (.st .s75)], [.b], impl_IsLine.run⟩
def impl_IsLine.ap {R : Type} (k : Nat) (h0 : List S75) (K : Bool → Option R) : Option R := (impl_IsLine.run k (h0, ())).bind fun r => K (r.1 : Bool)
theorem impl_IsLine.ap_of {R : Type} {k : Nat} {h0 : List S75} {r0 : Bool} {K : Bool → Option R} (h : impl_IsLine.run k (h0, ()) = some (r0, ())) : impl_IsLine.ap k h0 K = K r0 := by unfold impl_IsLine.ap; rw [h]; rfl
theorem impl_IsLine.snd : Snd env impl_IsLine.spec := evF_snd env_ok (sndC impl_IsPoint.snd (sndN))
attribute [local irreducible] impl_IsLine.run
theorem impl_IsLine.rt (a0 : Bool) : impl_IsLine.ret a0 = some (impl_IsLine.toH (a0)) := rfl
theorem impl_IsLine.br (n : Nat) : (∀ K, n ≤ K → ∀ (x14 : Int) (x15 : Int) (x0 : List S75) t, impl_IsLine.l0 n x0 x0 x14 x15 = some t → impl_IsLine.p4 K x14 x15 x0 = some (impl_IsLine.toH t)) := by
  induction n using Nat.strongRecOn with
  | _ n ih =>
  intro K hK x14 x15 x0 t h
  all_goals (rcases n with _ | k)
  all_goals (try (exact nos h))
  all_goals (obtain ⟨K, rfl⟩ : ∃ q, K = q + 1 := ⟨K - 1, by omega⟩)
  all_goals (first | rw [impl_IsLine.e4])
  all_goals (simp only [impl_IsLine.l0] at h)
  repeat' (with_reducible first
   | exact nos h
   | (cases some_inj h; exact impl_IsLine.rt _)
   | exact (ih _ (by omega)) _ (by omega) _ _ _ _ h
   | ((have q : impl_IsLine.j0 k _ _ = some _ := h; clear q); rcases k with _ | k <;> simp only [impl_IsLine.j0, reduceCtorEq] at h)
   | (simp only [Option.bind_some] at h)
   | (refine ite_by h ?_ ?_ <;> (intro hc h; (try simp only [nrm] at hc)))
   | refine itT ?_
   | refine itF ?_
   | (refine bind_by h (fun t ht h => ?_); refine (impl_IsPoint.ap_of (impl_IsPoint.go ht _)).trans ?_; (try dsimp only at h ⊢))
   | (simp only [nr2] at h ⊢)
   | (exfalso; omega))
theorem impl_IsLine.go {k : Nat} {l0 : List S75} {t} (h : impl_IsLine.f k l0 = some t) (K : Nat) (hK : k ≤ K) : impl_IsLine.run K (l0, ()) = some (impl_IsLine.toH t) := by
  rw [impl_IsLine.ef]
  (try dsimp only)
  unfold impl_IsLine.f at h
  repeat' (with_reducible first
   | exact nos h
   | (cases some_inj h; exact impl_IsLine.rt _)
   | exact (impl_IsLine.br _) _ (by omega) _ _ _ _ h
   | ((have q : impl_IsLine.j0 k _ _ = some _ := h; clear q); rcases k with _ | k <;> simp only [impl_IsLine.j0, reduceCtorEq] at h)
   | (simp only [Option.bind_some] at h)
   | (refine ite_by h ?_ ?_ <;> (intro hc h; (try simp only [nrm] at hc)))
   | refine itT ?_
   | refine itF ?_
   | (refine bind_by h (fun t ht h => ?_); refine (impl_IsPoint.ap_of (impl_IsPoint.go ht _)).trans ?_; (try dsimp only at h ⊢))
   | (simp only [nr2] at h ⊢)
   | (exfalso; omega))
def impl_SegmentsOf.Fs : List (Spc env) := [impl_IsLine.spec]
def impl_SegmentsOf.fin : St eΓ → Option (HL eΓ [.l 133 (.st .s133)]) := finR env Tryz.f169.results.toList [.l 133 (.st .s133)]
def impl_SegmentsOf.cut : Nat → Option (List (Lv SC)) := lk [(5, [⟨0, none, false⟩, ⟨3, none, false⟩, ⟨4, none, false⟩])]
def impl_SegmentsOf.ret (r0 : List S133) : Option (HL eΓ [.l 133 (.st .s133)]) := some (r0, ())
def impl_SegmentsOf.p5 (k : Nat) (x4 : Int) (x0 : List S75) (x3 : List S133) : Option (HL eΓ [.l 133 (.st .s133)]) := evM env impl_SegmentsOf.Fs Tryz.f169.ntmps impl_SegmentsOf.fin impl_SegmentsOf.cut k [.code (sub_ [1, 1, 1, 0, 1, 0, 0, 0, 0] (bodyOf Tryz.f169)), .code (sub_ [1, 1, 1, 0, 1, 0, 0, 0, 1] (bodyOf Tryz.f169)), .code (sub_ [1, 1, 1, 0, 1, 0, 0, 1] (bodyOf Tryz.f169)), .lp (sub_ [1, 1, 1, 0, 1, 0, 0] (bodyOf Tryz.f169)), .blk 0, .code (sub_ [1, 1, 1, 1] (bodyOf Tryz.f169))] (mkSt [(0, .c (.sl 0)), (3, .c (.sl 1)), (4, .c (.v (.int .i64 x4)))] [.row .ro 75 (.st .s75) x0, .row .own 133 (.st .s133) x3])
theorem impl_SegmentsOf.e5 (k : Nat) (x4 : Int) (x0 : List S75) (x3 : List S133) : impl_SegmentsOf.p5 (k + 1) x4 x0 x3 = if x4 < (x0.length : Int) then (if 0 ≤ (wrap64 (x4 - 1)) then (if (wrap64 (x4 - 1)) < (x0.length : Int) then (if 0 ≤ x4 then (if x4 < (x0.length : Int) then (if (x3.length + 1) * 32 ≤ 140737488355328 then (impl_SegmentsOf.p5 k (wrap64 (x4 + 1)) x0 (x3 ++ [(⟨(⟨(rd_T75 x0 (wrap64 (x4 - 1))).f0, (rd_T75 x0 (wrap64 (x4 - 1))).f1⟩ : S75), (⟨(rd_T75 x0 x4).f0, (rd_T75 x0 x4).f1⟩ : S75)⟩ : S133)])) else none) else none) else none) else none) else none) else (impl_SegmentsOf.ret x3) := by kernel_rfl
def impl_SegmentsOf.run (k : Nat) (h : HL eΓ [.l 75 (.st .s75)]) : Option (HL eΓ [.l 133 (.st .s133)]) := evF env impl_SegmentsOf.Fs Tryz.f169 impl_SegmentsOf.cut [.l 75 (.st .s75)] [.l 133 (.st .s133)] k h
theorem impl_SegmentsOf.ef (k : Nat) (h0 : List S75) : impl_SegmentsOf.run k (h0, ()) = impl_IsLine.ap k h0 fun r1 => if (!r1) = true then (impl_SegmentsOf.ret ([] : List S133)) else (impl_SegmentsOf.p5 k 1 h0 ([] : List S133)) := by kernel_rfl
def impl_SegmentsOf.toH (t : (List (S133))) : HL eΓ [.l 133 (.st .s133)] := (t, ())
def impl_SegmentsOf.spec : Spc env := ⟨169, [.l 75 (.st .s75)], [.l 133 (.st .s133)], impl_SegmentsOf.run⟩
def impl_SegmentsOf.ap {R : Type} (k : Nat) (h0 : List S75) (K : (List S133) → Option R) : Option R := (impl_SegmentsOf.run k (h0, ())).bind fun r => K (r.1 : List S133)
theorem impl_SegmentsOf.ap_of {R : Type} {k : Nat} {h0 : List S75} {r0 : List S133} {K : (List S133) → Option R} (h : impl_SegmentsOf.run k (h0, ()) = some (r0, ())) : impl_SegmentsOf.ap k h0 K = K r0 := by unfold impl_SegmentsOf.ap; rw [h]; rfl
theorem impl_SegmentsOf.snd : Snd env impl_SegmentsOf.spec := evF_snd env_ok (sndC impl_IsLine.snd (sndN))
attribute [local irreducible] impl_SegmentsOf.run
theorem impl_SegmentsOf.rt (a0 : List S133) : impl_SegmentsOf.ret a0 = some (impl_SegmentsOf.toH (a0)) := rfl
theorem impl_SegmentsOf.br (n : Nat) : (∀ K, n ≤ K → ∀ (x4 : Int) (x0 : List S75) (x3 : List S133) t, impl_SegmentsOf.l0 n x0 x3 x4 = some t → impl_SegmentsOf.p5 K x4 x0 x3 = some (impl_SegmentsOf.toH t)) := by
  induction n using Nat.strongRecOn with
  | _ n ih =>
  intro K hK x4 x0 x3 t h
  all_goals (rcases n with _ | k)
  all_goals (try (exact nos h))
  all_goals (obtain ⟨K, rfl⟩ : ∃ q, K = q + 1 := ⟨K - 1, by omega⟩)
  all_goals (first | rw [impl_SegmentsOf.e5])
  all_goals (simp only [impl_SegmentsOf.l0] at h)
  repeat' (with_reducible first
   | exact nos h
   | (cases some_inj h; exact impl_SegmentsOf.rt _)
   | exact (ih _ (by omega)) _ (by omega) _ _ _ _ h
   | (simp only [Option.bind_some] at h)
   | (refine ite_by h ?_ ?_ <;> (intro hc h; (try simp only [nrm] at hc)))
   | refine itT ?_
   | refine itF ?_
   | (refine bind_by h (fun t ht h => ?_); refine (impl_IsLine.ap_of (impl_IsLine.go ht _ (by omega))).trans ?_; (try dsimp only at h ⊢))
   | (simp only [nr2] at h ⊢)
   | (exfalso; omega))
theorem impl_SegmentsOf.go {k : Nat} {l0 : List S75} {t} (h : impl_SegmentsOf.f k l0 = some t) (K : Nat) (hK : k ≤ K) : impl_SegmentsOf.run K (l0, ()) = some (impl_SegmentsOf.toH t) := by
  rw [impl_SegmentsOf.ef]
  (try dsimp only)
  unfold impl_SegmentsOf.f at h
  repeat' (with_reducible first
   | exact nos h
   | (cases some_inj h; exact impl_SegmentsOf.rt _)
   | exact (impl_SegmentsOf.br _) _ (by omega) _ _ _ _ h
   | (simp only [Option.bind_some] at h)
   | (refine ite_by h ?_ ?_ <;> (intro hc h; (try simp only [nrm] at hc)))
   | refine itT ?_
   | refine itF ?_
   | (refine bind_by h (fun t ht h => ?_); refine (impl_IsLine.ap_of (impl_IsLine.go ht _ (by omega))).trans ?_; (try dsimp only at h ⊢))
   | (simp only [nr2] at h ⊢)
   | (exfalso; omega))
def impl_IsSimple.Fs : List (Spc env) := [impl_IsLine.spec, impl_SegmentsOf.spec, impl_HowMeet.spec]
def impl_IsSimple.fin : St eΓ → Option (HL eΓ [.b]) := finR env Tryz.f151.results.toList [.b]
def impl_IsSimple.cut : Nat → Option (List (Lv SC)) := lk [(5, [⟨3, none, false⟩, ⟨13, none, false⟩, ⟨14, none, false⟩]), (8, [⟨3, none, false⟩, ⟨4, none, false⟩, ⟨13, none, false⟩, ⟨14, none, false⟩, ⟨17, none, false⟩, ⟨18, none, false⟩])]
def impl_IsSimple.ret (r0 : Bool) : Option (HL eΓ [.b]) := some (r0, ())
def impl_IsSimple.p5 (k : Nat) (x13 : Int) (x14 : Int) (x3 : List S133) : Option (HL eΓ [.b]) := evM env impl_IsSimple.Fs Tryz.f151.ntmps impl_IsSimple.fin impl_IsSimple.cut k [.code (sub_ [1, 1, 1, 0, 1, 0, 0, 0] (bodyOf Tryz.f151)), .code (sub_ [1, 1, 1, 0, 1, 0, 0, 1] (bodyOf Tryz.f151)), .lp (sub_ [1, 1, 1, 0, 1, 0, 0] (bodyOf Tryz.f151)), .blk 0, .code (sub_ [1, 1, 1, 1] (bodyOf Tryz.f151))] (mkSt [(3, .c (.sl 0)), (13, .c (.v (.int .i64 x13))), (14, .c (.v (.int .i64 x14)))] [.row .own 133 (.st .s133) x3])
def impl_IsSimple.p8 (k : Nat) (x4 : Int) (x13 : Int) (x14 : Int) (x17 : Int) (x18 : Int) (x3 : List S133) : Option (HL eΓ [.b]) := evM env impl_IsSimple.Fs Tryz.f151.ntmps impl_IsSimple.fin impl_IsSimple.cut k [.code (sub_ [1, 1, 1, 0, 1, 0, 0, 1, 1, 0, 0, 1, 1, 0, 0, 0] (bodyOf Tryz.f151)), .code (sub_ [1, 1, 1, 0, 1, 0, 0, 1, 1, 0, 0, 1, 1, 0, 0, 1] (bodyOf Tryz.f151)), .lp (sub_ [1, 1, 1, 0, 1, 0, 0, 1, 1, 0, 0, 1, 1, 0, 0] (bodyOf Tryz.f151)), .blk 2, .blk 1, .code (sub_ [1, 1, 1, 0, 1, 0, 0, 1, 1, 1] (bodyOf Tryz.f151)), .lp (sub_ [1, 1, 1, 0, 1, 0, 0] (bodyOf Tryz.f151)), .blk 0, .code (sub_ [1, 1, 1, 1] (bodyOf Tryz.f151))] (mkSt [(3, .c (.sl 0)), (4, .c (.v (.int .i64 x4))), (13, .c (.v (.int .i64 x13))), (14, .c (.v (.int .i64 x14))), (17, .c (.v (.int .i64 x17))), (18, .c (.v (.int .i64 x18)))] [.row .own 133 (.st .s133) x3])
theorem impl_IsSimple.e5 (k : Nat) (x13 : Int) (x14 : Int) (x3 : List S133) : impl_IsSimple.p5 (k + 1) x13 x14 x3 = if x14 < x13 then (impl_IsSimple.p8 k x14 x13 x14 x14 0 x3) else (impl_IsSimple.ret true) := by kernel_rfl
theorem impl_IsSimple.e8 (k : Nat) (x4 : Int) (x13 : Int) (x14 : Int) (x17 : Int) (x18 : Int) (x3 : List S133) : impl_IsSimple.p8 (k + 1) x4 x13 x14 x17 x18 x3 = if x18 < x17 then (if x18 = (wrap64 (x4 - 1)) then (if 0 ≤ x4 then (if x4 < (x3.length : Int) then (if 0 ≤ x18 then (if x18 < (x3.length : Int) then (impl_HowMeet.ap k (⟨(⟨(rd_T133 x3 x4).f0.f0, (rd_T133 x3 x4).f0.f1⟩ : S75), (⟨(rd_T133 x3 x4).f1.f0, (rd_T133 x3 x4).f1.f1⟩ : S75)⟩ : S133) (⟨(⟨(rd_T133 x3 x18).f0.f0, (rd_T133 x3 x18).f0.f1⟩ : S75), (⟨(rd_T133 x3 x18).f1.f0, (rd_T133 x3 x18).f1.f1⟩ : S75)⟩ : S133) fun r1 => if ¬ r1 = 1 then (impl_IsSimple.ret false) else (impl_IsSimple.p8 k x4 x13 x14 x17 (wrap64 (x18 + 1)) x3)) else none) else none) else none) else none) else (if 0 ≤ x4 then (if x4 < (x3.length : Int) then (if 0 ≤ x18 then (if x18 < (x3.length : Int) then (impl_HowMeet.ap k (⟨(⟨(rd_T133 x3 x4).f0.f0, (rd_T133 x3 x4).f0.f1⟩ : S75), (⟨(rd_T133 x3 x4).f1.f0, (rd_T133 x3 x4).f1.f1⟩ : S75)⟩ : S133) (⟨(⟨(rd_T133 x3 x18).f0.f0, (rd_T133 x3 x18).f0.f1⟩ : S75), (⟨(rd_T133 x3 x18).f1.f0, (rd_T133 x3 x18).f1.f1⟩ : S75)⟩ : S133) fun r2 => if ¬ r2 = 0 then (impl_IsSimple.ret false) else (impl_IsSimple.p8 k x4 x13 x14 x17 (wrap64 (x18 + 1)) x3)) else none) else none) else none) else none)) else (impl_IsSimple.p5 k x13 (wrap64 (x14 + 1)) x3) := by kernel_rfl
def impl_IsSimple.run (k : Nat) (h : HL eΓ [.l 75 (.st .s75)]) : Option (HL eΓ [.b]) := evF env impl_IsSimple.Fs Tryz.f151 impl_IsSimple.cut [.l 75 (.st .s75)] [.b] k h
theorem impl_IsSimple.ef (k : Nat) (h0 : List S75) : impl_IsSimple.run k (h0, ()) = impl_IsLine.ap k h0 fun r1 => if (!r1) = true then (impl_IsSimple.ret false) else (impl_SegmentsOf.ap k h0 fun r2 => impl_IsSimple.p5 k (r2.length : Int) 0 r2) := by kernel_rfl
def impl_IsSimple.toH (t : Bool) : HL eΓ [.b] := (t, ())
def impl_IsSimple.spec : Spc env := ⟨151, [.l 75 (.st .s75)], [.b], impl_IsSimple.run⟩
def impl_IsSimple.ap {R : Type} (k : Nat) (h0 : List S75) (K : Bool → Option R) : Option R := (impl_IsSimple.run k (h0, ())).bind fun r => K (r.1 : Bool)
theorem impl_IsSimple.ap_of {R : Type} {k : Nat} {h0 : List S75} {r0 : Bool} {K : Bool → Option R} (h : impl_IsSimple.run k (h0, ()) = some (r0, ())) : impl_IsSimple.ap k h0 K = K r0 := by unfold impl_IsSimple.ap; rw [h]; rfl
theorem impl_IsSimple.snd : Snd env impl_IsSimple.spec := evF_snd env_ok (sndC impl_IsLine.snd (sndC impl_SegmentsOf.snd (sndC impl_HowMeet.snd (sndN))))
attribute [local irreducible] impl_IsSimple.run
theorem impl_IsSimple.rt (a0 : Bool) : impl_IsSimple.ret a0 = some (impl_IsSimple.toH (a0)) := rfl
theorem impl_IsSimple.br (n : Nat) : (∀ K, n ≤ K → ∀ (x13 : Int) (x14 : Int) (x3 : List S133) t, impl_IsSimple.l0 n x3 x13 x14 = some t → impl_IsSimple.p5 K x13 x14 x3 = some (impl_IsSimple.toH t)) ∧ (∀ K, n ≤ K → ∀ (x4 : Int) (x13 : Int) (x14 : Int) (x17 : Int) (x18 : Int) (x3 : List S133) t, impl_IsSimple.l1 n x3 x4 x13 x14 x17 x18 = some t → impl_IsSimple.p8 K x4 x13 x14 x17 x18 x3 = some (impl_IsSimple.toH t)) := by
  induction n using Nat.strongRecOn with
  | _ n ih =>
  refine ⟨fun K hK x13 x14 x3 t h => ?_, fun K hK x4 x13 x14 x17 x18 x3 t h => ?_⟩
  all_goals (rcases n with _ | k)
  all_goals (try (exact nos h))
  all_goals (obtain ⟨K, rfl⟩ : ∃ q, K = q + 1 := ⟨K - 1, by omega⟩)
  all_goals (first | rw [impl_IsSimple.e5] | rw [impl_IsSimple.e8])
  all_goals (simp only [impl_IsSimple.l0, impl_IsSimple.l1] at h)
  repeat' (with_reducible first
   | exact nos h
   | (cases some_inj h; exact impl_IsSimple.rt _)
   | exact (ih _ (by omega)).1 _ (by omega) _ _ _ _ h
   | exact (ih _ (by omega)).2 _ (by omega) _ _ _ _ _ _ _ h
   | (simp only [Option.bind_some] at h)
   | (refine ite_by h ?_ ?_ <;> (intro hc h; (try simp only [nrm] at hc)))
   | refine itT ?_
   | refine itF ?_
   | (refine bind_by h (fun t ht h => ?_); (first | refine (impl_IsLine.ap_of (impl_IsLine.go ht _ (by omega))).trans ?_ | refine (impl_SegmentsOf.ap_of (impl_SegmentsOf.go ht _ (by omega))).trans ?_ | refine (impl_HowMeet.ap_of (impl_HowMeet.go ht _ (by omega))).trans ?_); (try dsimp only at h ⊢))
   | (simp only [nr2] at h ⊢)
   | (exfalso; omega))
theorem impl_IsSimple.go {k : Nat} {l0 : List S75} {t} (h : impl_IsSimple.f k l0 = some t) (K : Nat) (hK : k ≤ K) : impl_IsSimple.run K (l0, ()) = some (impl_IsSimple.toH t) := by
  rw [impl_IsSimple.ef]
  (try dsimp only)
  unfold impl_IsSimple.f at h
  repeat' (with_reducible first
   | exact nos h
   | (cases some_inj h; exact impl_IsSimple.rt _)
   | exact (impl_IsSimple.br _).1 _ (by omega) _ _ _ _ h
   | exact (impl_IsSimple.br _).2 _ (by omega) _ _ _ _ _ _ _ h
   | (simp only [Option.bind_some] at h)
   | (refine ite_by h ?_ ?_ <;> (intro hc h; (try simp only [nrm] at hc)))
   | refine itT ?_
   | refine itF ?_
   | (refine bind_by h (fun t ht h => ?_); (first | refine (impl_IsLine.ap_of (impl_IsLine.go ht _ (by omega))).trans ?_ | refine (impl_SegmentsOf.ap_of (impl_SegmentsOf.go ht _ (by omega))).trans ?_ | refine (impl_HowMeet.ap_of (impl_HowMeet.go ht _ (by omega))).trans ?_); (try dsimp only at h ⊢))
   | (simp only [nr2] at h ⊢)
   | (exfalso; omega))
def impl_IsFeature.Fs : List (Spc env) := [impl_InRange.spec, impl_IsName.spec, impl_IsPoint.spec, impl_IsSimple.spec, impl_IsRing.spec]
def impl_IsFeature.cut : Nat → Option (List (Lv SC)) := lk []
def impl_IsFeature.ret (r0 : Bool) : Option (HL eΓ [.b]) := some (r0, ())
def impl_IsFeature.run (k : Nat) (h : HL eΓ [.st .s59]) : Option (HL eΓ [.b]) := evF env impl_IsFeature.Fs Tryz.f114 impl_IsFeature.cut [.st .s59] [.b] k h
theorem impl_IsFeature.ef (k : Nat) (h0 : S59) : impl_IsFeature.run k (h0, ()) = impl_InRange.ap k h0.f0 1 99 fun r1 => if (!r1) = true then (impl_IsFeature.ret false) else (impl_InRange.ap k h0.f2 0 9 fun r2 => if (!r2) = true then (impl_IsFeature.ret false) else (if ¬ h0.f3.toList = [] then (impl_IsName.ap k h0.f3 fun r3 => if (!r3) = true then (impl_IsFeature.ret false) else (if h0.f1 = 1 then (if (h0.f4.length : Int) = 1 then (if 0 < (h0.f4.length : Int) then (impl_IsPoint.ap k (⟨(rd_T75 h0.f4 0).f0, (rd_T75 h0.f4 0).f1⟩ : S75) fun r4 => impl_IsFeature.ret r4) else none) else (impl_IsFeature.ret false)) else (if h0.f1 = 2 then (impl_IsSimple.ap k h0.f4 fun r5 => impl_IsFeature.ret r5) else (if h0.f1 = 3 then (impl_IsRing.ap k h0.f4 fun r6 => impl_IsFeature.ret r6) else (impl_IsFeature.ret false))))) else (if h0.f1 = 1 then (if (h0.f4.length : Int) = 1 then (if 0 < (h0.f4.length : Int) then (impl_IsPoint.ap k (⟨(rd_T75 h0.f4 0).f0, (rd_T75 h0.f4 0).f1⟩ : S75) fun r7 => impl_IsFeature.ret r7) else none) else (impl_IsFeature.ret false)) else (if h0.f1 = 2 then (impl_IsSimple.ap k h0.f4 fun r8 => impl_IsFeature.ret r8) else (if h0.f1 = 3 then (impl_IsRing.ap k h0.f4 fun r9 => impl_IsFeature.ret r9) else (impl_IsFeature.ret false)))))) := by kernel_rfl
def impl_IsFeature.toH (t : Bool) : HL eΓ [.b] := (t, ())
def impl_IsFeature.spec : Spc env := ⟨114, [.st .s59], [.b], impl_IsFeature.run⟩
def impl_IsFeature.ap {R : Type} (k : Nat) (h0 : S59) (K : Bool → Option R) : Option R := (impl_IsFeature.run k (h0, ())).bind fun r => K (r.1 : Bool)
theorem impl_IsFeature.ap_of {R : Type} {k : Nat} {h0 : S59} {r0 : Bool} {K : Bool → Option R} (h : impl_IsFeature.run k (h0, ()) = some (r0, ())) : impl_IsFeature.ap k h0 K = K r0 := by unfold impl_IsFeature.ap; rw [h]; rfl
theorem impl_IsFeature.snd : Snd env impl_IsFeature.spec := evF_snd env_ok (sndC impl_InRange.snd (sndC impl_IsName.snd (sndC impl_IsPoint.snd (sndC impl_IsSimple.snd (sndC impl_IsRing.snd (sndN))))))
attribute [local irreducible] impl_IsFeature.run
theorem impl_IsFeature.rt (a0 : Bool) : impl_IsFeature.ret a0 = some (impl_IsFeature.toH (a0)) := rfl
theorem impl_IsFeature.go {k : Nat} {a0_0 : Int} {a0_1 : Int} {a0_2 : Int} {a0_3 : ByteArray} {l0_4 : List S75} {t} (h : impl_IsFeature.f k a0_0 a0_1 a0_2 a0_3 l0_4 = some t) (K : Nat) (hK : k ≤ K) : impl_IsFeature.run K ((⟨a0_0, a0_1, a0_2, a0_3, l0_4⟩ : S59), ()) = some (impl_IsFeature.toH t) := by
  rw [impl_IsFeature.ef]
  (try dsimp only)
  unfold impl_IsFeature.f at h
  repeat' (with_reducible first
   | exact nos h
   | (cases some_inj h; exact impl_IsFeature.rt _)
   | ((have q : impl_IsFeature.j0 k _ _ _ _ _ _ = some _ := h; clear q); rcases k with _ | k <;> simp only [impl_IsFeature.j0, reduceCtorEq] at h)
   | (simp only [Option.bind_some] at h)
   | (refine ite_by h ?_ ?_ <;> (intro hc h; (try simp only [nrm] at hc)))
   | refine itT ?_
   | refine itF ?_
   | (refine bind_by h (fun t ht h => ?_); (first | refine (impl_InRange.ap_of (impl_InRange.go ht _)).trans ?_ | refine (impl_IsName.ap_of (impl_IsName.go ht _ (by omega))).trans ?_ | refine (impl_IsPoint.ap_of (impl_IsPoint.go ht _)).trans ?_ | refine (impl_IsSimple.ap_of (impl_IsSimple.go ht _ (by omega))).trans ?_ | refine (impl_IsRing.ap_of (impl_IsRing.go ht _ (by omega))).trans ?_); (try dsimp only at h ⊢))
   | (simp only [nr2] at h ⊢)
   | (exfalso; omega))
def impl_IsSource.Fs : List (Spc env) := [impl_IsFeature.spec]
def impl_IsSource.fin : St eΓ → Option (HL eΓ [.b]) := finR env Tryz.f66.results.toList [.b]
def impl_IsSource.cut : Nat → Option (List (Lv SC)) := lk [(4, [⟨0, none, false⟩, ⟨8, none, false⟩, ⟨9, none, false⟩, ⟨10, none, false⟩])]
def impl_IsSource.ret (r0 : Bool) : Option (HL eΓ [.b]) := some (r0, ())
def impl_IsSource.p4 (k : Nat) (x9 : Int) (x10 : Int) (x0 : List S59) : Option (HL eΓ [.b]) := evM env impl_IsSource.Fs Tryz.f66.ntmps impl_IsSource.fin impl_IsSource.cut k [.code (sub_ [1, 1, 0, 1, 0, 0, 0] (bodyOf Tryz.f66)), .code (sub_ [1, 1, 0, 1, 0, 0, 1] (bodyOf Tryz.f66)), .lp (sub_ [1, 1, 0, 1, 0, 0] (bodyOf Tryz.f66)), .blk 0, .code (sub_ [1, 1, 1] (bodyOf Tryz.f66))] (mkSt [(0, .c (.sl 0)), (8, .c (.sl 0)), (9, .c (.v (.int .i64 x9))), (10, .c (.v (.int .i64 x10)))] [.row .ro 59 (.st .s59) x0])
theorem impl_IsSource.e4 (k : Nat) (x9 : Int) (x10 : Int) (x0 : List S59) : impl_IsSource.p4 (k + 1) x9 x10 x0 = if x10 < x9 then (if 0 ≤ x10 then (if x10 < (x0.length : Int) then (impl_IsFeature.ap k (⟨(rd_T59 x0 x10).f0, (rd_T59 x0 x10).f1, (rd_T59 x0 x10).f2, (rd_T59 x0 x10).f3, (rd_T59 x0 x10).f4⟩ : S59) fun r1 => if (!r1) = true then (impl_IsSource.ret false) else (if x10 > 0 then (if 0 ≤ (wrap64 (x10 - 1)) then (if (wrap64 (x10 - 1)) < (x0.length : Int) then (if ((rd_T59 x0 x10).f0) ≤ ((rd_T59 x0 (wrap64 (x10 - 1))).f0) then (impl_IsSource.ret false) else (impl_IsSource.p4 k x9 (wrap64 (x10 + 1)) x0)) else none) else none) else (impl_IsSource.p4 k x9 (wrap64 (x10 + 1)) x0))) else none) else none) else (impl_IsSource.ret true) := by kernel_rfl
def impl_IsSource.run (k : Nat) (h : HL eΓ [.l 59 (.st .s59)]) : Option (HL eΓ [.b]) := evF env impl_IsSource.Fs Tryz.f66 impl_IsSource.cut [.l 59 (.st .s59)] [.b] k h
theorem impl_IsSource.ef (k : Nat) (h0 : List S59) : impl_IsSource.run k (h0, ()) = if (h0.length : Int) > 16 then (impl_IsSource.ret false) else (impl_IsSource.p4 k (h0.length : Int) 0 h0) := by kernel_rfl
def impl_IsSource.toH (t : Bool) : HL eΓ [.b] := (t, ())
def impl_IsSource.spec : Spc env := ⟨66, [.l 59 (.st .s59)], [.b], impl_IsSource.run⟩
def impl_IsSource.ap {R : Type} (k : Nat) (h0 : List S59) (K : Bool → Option R) : Option R := (impl_IsSource.run k (h0, ())).bind fun r => K (r.1 : Bool)
theorem impl_IsSource.ap_of {R : Type} {k : Nat} {h0 : List S59} {r0 : Bool} {K : Bool → Option R} (h : impl_IsSource.run k (h0, ()) = some (r0, ())) : impl_IsSource.ap k h0 K = K r0 := by unfold impl_IsSource.ap; rw [h]; rfl
theorem impl_IsSource.snd : Snd env impl_IsSource.spec := evF_snd env_ok (sndC impl_IsFeature.snd (sndN))
attribute [local irreducible] impl_IsSource.run
theorem impl_IsSource.rt (a0 : Bool) : impl_IsSource.ret a0 = some (impl_IsSource.toH (a0)) := rfl
theorem impl_IsSource.br (n : Nat) : (∀ K, n ≤ K → ∀ (x9 : Int) (x10 : Int) (x0 : List S59) t, impl_IsSource.l0 n x0 x0 x9 x10 = some t → impl_IsSource.p4 K x9 x10 x0 = some (impl_IsSource.toH t)) := by
  induction n using Nat.strongRecOn with
  | _ n ih =>
  intro K hK x9 x10 x0 t h
  all_goals (rcases n with _ | k)
  all_goals (try (exact nos h))
  all_goals (obtain ⟨K, rfl⟩ : ∃ q, K = q + 1 := ⟨K - 1, by omega⟩)
  all_goals (first | rw [impl_IsSource.e4])
  all_goals (simp only [impl_IsSource.l0] at h)
  repeat' (with_reducible first
   | exact nos h
   | (cases some_inj h; exact impl_IsSource.rt _)
   | exact (ih _ (by omega)) _ (by omega) _ _ _ _ h
   | (simp only [Option.bind_some] at h)
   | (refine ite_by h ?_ ?_ <;> (intro hc h; (try simp only [nrm] at hc)))
   | refine itT ?_
   | refine itF ?_
   | (refine bind_by h (fun t ht h => ?_); refine (impl_IsFeature.ap_of (impl_IsFeature.go ht _ (by omega))).trans ?_; (try dsimp only at h ⊢))
   | (simp only [nr2] at h ⊢)
   | (exfalso; omega))
theorem impl_IsSource.go {k : Nat} {l0 : List S59} {t} (h : impl_IsSource.f k l0 = some t) (K : Nat) (hK : k ≤ K) : impl_IsSource.run K (l0, ()) = some (impl_IsSource.toH t) := by
  rw [impl_IsSource.ef]
  (try dsimp only)
  unfold impl_IsSource.f at h
  repeat' (with_reducible first
   | exact nos h
   | (cases some_inj h; exact impl_IsSource.rt _)
   | exact (impl_IsSource.br _) _ (by omega) _ _ _ _ h
   | (simp only [Option.bind_some] at h)
   | (refine ite_by h ?_ ?_ <;> (intro hc h; (try simp only [nrm] at hc)))
   | refine itT ?_
   | refine itF ?_
   | (refine bind_by h (fun t ht h => ?_); refine (impl_IsFeature.ap_of (impl_IsFeature.go ht _ (by omega))).trans ?_; (try dsimp only at h ⊢))
   | (simp only [nr2] at h ⊢)
   | (exfalso; omega))
def impl_TileBox.Fs : List (Spc env) := [impl_InRange.spec]
def impl_TileBox.cut : Nat → Option (List (Lv SC)) := lk []
def impl_TileBox.ret (r0 : S80) (r1 : Bool) : Option (HL eΓ [.st .s80, .b]) := some (r0, r1, ())
def impl_TileBox.run (k : Nat) (h : HL eΓ [.i .i64]) : Option (HL eΓ [.st .s80, .b]) := evF env impl_TileBox.Fs Tryz.f77 impl_TileBox.cut [.i .i64] [.st .s80, .b] k h
theorem impl_TileBox.ef (k : Nat) (h0 : Int) : impl_TileBox.run k (h0, ()) = impl_InRange.ap k h0 0 440 fun r1 => if (!r1) = true then (impl_TileBox.ret (⟨(⟨0, 0⟩ : S75), (⟨0, 0⟩ : S75)⟩ : S80) false) else (impl_TileBox.ret (⟨(⟨wrap64 ((Int.tmod h0 21) * 10), wrap64 ((wrap64 (tq h0 21)) * 10)⟩ : S75), (⟨(mn (wrap64 ((wrap64 ((Int.tmod h0 21) * 10)) + 10)) 200), (mn (wrap64 ((wrap64 ((wrap64 (tq h0 21)) * 10)) + 10)) 200)⟩ : S75)⟩ : S80) true) := by kernel_rfl
def impl_TileBox.toH (t : Int × Int × Int × Int × Bool) : HL eΓ [.st .s80, .b] := ((⟨(⟨t.1, t.2.1⟩ : S75), (⟨t.2.2.1, t.2.2.2.1⟩ : S75)⟩ : S80), t.2.2.2.2, ())
def impl_TileBox.spec : Spc env := ⟨77, [.i .i64], [.st .s80, .b], impl_TileBox.run⟩
def impl_TileBox.ap {R : Type} (k : Nat) (h0 : Int) (K : S80 → Bool → Option R) : Option R := (impl_TileBox.run k (h0, ())).bind fun r => K (r.1 : S80) (r.2.1 : Bool)
theorem impl_TileBox.ap_of {R : Type} {k : Nat} {h0 : Int} {r0 : S80} {r1 : Bool} {K : S80 → Bool → Option R} (h : impl_TileBox.run k (h0, ()) = some (r0, r1, ())) : impl_TileBox.ap k h0 K = K r0 r1 := by unfold impl_TileBox.ap; rw [h]; rfl
theorem impl_TileBox.snd : Snd env impl_TileBox.spec := evF_snd env_ok (sndC impl_InRange.snd (sndN))
attribute [local irreducible] impl_TileBox.run
theorem impl_TileBox.rt (a0 : Int) (a1 : Int) (a2 : Int) (a3 : Int) (a4 : Bool) : impl_TileBox.ret (⟨(⟨a0, a1⟩ : S75), (⟨a2, a3⟩ : S75)⟩ : S80) a4 = some (impl_TileBox.toH (a0, a1, a2, a3, a4)) := rfl
theorem impl_TileBox.go {a0 : Int} {t} (h : impl_TileBox.f a0 = some t) (K : Nat) : impl_TileBox.run K (a0, ()) = some (impl_TileBox.toH t) := by
  rw [impl_TileBox.ef]
  (try dsimp only)
  (try simp only [tq_nat])
  (try simp only [tq_eq])
  unfold impl_TileBox.f at h
  repeat' (with_reducible first
   | exact nos h
   | (cases some_inj h; exact impl_TileBox.rt _ _ _ _ _)
   | (simp only [Option.bind_some] at h)
   | (refine ite_by h ?_ ?_ <;> (intro hc h; (try simp only [nrm] at hc)))
   | refine itT ?_
   | refine itF ?_
   | (refine bind_by h (fun t ht h => ?_); refine (impl_InRange.ap_of (impl_InRange.go ht _)).trans ?_; (try dsimp only at h ⊢))
   | (simp only [nr2] at h ⊢)
   | (exfalso; omega))
def impl_IsBox.Fs : List (Spc env) := [impl_IsPoint.spec]
def impl_IsBox.cut : Nat → Option (List (Lv SC)) := lk []
def impl_IsBox.ret (r0 : Bool) : Option (HL eΓ [.b]) := some (r0, ())
def impl_IsBox.run (k : Nat) (h : HL eΓ [.st .s80]) : Option (HL eΓ [.b]) := evF env impl_IsBox.Fs Tryz.f106 impl_IsBox.cut [.st .s80] [.b] k h
theorem impl_IsBox.ef (k : Nat) (h0 : S80) : impl_IsBox.run k (h0, ()) = impl_IsPoint.ap k (⟨h0.f0.f0, h0.f0.f1⟩ : S75) fun r1 => if r1 = true then (impl_IsPoint.ap k (⟨h0.f1.f0, h0.f1.f1⟩ : S75) fun r2 => if r2 = true then (if h0.f0.f0 ≤ h0.f1.f0 then (impl_IsBox.ret (decide (h0.f0.f1 ≤ h0.f1.f1))) else (impl_IsBox.ret false)) else (impl_IsBox.ret false)) else (impl_IsBox.ret false) := by kernel_rfl
def impl_IsBox.toH (t : Bool) : HL eΓ [.b] := (t, ())
def impl_IsBox.spec : Spc env := ⟨106, [.st .s80], [.b], impl_IsBox.run⟩
def impl_IsBox.ap {R : Type} (k : Nat) (h0 : S80) (K : Bool → Option R) : Option R := (impl_IsBox.run k (h0, ())).bind fun r => K (r.1 : Bool)
theorem impl_IsBox.ap_of {R : Type} {k : Nat} {h0 : S80} {r0 : Bool} {K : Bool → Option R} (h : impl_IsBox.run k (h0, ()) = some (r0, ())) : impl_IsBox.ap k h0 K = K r0 := by unfold impl_IsBox.ap; rw [h]; rfl
theorem impl_IsBox.snd : Snd env impl_IsBox.spec := evF_snd env_ok (sndC impl_IsPoint.snd (sndN))
attribute [local irreducible] impl_IsBox.run
theorem impl_IsBox.rt (a0 : Bool) : impl_IsBox.ret a0 = some (impl_IsBox.toH (a0)) := rfl
theorem impl_IsBox.go {a0_0 : Int} {a0_1 : Int} {a0_2 : Int} {a0_3 : Int} {t} (h : impl_IsBox.f a0_0 a0_1 a0_2 a0_3 = some t) (K : Nat) : impl_IsBox.run K ((⟨(⟨a0_0, a0_1⟩ : S75), (⟨a0_2, a0_3⟩ : S75)⟩ : S80), ()) = some (impl_IsBox.toH t) := by
  rw [impl_IsBox.ef]
  (try dsimp only)
  unfold impl_IsBox.f at h
  repeat' (with_reducible first
   | exact nos h
   | (cases some_inj h; exact impl_IsBox.rt _)
   | (simp only [Option.bind_some] at h)
   | (refine ite_by h ?_ ?_ <;> (intro hc h; (try simp only [nrm] at hc)))
   | refine itT ?_
   | refine itF ?_
   | (refine bind_by h (fun t ht h => ?_); refine (impl_IsPoint.ap_of (impl_IsPoint.go ht _)).trans ?_; (try dsimp only at h ⊢))
   | (simp only [nr2] at h ⊢)
   | (exfalso; omega))
def impl_InBox.Fs : List (Spc env) := [impl_IsBox.spec, impl_InRange.spec]
def impl_InBox.cut : Nat → Option (List (Lv SC)) := lk []
def impl_InBox.ret (r0 : Bool) : Option (HL eΓ [.b]) := some (r0, ())
def impl_InBox.run (k : Nat) (h : HL eΓ [.st .s80, .st .s75]) : Option (HL eΓ [.b]) := evF env impl_InBox.Fs Tryz.f123 impl_InBox.cut [.st .s80, .st .s75] [.b] k h
theorem impl_InBox.ef (k : Nat) (h0 : S80) (h1 : S75) : impl_InBox.run k (h0, h1, ()) = impl_IsBox.ap k (⟨(⟨h0.f0.f0, h0.f0.f1⟩ : S75), (⟨h0.f1.f0, h0.f1.f1⟩ : S75)⟩ : S80) fun r1 => if r1 = true then (impl_InRange.ap k h1.f0 h0.f0.f0 h0.f1.f0 fun r2 => if r2 = true then (impl_InRange.ap k h1.f1 h0.f0.f1 h0.f1.f1 fun r3 => impl_InBox.ret r3) else (impl_InBox.ret false)) else (impl_InBox.ret false) := by kernel_rfl
def impl_InBox.toH (t : Bool) : HL eΓ [.b] := (t, ())
def impl_InBox.spec : Spc env := ⟨123, [.st .s80, .st .s75], [.b], impl_InBox.run⟩
def impl_InBox.ap {R : Type} (k : Nat) (h0 : S80) (h1 : S75) (K : Bool → Option R) : Option R := (impl_InBox.run k (h0, h1, ())).bind fun r => K (r.1 : Bool)
theorem impl_InBox.ap_of {R : Type} {k : Nat} {h0 : S80} {h1 : S75} {r0 : Bool} {K : Bool → Option R} (h : impl_InBox.run k (h0, h1, ()) = some (r0, ())) : impl_InBox.ap k h0 h1 K = K r0 := by unfold impl_InBox.ap; rw [h]; rfl
theorem impl_InBox.snd : Snd env impl_InBox.spec := evF_snd env_ok (sndC impl_IsBox.snd (sndC impl_InRange.snd (sndN)))
attribute [local irreducible] impl_InBox.run
theorem impl_InBox.rt (a0 : Bool) : impl_InBox.ret a0 = some (impl_InBox.toH (a0)) := rfl
theorem impl_InBox.go {a0_0 : Int} {a0_1 : Int} {a0_2 : Int} {a0_3 : Int} {a1_0 : Int} {a1_1 : Int} {t} (h : impl_InBox.f a0_0 a0_1 a0_2 a0_3 a1_0 a1_1 = some t) (K : Nat) : impl_InBox.run K ((⟨(⟨a0_0, a0_1⟩ : S75), (⟨a0_2, a0_3⟩ : S75)⟩ : S80), (⟨a1_0, a1_1⟩ : S75), ()) = some (impl_InBox.toH t) := by
  rw [impl_InBox.ef]
  (try dsimp only)
  unfold impl_InBox.f at h
  repeat' (with_reducible first
   | exact nos h
   | (cases some_inj h; exact impl_InBox.rt _)
   | (simp only [Option.bind_some] at h)
   | (refine ite_by h ?_ ?_ <;> (intro hc h; (try simp only [nrm] at hc)))
   | refine itT ?_
   | refine itF ?_
   | (refine bind_by h (fun t ht h => ?_); (first | refine (impl_IsBox.ap_of (impl_IsBox.go ht _)).trans ?_ | refine (impl_InRange.ap_of (impl_InRange.go ht _)).trans ?_); (try dsimp only at h ⊢))
   | (simp only [nr2] at h ⊢)
   | (exfalso; omega))
def impl_RingSegments.Fs : List (Spc env) := [impl_IsRing.spec, impl_around.spec]
def impl_RingSegments.cut : Nat → Option (List (Lv SC)) := lk []
def impl_RingSegments.ret (r0 : List S133) : Option (HL eΓ [.l 133 (.st .s133)]) := some (r0, ())
def impl_RingSegments.run (k : Nat) (h : HL eΓ [.l 75 (.st .s75)]) : Option (HL eΓ [.l 133 (.st .s133)]) := evF env impl_RingSegments.Fs Tryz.f170 impl_RingSegments.cut [.l 75 (.st .s75)] [.l 133 (.st .s133)] k h
theorem impl_RingSegments.ef (k : Nat) (h0 : List S75) : impl_RingSegments.run k (h0, ()) = impl_IsRing.ap k h0 fun r1 => if (!r1) = true then (impl_RingSegments.ret ([] : List S133)) else (impl_around.ap k h0 fun r2 => impl_RingSegments.ret r2) := by kernel_rfl
def impl_RingSegments.toH (t : (List (S133))) : HL eΓ [.l 133 (.st .s133)] := (t, ())
def impl_RingSegments.spec : Spc env := ⟨170, [.l 75 (.st .s75)], [.l 133 (.st .s133)], impl_RingSegments.run⟩
def impl_RingSegments.ap {R : Type} (k : Nat) (h0 : List S75) (K : (List S133) → Option R) : Option R := (impl_RingSegments.run k (h0, ())).bind fun r => K (r.1 : List S133)
theorem impl_RingSegments.ap_of {R : Type} {k : Nat} {h0 : List S75} {r0 : List S133} {K : (List S133) → Option R} (h : impl_RingSegments.run k (h0, ()) = some (r0, ())) : impl_RingSegments.ap k h0 K = K r0 := by unfold impl_RingSegments.ap; rw [h]; rfl
theorem impl_RingSegments.snd : Snd env impl_RingSegments.spec := evF_snd env_ok (sndC impl_IsRing.snd (sndC impl_around.snd (sndN)))
attribute [local irreducible] impl_RingSegments.run
theorem impl_RingSegments.rt (a0 : List S133) : impl_RingSegments.ret a0 = some (impl_RingSegments.toH (a0)) := rfl
theorem impl_RingSegments.go {k : Nat} {l0 : List S75} {t} (h : impl_RingSegments.f k l0 = some t) (K : Nat) (hK : k ≤ K) : impl_RingSegments.run K (l0, ()) = some (impl_RingSegments.toH t) := by
  rw [impl_RingSegments.ef]
  (try dsimp only)
  unfold impl_RingSegments.f at h
  repeat' (with_reducible first
   | exact nos h
   | (cases some_inj h; exact impl_RingSegments.rt _)
   | (simp only [Option.bind_some] at h)
   | (refine ite_by h ?_ ?_ <;> (intro hc h; (try simp only [nrm] at hc)))
   | refine itT ?_
   | refine itF ?_
   | (refine bind_by h (fun t ht h => ?_); (first | refine (impl_IsRing.ap_of (impl_IsRing.go ht _ (by omega))).trans ?_ | refine (impl_around.ap_of (impl_around.go ht _ (by omega))).trans ?_); (try dsimp only at h ⊢))
   | (simp only [nr2] at h ⊢)
   | (exfalso; omega))
def impl_PartsOf.Fs : List (Spc env) := [impl_IsFeature.spec, impl_SegmentsOf.spec, impl_RingSegments.spec]
def impl_PartsOf.cut : Nat → Option (List (Lv SC)) := lk []
def impl_PartsOf.ret (r0 : List S133) : Option (HL eΓ [.l 133 (.st .s133)]) := some (r0, ())
def impl_PartsOf.run (k : Nat) (h : HL eΓ [.st .s59]) : Option (HL eΓ [.l 133 (.st .s133)]) := evF env impl_PartsOf.Fs Tryz.f124 impl_PartsOf.cut [.st .s59] [.l 133 (.st .s133)] k h
theorem impl_PartsOf.ef (k : Nat) (h0 : S59) : impl_PartsOf.run k (h0, ()) = impl_IsFeature.ap k (⟨h0.f0, h0.f1, h0.f2, h0.f3, h0.f4⟩ : S59) fun r1 => if r1 = true then (if h0.f1 = 2 then (impl_SegmentsOf.ap k h0.f4 fun r2 => impl_PartsOf.ret r2) else (if h0.f1 = 3 then (impl_RingSegments.ap k h0.f4 fun r3 => impl_PartsOf.ret r3) else (impl_PartsOf.ret ([] : List S133)))) else (impl_PartsOf.ret ([] : List S133)) := by kernel_rfl
def impl_PartsOf.toH (t : (List (S133))) : HL eΓ [.l 133 (.st .s133)] := (t, ())
def impl_PartsOf.spec : Spc env := ⟨124, [.st .s59], [.l 133 (.st .s133)], impl_PartsOf.run⟩
def impl_PartsOf.ap {R : Type} (k : Nat) (h0 : S59) (K : (List S133) → Option R) : Option R := (impl_PartsOf.run k (h0, ())).bind fun r => K (r.1 : List S133)
theorem impl_PartsOf.ap_of {R : Type} {k : Nat} {h0 : S59} {r0 : List S133} {K : (List S133) → Option R} (h : impl_PartsOf.run k (h0, ()) = some (r0, ())) : impl_PartsOf.ap k h0 K = K r0 := by unfold impl_PartsOf.ap; rw [h]; rfl
theorem impl_PartsOf.snd : Snd env impl_PartsOf.spec := evF_snd env_ok (sndC impl_IsFeature.snd (sndC impl_SegmentsOf.snd (sndC impl_RingSegments.snd (sndN))))
attribute [local irreducible] impl_PartsOf.run
theorem impl_PartsOf.rt (a0 : List S133) : impl_PartsOf.ret a0 = some (impl_PartsOf.toH (a0)) := rfl
theorem impl_PartsOf.go {k : Nat} {a0_0 : Int} {a0_1 : Int} {a0_2 : Int} {a0_3 : ByteArray} {l0_4 : List S75} {t} (h : impl_PartsOf.f k a0_0 a0_1 a0_2 a0_3 l0_4 = some t) (K : Nat) (hK : k ≤ K) : impl_PartsOf.run K ((⟨a0_0, a0_1, a0_2, a0_3, l0_4⟩ : S59), ()) = some (impl_PartsOf.toH t) := by
  rw [impl_PartsOf.ef]
  (try dsimp only)
  unfold impl_PartsOf.f at h
  repeat' (with_reducible first
   | exact nos h
   | (cases some_inj h; exact impl_PartsOf.rt _)
   | (simp only [Option.bind_some] at h)
   | (refine ite_by h ?_ ?_ <;> (intro hc h; (try simp only [nrm] at hc)))
   | refine itT ?_
   | refine itF ?_
   | (refine bind_by h (fun t ht h => ?_); (first | refine (impl_IsFeature.ap_of (impl_IsFeature.go ht _ (by omega))).trans ?_ | refine (impl_SegmentsOf.ap_of (impl_SegmentsOf.go ht _ (by omega))).trans ?_ | refine (impl_RingSegments.ap_of (impl_RingSegments.go ht _ (by omega))).trans ?_); (try dsimp only at h ⊢))
   | (simp only [nr2] at h ⊢)
   | (exfalso; omega))
def impl_BoxOf.Fs : List (Spc env) := [impl_IsPoint.spec]
def impl_BoxOf.fin : St eΓ → Option (HL eΓ [.st .s80, .b]) := finR env Tryz.f172.results.toList [.st .s80, .b]
def impl_BoxOf.cut : Nat → Option (List (Lv SC)) := lk [(5, [⟨2, none, false⟩, ⟨4, none, false⟩, ⟨18, none, false⟩, ⟨19, none, false⟩, ⟨20, none, false⟩])]
def impl_BoxOf.ret (r0 : S80) (r1 : Bool) : Option (HL eΓ [.st .s80, .b]) := some (r0, r1, ())
def impl_BoxOf.p5 (k : Nat) (x19 : Int) (x20 : Int) (b0_0 : Int) (b0_1 : Int) (b0_2 : Int) (b0_3 : Int) (b1_0 : Int) (b1_1 : Int) (b1_2 : Int) (b1_3 : Int) (x18 : List S75) : Option (HL eΓ [.st .s80, .b]) := evM env impl_BoxOf.Fs Tryz.f172.ntmps impl_BoxOf.fin impl_BoxOf.cut k [.code (sub_ [1, 1, 1, 0, 1, 0, 0, 0] (bodyOf Tryz.f172)), .code (sub_ [1, 1, 1, 0, 1, 0, 0, 1] (bodyOf Tryz.f172)), .lp (sub_ [1, 1, 1, 0, 1, 0, 0] (bodyOf Tryz.f172)), .blk 0, .code (sub_ [1, 1, 1, 1] (bodyOf Tryz.f172))] (mkSt [(2, .c (.ptr 0 0)), (4, .c (.ptr 1 0)), (18, .c (.sl 2)), (19, .c (.v (.int .i64 x19))), (20, .c (.v (.int .i64 x20)))] [.box 80 [.v (.int .i64 b0_0), .v (.int .i64 b0_1), .v (.int .i64 b0_2), .v (.int .i64 b0_3)], .box 80 [.v (.int .i64 b1_0), .v (.int .i64 b1_1), .v (.int .i64 b1_2), .v (.int .i64 b1_3)], .row .ro 75 (.st .s75) x18])
theorem impl_BoxOf.e5 (k : Nat) (x19 : Int) (x20 : Int) (b0_0 : Int) (b0_1 : Int) (b0_2 : Int) (b0_3 : Int) (b1_0 : Int) (b1_1 : Int) (b1_2 : Int) (b1_3 : Int) (x18 : List S75) : impl_BoxOf.p5 (k + 1) x19 x20 b0_0 b0_1 b0_2 b0_3 b1_0 b1_1 b1_2 b1_3 x18 = if x20 < x19 then (if 0 ≤ x20 then (if x20 < (x18.length : Int) then (impl_IsPoint.ap k (⟨(rd_T75 x18 x20).f0, (rd_T75 x18 x20).f1⟩ : S75) fun r1 => if (!r1) = true then (impl_BoxOf.ret (⟨(⟨0, 0⟩ : S75), (⟨0, 0⟩ : S75)⟩ : S80) false) else (impl_BoxOf.p5 k x19 (wrap64 (x20 + 1)) b0_0 b0_1 b0_2 b0_3 (mn b1_0 ((rd_T75 x18 x20).f0)) (mn b1_1 ((rd_T75 x18 x20).f1)) (mx b1_2 ((rd_T75 x18 x20).f0)) (mx b1_3 ((rd_T75 x18 x20).f1)) x18)) else none) else none) else (impl_BoxOf.ret (⟨(⟨b1_0, b1_1⟩ : S75), (⟨b1_2, b1_3⟩ : S75)⟩ : S80) true) := by kernel_rfl
def impl_BoxOf.run (k : Nat) (h : HL eΓ [.l 75 (.st .s75)]) : Option (HL eΓ [.st .s80, .b]) := evF env impl_BoxOf.Fs Tryz.f172 impl_BoxOf.cut [.l 75 (.st .s75)] [.st .s80, .b] k h
theorem impl_BoxOf.ef (k : Nat) (h0 : List S75) : impl_BoxOf.run k (h0, ()) = if (h0.length : Int) = 0 then (impl_BoxOf.ret (⟨(⟨0, 0⟩ : S75), (⟨0, 0⟩ : S75)⟩ : S80) false) else (if 0 < (h0.length : Int) then (if 0 < (h0.length : Int) then (impl_BoxOf.p5 k (h0.length : Int) 0 0 0 0 0 ((rd_T75 h0 0).f0) ((rd_T75 h0 0).f1) ((rd_T75 h0 0).f0) ((rd_T75 h0 0).f1) h0) else none) else none) := by kernel_rfl
def impl_BoxOf.toH (t : Int × Int × Int × Int × Bool) : HL eΓ [.st .s80, .b] := ((⟨(⟨t.1, t.2.1⟩ : S75), (⟨t.2.2.1, t.2.2.2.1⟩ : S75)⟩ : S80), t.2.2.2.2, ())
def impl_BoxOf.spec : Spc env := ⟨172, [.l 75 (.st .s75)], [.st .s80, .b], impl_BoxOf.run⟩
def impl_BoxOf.ap {R : Type} (k : Nat) (h0 : List S75) (K : S80 → Bool → Option R) : Option R := (impl_BoxOf.run k (h0, ())).bind fun r => K (r.1 : S80) (r.2.1 : Bool)
theorem impl_BoxOf.ap_of {R : Type} {k : Nat} {h0 : List S75} {r0 : S80} {r1 : Bool} {K : S80 → Bool → Option R} (h : impl_BoxOf.run k (h0, ()) = some (r0, r1, ())) : impl_BoxOf.ap k h0 K = K r0 r1 := by unfold impl_BoxOf.ap; rw [h]; rfl
theorem impl_BoxOf.snd : Snd env impl_BoxOf.spec := evF_snd env_ok (sndC impl_IsPoint.snd (sndN))
attribute [local irreducible] impl_BoxOf.run
theorem impl_BoxOf.rt (a0 : Int) (a1 : Int) (a2 : Int) (a3 : Int) (a4 : Bool) : impl_BoxOf.ret (⟨(⟨a0, a1⟩ : S75), (⟨a2, a3⟩ : S75)⟩ : S80) a4 = some (impl_BoxOf.toH (a0, a1, a2, a3, a4)) := rfl
theorem impl_BoxOf.br (n : Nat) : (∀ K, n ≤ K → ∀ (x19 : Int) (x20 : Int) (b0_0 : Int) (b0_1 : Int) (b0_2 : Int) (b0_3 : Int) (b1_0 : Int) (b1_1 : Int) (b1_2 : Int) (b1_3 : Int) (x18 : List S75) t, impl_BoxOf.l0 n x18 x19 x20 b1_0 b1_1 b1_2 b1_3 = some t → impl_BoxOf.p5 K x19 x20 b0_0 b0_1 b0_2 b0_3 b1_0 b1_1 b1_2 b1_3 x18 = some (impl_BoxOf.toH t)) := by
  induction n using Nat.strongRecOn with
  | _ n ih =>
  intro K hK x19 x20 b0_0 b0_1 b0_2 b0_3 b1_0 b1_1 b1_2 b1_3 x18 t h
  all_goals (rcases n with _ | k)
  all_goals (try (exact nos h))
  all_goals (obtain ⟨K, rfl⟩ : ∃ q, K = q + 1 := ⟨K - 1, by omega⟩)
  all_goals (first | rw [impl_BoxOf.e5])
  all_goals (simp only [impl_BoxOf.l0] at h)
  repeat' (with_reducible first
   | exact nos h
   | (cases some_inj h; exact impl_BoxOf.rt _ _ _ _ _)
   | exact (ih _ (by omega)) _ (by omega) _ _ _ _ _ _ _ _ _ _ _ _ h
   | (simp only [Option.bind_some] at h)
   | (refine ite_by h ?_ ?_ <;> (intro hc h; (try simp only [nrm] at hc)))
   | refine itT ?_
   | refine itF ?_
   | (refine bind_by h (fun t ht h => ?_); refine (impl_IsPoint.ap_of (impl_IsPoint.go ht _)).trans ?_; (try dsimp only at h ⊢))
   | (simp only [nr2] at h ⊢)
   | (exfalso; omega))
theorem impl_BoxOf.go {k : Nat} {l0 : List S75} {t} (h : impl_BoxOf.f k l0 = some t) (K : Nat) (hK : k ≤ K) : impl_BoxOf.run K (l0, ()) = some (impl_BoxOf.toH t) := by
  rw [impl_BoxOf.ef]
  (try dsimp only)
  unfold impl_BoxOf.f at h
  repeat' (with_reducible first
   | exact nos h
   | (cases some_inj h; exact impl_BoxOf.rt _ _ _ _ _)
   | exact (impl_BoxOf.br _) _ (by omega) _ _ _ _ _ _ _ _ _ _ _ _ h
   | (simp only [Option.bind_some] at h)
   | (refine ite_by h ?_ ?_ <;> (intro hc h; (try simp only [nrm] at hc)))
   | refine itT ?_
   | refine itF ?_
   | (refine bind_by h (fun t ht h => ?_); refine (impl_IsPoint.ap_of (impl_IsPoint.go ht _)).trans ?_; (try dsimp only at h ⊢))
   | (simp only [nr2] at h ⊢)
   | (exfalso; omega))
def impl_common.Fs : List (Spc env) := []
def impl_common.cut : Nat → Option (List (Lv SC)) := lk []
def impl_common.ret (r0 : Int) (r1 : Int) : Option (HL eΓ [.i .i64, .i .i64]) := some (r0, r1, ())
def impl_common.run (k : Nat) (h : HL eΓ [.st .s80, .st .s80]) : Option (HL eΓ [.i .i64, .i .i64]) := evF env impl_common.Fs Tryz.f185 impl_common.cut [.st .s80, .st .s80] [.i .i64, .i .i64] k h
theorem impl_common.ef (k : Nat) (h0 : S80) (h1 : S80) : impl_common.run k (h0, h1, ()) = impl_common.ret (wrap64 ((mn h0.f1.f0 h1.f1.f0) - (mx h0.f0.f0 h1.f0.f0))) (wrap64 ((mn h0.f1.f1 h1.f1.f1) - (mx h0.f0.f1 h1.f0.f1))) := by kernel_rfl
def impl_common.toH (t : Int × Int) : HL eΓ [.i .i64, .i .i64] := (t.1, t.2, ())
def impl_common.spec : Spc env := ⟨185, [.st .s80, .st .s80], [.i .i64, .i .i64], impl_common.run⟩
def impl_common.ap {R : Type} (k : Nat) (h0 : S80) (h1 : S80) (K : Int → Int → Option R) : Option R := (impl_common.run k (h0, h1, ())).bind fun r => K (r.1 : Int) (r.2.1 : Int)
theorem impl_common.ap_of {R : Type} {k : Nat} {h0 : S80} {h1 : S80} {r0 : Int} {r1 : Int} {K : Int → Int → Option R} (h : impl_common.run k (h0, h1, ()) = some (r0, r1, ())) : impl_common.ap k h0 h1 K = K r0 r1 := by unfold impl_common.ap; rw [h]; rfl
theorem impl_common.snd : Snd env impl_common.spec := evF_snd env_ok (sndN)
attribute [local irreducible] impl_common.run
theorem impl_common.rt (a0 : Int) (a1 : Int) : impl_common.ret a0 a1 = some (impl_common.toH (a0, a1)) := rfl
theorem impl_common.go {a0_0 : Int} {a0_1 : Int} {a0_2 : Int} {a0_3 : Int} {a1_0 : Int} {a1_1 : Int} {a1_2 : Int} {a1_3 : Int} {t} (h : impl_common.f a0_0 a0_1 a0_2 a0_3 a1_0 a1_1 a1_2 a1_3 = some t) (K : Nat) : impl_common.run K ((⟨(⟨a0_0, a0_1⟩ : S75), (⟨a0_2, a0_3⟩ : S75)⟩ : S80), (⟨(⟨a1_0, a1_1⟩ : S75), (⟨a1_2, a1_3⟩ : S75)⟩ : S80), ()) = some (impl_common.toH t) := by
  rw [impl_common.ef]
  (try dsimp only)
  unfold impl_common.f at h
  repeat' (with_reducible first
   | exact nos h
   | (cases some_inj h; exact impl_common.rt _ _)
   | (simp only [Option.bind_some] at h)
   | (refine ite_by h ?_ ?_ <;> (intro hc h; (try simp only [nrm] at hc)))
   | refine itT ?_
   | refine itF ?_
   | (simp only [nr2] at h ⊢)
   | (exfalso; omega))
def impl_BoxesMeet.Fs : List (Spc env) := [impl_common.spec, impl_IsBox.spec]
def impl_BoxesMeet.cut : Nat → Option (List (Lv SC)) := lk []
def impl_BoxesMeet.ret (r0 : Bool) : Option (HL eΓ [.b]) := some (r0, ())
def impl_BoxesMeet.run (k : Nat) (h : HL eΓ [.st .s80, .st .s80]) : Option (HL eΓ [.b]) := evF env impl_BoxesMeet.Fs Tryz.f173 impl_BoxesMeet.cut [.st .s80, .st .s80] [.b] k h
theorem impl_BoxesMeet.ef (k : Nat) (h0 : S80) (h1 : S80) : impl_BoxesMeet.run k (h0, h1, ()) = impl_common.ap k (⟨(⟨h0.f0.f0, h0.f0.f1⟩ : S75), (⟨h0.f1.f0, h0.f1.f1⟩ : S75)⟩ : S80) (⟨(⟨h1.f0.f0, h1.f0.f1⟩ : S75), (⟨h1.f1.f0, h1.f1.f1⟩ : S75)⟩ : S80) fun r1_0 r1_1 => impl_IsBox.ap k (⟨(⟨h0.f0.f0, h0.f0.f1⟩ : S75), (⟨h0.f1.f0, h0.f1.f1⟩ : S75)⟩ : S80) fun r2 => if r2 = true then (impl_IsBox.ap k (⟨(⟨h1.f0.f0, h1.f0.f1⟩ : S75), (⟨h1.f1.f0, h1.f1.f1⟩ : S75)⟩ : S80) fun r3 => if r3 = true then (if r1_0 ≥ 0 then (impl_BoxesMeet.ret (decide (r1_1 ≥ 0))) else (impl_BoxesMeet.ret false)) else (impl_BoxesMeet.ret false)) else (impl_BoxesMeet.ret false) := by kernel_rfl
def impl_BoxesMeet.toH (t : Bool) : HL eΓ [.b] := (t, ())
def impl_BoxesMeet.spec : Spc env := ⟨173, [.st .s80, .st .s80], [.b], impl_BoxesMeet.run⟩
def impl_BoxesMeet.ap {R : Type} (k : Nat) (h0 : S80) (h1 : S80) (K : Bool → Option R) : Option R := (impl_BoxesMeet.run k (h0, h1, ())).bind fun r => K (r.1 : Bool)
theorem impl_BoxesMeet.ap_of {R : Type} {k : Nat} {h0 : S80} {h1 : S80} {r0 : Bool} {K : Bool → Option R} (h : impl_BoxesMeet.run k (h0, h1, ()) = some (r0, ())) : impl_BoxesMeet.ap k h0 h1 K = K r0 := by unfold impl_BoxesMeet.ap; rw [h]; rfl
theorem impl_BoxesMeet.snd : Snd env impl_BoxesMeet.spec := evF_snd env_ok (sndC impl_common.snd (sndC impl_IsBox.snd (sndN)))
attribute [local irreducible] impl_BoxesMeet.run
theorem impl_BoxesMeet.rt (a0 : Bool) : impl_BoxesMeet.ret a0 = some (impl_BoxesMeet.toH (a0)) := rfl
theorem impl_BoxesMeet.go {a0_0 : Int} {a0_1 : Int} {a0_2 : Int} {a0_3 : Int} {a1_0 : Int} {a1_1 : Int} {a1_2 : Int} {a1_3 : Int} {t} (h : impl_BoxesMeet.f a0_0 a0_1 a0_2 a0_3 a1_0 a1_1 a1_2 a1_3 = some t) (K : Nat) : impl_BoxesMeet.run K ((⟨(⟨a0_0, a0_1⟩ : S75), (⟨a0_2, a0_3⟩ : S75)⟩ : S80), (⟨(⟨a1_0, a1_1⟩ : S75), (⟨a1_2, a1_3⟩ : S75)⟩ : S80), ()) = some (impl_BoxesMeet.toH t) := by
  rw [impl_BoxesMeet.ef]
  (try dsimp only)
  unfold impl_BoxesMeet.f at h
  repeat' (with_reducible first
   | exact nos h
   | (cases some_inj h; exact impl_BoxesMeet.rt _)
   | (simp only [Option.bind_some] at h)
   | (refine ite_by h ?_ ?_ <;> (intro hc h; (try simp only [nrm] at hc)))
   | refine itT ?_
   | refine itF ?_
   | (refine bind_by h (fun t ht h => ?_); (first | refine (impl_common.ap_of (impl_common.go ht _)).trans ?_ | refine (impl_IsBox.ap_of (impl_IsBox.go ht _)).trans ?_); (try dsimp only at h ⊢))
   | (simp only [nr2] at h ⊢)
   | (exfalso; omega))
def impl_MeetsBox.Fs : List (Spc env) := [impl_IsSegment.spec, impl_IsBox.spec, impl_BoxOf.spec, impl_BoxesMeet.spec, impl_SideOf.spec]
def impl_MeetsBox.fin : St eΓ → Option (HL eΓ [.b]) := finR env Tryz.f125.results.toList [.b]
def impl_MeetsBox.cut : Nat → Option (List (Lv SC)) := lk [(8, [⟨2, none, false⟩, ⟨7, none, false⟩, ⟨8, none, false⟩, ⟨50, none, false⟩, ⟨51, none, false⟩, ⟨52, none, false⟩])]
def impl_MeetsBox.ret (r0 : Bool) : Option (HL eΓ [.b]) := some (r0, ())
def impl_MeetsBox.p8 (k : Nat) (x7 : Int) (x8 : Int) (x51 : Int) (x52 : Int) (b0_0 : Int) (b0_1 : Int) (b0_2 : Int) (b0_3 : Int) (x50 : List S75) : Option (HL eΓ [.b]) := evM env impl_MeetsBox.Fs Tryz.f125.ntmps impl_MeetsBox.fin impl_MeetsBox.cut k [.code (sub_ [1, 1, 1, 1, 0, 1, 0, 0, 0] (bodyOf Tryz.f125)), .code (sub_ [1, 1, 1, 1, 0, 1, 0, 0, 1] (bodyOf Tryz.f125)), .lp (sub_ [1, 1, 1, 1, 0, 1, 0, 0] (bodyOf Tryz.f125)), .blk 0, .code (sub_ [1, 1, 1, 1, 1] (bodyOf Tryz.f125))] (mkSt [(2, .c (.ptr 0 0)), (7, .c (.v (.int .i64 x7))), (8, .c (.v (.int .i64 x8))), (50, .c (.sl 1)), (51, .c (.v (.int .i64 x51))), (52, .c (.v (.int .i64 x52)))] [.box 133 [.v (.int .i64 b0_0), .v (.int .i64 b0_1), .v (.int .i64 b0_2), .v (.int .i64 b0_3)], .row .own 75 (.st .s75) x50])
theorem impl_MeetsBox.e8 (k : Nat) (x7 : Int) (x8 : Int) (x51 : Int) (x52 : Int) (b0_0 : Int) (b0_1 : Int) (b0_2 : Int) (b0_3 : Int) (x50 : List S75) : impl_MeetsBox.p8 (k + 1) x7 x8 x51 x52 b0_0 b0_1 b0_2 b0_3 x50 = if x52 < x51 then (if 0 ≤ x52 then (if x52 < (x50.length : Int) then (impl_SideOf.ap k (⟨b0_0, b0_1⟩ : S75) (⟨b0_2, b0_3⟩ : S75) (⟨(rd_T75 x50 x52).f0, (rd_T75 x50 x52).f1⟩ : S75) fun r1 => if r1 = 1 then (impl_MeetsBox.p8 k (wrap64 (x7 + 1)) x8 x51 (wrap64 (x52 + 1)) b0_0 b0_1 b0_2 b0_3 x50) else (if r1 = (-1) then (impl_MeetsBox.p8 k x7 (wrap64 (x8 + 1)) x51 (wrap64 (x52 + 1)) b0_0 b0_1 b0_2 b0_3 x50) else (impl_MeetsBox.p8 k x7 x8 x51 (wrap64 (x52 + 1)) b0_0 b0_1 b0_2 b0_3 x50))) else none) else none) else (if x7 < 4 then (impl_MeetsBox.ret (decide (x8 < 4))) else (impl_MeetsBox.ret false)) := by kernel_rfl
def impl_MeetsBox.run (k : Nat) (h : HL eΓ [.st .s133, .st .s80]) : Option (HL eΓ [.b]) := evF env impl_MeetsBox.Fs Tryz.f125 impl_MeetsBox.cut [.st .s133, .st .s80] [.b] k h
theorem impl_MeetsBox.ef (k : Nat) (h0 : S133) (h1 : S80) : impl_MeetsBox.run k (h0, h1, ()) = impl_IsSegment.ap k (⟨(⟨h0.f0.f0, h0.f0.f1⟩ : S75), (⟨h0.f1.f0, h0.f1.f1⟩ : S75)⟩ : S133) fun r1 => if (!r1) = true then (impl_MeetsBox.ret false) else (impl_IsBox.ap k (⟨(⟨h1.f0.f0, h1.f0.f1⟩ : S75), (⟨h1.f1.f0, h1.f1.f1⟩ : S75)⟩ : S80) fun r2 => if (!r2) = true then (impl_MeetsBox.ret false) else (impl_BoxOf.ap k ([(⟨h0.f0.f0, h0.f0.f1⟩ : S75), (⟨h0.f1.f0, h0.f1.f1⟩ : S75)] : List S75) fun r3_0 r3_1 => impl_BoxesMeet.ap k (⟨(⟨r3_0.f0.f0, r3_0.f0.f1⟩ : S75), (⟨r3_0.f1.f0, r3_0.f1.f1⟩ : S75)⟩ : S80) (⟨(⟨h1.f0.f0, h1.f0.f1⟩ : S75), (⟨h1.f1.f0, h1.f1.f1⟩ : S75)⟩ : S80) fun r4 => if (!r4) = true then (impl_MeetsBox.ret false) else (impl_MeetsBox.p8 k 0 0 4 0 h0.f0.f0 h0.f0.f1 h0.f1.f0 h0.f1.f1 ([(⟨h1.f0.f0, h1.f0.f1⟩ : S75), (⟨h1.f1.f0, h1.f1.f1⟩ : S75), (⟨h1.f0.f0, h1.f1.f1⟩ : S75), (⟨h1.f1.f0, h1.f0.f1⟩ : S75)] : List S75)))) := by kernel_rfl
def impl_MeetsBox.toH (t : Bool) : HL eΓ [.b] := (t, ())
def impl_MeetsBox.spec : Spc env := ⟨125, [.st .s133, .st .s80], [.b], impl_MeetsBox.run⟩
def impl_MeetsBox.ap {R : Type} (k : Nat) (h0 : S133) (h1 : S80) (K : Bool → Option R) : Option R := (impl_MeetsBox.run k (h0, h1, ())).bind fun r => K (r.1 : Bool)
theorem impl_MeetsBox.ap_of {R : Type} {k : Nat} {h0 : S133} {h1 : S80} {r0 : Bool} {K : Bool → Option R} (h : impl_MeetsBox.run k (h0, h1, ()) = some (r0, ())) : impl_MeetsBox.ap k h0 h1 K = K r0 := by unfold impl_MeetsBox.ap; rw [h]; rfl
theorem impl_MeetsBox.snd : Snd env impl_MeetsBox.spec := evF_snd env_ok (sndC impl_IsSegment.snd (sndC impl_IsBox.snd (sndC impl_BoxOf.snd (sndC impl_BoxesMeet.snd (sndC impl_SideOf.snd (sndN))))))
attribute [local irreducible] impl_MeetsBox.run
theorem impl_MeetsBox.rt (a0 : Bool) : impl_MeetsBox.ret a0 = some (impl_MeetsBox.toH (a0)) := rfl
theorem impl_MeetsBox.br (n : Nat) : (∀ K, n ≤ K → ∀ (x7 : Int) (x8 : Int) (x51 : Int) (x52 : Int) (b0_0 : Int) (b0_1 : Int) (b0_2 : Int) (b0_3 : Int) (x50 : List S75) t, impl_MeetsBox.l0 n x7 x8 x50 x51 x52 b0_0 b0_1 b0_2 b0_3 = some t → impl_MeetsBox.p8 K x7 x8 x51 x52 b0_0 b0_1 b0_2 b0_3 x50 = some (impl_MeetsBox.toH t)) := by
  induction n using Nat.strongRecOn with
  | _ n ih =>
  intro K hK x7 x8 x51 x52 b0_0 b0_1 b0_2 b0_3 x50 t h
  all_goals (rcases n with _ | k)
  all_goals (try (exact nos h))
  all_goals (obtain ⟨K, rfl⟩ : ∃ q, K = q + 1 := ⟨K - 1, by omega⟩)
  all_goals (first | rw [impl_MeetsBox.e8])
  all_goals (simp only [impl_MeetsBox.l0] at h)
  repeat' (with_reducible first
   | exact nos h
   | (cases some_inj h; exact impl_MeetsBox.rt _)
   | exact (ih _ (by omega)) _ (by omega) _ _ _ _ _ _ _ _ _ _ h
   | ((have q : impl_MeetsBox.j0 k _ _ _ _ _ _ _ _ _ = some _ := h; clear q); rcases k with _ | k <;> simp only [impl_MeetsBox.j0, reduceCtorEq] at h)
   | (simp only [Option.bind_some] at h)
   | (refine ite_by h ?_ ?_ <;> (intro hc h; (try simp only [nrm] at hc)))
   | refine itT ?_
   | refine itF ?_
   | (refine bind_by h (fun t ht h => ?_); (first | refine (impl_IsSegment.ap_of (impl_IsSegment.go ht _)).trans ?_ | refine (impl_IsBox.ap_of (impl_IsBox.go ht _)).trans ?_ | refine (impl_BoxOf.ap_of (impl_BoxOf.go ht _ (by omega))).trans ?_ | refine (impl_BoxesMeet.ap_of (impl_BoxesMeet.go ht _)).trans ?_ | refine (impl_SideOf.ap_of (impl_SideOf.go ht _)).trans ?_); (try dsimp only at h ⊢))
   | (simp only [nr2] at h ⊢)
   | (exfalso; omega))
theorem impl_MeetsBox.go {k : Nat} {a0_0 : Int} {a0_1 : Int} {a0_2 : Int} {a0_3 : Int} {a1_0 : Int} {a1_1 : Int} {a1_2 : Int} {a1_3 : Int} {t} (h : impl_MeetsBox.f k a0_0 a0_1 a0_2 a0_3 a1_0 a1_1 a1_2 a1_3 = some t) (K : Nat) (hK : k ≤ K) : impl_MeetsBox.run K ((⟨(⟨a0_0, a0_1⟩ : S75), (⟨a0_2, a0_3⟩ : S75)⟩ : S133), (⟨(⟨a1_0, a1_1⟩ : S75), (⟨a1_2, a1_3⟩ : S75)⟩ : S80), ()) = some (impl_MeetsBox.toH t) := by
  rw [impl_MeetsBox.ef]
  (try dsimp only)
  unfold impl_MeetsBox.f at h
  repeat' (with_reducible first
   | exact nos h
   | (cases some_inj h; exact impl_MeetsBox.rt _)
   | exact (impl_MeetsBox.br _) _ (by omega) _ _ _ _ _ _ _ _ _ _ h
   | ((have q : impl_MeetsBox.j0 k _ _ _ _ _ _ _ _ _ = some _ := h; clear q); rcases k with _ | k <;> simp only [impl_MeetsBox.j0, reduceCtorEq] at h)
   | (simp only [Option.bind_some] at h)
   | (refine ite_by h ?_ ?_ <;> (intro hc h; (try simp only [nrm] at hc)))
   | refine itT ?_
   | refine itF ?_
   | (refine bind_by h (fun t ht h => ?_); (first | refine (impl_IsSegment.ap_of (impl_IsSegment.go ht _)).trans ?_ | refine (impl_IsBox.ap_of (impl_IsBox.go ht _)).trans ?_ | refine (impl_BoxOf.ap_of (impl_BoxOf.go ht _ (by omega))).trans ?_ | refine (impl_BoxesMeet.ap_of (impl_BoxesMeet.go ht _)).trans ?_ | refine (impl_SideOf.ap_of (impl_SideOf.go ht _)).trans ?_); (try dsimp only at h ⊢))
   | (simp only [nr2] at h ⊢)
   | (exfalso; omega))
def impl_piecesOf.Fs : List (Spc env) := [impl_PartsOf.spec, impl_InBox.spec, impl_MeetsBox.spec]
def impl_piecesOf.fin : St eΓ → Option (HL eΓ [.l 56 (.st .s56)]) := finR env Tryz.f78.results.toList [.l 56 (.st .s56)]
def impl_piecesOf.cut : Nat → Option (List (Lv SC)) := lk [(5, [⟨2, none, false⟩, ⟨3, none, false⟩, ⟨4, none, false⟩, ⟨7, none, false⟩, ⟨32, none, false⟩, ⟨33, none, false⟩, ⟨34, none, false⟩])]
def impl_piecesOf.ret (r0 : List S56) : Option (HL eΓ [.l 56 (.st .s56)]) := some (r0, ())
def impl_piecesOf.p5 (k : Nat) (x2 : Bool) (x33 : Int) (x34 : Int) (b0_0 : Int) (b0_1 : Int) (b0_2 : Int) (b0_3 : ByteArray) (b1_0 : Int) (b1_1 : Int) (b1_2 : Int) (b1_3 : Int) (x7 : List S56) (x32 : List S133) (b4 : List S75) : Option (HL eΓ [.l 56 (.st .s56)]) := evM env impl_piecesOf.Fs Tryz.f78.ntmps impl_piecesOf.fin impl_piecesOf.cut k [.code (sub_ [1, 1, 1, 0, 1, 0, 0, 0] (bodyOf Tryz.f78)), .code (sub_ [1, 1, 1, 0, 1, 0, 0, 1] (bodyOf Tryz.f78)), .lp (sub_ [1, 1, 1, 0, 1, 0, 0] (bodyOf Tryz.f78)), .blk 0, .code (sub_ [1, 1, 1, 1] (bodyOf Tryz.f78))] (mkSt [(2, .c (.v (.bool x2))), (3, .c (.ptr 0 0)), (4, .c (.ptr 1 0)), (7, .c (.sl 2)), (32, .c (.sl 3)), (33, .c (.v (.int .i64 x33))), (34, .c (.v (.int .i64 x34)))] [.box 59 [.v (.int .i64 b0_0), .v (.int .i64 b0_1), .v (.int .i64 b0_2), .v (.string b0_3), .sl 4], .box 80 [.v (.int .i64 b1_0), .v (.int .i64 b1_1), .v (.int .i64 b1_2), .v (.int .i64 b1_3)], .row .own 56 (.st .s56) x7, .row .own 133 (.st .s133) x32, .row .ro 75 (.st .s75) b4])
theorem impl_piecesOf.e5 (k : Nat) (x2 : Bool) (x33 : Int) (x34 : Int) (b0_0 : Int) (b0_1 : Int) (b0_2 : Int) (b0_3 : ByteArray) (b1_0 : Int) (b1_1 : Int) (b1_2 : Int) (b1_3 : Int) (x7 : List S56) (x32 : List S133) (b4 : List S75) : impl_piecesOf.p5 (k + 1) x2 x33 x34 b0_0 b0_1 b0_2 b0_3 b1_0 b1_1 b1_2 b1_3 x7 x32 b4 = if x34 < x33 then (if 0 ≤ x34 then (if x34 < (x32.length : Int) then (if x2 = true then (if (x7.length + 1) * 16 ≤ 140737488355328 then (impl_piecesOf.p5 k x2 x33 (wrap64 (x34 + 1)) b0_0 b0_1 b0_2 b0_3 b1_0 b1_1 b1_2 b1_3 (x7 ++ [(⟨b0_0, x34⟩ : S56)]) x32 b4) else none) else (impl_MeetsBox.ap k (⟨(⟨(rd_T133 x32 x34).f0.f0, (rd_T133 x32 x34).f0.f1⟩ : S75), (⟨(rd_T133 x32 x34).f1.f0, (rd_T133 x32 x34).f1.f1⟩ : S75)⟩ : S133) (⟨(⟨b1_0, b1_1⟩ : S75), (⟨b1_2, b1_3⟩ : S75)⟩ : S80) fun r1 => if r1 = true then (if (x7.length + 1) * 16 ≤ 140737488355328 then (impl_piecesOf.p5 k x2 x33 (wrap64 (x34 + 1)) b0_0 b0_1 b0_2 b0_3 b1_0 b1_1 b1_2 b1_3 (x7 ++ [(⟨b0_0, x34⟩ : S56)]) x32 b4) else none) else (impl_piecesOf.p5 k x2 x33 (wrap64 (x34 + 1)) b0_0 b0_1 b0_2 b0_3 b1_0 b1_1 b1_2 b1_3 x7 x32 b4))) else none) else none) else (impl_piecesOf.ret x7) := by kernel_rfl
def impl_piecesOf.run (k : Nat) (h : HL eΓ [.st .s59, .st .s80, .b]) : Option (HL eΓ [.l 56 (.st .s56)]) := evF env impl_piecesOf.Fs Tryz.f78 impl_piecesOf.cut [.st .s59, .st .s80, .b] [.l 56 (.st .s56)] k h
theorem impl_piecesOf.ef (k : Nat) (h0 : S59) (h1 : S80) (h2 : Bool) : impl_piecesOf.run k (h0, h1, h2, ()) = if h0.f1 = 1 then (if h2 = true then (impl_PartsOf.ap k (⟨h0.f0, h0.f1, h0.f2, h0.f3, h0.f4⟩ : S59) fun r1 => impl_piecesOf.p5 k h2 (r1.length : Int) 0 h0.f0 h0.f1 h0.f2 h0.f3 h1.f0.f0 h1.f0.f1 h1.f1.f0 h1.f1.f1 ([(⟨h0.f0, 0⟩ : S56)] : List S56) r1 h0.f4) else (if 0 < (h0.f4.length : Int) then (impl_InBox.ap k (⟨(⟨h1.f0.f0, h1.f0.f1⟩ : S75), (⟨h1.f1.f0, h1.f1.f1⟩ : S75)⟩ : S80) (⟨(rd_T75 h0.f4 0).f0, (rd_T75 h0.f4 0).f1⟩ : S75) fun r2 => if r2 = true then (impl_PartsOf.ap k (⟨h0.f0, h0.f1, h0.f2, h0.f3, h0.f4⟩ : S59) fun r3 => impl_piecesOf.p5 k h2 (r3.length : Int) 0 h0.f0 h0.f1 h0.f2 h0.f3 h1.f0.f0 h1.f0.f1 h1.f1.f0 h1.f1.f1 ([(⟨h0.f0, 0⟩ : S56)] : List S56) r3 h0.f4) else (impl_PartsOf.ap k (⟨h0.f0, h0.f1, h0.f2, h0.f3, h0.f4⟩ : S59) fun r4 => impl_piecesOf.p5 k h2 (r4.length : Int) 0 h0.f0 h0.f1 h0.f2 h0.f3 h1.f0.f0 h1.f0.f1 h1.f1.f0 h1.f1.f1 ([] : List S56) r4 h0.f4)) else none)) else (impl_PartsOf.ap k (⟨h0.f0, h0.f1, h0.f2, h0.f3, h0.f4⟩ : S59) fun r5 => impl_piecesOf.p5 k h2 (r5.length : Int) 0 h0.f0 h0.f1 h0.f2 h0.f3 h1.f0.f0 h1.f0.f1 h1.f1.f0 h1.f1.f1 ([] : List S56) r5 h0.f4) := by kernel_rfl
def impl_piecesOf.toH (t : (List (S56))) : HL eΓ [.l 56 (.st .s56)] := (t, ())
def impl_piecesOf.spec : Spc env := ⟨78, [.st .s59, .st .s80, .b], [.l 56 (.st .s56)], impl_piecesOf.run⟩
def impl_piecesOf.ap {R : Type} (k : Nat) (h0 : S59) (h1 : S80) (h2 : Bool) (K : (List S56) → Option R) : Option R := (impl_piecesOf.run k (h0, h1, h2, ())).bind fun r => K (r.1 : List S56)
theorem impl_piecesOf.ap_of {R : Type} {k : Nat} {h0 : S59} {h1 : S80} {h2 : Bool} {r0 : List S56} {K : (List S56) → Option R} (h : impl_piecesOf.run k (h0, h1, h2, ()) = some (r0, ())) : impl_piecesOf.ap k h0 h1 h2 K = K r0 := by unfold impl_piecesOf.ap; rw [h]; rfl
theorem impl_piecesOf.snd : Snd env impl_piecesOf.spec := evF_snd env_ok (sndC impl_PartsOf.snd (sndC impl_InBox.snd (sndC impl_MeetsBox.snd (sndN))))
attribute [local irreducible] impl_piecesOf.run
theorem impl_piecesOf.rt (a0 : List S56) : impl_piecesOf.ret a0 = some (impl_piecesOf.toH (a0)) := rfl
theorem impl_piecesOf.br (n : Nat) : (∀ K, n ≤ K → ∀ (x2 : Bool) (x33 : Int) (x34 : Int) (b0_0 : Int) (b0_1 : Int) (b0_2 : Int) (b0_3 : ByteArray) (b1_0 : Int) (b1_1 : Int) (b1_2 : Int) (b1_3 : Int) (x7 : List S56) (x32 : List S133) (b4 : List S75) t, impl_piecesOf.l0 n x2 x7 x32 x33 x34 b0_0 b0_1 b0_2 b0_3 b4 b1_0 b1_1 b1_2 b1_3 = some t → impl_piecesOf.p5 K x2 x33 x34 b0_0 b0_1 b0_2 b0_3 b1_0 b1_1 b1_2 b1_3 x7 x32 b4 = some (impl_piecesOf.toH t)) := by
  induction n using Nat.strongRecOn with
  | _ n ih =>
  intro K hK x2 x33 x34 b0_0 b0_1 b0_2 b0_3 b1_0 b1_1 b1_2 b1_3 x7 x32 b4 t h
  all_goals (rcases n with _ | k)
  all_goals (try (exact nos h))
  all_goals (obtain ⟨K, rfl⟩ : ∃ q, K = q + 1 := ⟨K - 1, by omega⟩)
  all_goals (first | rw [impl_piecesOf.e5])
  all_goals (simp only [impl_piecesOf.l0] at h)
  repeat' (with_reducible first
   | exact nos h
   | (cases some_inj h; exact impl_piecesOf.rt _)
   | exact (ih _ (by omega)) _ (by omega) _ _ _ _ _ _ _ _ _ _ _ _ _ _ _ h
   | ((have q : impl_piecesOf.j0 k _ _ _ _ _ _ _ _ _ _ _ _ = some _ := h; clear q); rcases k with _ | k <;> simp only [impl_piecesOf.j0, reduceCtorEq] at h)
   | ((have q : impl_piecesOf.j1 k _ _ _ _ _ _ _ _ _ _ _ = some _ := h; clear q); rcases k with _ | k <;> simp only [impl_piecesOf.j1, reduceCtorEq] at h)
   | (simp only [Option.bind_some] at h)
   | (refine ite_by h ?_ ?_ <;> (intro hc h; (try simp only [nrm] at hc)))
   | refine itT ?_
   | refine itF ?_
   | (refine bind_by h (fun t ht h => ?_); (first | refine (impl_PartsOf.ap_of (impl_PartsOf.go ht _ (by omega))).trans ?_ | refine (impl_InBox.ap_of (impl_InBox.go ht _)).trans ?_ | refine (impl_MeetsBox.ap_of (impl_MeetsBox.go ht _ (by omega))).trans ?_); (try dsimp only at h ⊢))
   | (simp only [nr2] at h ⊢)
   | (exfalso; omega))
theorem impl_piecesOf.go {k : Nat} {a0_0 : Int} {a0_1 : Int} {a0_2 : Int} {a0_3 : ByteArray} {l0_4 : List S75} {a1_0 : Int} {a1_1 : Int} {a1_2 : Int} {a1_3 : Int} {a2 : Bool} {t} (h : impl_piecesOf.f k a0_0 a0_1 a0_2 a0_3 l0_4 a1_0 a1_1 a1_2 a1_3 a2 = some t) (K : Nat) (hK : k ≤ K) : impl_piecesOf.run K ((⟨a0_0, a0_1, a0_2, a0_3, l0_4⟩ : S59), (⟨(⟨a1_0, a1_1⟩ : S75), (⟨a1_2, a1_3⟩ : S75)⟩ : S80), a2, ()) = some (impl_piecesOf.toH t) := by
  rw [impl_piecesOf.ef]
  (try dsimp only)
  unfold impl_piecesOf.f at h
  repeat' (with_reducible first
   | exact nos h
   | (cases some_inj h; exact impl_piecesOf.rt _)
   | exact (impl_piecesOf.br _) _ (by omega) _ _ _ _ _ _ _ _ _ _ _ _ _ _ _ h
   | ((have q : impl_piecesOf.j0 k _ _ _ _ _ _ _ _ _ _ _ _ = some _ := h; clear q); rcases k with _ | k <;> simp only [impl_piecesOf.j0, reduceCtorEq] at h)
   | ((have q : impl_piecesOf.j1 k _ _ _ _ _ _ _ _ _ _ _ = some _ := h; clear q); rcases k with _ | k <;> simp only [impl_piecesOf.j1, reduceCtorEq] at h)
   | (simp only [Option.bind_some] at h)
   | (refine ite_by h ?_ ?_ <;> (intro hc h; (try simp only [nrm] at hc)))
   | refine itT ?_
   | refine itF ?_
   | (refine bind_by h (fun t ht h => ?_); (first | refine (impl_PartsOf.ap_of (impl_PartsOf.go ht _ (by omega))).trans ?_ | refine (impl_InBox.ap_of (impl_InBox.go ht _)).trans ?_ | refine (impl_MeetsBox.ap_of (impl_MeetsBox.go ht _ (by omega))).trans ?_); (try dsimp only at h ⊢))
   | (simp only [nr2] at h ⊢)
   | (exfalso; omega))
def impl_PiecesIn.Fs : List (Spc env) := [impl_TileBox.spec, impl_IsSource.spec, impl_piecesOf.spec]
def impl_PiecesIn.fin : St eΓ → Option (HL eΓ [.l 56 (.st .s56)]) := finR env Tryz.f34.results.toList [.l 56 (.st .s56)]
def impl_PiecesIn.cut : Nat → Option (List (Lv SC)) := lk [(6, [⟨5, none, false⟩, ⟨6, none, false⟩, ⟨24, none, false⟩, ⟨25, none, false⟩, ⟨26, none, false⟩])]
def impl_PiecesIn.ret (r0 : List S56) : Option (HL eΓ [.l 56 (.st .s56)]) := some (r0, ())
def impl_PiecesIn.p6 (k : Nat) (x25 : Int) (x26 : Int) (x5 : List S56) (b1_0 : Int) (b1_1 : Int) (b1_2 : Int) (b1_3 : Int) (x24 : List S59) : Option (HL eΓ [.l 56 (.st .s56)]) := evM env impl_PiecesIn.Fs Tryz.f34.ntmps impl_PiecesIn.fin impl_PiecesIn.cut k [.code (sub_ [1, 1, 1, 1, 0, 1, 0, 0, 0] (bodyOf Tryz.f34)), .code (sub_ [1, 1, 1, 1, 0, 1, 0, 0, 1] (bodyOf Tryz.f34)), .lp (sub_ [1, 1, 1, 1, 0, 1, 0, 0] (bodyOf Tryz.f34)), .blk 0, .code (sub_ [1, 1, 1, 1, 1] (bodyOf Tryz.f34))] (mkSt [(5, .c (.sl 0)), (6, .c (.ptr 1 0)), (24, .c (.sl 2)), (25, .c (.v (.int .i64 x25))), (26, .c (.v (.int .i64 x26)))] [.row .own 56 (.st .s56) x5, .box 80 [.v (.int .i64 b1_0), .v (.int .i64 b1_1), .v (.int .i64 b1_2), .v (.int .i64 b1_3)], .row .ro 59 (.st .s59) x24])
theorem impl_PiecesIn.e6 (k : Nat) (x25 : Int) (x26 : Int) (x5 : List S56) (b1_0 : Int) (b1_1 : Int) (b1_2 : Int) (b1_3 : Int) (x24 : List S59) : impl_PiecesIn.p6 (k + 1) x25 x26 x5 b1_0 b1_1 b1_2 b1_3 x24 = if x26 < x25 then (if 0 ≤ x26 then (if x26 < (x24.length : Int) then (impl_piecesOf.ap k (⟨(rd_T59 x24 x26).f0, (rd_T59 x24 x26).f1, (rd_T59 x24 x26).f2, (rd_T59 x24 x26).f3, (rd_T59 x24 x26).f4⟩ : S59) (⟨(⟨b1_0, b1_1⟩ : S75), (⟨b1_2, b1_3⟩ : S75)⟩ : S80) false fun r1 => if (x5.length + r1.length) * 16 ≤ 140737488355328 then (impl_PiecesIn.p6 k x25 (wrap64 (x26 + 1)) (x5 ++ r1) b1_0 b1_1 b1_2 b1_3 x24) else none) else none) else none) else (impl_PiecesIn.ret x5) := by kernel_rfl
def impl_PiecesIn.run (k : Nat) (h : HL eΓ [.l 59 (.st .s59), .i .i64]) : Option (HL eΓ [.l 56 (.st .s56)]) := evF env impl_PiecesIn.Fs Tryz.f34 impl_PiecesIn.cut [.l 59 (.st .s59), .i .i64] [.l 56 (.st .s56)] k h
theorem impl_PiecesIn.ef (k : Nat) (h0 : List S59) (h1 : Int) : impl_PiecesIn.run k (h0, h1, ()) = impl_TileBox.ap k h1 fun r1_0 r1_1 => if (!r1_1) = true then (impl_PiecesIn.ret ([] : List S56)) else (impl_IsSource.ap k h0 fun r2 => if (!r2) = true then (impl_PiecesIn.ret ([] : List S56)) else (impl_PiecesIn.p6 k (h0.length : Int) 0 ([] : List S56) r1_0.f0.f0 r1_0.f0.f1 r1_0.f1.f0 r1_0.f1.f1 h0)) := by kernel_rfl
def impl_PiecesIn.toH (t : (List (S56))) : HL eΓ [.l 56 (.st .s56)] := (t, ())
def impl_PiecesIn.spec : Spc env := ⟨34, [.l 59 (.st .s59), .i .i64], [.l 56 (.st .s56)], impl_PiecesIn.run⟩
theorem impl_PiecesIn.snd : Snd env impl_PiecesIn.spec := evF_snd env_ok (sndC impl_TileBox.snd (sndC impl_IsSource.snd (sndC impl_piecesOf.snd (sndN))))
attribute [local irreducible] impl_PiecesIn.run
theorem impl_PiecesIn.rt (a0 : List S56) : impl_PiecesIn.ret a0 = some (impl_PiecesIn.toH (a0)) := rfl
theorem impl_PiecesIn.br (n : Nat) : (∀ K, n ≤ K → ∀ (x25 : Int) (x26 : Int) (x5 : List S56) (b1_0 : Int) (b1_1 : Int) (b1_2 : Int) (b1_3 : Int) (x24 : List S59) t, impl_PiecesIn.l0 n x5 x24 x25 x26 b1_0 b1_1 b1_2 b1_3 = some t → impl_PiecesIn.p6 K x25 x26 x5 b1_0 b1_1 b1_2 b1_3 x24 = some (impl_PiecesIn.toH t)) := by
  induction n using Nat.strongRecOn with
  | _ n ih =>
  intro K hK x25 x26 x5 b1_0 b1_1 b1_2 b1_3 x24 t h
  all_goals (rcases n with _ | k)
  all_goals (try (exact nos h))
  all_goals (obtain ⟨K, rfl⟩ : ∃ q, K = q + 1 := ⟨K - 1, by omega⟩)
  all_goals (first | rw [impl_PiecesIn.e6])
  all_goals (simp only [impl_PiecesIn.l0] at h)
  repeat' (with_reducible first
   | exact nos h
   | (cases some_inj h; exact impl_PiecesIn.rt _)
   | exact (ih _ (by omega)) _ (by omega) _ _ _ _ _ _ _ _ _ h
   | ((have q : impl_PiecesIn.j0 k _ _ _ _ _ _ _ = some _ := h; clear q); rcases k with _ | k <;> simp only [impl_PiecesIn.j0, reduceCtorEq] at h)
   | (simp only [Option.bind_some] at h)
   | (refine ite_by h ?_ ?_ <;> (intro hc h; (try simp only [nrm] at hc)))
   | refine itT ?_
   | refine itF ?_
   | (refine bind_by h (fun t ht h => ?_); (first | refine (impl_TileBox.ap_of (impl_TileBox.go ht _)).trans ?_ | refine (impl_IsSource.ap_of (impl_IsSource.go ht _ (by omega))).trans ?_ | refine (impl_piecesOf.ap_of (impl_piecesOf.go ht _ (by omega))).trans ?_); (try dsimp only at h ⊢))
   | (simp only [nr2] at h ⊢)
   | (exfalso; omega))
theorem impl_PiecesIn.go {k : Nat} {l0 : List S59} {a1 : Int} {t} (h : impl_PiecesIn.f k l0 a1 = some t) (K : Nat) (hK : k ≤ K) : impl_PiecesIn.run K (l0, a1, ()) = some (impl_PiecesIn.toH t) := by
  rw [impl_PiecesIn.ef]
  (try dsimp only)
  unfold impl_PiecesIn.f at h
  repeat' (with_reducible first
   | exact nos h
   | (cases some_inj h; exact impl_PiecesIn.rt _)
   | exact (impl_PiecesIn.br _) _ (by omega) _ _ _ _ _ _ _ _ _ h
   | ((have q : impl_PiecesIn.j0 k _ _ _ _ _ _ _ = some _ := h; clear q); rcases k with _ | k <;> simp only [impl_PiecesIn.j0, reduceCtorEq] at h)
   | (simp only [Option.bind_some] at h)
   | (refine ite_by h ?_ ?_ <;> (intro hc h; (try simp only [nrm] at hc)))
   | refine itT ?_
   | refine itF ?_
   | (refine bind_by h (fun t ht h => ?_); (first | refine (impl_TileBox.ap_of (impl_TileBox.go ht _)).trans ?_ | refine (impl_IsSource.ap_of (impl_IsSource.go ht _ (by omega))).trans ?_ | refine (impl_piecesOf.ap_of (impl_piecesOf.go ht _ (by omega))).trans ?_); (try dsimp only at h ⊢))
   | (simp only [nr2] at h ⊢)
   | (exfalso; omega))
theorem impl_PiecesIn.calls (k : Nat) (A0 : Option Addr) (c0 : Nat) (l0 : List (S59)) (a1 : Int) (r : List (S56)) (w : World) (hr0 : Kd.C k59 w A0 l0.length l0) (hc0 : l0.length ≤ c0) (h : impl_PiecesIn.f k l0 a1 = some r) :
  Calls Tryz.prog 34 #[.slice A0 l0.length c0, .int .i64 a1] w fun e w' => ∃ v0_ : Value, e = .returned (v0_) ∧ Kd.R k56 56 w' w.heap.size (fun _ => True) v0_ r ∧ Below w.heap.size w w' := by
  refine (impl_PiecesIn.snd.calls _ _ _ (impl_PiecesIn.go h k (Nat.le_refl k)) w [.slice A0 l0.length c0, .int .i64 a1] ⟨⟨_, _, rfl, hc0, hr0⟩, rfl, trivial⟩).mono ?_
  rintro e w' ⟨v, rfl, hB, vs, oks, rfl, hR, _⟩
  obtain ⟨x0_, vs, o0_, oks, rfl, rfl, m0_, hR⟩ := rmsC hR
  obtain rfl := rmsN hR
  obtain ⟨x0_v, x0_e, x0_R⟩ := m0_
  obtain rfl := List.singleton_inj.1 x0_e
  exact ⟨_, rfl, Kd.R_mono x0_R (fun _ _ => trivial), hB⟩
set_option maxHeartbeats 8000000 in
set_option maxRecDepth 100000 in
theorem impl_JoinTiles.calls (k : Nat) (A0 : Option Addr) (c0 : Nat) (l0 : List S59) (A1 : Option Addr) (c1 : Nat) (l1 : List Int) (r : List S56) (w : World) (hr0 : Kd.C k59 w A0 l0.length l0) (hc0 : l0.length ≤ c0) (hr1 : Kd.C (Kd.int .i64) w A1 l1.length l1) (hc1 : l1.length ≤ c1) (h : impl_JoinTiles.f k l0 l1 = some r) :
    Calls Tryz.prog 11 #[.slice A0 l0.length c0, .slice A1 l1.length c1] w fun e w' => ∃ v0_ : Value, e = .returned (v0_) ∧ Kd.R k56 56 w' w.heap.size (fun _ => True) v0_ r ∧ Below w.heap.size w w' := by
  have HR0 := Aside0.mk hr0
  have HC0 := Aside0.mk hc0
  have HR1 := Aside0.mk hr1
  have HC1 := Aside0.mk hc1
  have HL1 := Aside0.mk hr1.2.1
  clear hr0 hc0 hr1 hc1
  have HB := Aside0.mk (Below.refl w.heap.size w)
  have HX := Aside0.mk h
  clear h
  go_enter Tryz.func11, Tryz.ntmps11
  go_wp2
  have HOi : Aside0 (Kd.R k56 56 (w.alloc (.cells #[] 56 (0, 0))) w.heap.size (fun _ => True) (.slice (some ⟨w.heap.size, 0, none⟩) 0 0) []) :=
    ⟨⟨fun _ _ => trivial, [], ⟨rfl, .inr ⟨w.heap.size, 0, #[], rfl, Nat.le_refl _, Array.getElem?_push_size, Nat.le_refl _, by decide, rfl, rfl⟩⟩, Reps.none _ _⟩⟩
  have HBi : Aside0 (Below w.heap.size w (w.alloc (.cells #[] 56 (0, 0)))) := ⟨below_alloc HB.out _⟩
  go_loopg [5, 11] l1.length (fun gg s5 s11 wr => ∃ (j : Nat) (xs : List S56), s11 = .int .i64 j ∧ j ≤ l1.length ∧ l1.length - j ≤ gg ∧ Aside0 (((jl k l0 (l1.drop j) xs).bind fun xs => if xs.length < 4611686018427387904 then some (compP (sortPc xs)) else none) = some r) ∧ Aside0 (Kd.R k56 56 wr w.heap.size (fun _ => True) s5 xs) ∧ Aside0 (Below w.heap.size w wr))
  case atStart => exact ⟨0, [], rfl, Nat.zero_le _, by omega, HX, HOi, HBi⟩
  case round =>
    clear HOi HBi HB HX
    obtain ⟨j, xs, rfl, hj, hg, HX, HO, HB⟩ := hrel
    by_cases hlt : j < l1.length
    · have q1 : (j : Int) < (l1.length : Int) := by omega
      have q0 : 0 ≤ (j : Int) := by omega
      have m1 : l1.length - (j + 1) < l1.length - j := by omega
      have e0 : wrap64 ((j : Int) + 1) = ((j + 1 : Nat) : Int) := wr_add j (Nat.lt_of_lt_of_le hlt HL1.out)
      obtain ⟨ad, c, eA, hcl, hK, hcell⟩ := Kd.C_get HR1.out 0 (j : Int) q0 q1
      subst eA
      have hcell := hcell 0 (.int .i64 (l1.getD j 0)) (by rw [show c = [.int .i64 (l1.getD j 0)] from hK]; rfl)
      replace hcell := (HB.out.cell (World.block_lt_of_cell? w _ hcell)).trans hcell
      simp only [Int.toNat_natCast, Nat.add_zero, show (Kd.int .i64).sz = 1 from rfl, Nat.mul_one] at hcell
      have H := HX.out
      rw [jl_drop hlt] at H
      generalize l1.getD j 0 = t at hcell H
      clear hK hcl
      cases hp : impl_PiecesIn.f k l0 t with
      | none => rw [hp] at H; simp at H
      | some p =>
        rw [hp, Option.bind_some] at H
        by_cases hL : xs.length + p.length < 8796093022208
        · rw [if_pos hL] at H
          have H' := Aside0.mk H
          have HP := Aside0.mk hp
          have LM := Aside0.mk hL
          clear H HX hp hL
          replace q1 := eq_true q1
          replace q0 := eq_true q0
          go_wp2_with (first | (go_at_call 34; refine (impl_PiecesIn.calls k _ _ l0 t p _ (Kd.C_below HR0.out HB.out) HC0.out HP.out).mono ?_; rintro _ w2 ⟨v2, rfl, ho2, hb2⟩; have n0_ := Aside0.mk (Kd.R_below HO.out hb2); have n1_ := Aside0.mk (below_step HB.out hb2); have HP2 := Aside0.mk ho2; clear HO HB; have HO := n0_; have HB := n1_; obtain ⟨A2, c2, e2⟩ := Kd.R_slice HP2.out; subst e2; clear n0_ n1_; clear ho2 hb2) | (at_builtin; refine Kd.R_append_rows k56 (w0 := w) w.heap.size rfl (.tmp 15) (.tmp 18) 25 56 (.agg #[(.int .i64 0), (.int .i64 0)]) 16 rfl Tryz.underlying25 info56 rfl (by decide) (by omega) u5 xs p _ _ _ (fun _ => True) (fun _ => False) rfl rfl HO.out (Kd.R_reads' HP2.out).2.2 (fun _ _ h => h) (fun _ h => h.elim) (fun _ _ => trivial) HB.out (below_size HB.out) (by have := LM.out; omega) ?_; intro v3 w3 ho hb _ _; clear HO HB; have HO := Aside0.mk ho; have HB := Aside0.mk hb; clear ho hb))
          go_roundg (l1.length - (j + 1))
          case measure => exact Nat.lt_of_lt_of_le m1 hg
          case rel => exact ⟨j + 1, xs ++ p, by first | rfl | rw [e0], hlt, Nat.le_refl _, H', HO, HB⟩
        · rw [if_neg hL] at H; simp at H
    · have ej : j = l1.length := by omega
      subst ej
      have q1 : ((l1.length : Int) < (l1.length : Int)) = False := eq_false (by omega)
      have H := HX.out
      rw [List.drop_length, jl, Option.bind_some] at H
      by_cases hL : xs.length < 4611686018427387904
      · rw [if_pos hL] at H
        obtain rfl := Option.some.inj H
        have LM := Aside0.mk hL
        clear H HX hL
        go_wp2_with (first | (go_at_call 35; refine (sortC (fun _ => True) _ xs w _ HB.out HO.out LM.out).mono ?_; rintro _ w2 ⟨rfl, ho2, hb2⟩; clear HO HB; have HO := Aside0.mk ho2; have HB := Aside0.mk hb2; clear ho2 hb2) | (go_at_call 39; refine (compC (fun _ => True) _ (sortPc xs) w _ HB.out HO.out (by rw [sortPc_len]; exact Nat.le_of_lt (Nat.lt_trans LM.out (by decide)))).mono ?_; rintro _ w2 ⟨v2, rfl, ho2, hb2⟩; clear HO HB; have HO := Aside0.mk ho2; have HB := Aside0.mk hb2; clear ho2 hb2))
        go_ret
        exact ⟨_, rfl, HO.out, HB.out⟩
      · rw [if_neg hL] at H; simp at H
def spec_l1In.toH (t : Bool) : HL eΓ [.b] := (t, ())
def spec_l1In.run (k : Nat) (h : HL eΓ [.i .i64, .i .i64, .i .i64]) : Option (HL eΓ [.b]) := (spec_l1In.f (h.1 : Int) (h.2.1 : Int) (h.2.2.1 : Int)).map spec_l1In.toH
def spec_l1In.spec : Spc env := ⟨90, [.i .i64, .i .i64, .i .i64], [.b], spec_l1In.run⟩
def spec_l1In.ap {R : Type} (k : Nat) (h0 : Int) (h1 : Int) (h2 : Int) (K : Bool → Option R) : Option R := (spec_l1In.run k (h0, h1, h2, ())).bind fun r => K (r.1 : Bool)
theorem spec_l1In.ap_of {R : Type} {k : Nat} {h0 : Int} {h1 : Int} {h2 : Int} {r0 : Bool} {K : Bool → Option R} (h : spec_l1In.run k (h0, h1, h2, ()) = some (r0, ())) : spec_l1In.ap k h0 h1 h2 K = K r0 := by unfold spec_l1In.ap; rw [h]; rfl
theorem spec_l1In.go {a0 : Int} {a1 : Int} {a2 : Int} {t} (h : spec_l1In.f a0 a1 a2 = some t) (K : Nat) : spec_l1In.run K (a0, a1, a2, ()) = some (spec_l1In.toH t) := by
  show Option.map _ (spec_l1In.f a0 a1 a2) = _
  rw [h]; rfl
theorem spec_l1In.snd : Snd env spec_l1In.spec := ⟨⟨Tryz.f90, by kernel_rfl, by kernel_rfl, by kernel_rfl⟩, fun k h r he w us hA => by
  obtain ⟨t, ht, rfl⟩ := Option.map_eq_some_iff.1 (show (spec_l1In.f (h.1 : Int) (h.2.1 : Int) (h.2.2.1 : Int)).map spec_l1In.toH = some r from he)
  match us, hA with
  | [u0, u1, u2], ⟨q0, q1, q2, _⟩ =>
  obtain rfl := List.singleton_inj.1 (show [u0] = [Value.int .i64 (h.1 : Int)] from q0)
  obtain rfl := List.singleton_inj.1 (show [u1] = [Value.int .i64 (h.2.1 : Int)] from q1)
  obtain rfl := List.singleton_inj.1 (show [u2] = [Value.int .i64 (h.2.2.1 : Int)] from q2)
  refine (spec_l1In.calls (w := w) (h := ht) ).mono ?_
  rintro e w' ⟨he, hw⟩
  exact ⟨_, he, (by obtain ⟨_, rfl⟩ := hw; exact Below.refl _ _), [.bool t], [fun _ => False], rfl, ⟨rfl, trivial⟩, by simp [DJ]⟩⟩
def spec_IsPoint.toH (t : Bool) : HL eΓ [.b] := (t, ())
def spec_IsPoint.run (k : Nat) (h : HL eΓ [.st .s75]) : Option (HL eΓ [.b]) := (spec_IsPoint.f ((h.1 : S75).f0) ((h.1 : S75).f1)).map spec_IsPoint.toH
def spec_IsPoint.spec : Spc env := ⟨88, [.st .s75], [.b], spec_IsPoint.run⟩
def spec_IsPoint.ap {R : Type} (k : Nat) (h0 : S75) (K : Bool → Option R) : Option R := (spec_IsPoint.run k (h0, ())).bind fun r => K (r.1 : Bool)
theorem spec_IsPoint.ap_of {R : Type} {k : Nat} {h0 : S75} {r0 : Bool} {K : Bool → Option R} (h : spec_IsPoint.run k (h0, ()) = some (r0, ())) : spec_IsPoint.ap k h0 K = K r0 := by unfold spec_IsPoint.ap; rw [h]; rfl
theorem spec_IsPoint.go {a0_0 : Int} {a0_1 : Int} {t} (h : spec_IsPoint.f a0_0 a0_1 = some t) (K : Nat) : spec_IsPoint.run K ((⟨a0_0, a0_1⟩ : S75), ()) = some (spec_IsPoint.toH t) := by
  show Option.map _ (spec_IsPoint.f a0_0 a0_1) = _
  rw [h]; rfl
theorem spec_IsPoint.snd : Snd env spec_IsPoint.spec := ⟨⟨Tryz.f88, by kernel_rfl, by kernel_rfl, by kernel_rfl⟩, fun k h r he w us hA => by
  obtain ⟨t, ht, rfl⟩ := Option.map_eq_some_iff.1 (show (spec_IsPoint.f ((h.1 : S75).f0) ((h.1 : S75).f1)).map spec_IsPoint.toH = some r from he)
  match us, hA with
  | [u0], ⟨q0, _⟩ =>
  obtain ⟨v0, rfl, q0⟩ := q0
  have q0 := (H75.K _ _ _).1 q0
  match e0 : v0.toList, q0 with
  | [c0_0, c0_1], ⟨p0_0, p0_1, _⟩ =>
  obtain rfl : v0 = #[c0_0, c0_1] := by rw [← Array.toArray_toList (xs := v0), e0]
  obtain rfl := List.singleton_inj.1 (show [c0_0] = [Value.int .i64 ((h.1 : S75).f0)] from p0_0)
  obtain rfl := List.singleton_inj.1 (show [c0_1] = [Value.int .i64 ((h.1 : S75).f1)] from p0_1)
  refine (spec_IsPoint.calls (w := w) (h := ht) ).mono ?_
  rintro e w' ⟨he, hw⟩
  exact ⟨_, he, hw, [.bool t], [fun _ => False], rfl, ⟨rfl, trivial⟩, by simp [DJ]⟩⟩
def spec_IsName.Fs : List (Spc env) := [spec_l1In.spec]
def spec_IsName.fin : St eΓ → Option (HL eΓ [.b]) := finR env Tryz.f89.results.toList [.b]
def spec_IsName.cut : Nat → Option (List (Lv SC)) := lk [(2, [⟨0, none, false⟩, ⟨3, none, false⟩])]
def spec_IsName.ret (r0 : Bool) : Option (HL eΓ [.b]) := some (r0, ())
def spec_IsName.p2 (k : Nat) (x0 : ByteArray) (x3 : Int) : Option (HL eΓ [.b]) := evM env spec_IsName.Fs Tryz.f89.ntmps spec_IsName.fin spec_IsName.cut k [.code (sub_ [1, 0, 1, 0, 0, 0, 0] (bodyOf Tryz.f89)), .code (sub_ [1, 0, 1, 0, 0, 0, 1] (bodyOf Tryz.f89)), .code (sub_ [1, 0, 1, 0, 0, 1] (bodyOf Tryz.f89)), .lp (sub_ [1, 0, 1, 0, 0] (bodyOf Tryz.f89)), .blk 0, .code (sub_ [1, 1] (bodyOf Tryz.f89))] (mkSt [(0, .c (.v (.string x0))), (3, .c (.v (.int .i64 x3)))] [])
theorem spec_IsName.e2 (k : Nat) (x0 : ByteArray) (x3 : Int) : spec_IsName.p2 (k + 1) x0 x3 = if x3 < (x0.size : Int) then (if 0 ≤ x3 then (if x3 < (x0.size : Int) then (if (bt x0 x3) < 97 then (spec_IsName.ret false) else (if 0 ≤ x3 then (if x3 < (x0.size : Int) then (if (bt x0 x3) > 122 then (spec_IsName.ret false) else (spec_IsName.p2 k x0 (wrap64 (x3 + 1)))) else none) else none)) else none) else none) else (spec_l1In.ap k (x0.size : Int) 1 8 fun r1 => spec_IsName.ret r1) := by kernel_rfl
def spec_IsName.run (k : Nat) (h : HL eΓ [.s]) : Option (HL eΓ [.b]) := evF env spec_IsName.Fs Tryz.f89 spec_IsName.cut [.s] [.b] k h
theorem spec_IsName.ef (k : Nat) (h0 : ByteArray) : spec_IsName.run k (h0, ()) = spec_IsName.p2 k h0 0 := by kernel_rfl
def spec_IsName.toH (t : Bool) : HL eΓ [.b] := (t, ())
def spec_IsName.spec : Spc env := ⟨89, [.s], [.b], spec_IsName.run⟩
def spec_IsName.ap {R : Type} (k : Nat) (h0 : ByteArray) (K : Bool → Option R) : Option R := (spec_IsName.run k (h0, ())).bind fun r => K (r.1 : Bool)
theorem spec_IsName.ap_of {R : Type} {k : Nat} {h0 : ByteArray} {r0 : Bool} {K : Bool → Option R} (h : spec_IsName.run k (h0, ()) = some (r0, ())) : spec_IsName.ap k h0 K = K r0 := by unfold spec_IsName.ap; rw [h]; rfl
theorem spec_IsName.snd : Snd env spec_IsName.spec := evF_snd env_ok (sndC spec_l1In.snd (sndN))
attribute [local irreducible] spec_IsName.run
theorem spec_IsName.rt (a0 : Bool) : spec_IsName.ret a0 = some (spec_IsName.toH (a0)) := rfl
theorem spec_IsName.br (n : Nat) : (∀ K, n ≤ K → ∀ (x0 : ByteArray) (x3 : Int) t, spec_IsName.l0 n x0 x3 = some t → spec_IsName.p2 K x0 x3 = some (spec_IsName.toH t)) := by
  induction n using Nat.strongRecOn with
  | _ n ih =>
  intro K hK x0 x3 t h
  all_goals (rcases n with _ | k)
  all_goals (try (exact nos h))
  all_goals (obtain ⟨K, rfl⟩ : ∃ q, K = q + 1 := ⟨K - 1, by omega⟩)
  all_goals (first | rw [spec_IsName.e2])
  all_goals (simp only [spec_IsName.l0] at h)
  repeat' (with_reducible first
   | exact nos h
   | (cases some_inj h; exact spec_IsName.rt _)
   | exact (ih _ (by omega)) _ (by omega) _ _ _ h
   | (simp only [Option.bind_some] at h)
   | (refine ite_by h ?_ ?_ <;> (intro hc h; (try simp only [nrm] at hc)))
   | refine itT ?_
   | refine itF ?_
   | (refine bind_by h (fun t ht h => ?_); refine (spec_l1In.ap_of (spec_l1In.go ht _)).trans ?_; (try dsimp only at h ⊢))
   | (simp only [nr2] at h ⊢)
   | (exfalso; omega))
theorem spec_IsName.go {k : Nat} {a0 : ByteArray} {t} (h : spec_IsName.f k a0 = some t) (K : Nat) (hK : k ≤ K) : spec_IsName.run K (a0, ()) = some (spec_IsName.toH t) := by
  rw [spec_IsName.ef]
  (try dsimp only)
  unfold spec_IsName.f at h
  repeat' (with_reducible first
   | exact nos h
   | (cases some_inj h; exact spec_IsName.rt _)
   | exact (spec_IsName.br _) _ (by omega) _ _ _ h
   | (simp only [Option.bind_some] at h)
   | (refine ite_by h ?_ ?_ <;> (intro hc h; (try simp only [nrm] at hc)))
   | refine itT ?_
   | refine itF ?_
   | (refine bind_by h (fun t ht h => ?_); refine (spec_l1In.ap_of (spec_l1In.go ht _)).trans ?_; (try dsimp only at h ⊢))
   | (simp only [nr2] at h ⊢)
   | (exfalso; omega))
def spec_IsSegment.toH (t : Bool) : HL eΓ [.b] := (t, ())
end
end Go.Proofs.YtkomgmgpgnjooaaGreat.PFnExactJoinTiles
