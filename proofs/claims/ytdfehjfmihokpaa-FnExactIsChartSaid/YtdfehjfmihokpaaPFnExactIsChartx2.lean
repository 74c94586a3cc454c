-- Written by a program of this session's (evlaw.py).
import Derived.Test.YtdfehjfmihokpaaPFnExactIsChartx1
namespace Go.Proofs.Ytdfehjfmihokpaa.PFnExactIsChart
open Go.RowKit Go.Proofs.YtdfehjfmihokpaaW.PrintWords Go.Proofs.YtdfehjfmihokpaaW.PrintLast Go.Proofs.YtdfehjfmihokpaaW.PrintMore Go.Proofs.YtdfehjfmihokpaaGeo Go.Proofs.YtdfehjfmihokpaaHand Go.Proofs.YtdfehjfmihokpaaMeet Go.Proofs.YtdfehjfmihokpaaQuiet Go.Proofs.YtdfehjfmihokpaaZ
open Go Go.Proofs.YtdfehjfmihokpaaEv
attribute [local go_sem] max2_int min2_int max_two min_two max_three min_three max_four min_four   -- for this text's walks alone
set_option linter.unusedVariables false
set_option linter.unusedSimpArgs false



set_option linter.unusedSimpArgs false

attribute [local go_sem high] eqA82
set_option linter.unusedVariables false
set_option linter.unusedSimpArgs false
set_option maxRecDepth 100000
noncomputable section
structure S48 where
  f0 : List S24
  f1 : List S131
def z48 : S48 := ⟨[], []⟩
def k48 : Kd S48 := Kd.iso (Kd.pair (Kd.slice 24 k24) (Kd.slice 131 k131)) (fun x : S48 => (x.f0, x.f1))
structure S53 where
  f0 : List S29
  f1 : List S100
def z53 : S53 := ⟨[], []⟩
def k53 : Kd S53 := Kd.iso (Kd.pair (Kd.slice 29 k29) (Kd.slice 100 k100)) (fun x : S53 => (x.f0, x.f1))
inductive SC where
  | s24
  | s29
  | s48
  | s53
  | s82
  | s85
  | s98
  | s100
  | s118
  | s129
  | s131
def scb : SC → SC → Bool
  | .s24, .s24 => true
  | .s29, .s29 => true
  | .s48, .s48 => true
  | .s53, .s53 => true
  | .s82, .s82 => true
  | .s85, .s85 => true
  | .s98, .s98 => true
  | .s100, .s100 => true
  | .s118, .s118 => true
  | .s129, .s129 => true
  | .s131, .s131 => true
  | _, _ => false
theorem scbe : ∀ a b, scb a b = true → a = b := by intro a b; cases a <;> cases b <;> first | (intro _; rfl) | (intro h; cases h)
noncomputable def eΓ : SC → Type
  | .s24 => S24
  | .s29 => S29
  | .s48 => S48
  | .s53 => S53
  | .s82 => S82
  | .s85 => S85
  | .s98 => S98
  | .s100 => S100
  | .s118 => S118
  | .s129 => S129
  | .s131 => S131
def eFs : SC → List (Ty SC)
  | .s24 => [.i .i64, .i .i64, .i .i64, .s, .l 118 (.st .s118)]
  | .s29 => [.i .i64, .i .i64, .i .i64, .s, .l 82 (.st .s82)]
  | .s48 => [.l 24 (.st .s24), .l 131 (.st .s131)]
  | .s53 => [.l 29 (.st .s29), .l 100 (.st .s100)]
  | .s82 => [.i .i64, .i .i64]
  | .s85 => [.i .i64, .i .i64, .i .i64, .i .i64]
  | .s98 => [.i .i64, .i .i64, .i .i64, .i .i64]
  | .s100 => [.i .i64, .s, .i .i64, .i .i64, .i .i64, .i .i64]
  | .s118 => [.i .i64, .i .i64]
  | .s129 => [.i .i64, .i .i64, .i .i64, .i .i64]
  | .s131 => [.i .i64, .s, .i .i64, .i .i64, .i .i64, .i .i64]
noncomputable def eOpn : (n : SC) → eΓ n → HL eΓ (eFs n)
  | .s24 => fun (x : S24) => (x.f0, x.f1, x.f2, x.f3, x.f4, ())
  | .s29 => fun (x : S29) => (x.f0, x.f1, x.f2, x.f3, x.f4, ())
  | .s48 => fun (x : S48) => (x.f0, x.f1, ())
  | .s53 => fun (x : S53) => (x.f0, x.f1, ())
  | .s82 => fun (x : S82) => (x.f0, x.f1, ())
  | .s85 => fun (x : S85) => (x.f0.f0, x.f0.f1, x.f1.f0, x.f1.f1, ())
  | .s98 => fun (x : S98) => (x.f0.f0, x.f0.f1, x.f1.f0, x.f1.f1, ())
  | .s100 => fun (x : S100) => (x.f0, x.f1, x.f2.f0.f0, x.f2.f0.f1, x.f2.f1.f0, x.f2.f1.f1, ())
  | .s118 => fun (x : S118) => (x.f0, x.f1, ())
  | .s129 => fun (x : S129) => (x.f0.f0, x.f0.f1, x.f1.f0, x.f1.f1, ())
  | .s131 => fun (x : S131) => (x.f0, x.f1, x.f2.f0.f0, x.f2.f0.f1, x.f2.f1.f0, x.f2.f1.f1, ())
noncomputable def eSht : (n : SC) → HL eΓ (eFs n) → eΓ n
  | .s24 => fun h => (⟨h.1, h.2.1, h.2.2.1, h.2.2.2.1, h.2.2.2.2.1⟩ : S24)
  | .s29 => fun h => (⟨h.1, h.2.1, h.2.2.1, h.2.2.2.1, h.2.2.2.2.1⟩ : S29)
  | .s48 => fun h => (⟨h.1, h.2.1⟩ : S48)
  | .s53 => fun h => (⟨h.1, h.2.1⟩ : S53)
  | .s82 => fun h => (⟨h.1, h.2.1⟩ : S82)
  | .s85 => fun h => (⟨⟨h.1, h.2.1⟩, ⟨h.2.2.1, h.2.2.2.1⟩⟩ : S85)
  | .s98 => fun h => (⟨⟨h.1, h.2.1⟩, ⟨h.2.2.1, h.2.2.2.1⟩⟩ : S98)
  | .s100 => fun h => (⟨h.1, h.2.1, ⟨⟨h.2.2.1, h.2.2.2.1⟩, ⟨h.2.2.2.2.1, h.2.2.2.2.2.1⟩⟩⟩ : S100)
  | .s118 => fun h => (⟨h.1, h.2.1⟩ : S118)
  | .s129 => fun h => (⟨⟨h.1, h.2.1⟩, ⟨h.2.2.1, h.2.2.2.1⟩⟩ : S129)
  | .s131 => fun h => (⟨h.1, h.2.1, ⟨⟨h.2.2.1, h.2.2.2.1⟩, ⟨h.2.2.2.2.1, h.2.2.2.2.2.1⟩⟩⟩ : S131)
noncomputable def eZ : (n : SC) → eΓ n
  | .s24 => z24
  | .s29 => z29
  | .s48 => z48
  | .s53 => z53
  | .s82 => z82
  | .s85 => z85
  | .s98 => z98
  | .s100 => z100
  | .s118 => z118
  | .s129 => z129
  | .s131 => z131
noncomputable def eK : (n : SC) → Kd (eΓ n)
  | .s24 => k24
  | .s29 => k29
  | .s48 => k48
  | .s53 => k53
  | .s82 => k82
  | .s85 => k85
  | .s98 => k98
  | .s100 => k100
  | .s118 => k118
  | .s129 => k129
  | .s131 => k131
def tSh : List (Nat × (Bool × Nat)) := [(2, (false, 1)), (3, (false, 1)), (4, (false, 1)), (5, (false, 1)), (6, (false, 1)), (9, (false, 1)), (10, (false, 1)), (11, (false, 1)), (12, (false, 1)), (21, (false, 1)), (22, (false, 1)), (24, (true, 5)), (27, (false, 1)), (29, (true, 5)), (35, (false, 1)), (39, (false, 1)), (46, (false, 1)), (48, (true, 2)), (51, (false, 1)), (53, (true, 2)), (57, (false, 1)), (78, (false, 1)), (82, (true, 2)), (85, (true, 4)), (98, (true, 4)), (100, (true, 6)), (118, (true, 2)), (126, (false, 1)), (129, (true, 4)), (131, (true, 6)), (150, (false, 1)), (158, (false, 1)), (159, (false, 1)), (160, (false, 1)), (163, (false, 1)), (164, (false, 1))]
def tZc : List (Nat × List Value) := [(2, [.int .i64 0]), (3, [.int .i64 0]), (4, [.bool false]), (5, [.int .u8 0]), (6, [.int .u8 0]), (9, [.string ⟨#[]⟩]), (10, [.string ⟨#[]⟩]), (11, [.string ⟨#[]⟩]), (12, [.int .u64 0]), (21, [.int .i32 0]), (22, [.slice none 0 0]), (24, [.int .i64 0, .int .i64 0, .int .i64 0, .string ⟨#[]⟩, .slice none 0 0]), (27, [.slice none 0 0]), (29, [.int .i64 0, .int .i64 0, .int .i64 0, .string ⟨#[]⟩, .slice none 0 0]), (35, [.slice none 0 0]), (39, [.slice none 0 0]), (46, [.slice none 0 0]), (48, [.slice none 0 0, .slice none 0 0]), (51, [.slice none 0 0]), (53, [.slice none 0 0, .slice none 0 0]), (57, [.slice none 0 0]), (78, [.slice none 0 0]), (82, [.int .i64 0, .int .i64 0]), (85, [.int .i64 0, .int .i64 0, .int .i64 0, .int .i64 0]), (98, [.int .i64 0, .int .i64 0, .int .i64 0, .int .i64 0]), (100, [.int .i64 0, .string ⟨#[]⟩, .int .i64 0, .int .i64 0, .int .i64 0, .int .i64 0]), (118, [.int .i64 0, .int .i64 0]), (126, [.slice none 0 0]), (129, [.int .i64 0, .int .i64 0, .int .i64 0, .int .i64 0]), (131, [.int .i64 0, .string ⟨#[]⟩, .int .i64 0, .int .i64 0, .int .i64 0, .int .i64 0]), (150, [.slice none 0 0]), (158, [.int .u32 0]), (159, [.int .u8 0]), (160, [.int .u8 0]), (163, [.int .i32 0]), (164, [.int .i32 0])]
def tFld : List (Nat × List (Nat × Nat × Bool)) := [(24, [(0, 1, false), (1, 1, false), (2, 1, false), (3, 1, false), (4, 1, false)]), (29, [(0, 1, false), (1, 1, false), (2, 1, false), (3, 1, false), (4, 1, false)]), (48, [(0, 1, false), (1, 1, false)]), (53, [(0, 1, false), (1, 1, false)]), (82, [(0, 1, false), (1, 1, false)]), (85, [(0, 2, true), (2, 2, true)]), (98, [(0, 2, true), (2, 2, true)]), (100, [(0, 1, false), (1, 1, false), (2, 4, true)]), (118, [(0, 1, false), (1, 1, false)]), (129, [(0, 2, true), (2, 2, true)]), (131, [(0, 1, false), (1, 1, false), (2, 4, true)])]
def tSl : List (Nat × (Nat × Ty SC × Nat × Nat × List Value)) := [(22, (118, .st .s118, 2, 16, [.int .i64 0, .int .i64 0])), (27, (82, .st .s82, 2, 16, [.int .i64 0, .int .i64 0])), (35, (24, .st .s24, 5, 64, [.int .i64 0, .int .i64 0, .int .i64 0, .string ⟨#[]⟩, .slice none 0 0])), (39, (29, .st .s29, 5, 64, [.int .i64 0, .int .i64 0, .int .i64 0, .string ⟨#[]⟩, .slice none 0 0])), (46, (131, .st .s131, 6, 56, [.int .i64 0, .string ⟨#[]⟩, .int .i64 0, .int .i64 0, .int .i64 0, .int .i64 0])), (51, (100, .st .s100, 6, 56, [.int .i64 0, .string ⟨#[]⟩, .int .i64 0, .int .i64 0, .int .i64 0, .int .i64 0])), (57, (3, .i .i64, 1, 8, [.int .i64 0])), (78, (85, .st .s85, 4, 32, [.int .i64 0, .int .i64 0, .int .i64 0, .int .i64 0])), (126, (5, .i .u8, 1, 1, [.int .u8 0])), (150, (27, .l 82 (.st .s82), 1, 24, [.slice none 0 0]))]
def tIk : List (Nat × IntKind) := [(2, .i64), (3, .i64), (5, .u8), (6, .u8), (12, .u64), (21, .i32), (158, .u32), (159, .u8), (160, .u8), (163, .i32), (164, .i32)]
def tStr : List Nat := [9, 10, 11]
def tEq : List (Nat × Nat) := [(82, 2), (118, 2)]
noncomputable def env : Env where
  P := Try.prog
  C := SC
  cb := scb
  cbe := scbe
  Γ := eΓ
  fs := eFs
  opn := eOpn
  sht := eSht
  z := eZ
  kst := eK
  sh := lk tSh
  zc := lk tZc
  sl := lk tSl
  ik := lk tIk
  fld := fun t i => (lkF tFld t i).map (·.1)
  pl := fun t => (lk tFld t).map fun l => l.map fun x => (x.1, x.2.1)
  str := fun t => tStr.any (Nat.beq t)
  eqt := fun t n => tEq.any fun p => Nat.beq p.1 t && Nat.beq p.2 n
theorem H24 : KH env k24 (eFs .s24) (eOpn .s24) := KH.iso (KH.pair (KH.one (E := env) (t := (.i .i64)) rfl) (KH.pair (KH.one (E := env) (t := (.i .i64)) rfl) (KH.pair (KH.one (E := env) (t := (.i .i64)) rfl) (KH.pair (KH.one (E := env) (t := .s) rfl) (KH.one (E := env) (t := (.l 118 (.st .s118))) rfl))))) _
theorem H29 : KH env k29 (eFs .s29) (eOpn .s29) := KH.iso (KH.pair (KH.one (E := env) (t := (.i .i64)) rfl) (KH.pair (KH.one (E := env) (t := (.i .i64)) rfl) (KH.pair (KH.one (E := env) (t := (.i .i64)) rfl) (KH.pair (KH.one (E := env) (t := .s) rfl) (KH.one (E := env) (t := (.l 82 (.st .s82))) rfl))))) _
theorem H48 : KH env k48 (eFs .s48) (eOpn .s48) := KH.iso (KH.pair (KH.one (E := env) (t := (.l 24 (.st .s24))) rfl) (KH.one (E := env) (t := (.l 131 (.st .s131))) rfl)) _
theorem H53 : KH env k53 (eFs .s53) (eOpn .s53) := KH.iso (KH.pair (KH.one (E := env) (t := (.l 29 (.st .s29))) rfl) (KH.one (E := env) (t := (.l 100 (.st .s100))) rfl)) _
theorem H82 : KH env k82 (eFs .s82) (eOpn .s82) := KH.iso (KH.pair (KH.one (E := env) (t := (.i .i64)) rfl) (KH.one (E := env) (t := (.i .i64)) rfl)) _
theorem H85 : KH env k85 (eFs .s85) (eOpn .s85) := KH.iso (KH.pair (H82) (H82)) _
theorem H98 : KH env k98 (eFs .s98) (eOpn .s98) := KH.iso (KH.pair (H82) (H82)) _
theorem H100 : KH env k100 (eFs .s100) (eOpn .s100) := KH.iso (KH.pair (KH.one (E := env) (t := (.i .i64)) rfl) (KH.pair (KH.one (E := env) (t := .s) rfl) (H98))) _
theorem H118 : KH env k118 (eFs .s118) (eOpn .s118) := KH.iso (KH.pair (KH.one (E := env) (t := (.i .i64)) rfl) (KH.one (E := env) (t := (.i .i64)) rfl)) _
theorem H129 : KH env k129 (eFs .s129) (eOpn .s129) := KH.iso (KH.pair (H118) (H118)) _
theorem H131 : KH env k131 (eFs .s131) (eOpn .s131) := KH.iso (KH.pair (KH.one (E := env) (t := (.i .i64)) rfl) (KH.pair (KH.one (E := env) (t := .s) rfl) (H129))) _
theorem env_ok : env.Ok := Env.ok_of (E := env) (tSh := tSh) (tZc := tZc) (tFld := tFld) (tSl := tSl) (tIk := tIk) (tStr := tStr) (tEq := tEq) (by kernel_rfl) (by intro n; cases n <;> rfl) (fun n => match n with | .s24 => H24 | .s29 => H29 | .s48 => H48 | .s53 => H53 | .s82 => H82 | .s85 => H85 | .s98 => H98 | .s100 => H100 | .s118 => H118 | .s129 => H129 | .s131 => H131) (by intro n h; cases n <;> rfl) (by intro n x; cases n <;> rfl) (by intro n; cases n <;> rfl) rfl (by kernel_rfl) rfl (by kernel_rfl) (by kernel_rfl) rfl (by kernel_rfl) (by kernel_rfl) (by kernel_rfl) (by kernel_rfl) (by kernel_rfl) rfl rfl (by kernel_rfl) (by kernel_rfl) rfl (by kernel_rfl) rfl (by kernel_rfl) rfl (by kernel_rfl)
set_option maxRecDepth 100000
noncomputable def bodyOf (f : Func) : Code := match f.body with | some c => c | none => .skip
noncomputable def sub_ : List Nat → Code → Code
  | [], c => c
  | i :: r, c => match c with
    | .seq a b => sub_ r (match i with | 0 => a | _ => b)
    | .cond _ a b => sub_ r (match i with | 0 => a | _ => b)
    | .block _ a => sub_ r a
    | .loop a => sub_ r a
    | c => c
theorem sndN : ∀ s ∈ ([] : List (Spc env)), Snd env s := fun _ h => nomatch h
theorem sndC {s : Spc env} {l : List (Spc env)} (h : Snd env s) (hl : ∀ s ∈ l, Snd env s) : ∀ x ∈ s :: l, Snd env x := fun x hx => by rcases List.mem_cons.1 hx with rfl | hx; exact h; exact hl x hx
theorem ite_by {α : Type} {c : Prop} {d : Decidable c} {a b r : α} {p : Prop} (h : @ite α c d a b = r) (x : c → a = r → p) (y : ¬ c → b = r → p) : p := by by_cases q : c; exact x q (by rw [← h, if_pos q]); exact y q (by rw [← h, if_neg q])
theorem bind_by {α β : Type} {x : Option α} {f : α → Option β} {r : β} {p : Prop} (h : x.bind f = some r) (k : ∀ t, x = some t → f t = some r → p) : p := by obtain ⟨t, h1, h2⟩ := Option.bind_eq_some_iff.1 h; exact k t h1 h2
theorem evF_snd {E : Env} (hE : E.Ok) {F : List (Spc E)} (hF : ∀ s ∈ F, Snd E s) {id : FuncId} {fn : Func} (hf : E.P.funcs[id]? = some fn) (h1 : (fn.name == "runtime.NumGoroutine") = false) (h2 : fn.body.isNone = false) {cut : Nat → Option (List (Lv E.C))} {pts rts : List (Ty E.C)} : Snd E ⟨id, pts, rts, fun k h => evF E F fn cut pts rts k h⟩ := ⟨⟨fn, hf, h1, h2⟩, fun k h r he w us hA => evF_calls hE hF hf he w us hA⟩
theorem itT {α : Type} {c : Prop} {d : Decidable c} {a b r : α} (h : a = r) (hc : c) : @ite α c d a b = r := (if_pos hc).trans h
theorem itF {α : Type} {c : Prop} {d : Decidable c} {a b r : α} (h : b = r) (hc : ¬ c) : @ite α c d a b = r := (if_neg hc).trans h
theorem beqI (a b : Int) : (a == b) = decide (a = b) := by by_cases h : a = b <;> simp [h]
theorem rmsC {E : Env} {w : World} {b : Nat} {t : Ty E.C} {ts : List (Ty E.C)} {h : HL E.Γ (t :: ts)} {vs : List Value} {oks : List (Nat → Prop)} (hR : RMs E w b (t :: ts) h vs oks) : ∃ u us ok os, vs = u :: us ∧ oks = ok :: os ∧ AK E (fun t x cs => (kd E t).M w b ok x cs) t h.1 u ∧ RMs E w b ts h.2 us os := by
  match vs, oks, hR with
  | u :: us, ok :: os, h => exact ⟨u, us, ok, os, rfl, rfl, h.1, h.2⟩
theorem rmsN {E : Env} {w : World} {b : Nat} {h : HL E.Γ ([] : List (Ty E.C))} {vs : List Value} {oks : List (Nat → Prop)} (hR : RMs E w b [] h vs oks) : vs = [] := by
  match vs, oks, hR with
  | [], _, _ => rfl
theorem some_inj {α : Type} {a b : α} (h : some a = some b) : a = b := Option.some.inj h
theorem nos {α : Type} {r : α} {p : Prop} (h : none = some r) : p := nomatch h
theorem leo_le {α : Type} {f : Nat → Option α} (h : ∀ k, LeO (f k) (f (k + 1))) {k K : Nat} (hk : k ≤ K) {r : α} (hr : f k = some r) : f K = some r := by
  induction hk with
  | refl => exact hr
  | step _ ih => exact h _ _ ih
theorem nln : (∀ {α : Type} (a b : List α), (a ++ b).length = a.length + b.length) ∧ (∀ {α : Type} (a : α) (l : List α), (a :: l).length = l.length + 1) ∧ (∀ {α : Type}, ([] : List α).length = 0) := ⟨fun a b => List.length_append, fun a l => rfl, rfl⟩
theorem nrm : (∀ (p : Prop) [Decidable p], (decide p = true) = p) ∧ (∀ a b : Bool, ((a && b) = true) = (a = true ∧ b = true)) ∧ (∀ {α : Type} [BEq α] [LawfulBEq α] (a b : α), (a == b) = true ↔ a = b) ∧ (∀ a : Bool, ((!a) = true) = (a = false)) ∧ (∀ b : Bool, (¬ b = true) = (b = false)) ∧ (∀ b : Bool, (¬ b = false) = (b = true)) ∧ (∀ (p : Prop) [Decidable p], (decide p = false) = ¬ p) ∧ (∀ a b : Bool, ((a || b) = true) = (a = true ∨ b = true)) ∧ ((false = true) = False) ∧ ((true = false) = False) ∧ ((¬ True) = False) ∧ ((¬ False) = True) ∧ (∀ p : Prop, (¬ ¬ p) = p) ∧ (∀ p : Prop, (p ∧ True) = p) :=
  ⟨fun p _ => decide_eq_true_eq, fun a b => Bool.and_eq_true a b, fun a b => beq_iff_eq, by simp, by simp, by simp, fun p _ => by simp, fun a b => Bool.or_eq_true a b, by simp, by simp, by simp, by simp, fun p => by simp [Classical.not_not], by simp⟩
def laws_szPointS.Fs : List (Spc env) := []
def laws_szPointS.cut : Nat → Option (List (Lv SC)) := lk []
def laws_szPointS.ret (r0 : Int) : Option (HL eΓ [.i .i64]) := some (r0, ())
def laws_szPointS.run (k : Nat) (h : HL eΓ [.l 118 (.st .s118), .i .i64]) : Option (HL eΓ [.i .i64]) := evF env laws_szPointS.Fs Try.f61 laws_szPointS.cut [.l 118 (.st .s118), .i .i64] [.i .i64] k h
theorem laws_szPointS.ef (k : Nat) (h0 : List S118) (h1 : Int) : laws_szPointS.run k (h0, h1, ()) = if (wrap64 (h1 - (h0.length : Int))) < 0 then (laws_szPointS.ret (-1)) else (laws_szPointS.ret (wrap64 (h1 - (h0.length : Int)))) := by kernel_rfl
def laws_szPointS.toH (t : Int) : HL eΓ [.i .i64] := (t, ())
def laws_szPointS.spec : Spc env := ⟨61, [.l 118 (.st .s118), .i .i64], [.i .i64], laws_szPointS.run⟩
def laws_szPointS.ap {R : Type} (k : Nat) (h0 : List S118) (h1 : Int) (K : Int → Option R) : Option R := (laws_szPointS.run k (h0, h1, ())).bind fun r => K (r.1 : Int)
theorem laws_szPointS.ap_of {R : Type} {k : Nat} {h0 : List S118} {h1 : Int} {r0 : Int} {K : Int → Option R} (h : laws_szPointS.run k (h0, h1, ()) = some (r0, ())) : laws_szPointS.ap k h0 h1 K = K r0 := by unfold laws_szPointS.ap; rw [h]; rfl
theorem laws_szPointS.snd : Snd env laws_szPointS.spec := evF_snd env_ok (sndN) (by kernel_rfl) (by kernel_rfl) (by kernel_rfl)
attribute [local irreducible] laws_szPointS.run
theorem laws_szPointS.rt (a0 : Int) : laws_szPointS.ret a0 = some (laws_szPointS.toH (a0)) := rfl
theorem laws_szPointS.go {l0 : List S118} {a1 : Int} {t} (h : laws_szPointS.f l0 a1 = some t) (K : Nat) : laws_szPointS.run K (l0, a1, ()) = some (laws_szPointS.toH t) := by
  rw [laws_szPointS.ef]
  (try dsimp only)
  unfold laws_szPointS.f at h
  repeat' (with_reducible first
   | exact nos h
   | (cases some_inj h; exact laws_szPointS.rt _)
   | (simp only [Option.bind_some] at h)
   | (refine ite_by h (fun hc h => ?_) (fun hc h => ?_) <;> (try simp only [nrm] at hc))
   | refine itT ?_ (by first | assumption | omega | (simp only [nrm]; first | done | assumption | omega) | (simp only [nln] at hc ⊢; omega))
   | refine itF ?_ (by first | assumption | omega | (simp only [nrm]; first | done | assumption | omega) | (simp only [nln] at hc ⊢; omega))
   | (simp only [decide_not, Bool.decide_and, decide_true, Bool.and_true, Bool.not_and, beqI, Int.toNat_natCast, List.take_length] at h ⊢)
   | (exfalso; omega))
def laws_szFeature.Fs : List (Spc env) := [laws_szPointS.spec]
def laws_szFeature.cut : Nat → Option (List (Lv SC)) := lk []
def laws_szFeature.ret (r0 : Int) : Option (HL eΓ [.i .i64]) := some (r0, ())
def laws_szFeature.run (k : Nat) (h : HL eΓ [.st .s24, .i .i64]) : Option (HL eΓ [.i .i64]) := evF env laws_szFeature.Fs Try.f15 laws_szFeature.cut [.st .s24, .i .i64] [.i .i64] k h
theorem laws_szFeature.ef (k : Nat) (h0 : S24) (h1 : Int) : laws_szFeature.run k (h0, h1, ()) = if (wrap64 (h1 - (h0.f3.size : Int))) < 0 then (laws_szFeature.ret (-1)) else (laws_szPointS.ap k h0.f4 (wrap64 (h1 - (h0.f3.size : Int))) fun r1 => if r1 < 0 then (laws_szFeature.ret (-1)) else (laws_szFeature.ret r1)) := by kernel_rfl
def laws_szFeature.toH (t : Int) : HL eΓ [.i .i64] := (t, ())
def laws_szFeature.spec : Spc env := ⟨15, [.st .s24, .i .i64], [.i .i64], laws_szFeature.run⟩
def laws_szFeature.ap {R : Type} (k : Nat) (h0 : S24) (h1 : Int) (K : Int → Option R) : Option R := (laws_szFeature.run k (h0, h1, ())).bind fun r => K (r.1 : Int)
theorem laws_szFeature.ap_of {R : Type} {k : Nat} {h0 : S24} {h1 : Int} {r0 : Int} {K : Int → Option R} (h : laws_szFeature.run k (h0, h1, ()) = some (r0, ())) : laws_szFeature.ap k h0 h1 K = K r0 := by unfold laws_szFeature.ap; rw [h]; rfl
theorem laws_szFeature.snd : Snd env laws_szFeature.spec := evF_snd env_ok (sndC laws_szPointS.snd (sndN)) (by kernel_rfl) (by kernel_rfl) (by kernel_rfl)
attribute [local irreducible] laws_szFeature.run
theorem laws_szFeature.rt (a0 : Int) : laws_szFeature.ret a0 = some (laws_szFeature.toH (a0)) := rfl
theorem laws_szFeature.go {a0_0 : Int} {a0_1 : Int} {a0_2 : Int} {a0_3 : ByteArray} {l0_4 : List S118} {a1 : Int} {t} (h : laws_szFeature.f a0_0 a0_1 a0_2 a0_3 l0_4 a1 = some t) (K : Nat) : laws_szFeature.run K ((⟨a0_0, a0_1, a0_2, a0_3, l0_4⟩ : S24), a1, ()) = some (laws_szFeature.toH t) := by
  rw [laws_szFeature.ef]
  (try dsimp only)
  unfold laws_szFeature.f at h
  repeat' (with_reducible first
   | exact nos h
   | (cases some_inj h; exact laws_szFeature.rt _)
   | (simp only [Option.bind_some] at h)
   | (refine ite_by h (fun hc h => ?_) (fun hc h => ?_) <;> (try simp only [nrm] at hc))
   | refine itT ?_ (by first | assumption | omega | (simp only [nrm]; first | done | assumption | omega) | (simp only [nln] at hc ⊢; omega))
   | refine itF ?_ (by first | assumption | omega | (simp only [nrm]; first | done | assumption | omega) | (simp only [nln] at hc ⊢; omega))
   | (refine bind_by h (fun t ht h => ?_); refine (laws_szPointS.ap_of (laws_szPointS.go ht _)).trans ?_; (try dsimp only at h ⊢))
   | (simp only [decide_not, Bool.decide_and, decide_true, Bool.and_true, Bool.not_and, beqI, Int.toNat_natCast, List.take_length] at h ⊢)
   | (exfalso; omega))
def laws_szFeatureS.Fs : List (Spc env) := [laws_szFeature.spec]
def laws_szFeatureS.fin : St eΓ → Option (HL eΓ [.i .i64]) := finR env Try.f26.results.toList [.i .i64]
def laws_szFeatureS.cut : Nat → Option (List (Lv SC)) := lk [(5, [⟨0, none, false⟩, ⟨1, none, false⟩, ⟨5, none, false⟩])]
def laws_szFeatureS.ret (r0 : Int) : Option (HL eΓ [.i .i64]) := some (r0, ())
def laws_szFeatureS.p5 (k : Nat) (x1 : Int) (x5 : Int) (x0 : List S24) : Option (HL eΓ [.i .i64]) := evM env laws_szFeatureS.Fs Try.f26.ntmps laws_szFeatureS.fin laws_szFeatureS.cut k [.code (sub_ [1, 1, 1, 0, 1, 0, 0, 0, 0] (bodyOf Try.f26)), .code (sub_ [1, 1, 1, 0, 1, 0, 0, 0, 1] (bodyOf Try.f26)), .code (sub_ [1, 1, 1, 0, 1, 0, 0, 1] (bodyOf Try.f26)), .lp (sub_ [1, 1, 1, 0, 1, 0, 0] (bodyOf Try.f26)), .blk 0, .code (sub_ [1, 1, 1, 1] (bodyOf Try.f26))] (mkSt [(0, .c (.sl 0)), (1, .c (.v (.int .i64 x1))), (5, .c (.v (.int .i64 x5)))] [.row .ro 24 (.st .s24) x0])
theorem laws_szFeatureS.e5 (k : Nat) (x1 : Int) (x5 : Int) (x0 : List S24) : laws_szFeatureS.p5 (k + 1) x1 x5 x0 = if x5 < (x0.length : Int) then (if 0 ≤ x5 then (if x5 < (x0.length : Int) then (laws_szFeature.ap k (⟨(rd_T24 x0 x5).f0, (rd_T24 x0 x5).f1, (rd_T24 x0 x5).f2, (rd_T24 x0 x5).f3, (rd_T24 x0 x5).f4⟩ : S24) x1 fun r1 => if r1 < 0 then (laws_szFeatureS.ret (-1)) else (laws_szFeatureS.p5 k r1 (wrap64 (x5 + 1)) x0)) else none) else none) else (laws_szFeatureS.ret x1) := by kernel_rfl
def laws_szFeatureS.run (k : Nat) (h : HL eΓ [.l 24 (.st .s24), .i .i64]) : Option (HL eΓ [.i .i64]) := evF env laws_szFeatureS.Fs Try.f26 laws_szFeatureS.cut [.l 24 (.st .s24), .i .i64] [.i .i64] k h
theorem laws_szFeatureS.ef (k : Nat) (h0 : List S24) (h1 : Int) : laws_szFeatureS.run k (h0, h1, ()) = if (wrap64 (h1 - (h0.length : Int))) < 0 then (laws_szFeatureS.ret (-1)) else (laws_szFeatureS.p5 k (wrap64 (h1 - (h0.length : Int))) 0 h0) := by kernel_rfl
def laws_szFeatureS.toH (t : Int) : HL eΓ [.i .i64] := (t, ())
def laws_szFeatureS.spec : Spc env := ⟨26, [.l 24 (.st .s24), .i .i64], [.i .i64], laws_szFeatureS.run⟩
def laws_szFeatureS.ap {R : Type} (k : Nat) (h0 : List S24) (h1 : Int) (K : Int → Option R) : Option R := (laws_szFeatureS.run k (h0, h1, ())).bind fun r => K (r.1 : Int)
theorem laws_szFeatureS.ap_of {R : Type} {k : Nat} {h0 : List S24} {h1 : Int} {r0 : Int} {K : Int → Option R} (h : laws_szFeatureS.run k (h0, h1, ()) = some (r0, ())) : laws_szFeatureS.ap k h0 h1 K = K r0 := by unfold laws_szFeatureS.ap; rw [h]; rfl
theorem laws_szFeatureS.snd : Snd env laws_szFeatureS.spec := evF_snd env_ok (sndC laws_szFeature.snd (sndN)) (by kernel_rfl) (by kernel_rfl) (by kernel_rfl)
attribute [local irreducible] laws_szFeatureS.run
theorem laws_szFeatureS.rt (a0 : Int) : laws_szFeatureS.ret a0 = some (laws_szFeatureS.toH (a0)) := rfl
theorem laws_szFeatureS.br (n : Nat) : (∀ K, n ≤ K → ∀ (x1 : Int) (x5 : Int) (x0 : List S24) t, laws_szFeatureS.l0 n x0 x1 x5 = some t → laws_szFeatureS.p5 K x1 x5 x0 = some (laws_szFeatureS.toH t)) := by
  induction n using Nat.strongRecOn with
  | _ n ih =>
  intro K hK x1 x5 x0 t h
  all_goals (rcases n with _ | k)
  all_goals (try (exact nos h))
  all_goals (obtain ⟨K, rfl⟩ : ∃ q, K = q + 1 := ⟨K - 1, by omega⟩)
  all_goals (first | rw [laws_szFeatureS.e5])
  all_goals (simp only [laws_szFeatureS.l0] at h)
  repeat' (with_reducible first
   | exact nos h
   | (cases some_inj h; exact laws_szFeatureS.rt _)
   | exact (ih _ (by omega)) _ (by omega) _ _ _ _ h
   | (simp only [Option.bind_some] at h)
   | (refine ite_by h (fun hc h => ?_) (fun hc h => ?_) <;> (try simp only [nrm] at hc))
   | refine itT ?_ (by first | assumption | omega | (simp only [nrm]; first | done | assumption | omega) | (simp only [nln] at hc ⊢; omega))
   | refine itF ?_ (by first | assumption | omega | (simp only [nrm]; first | done | assumption | omega) | (simp only [nln] at hc ⊢; omega))
   | (refine bind_by h (fun t ht h => ?_); refine (laws_szFeature.ap_of (laws_szFeature.go ht _)).trans ?_; (try dsimp only at h ⊢))
   | (simp only [decide_not, Bool.decide_and, decide_true, Bool.and_true, Bool.not_and, beqI, Int.toNat_natCast, List.take_length] at h ⊢)
   | (exfalso; omega))
theorem laws_szFeatureS.go {k : Nat} {l0 : List S24} {a1 : Int} {t} (h : laws_szFeatureS.f k l0 a1 = some t) (K : Nat) (hK : k ≤ K) : laws_szFeatureS.run K (l0, a1, ()) = some (laws_szFeatureS.toH t) := by
  rw [laws_szFeatureS.ef]
  (try dsimp only)
  unfold laws_szFeatureS.f at h
  repeat' (with_reducible first
   | exact nos h
   | (cases some_inj h; exact laws_szFeatureS.rt _)
   | exact (laws_szFeatureS.br _) _ (by omega) _ _ _ _ h
   | (simp only [Option.bind_some] at h)
   | (refine ite_by h (fun hc h => ?_) (fun hc h => ?_) <;> (try simp only [nrm] at hc))
   | refine itT ?_ (by first | assumption | omega | (simp only [nrm]; first | done | assumption | omega) | (simp only [nln] at hc ⊢; omega))
   | refine itF ?_ (by first | assumption | omega | (simp only [nrm]; first | done | assumption | omega) | (simp only [nln] at hc ⊢; omega))
   | (refine bind_by h (fun t ht h => ?_); refine (laws_szFeature.ap_of (laws_szFeature.go ht _)).trans ?_; (try dsimp only at h ⊢))
   | (simp only [decide_not, Bool.decide_and, decide_true, Bool.and_true, Bool.not_and, beqI, Int.toNat_natCast, List.take_length] at h ⊢)
   | (exfalso; omega))
def laws_szLabel.Fs : List (Spc env) := []
def laws_szLabel.cut : Nat → Option (List (Lv SC)) := lk []
def laws_szLabel.ret (r0 : Int) : Option (HL eΓ [.i .i64]) := some (r0, ())
def laws_szLabel.run (k : Nat) (h : HL eΓ [.st .s131, .i .i64]) : Option (HL eΓ [.i .i64]) := evF env laws_szLabel.Fs Try.f133 laws_szLabel.cut [.st .s131, .i .i64] [.i .i64] k h
theorem laws_szLabel.ef (k : Nat) (h0 : S131) (h1 : Int) : laws_szLabel.run k (h0, h1, ()) = if (wrap64 (h1 - (h0.f1.size : Int))) < 0 then (laws_szLabel.ret (-1)) else (laws_szLabel.ret (wrap64 (h1 - (h0.f1.size : Int)))) := by kernel_rfl
def laws_szLabel.toH (t : Int) : HL eΓ [.i .i64] := (t, ())
def laws_szLabel.spec : Spc env := ⟨133, [.st .s131, .i .i64], [.i .i64], laws_szLabel.run⟩
def laws_szLabel.ap {R : Type} (k : Nat) (h0 : S131) (h1 : Int) (K : Int → Option R) : Option R := (laws_szLabel.run k (h0, h1, ())).bind fun r => K (r.1 : Int)
theorem laws_szLabel.ap_of {R : Type} {k : Nat} {h0 : S131} {h1 : Int} {r0 : Int} {K : Int → Option R} (h : laws_szLabel.run k (h0, h1, ()) = some (r0, ())) : laws_szLabel.ap k h0 h1 K = K r0 := by unfold laws_szLabel.ap; rw [h]; rfl
theorem laws_szLabel.snd : Snd env laws_szLabel.spec := evF_snd env_ok (sndN) (by kernel_rfl) (by kernel_rfl) (by kernel_rfl)
attribute [local irreducible] laws_szLabel.run
theorem laws_szLabel.rt (a0 : Int) : laws_szLabel.ret a0 = some (laws_szLabel.toH (a0)) := rfl
theorem laws_szLabel.go {a0_0 : Int} {a0_1 : ByteArray} {a0_2 : Int} {a0_3 : Int} {a0_4 : Int} {a0_5 : Int} {a1 : Int} {t} (h : laws_szLabel.f a0_0 a0_1 a0_2 a0_3 a0_4 a0_5 a1 = some t) (K : Nat) : laws_szLabel.run K ((⟨a0_0, a0_1, (⟨(⟨a0_2, a0_3⟩ : S118), (⟨a0_4, a0_5⟩ : S118)⟩ : S129)⟩ : S131), a1, ()) = some (laws_szLabel.toH t) := by
  rw [laws_szLabel.ef]
  (try dsimp only)
  unfold laws_szLabel.f at h
  repeat' (with_reducible first
   | exact nos h
   | (cases some_inj h; exact laws_szLabel.rt _)
   | (simp only [Option.bind_some] at h)
   | (refine ite_by h (fun hc h => ?_) (fun hc h => ?_) <;> (try simp only [nrm] at hc))
   | refine itT ?_ (by first | assumption | omega | (simp only [nrm]; first | done | assumption | omega) | (simp only [nln] at hc ⊢; omega))
   | refine itF ?_ (by first | assumption | omega | (simp only [nrm]; first | done | assumption | omega) | (simp only [nln] at hc ⊢; omega))
   | (simp only [decide_not, Bool.decide_and, decide_true, Bool.and_true, Bool.not_and, beqI, Int.toNat_natCast, List.take_length] at h ⊢)
   | (exfalso; omega))
def laws_szLabelS.Fs : List (Spc env) := [laws_szLabel.spec]
def laws_szLabelS.fin : St eΓ → Option (HL eΓ [.i .i64]) := finR env Try.f89.results.toList [.i .i64]
def laws_szLabelS.cut : Nat → Option (List (Lv SC)) := lk [(5, [⟨0, none, false⟩, ⟨1, none, false⟩, ⟨5, none, false⟩])]
def laws_szLabelS.ret (r0 : Int) : Option (HL eΓ [.i .i64]) := some (r0, ())
def laws_szLabelS.p5 (k : Nat) (x1 : Int) (x5 : Int) (x0 : List S131) : Option (HL eΓ [.i .i64]) := evM env laws_szLabelS.Fs Try.f89.ntmps laws_szLabelS.fin laws_szLabelS.cut k [.code (sub_ [1, 1, 1, 0, 1, 0, 0, 0, 0] (bodyOf Try.f89)), .code (sub_ [1, 1, 1, 0, 1, 0, 0, 0, 1] (bodyOf Try.f89)), .code (sub_ [1, 1, 1, 0, 1, 0, 0, 1] (bodyOf Try.f89)), .lp (sub_ [1, 1, 1, 0, 1, 0, 0] (bodyOf Try.f89)), .blk 0, .code (sub_ [1, 1, 1, 1] (bodyOf Try.f89))] (mkSt [(0, .c (.sl 0)), (1, .c (.v (.int .i64 x1))), (5, .c (.v (.int .i64 x5)))] [.row .ro 131 (.st .s131) x0])
theorem laws_szLabelS.e5 (k : Nat) (x1 : Int) (x5 : Int) (x0 : List S131) : laws_szLabelS.p5 (k + 1) x1 x5 x0 = if x5 < (x0.length : Int) then (if 0 ≤ x5 then (if x5 < (x0.length : Int) then (laws_szLabel.ap k (⟨(rd_T131 x0 x5).f0, (rd_T131 x0 x5).f1, (⟨(⟨(rd_T131 x0 x5).f2.f0.f0, (rd_T131 x0 x5).f2.f0.f1⟩ : S118), (⟨(rd_T131 x0 x5).f2.f1.f0, (rd_T131 x0 x5).f2.f1.f1⟩ : S118)⟩ : S129)⟩ : S131) x1 fun r1 => if r1 < 0 then (laws_szLabelS.ret (-1)) else (laws_szLabelS.p5 k r1 (wrap64 (x5 + 1)) x0)) else none) else none) else (laws_szLabelS.ret x1) := by kernel_rfl
def laws_szLabelS.run (k : Nat) (h : HL eΓ [.l 131 (.st .s131), .i .i64]) : Option (HL eΓ [.i .i64]) := evF env laws_szLabelS.Fs Try.f89 laws_szLabelS.cut [.l 131 (.st .s131), .i .i64] [.i .i64] k h
theorem laws_szLabelS.ef (k : Nat) (h0 : List S131) (h1 : Int) : laws_szLabelS.run k (h0, h1, ()) = if (wrap64 (h1 - (h0.length : Int))) < 0 then (laws_szLabelS.ret (-1)) else (laws_szLabelS.p5 k (wrap64 (h1 - (h0.length : Int))) 0 h0) := by kernel_rfl
def laws_szLabelS.toH (t : Int) : HL eΓ [.i .i64] := (t, ())
def laws_szLabelS.spec : Spc env := ⟨89, [.l 131 (.st .s131), .i .i64], [.i .i64], laws_szLabelS.run⟩
def laws_szLabelS.ap {R : Type} (k : Nat) (h0 : List S131) (h1 : Int) (K : Int → Option R) : Option R := (laws_szLabelS.run k (h0, h1, ())).bind fun r => K (r.1 : Int)
theorem laws_szLabelS.ap_of {R : Type} {k : Nat} {h0 : List S131} {h1 : Int} {r0 : Int} {K : Int → Option R} (h : laws_szLabelS.run k (h0, h1, ()) = some (r0, ())) : laws_szLabelS.ap k h0 h1 K = K r0 := by unfold laws_szLabelS.ap; rw [h]; rfl
theorem laws_szLabelS.snd : Snd env laws_szLabelS.spec := evF_snd env_ok (sndC laws_szLabel.snd (sndN)) (by kernel_rfl) (by kernel_rfl) (by kernel_rfl)
attribute [local irreducible] laws_szLabelS.run
theorem laws_szLabelS.rt (a0 : Int) : laws_szLabelS.ret a0 = some (laws_szLabelS.toH (a0)) := rfl
theorem laws_szLabelS.br (n : Nat) : (∀ K, n ≤ K → ∀ (x1 : Int) (x5 : Int) (x0 : List S131) t, laws_szLabelS.l0 n x0 x1 x5 = some t → laws_szLabelS.p5 K x1 x5 x0 = some (laws_szLabelS.toH t)) := by
  induction n using Nat.strongRecOn with
  | _ n ih =>
  intro K hK x1 x5 x0 t h
  all_goals (rcases n with _ | k)
  all_goals (try (exact nos h))
  all_goals (obtain ⟨K, rfl⟩ : ∃ q, K = q + 1 := ⟨K - 1, by omega⟩)
  all_goals (first | rw [laws_szLabelS.e5])
  all_goals (simp only [laws_szLabelS.l0] at h)
  repeat' (with_reducible first
   | exact nos h
   | (cases some_inj h; exact laws_szLabelS.rt _)
   | exact (ih _ (by omega)) _ (by omega) _ _ _ _ h
   | (simp only [Option.bind_some] at h)
   | (refine ite_by h (fun hc h => ?_) (fun hc h => ?_) <;> (try simp only [nrm] at hc))
   | refine itT ?_ (by first | assumption | omega | (simp only [nrm]; first | done | assumption | omega) | (simp only [nln] at hc ⊢; omega))
   | refine itF ?_ (by first | assumption | omega | (simp only [nrm]; first | done | assumption | omega) | (simp only [nln] at hc ⊢; omega))
   | (refine bind_by h (fun t ht h => ?_); refine (laws_szLabel.ap_of (laws_szLabel.go ht _)).trans ?_; (try dsimp only at h ⊢))
   | (simp only [decide_not, Bool.decide_and, decide_true, Bool.and_true, Bool.not_and, beqI, Int.toNat_natCast, List.take_length] at h ⊢)
   | (exfalso; omega))
theorem laws_szLabelS.go {k : Nat} {l0 : List S131} {a1 : Int} {t} (h : laws_szLabelS.f k l0 a1 = some t) (K : Nat) (hK : k ≤ K) : laws_szLabelS.run K (l0, a1, ()) = some (laws_szLabelS.toH t) := by
  rw [laws_szLabelS.ef]
  (try dsimp only)
  unfold laws_szLabelS.f at h
  repeat' (with_reducible first
   | exact nos h
   | (cases some_inj h; exact laws_szLabelS.rt _)
   | exact (laws_szLabelS.br _) _ (by omega) _ _ _ _ h
   | (simp only [Option.bind_some] at h)
   | (refine ite_by h (fun hc h => ?_) (fun hc h => ?_) <;> (try simp only [nrm] at hc))
   | refine itT ?_ (by first | assumption | omega | (simp only [nrm]; first | done | assumption | omega) | (simp only [nln] at hc ⊢; omega))
   | refine itF ?_ (by first | assumption | omega | (simp only [nrm]; first | done | assumption | omega) | (simp only [nln] at hc ⊢; omega))
   | (refine bind_by h (fun t ht h => ?_); refine (laws_szLabel.ap_of (laws_szLabel.go ht _)).trans ?_; (try dsimp only at h ⊢))
   | (simp only [decide_not, Bool.decide_and, decide_true, Bool.and_true, Bool.not_and, beqI, Int.toNat_natCast, List.take_length] at h ⊢)
   | (exfalso; omega))
def laws_szChart.Fs : List (Spc env) := [laws_szFeatureS.spec, laws_szLabelS.spec]
def laws_szChart.cut : Nat → Option (List (Lv SC)) := lk []
def laws_szChart.ret (r0 : Int) : Option (HL eΓ [.i .i64]) := some (r0, ())
def laws_szChart.run (k : Nat) (h : HL eΓ [.st .s48, .i .i64]) : Option (HL eΓ [.i .i64]) := evF env laws_szChart.Fs Try.f35 laws_szChart.cut [.st .s48, .i .i64] [.i .i64] k h
theorem laws_szChart.ef (k : Nat) (h0 : S48) (h1 : Int) : laws_szChart.run k (h0, h1, ()) = laws_szFeatureS.ap k h0.f0 h1 fun r1 => if r1 < 0 then (laws_szChart.ret (-1)) else (laws_szLabelS.ap k h0.f1 r1 fun r2 => if r2 < 0 then (laws_szChart.ret (-1)) else (laws_szChart.ret r2)) := by kernel_rfl
def laws_szChart.toH (t : Int) : HL eΓ [.i .i64] := (t, ())
def laws_szChart.spec : Spc env := ⟨35, [.st .s48, .i .i64], [.i .i64], laws_szChart.run⟩
theorem laws_szChart.snd : Snd env laws_szChart.spec := evF_snd env_ok (sndC laws_szFeatureS.snd (sndC laws_szLabelS.snd (sndN))) (by kernel_rfl) (by kernel_rfl) (by kernel_rfl)
attribute [local irreducible] laws_szChart.run
theorem laws_szChart.rt (a0 : Int) : laws_szChart.ret a0 = some (laws_szChart.toH (a0)) := rfl
theorem laws_szChart.go {k : Nat} {l0_0 : List S24} {l0_1 : List S131} {a1 : Int} {t} (h : laws_szChart.f k l0_0 l0_1 a1 = some t) (K : Nat) (hK : k ≤ K) : laws_szChart.run K ((⟨l0_0, l0_1⟩ : S48), a1, ()) = some (laws_szChart.toH t) := by
  rw [laws_szChart.ef]
  (try dsimp only)
  unfold laws_szChart.f at h
  repeat' (with_reducible first
   | exact nos h
   | (cases some_inj h; exact laws_szChart.rt _)
   | (simp only [Option.bind_some] at h)
   | (refine ite_by h (fun hc h => ?_) (fun hc h => ?_) <;> (try simp only [nrm] at hc))
   | refine itT ?_ (by first | assumption | omega | (simp only [nrm]; first | done | assumption | omega) | (simp only [nln] at hc ⊢; omega))
   | refine itF ?_ (by first | assumption | omega | (simp only [nrm]; first | done | assumption | omega) | (simp only [nln] at hc ⊢; omega))
   | (refine bind_by h (fun t ht h => ?_); (first | refine (laws_szFeatureS.ap_of (laws_szFeatureS.go ht _ (by omega))).trans ?_ | refine (laws_szLabelS.ap_of (laws_szLabelS.go ht _ (by omega))).trans ?_); (try dsimp only at h ⊢))
   | (simp only [decide_not, Bool.decide_and, decide_true, Bool.and_true, Bool.not_and, beqI, Int.toNat_natCast, List.take_length] at h ⊢)
   | (exfalso; omega))
theorem laws_szChart.calls (k : Nat) (A0_0 : Option Addr) (c0_0 : Nat) (l0_0 : List (S24)) (A0_1 : Option Addr) (c0_1 : Nat) (l0_1 : List (S131)) (a1 : Int) (r : Int) (w : World) (hr0_0 : Kd.C k24 w A0_0 l0_0.length l0_0) (hc0_0 : l0_0.length ≤ c0_0) (hr0_1 : Kd.C k131 w A0_1 l0_1.length l0_1) (hc0_1 : l0_1.length ≤ c0_1) (h : laws_szChart.f k l0_0 l0_1 a1 = some r) :
  Calls Try.prog 35 #[.agg #[.slice A0_0 l0_0.length c0_0, .slice A0_1 l0_1.length c0_1], .int .i64 a1] w fun e w' => e = .returned (.int .i64 r) ∧ Below w.heap.size w w' := by
  refine (laws_szChart.snd.calls _ _ _ (laws_szChart.go h k (Nat.le_refl k)) w [.agg #[.slice A0_0 l0_0.length c0_0, .slice A0_1 l0_1.length c0_1], .int .i64 a1] ⟨⟨_, rfl, (H48.K _ _ _).2 ⟨⟨_, _, rfl, hc0_0, hr0_0⟩, ⟨_, _, rfl, hc0_1, hr0_1⟩, trivial⟩⟩, rfl, trivial⟩).mono ?_
  rintro e w' ⟨v, rfl, hB, vs, oks, rfl, hR, _⟩
  obtain ⟨x0_, vs, o0_, oks, rfl, rfl, m0_, hR⟩ := rmsC hR
  obtain rfl := rmsN hR
  obtain rfl := List.singleton_inj.1 (show [x0_] = [Value.int .i64 r] from m0_)
  exact ⟨rfl, hB⟩
def spec_l1In.toH (t : Bool) : HL eΓ [.b] := (t, ())
def spec_l1In.run (k : Nat) (h : HL eΓ [.i .i64, .i .i64, .i .i64]) : Option (HL eΓ [.b]) := (spec_l1In.f (h.1 : Int) (h.2.1 : Int) (h.2.2.1 : Int)).map spec_l1In.toH
def spec_l1In.spec : Spc env := ⟨71, [.i .i64, .i .i64, .i .i64], [.b], spec_l1In.run⟩
def spec_l1In.ap {R : Type} (k : Nat) (h0 : Int) (h1 : Int) (h2 : Int) (K : Bool → Option R) : Option R := (spec_l1In.run k (h0, h1, h2, ())).bind fun r => K (r.1 : Bool)
theorem spec_l1In.ap_of {R : Type} {k : Nat} {h0 : Int} {h1 : Int} {h2 : Int} {r0 : Bool} {K : Bool → Option R} (h : spec_l1In.run k (h0, h1, h2, ()) = some (r0, ())) : spec_l1In.ap k h0 h1 h2 K = K r0 := by unfold spec_l1In.ap; rw [h]; rfl
theorem spec_l1In.go {a0 : Int} {a1 : Int} {a2 : Int} {t} (h : spec_l1In.f a0 a1 a2 = some t) (K : Nat) : spec_l1In.run K (a0, a1, a2, ()) = some (spec_l1In.toH t) := by
  show Option.map _ (spec_l1In.f a0 a1 a2) = _
  rw [h]; rfl
theorem spec_l1In.snd : Snd env spec_l1In.spec := ⟨⟨Try.f71, by kernel_rfl, by kernel_rfl, by kernel_rfl⟩, fun k h r he w us hA => by
  obtain ⟨t, ht, rfl⟩ := Option.map_eq_some_iff.1 (show (spec_l1In.f (h.1 : Int) (h.2.1 : Int) (h.2.2.1 : Int)).map spec_l1In.toH = some r from he)
  match us, hA with
  | [u0, u1, u2], ⟨q0, q1, q2, _⟩ =>
  obtain rfl := List.singleton_inj.1 (show [u0] = [Value.int .i64 (h.1 : Int)] from q0)
  obtain rfl := List.singleton_inj.1 (show [u1] = [Value.int .i64 (h.2.1 : Int)] from q1)
  obtain rfl := List.singleton_inj.1 (show [u2] = [Value.int .i64 (h.2.2.1 : Int)] from q2)
  refine (spec_l1In.calls (w := w) (h := ht) ).mono ?_
  rintro e w' ⟨he, hw⟩
  exact ⟨_, he, (by obtain ⟨_, rfl⟩ := hw; exact Below.refl _ _), [.bool t], [fun _ => False], rfl, ⟨rfl, trivial⟩, by simp [DJ]⟩⟩
def spec_Max.toH (t : Int) : HL eΓ [.i .i64] := (t, ())
def spec_Max.run (k : Nat) (h : HL eΓ [.i .i64, .i .i64]) : Option (HL eΓ [.i .i64]) := (spec_Max.f (h.1 : Int) (h.2.1 : Int)).map spec_Max.toH
def spec_Max.spec : Spc env := ⟨108, [.i .i64, .i .i64], [.i .i64], spec_Max.run⟩
def spec_Max.ap {R : Type} (k : Nat) (h0 : Int) (h1 : Int) (K : Int → Option R) : Option R := (spec_Max.run k (h0, h1, ())).bind fun r => K (r.1 : Int)
theorem spec_Max.ap_of {R : Type} {k : Nat} {h0 : Int} {h1 : Int} {r0 : Int} {K : Int → Option R} (h : spec_Max.run k (h0, h1, ()) = some (r0, ())) : spec_Max.ap k h0 h1 K = K r0 := by unfold spec_Max.ap; rw [h]; rfl
theorem spec_Max.go {a0 : Int} {a1 : Int} {t} (h : spec_Max.f a0 a1 = some t) (K : Nat) : spec_Max.run K (a0, a1, ()) = some (spec_Max.toH t) := by
  show Option.map _ (spec_Max.f a0 a1) = _
  rw [h]; rfl
theorem spec_Max.snd : Snd env spec_Max.spec := ⟨⟨Try.f108, by kernel_rfl, by kernel_rfl, by kernel_rfl⟩, fun k h r he w us hA => by
  obtain ⟨t, ht, rfl⟩ := Option.map_eq_some_iff.1 (show (spec_Max.f (h.1 : Int) (h.2.1 : Int)).map spec_Max.toH = some r from he)
  match us, hA with
  | [u0, u1], ⟨q0, q1, _⟩ =>
  obtain rfl := List.singleton_inj.1 (show [u0] = [Value.int .i64 (h.1 : Int)] from q0)
  obtain rfl := List.singleton_inj.1 (show [u1] = [Value.int .i64 (h.2.1 : Int)] from q1)
  refine (spec_Max.calls (w := w) (h := ht) ).mono ?_
  rintro e w' ⟨he, hw⟩
  exact ⟨_, he, (by obtain ⟨_, rfl⟩ := hw; exact Below.refl _ _), [.int .i64 t], [fun _ => False], rfl, ⟨rfl, trivial⟩, by simp [DJ]⟩⟩
def spec_Min.toH (t : Int) : HL eΓ [.i .i64] := (t, ())
def spec_Min.run (k : Nat) (h : HL eΓ [.i .i64, .i .i64]) : Option (HL eΓ [.i .i64]) := (spec_Min.f (h.1 : Int) (h.2.1 : Int)).map spec_Min.toH
def spec_Min.spec : Spc env := ⟨140, [.i .i64, .i .i64], [.i .i64], spec_Min.run⟩
def spec_Min.ap {R : Type} (k : Nat) (h0 : Int) (h1 : Int) (K : Int → Option R) : Option R := (spec_Min.run k (h0, h1, ())).bind fun r => K (r.1 : Int)
theorem spec_Min.ap_of {R : Type} {k : Nat} {h0 : Int} {h1 : Int} {r0 : Int} {K : Int → Option R} (h : spec_Min.run k (h0, h1, ()) = some (r0, ())) : spec_Min.ap k h0 h1 K = K r0 := by unfold spec_Min.ap; rw [h]; rfl
theorem spec_Min.go {a0 : Int} {a1 : Int} {t} (h : spec_Min.f a0 a1 = some t) (K : Nat) : spec_Min.run K (a0, a1, ()) = some (spec_Min.toH t) := by
  show Option.map _ (spec_Min.f a0 a1) = _
  rw [h]; rfl
theorem spec_Min.snd : Snd env spec_Min.spec := ⟨⟨Try.f140, by kernel_rfl, by kernel_rfl, by kernel_rfl⟩, fun k h r he w us hA => by
  obtain ⟨t, ht, rfl⟩ := Option.map_eq_some_iff.1 (show (spec_Min.f (h.1 : Int) (h.2.1 : Int)).map spec_Min.toH = some r from he)
  match us, hA with
  | [u0, u1], ⟨q0, q1, _⟩ =>
  obtain rfl := List.singleton_inj.1 (show [u0] = [Value.int .i64 (h.1 : Int)] from q0)
  obtain rfl := List.singleton_inj.1 (show [u1] = [Value.int .i64 (h.2.1 : Int)] from q1)
  refine (spec_Min.calls (w := w) (h := ht) ).mono ?_
  rintro e w' ⟨he, hw⟩
  exact ⟨_, he, (by obtain ⟨_, rfl⟩ := hw; exact Below.refl _ _), [.int .i64 t], [fun _ => False], rfl, ⟨rfl, trivial⟩, by simp [DJ]⟩⟩
def spec_IsPoint.toH (t : Bool) : HL eΓ [.b] := (t, ())
def spec_IsPoint.run (k : Nat) (h : HL eΓ [.st .s82]) : Option (HL eΓ [.b]) := (spec_IsPoint.f ((h.1 : S82).f0) ((h.1 : S82).f1)).map spec_IsPoint.toH
def spec_IsPoint.spec : Spc env := ⟨117, [.st .s82], [.b], spec_IsPoint.run⟩
def spec_IsPoint.ap {R : Type} (k : Nat) (h0 : S82) (K : Bool → Option R) : Option R := (spec_IsPoint.run k (h0, ())).bind fun r => K (r.1 : Bool)
theorem spec_IsPoint.ap_of {R : Type} {k : Nat} {h0 : S82} {r0 : Bool} {K : Bool → Option R} (h : spec_IsPoint.run k (h0, ()) = some (r0, ())) : spec_IsPoint.ap k h0 K = K r0 := by unfold spec_IsPoint.ap; rw [h]; rfl
theorem spec_IsPoint.go {a0_0 : Int} {a0_1 : Int} {t} (h : spec_IsPoint.f a0_0 a0_1 = some t) (K : Nat) : spec_IsPoint.run K ((⟨a0_0, a0_1⟩ : S82), ()) = some (spec_IsPoint.toH t) := by
  show Option.map _ (spec_IsPoint.f a0_0 a0_1) = _
  rw [h]; rfl
theorem spec_IsPoint.snd : Snd env spec_IsPoint.spec := ⟨⟨Try.f117, by kernel_rfl, by kernel_rfl, by kernel_rfl⟩, fun k h r he w us hA => by
  obtain ⟨t, ht, rfl⟩ := Option.map_eq_some_iff.1 (show (spec_IsPoint.f ((h.1 : S82).f0) ((h.1 : S82).f1)).map spec_IsPoint.toH = some r from he)
  match us, hA with
  | [u0], ⟨q0, _⟩ =>
  obtain ⟨v0, rfl, q0⟩ := q0
  have q0 := (H82.K _ _ _).1 q0
  match e0 : v0.toList, q0 with
  | [c0_0, c0_1], ⟨p0_0, p0_1, _⟩ =>
  obtain rfl : v0 = #[c0_0, c0_1] := by rw [← Array.toArray_toList (xs := v0), e0]
  obtain rfl := List.singleton_inj.1 (show [c0_0] = [Value.int .i64 ((h.1 : S82).f0)] from p0_0)
  obtain rfl := List.singleton_inj.1 (show [c0_1] = [Value.int .i64 ((h.1 : S82).f1)] from p0_1)
  refine (spec_IsPoint.calls (w := w) (h := ht) ).mono ?_
  rintro e w' ⟨he, hw⟩
  exact ⟨_, he, hw, [.bool t], [fun _ => False], rfl, ⟨rfl, trivial⟩, by simp [DJ]⟩⟩
def spec_IsSegment.toH (t : Bool) : HL eΓ [.b] := (t, ())
def spec_IsSegment.run (k : Nat) (h : HL eΓ [.st .s85]) : Option (HL eΓ [.b]) := (spec_IsSegment.f ((h.1 : S85).f0.f0) ((h.1 : S85).f0.f1) ((h.1 : S85).f1.f0) ((h.1 : S85).f1.f1)).map spec_IsSegment.toH
def spec_IsSegment.spec : Spc env := ⟨148, [.st .s85], [.b], spec_IsSegment.run⟩
def spec_IsSegment.ap {R : Type} (k : Nat) (h0 : S85) (K : Bool → Option R) : Option R := (spec_IsSegment.run k (h0, ())).bind fun r => K (r.1 : Bool)
theorem spec_IsSegment.ap_of {R : Type} {k : Nat} {h0 : S85} {r0 : Bool} {K : Bool → Option R} (h : spec_IsSegment.run k (h0, ()) = some (r0, ())) : spec_IsSegment.ap k h0 K = K r0 := by unfold spec_IsSegment.ap; rw [h]; rfl
theorem spec_IsSegment.go {a0_0 : Int} {a0_1 : Int} {a0_2 : Int} {a0_3 : Int} {t} (h : spec_IsSegment.f a0_0 a0_1 a0_2 a0_3 = some t) (K : Nat) : spec_IsSegment.run K ((⟨(⟨a0_0, a0_1⟩ : S82), (⟨a0_2, a0_3⟩ : S82)⟩ : S85), ()) = some (spec_IsSegment.toH t) := by
  show Option.map _ (spec_IsSegment.f a0_0 a0_1 a0_2 a0_3) = _
  rw [h]; rfl
theorem spec_IsSegment.snd : Snd env spec_IsSegment.spec := ⟨⟨Try.f148, by kernel_rfl, by kernel_rfl, by kernel_rfl⟩, fun k h r he w us hA => by
  obtain ⟨t, ht, rfl⟩ := Option.map_eq_some_iff.1 (show (spec_IsSegment.f ((h.1 : S85).f0.f0) ((h.1 : S85).f0.f1) ((h.1 : S85).f1.f0) ((h.1 : S85).f1.f1)).map spec_IsSegment.toH = some r from he)
  match us, hA with
  | [u0], ⟨q0, _⟩ =>
  obtain ⟨v0, rfl, q0⟩ := q0
  have q0 := (H85.K _ _ _).1 q0
  match e0 : v0.toList, q0 with
  | [c0_0, c0_1, c0_2, c0_3], ⟨p0_0, p0_1, p0_2, p0_3, _⟩ =>
  obtain rfl : v0 = #[c0_0, c0_1, c0_2, c0_3] := by rw [← Array.toArray_toList (xs := v0), e0]
  obtain rfl := List.singleton_inj.1 (show [c0_0] = [Value.int .i64 ((h.1 : S85).f0.f0)] from p0_0)
  obtain rfl := List.singleton_inj.1 (show [c0_1] = [Value.int .i64 ((h.1 : S85).f0.f1)] from p0_1)
  obtain rfl := List.singleton_inj.1 (show [c0_2] = [Value.int .i64 ((h.1 : S85).f1.f0)] from p0_2)
  obtain rfl := List.singleton_inj.1 (show [c0_3] = [Value.int .i64 ((h.1 : S85).f1.f1)] from p0_3)
  refine (spec_IsSegment.calls (w := w) (h := ht) ).mono ?_
  rintro e w' ⟨he, hw⟩
  exact ⟨_, he, hw, [.bool t], [fun _ => False], rfl, ⟨rfl, trivial⟩, by simp [DJ]⟩⟩
def spec_IsOn.toH (t : Bool) : HL eΓ [.b] := (t, ())
def spec_IsOn.run (k : Nat) (h : HL eΓ [.st .s85, .st .s82]) : Option (HL eΓ [.b]) := (spec_IsOn.f ((h.1 : S85).f0.f0) ((h.1 : S85).f0.f1) ((h.1 : S85).f1.f0) ((h.1 : S85).f1.f1) ((h.2.1 : S82).f0) ((h.2.1 : S82).f1)).map spec_IsOn.toH
def spec_IsOn.spec : Spc env := ⟨173, [.st .s85, .st .s82], [.b], spec_IsOn.run⟩
def spec_IsOn.ap {R : Type} (k : Nat) (h0 : S85) (h1 : S82) (K : Bool → Option R) : Option R := (spec_IsOn.run k (h0, h1, ())).bind fun r => K (r.1 : Bool)
theorem spec_IsOn.ap_of {R : Type} {k : Nat} {h0 : S85} {h1 : S82} {r0 : Bool} {K : Bool → Option R} (h : spec_IsOn.run k (h0, h1, ()) = some (r0, ())) : spec_IsOn.ap k h0 h1 K = K r0 := by unfold spec_IsOn.ap; rw [h]; rfl
theorem spec_IsOn.go {a0_0 : Int} {a0_1 : Int} {a0_2 : Int} {a0_3 : Int} {a1_0 : Int} {a1_1 : Int} {t} (h : spec_IsOn.f a0_0 a0_1 a0_2 a0_3 a1_0 a1_1 = some t) (K : Nat) : spec_IsOn.run K ((⟨(⟨a0_0, a0_1⟩ : S82), (⟨a0_2, a0_3⟩ : S82)⟩ : S85), (⟨a1_0, a1_1⟩ : S82), ()) = some (spec_IsOn.toH t) := by
  show Option.map _ (spec_IsOn.f a0_0 a0_1 a0_2 a0_3 a1_0 a1_1) = _
  rw [h]; rfl
theorem spec_IsOn.snd : Snd env spec_IsOn.spec := ⟨⟨Try.f173, by kernel_rfl, by kernel_rfl, by kernel_rfl⟩, fun k h r he w us hA => by
  obtain ⟨t, ht, rfl⟩ := Option.map_eq_some_iff.1 (show (spec_IsOn.f ((h.1 : S85).f0.f0) ((h.1 : S85).f0.f1) ((h.1 : S85).f1.f0) ((h.1 : S85).f1.f1) ((h.2.1 : S82).f0) ((h.2.1 : S82).f1)).map spec_IsOn.toH = some r from he)
  match us, hA with
  | [u0, u1], ⟨q0, q1, _⟩ =>
  obtain ⟨v0, rfl, q0⟩ := q0
  have q0 := (H85.K _ _ _).1 q0
  match e0 : v0.toList, q0 with
  | [c0_0, c0_1, c0_2, c0_3], ⟨p0_0, p0_1, p0_2, p0_3, _⟩ =>
  obtain rfl : v0 = #[c0_0, c0_1, c0_2, c0_3] := by rw [← Array.toArray_toList (xs := v0), e0]
  obtain rfl := List.singleton_inj.1 (show [c0_0] = [Value.int .i64 ((h.1 : S85).f0.f0)] from p0_0)
  obtain rfl := List.singleton_inj.1 (show [c0_1] = [Value.int .i64 ((h.1 : S85).f0.f1)] from p0_1)
  obtain rfl := List.singleton_inj.1 (show [c0_2] = [Value.int .i64 ((h.1 : S85).f1.f0)] from p0_2)
  obtain rfl := List.singleton_inj.1 (show [c0_3] = [Value.int .i64 ((h.1 : S85).f1.f1)] from p0_3)
  obtain ⟨v1, rfl, q1⟩ := q1
  have q1 := (H82.K _ _ _).1 q1
  match e1 : v1.toList, q1 with
  | [c1_0, c1_1], ⟨p1_0, p1_1, _⟩ =>
  obtain rfl : v1 = #[c1_0, c1_1] := by rw [← Array.toArray_toList (xs := v1), e1]
  obtain rfl := List.singleton_inj.1 (show [c1_0] = [Value.int .i64 ((h.2.1 : S82).f0)] from p1_0)
  obtain rfl := List.singleton_inj.1 (show [c1_1] = [Value.int .i64 ((h.2.1 : S82).f1)] from p1_1)
  refine (spec_IsOn.calls (w := w) (h := ht) ).mono ?_
  rintro e w' ⟨he, hw⟩
  exact ⟨_, he, hw, [.bool t], [fun _ => False], rfl, ⟨rfl, trivial⟩, by simp [DJ]⟩⟩
def spec_l5Shared.Fs : List (Spc env) := [spec_IsOn.spec]
def spec_l5Shared.fin : St eΓ → Option (HL eΓ [.i .i64]) := finR env Try.f168.results.toList [.i .i64]
def spec_l5Shared.cut : Nat → Option (List (Lv SC)) := lk [(4, [⟨2, none, false⟩, ⟨3, none, false⟩, ⟨5, none, false⟩, ⟨6, none, false⟩, ⟨7, none, false⟩]), (8, [⟨2, none, false⟩, ⟨3, none, false⟩, ⟨5, none, false⟩, ⟨6, none, false⟩, ⟨7, none, false⟩, ⟨8, none, false⟩, ⟨9, none, false⟩])]
def spec_l5Shared.ret (r0 : Int) : Option (HL eΓ [.i .i64]) := some (r0, ())
def spec_l5Shared.p4 (k : Nat) (x7 : Int) (b0_0 : Int) (b0_1 : Int) (b0_2 : Int) (b0_3 : Int) (b1_0 : Int) (b1_1 : Int) (b1_2 : Int) (b1_3 : Int) (x5 : List S82) (x6 : List S82) : Option (HL eΓ [.i .i64]) := evM env spec_l5Shared.Fs Try.f168.ntmps spec_l5Shared.fin spec_l5Shared.cut k [.code (sub_ [1, 1, 1, 0, 1, 0, 0, 0, 0] (bodyOf Try.f168)), .code (sub_ [1, 1, 1, 0, 1, 0, 0, 0, 1] (bodyOf Try.f168)), .code (sub_ [1, 1, 1, 0, 1, 0, 0, 1] (bodyOf Try.f168)), .lp (sub_ [1, 1, 1, 0, 1, 0, 0] (bodyOf Try.f168)), .blk 0, .code (sub_ [1, 1, 1, 1] (bodyOf Try.f168))] (mkSt [(2, .c (.ptr 0 0)), (3, .c (.ptr 1 0)), (5, .c (.sl 2)), (6, .c (.sl 3)), (7, .c (.v (.int .i64 x7)))] [.box 85 [.v (.int .i64 b0_0), .v (.int .i64 b0_1), .v (.int .i64 b0_2), .v (.int .i64 b0_3)], .box 85 [.v (.int .i64 b1_0), .v (.int .i64 b1_1), .v (.int .i64 b1_2), .v (.int .i64 b1_3)], .row .own 82 (.st .s82) x5, .row .own 82 (.st .s82) x6])
def spec_l5Shared.p8 (k : Nat) (x7 : Int) (x8 : Bool) (x9 : Int) (b0_0 : Int) (b0_1 : Int) (b0_2 : Int) (b0_3 : Int) (b1_0 : Int) (b1_1 : Int) (b1_2 : Int) (b1_3 : Int) (x5 : List S82) (x6 : List S82) : Option (HL eΓ [.i .i64]) := evM env spec_l5Shared.Fs Try.f168.ntmps spec_l5Shared.fin spec_l5Shared.cut k [.code (sub_ [1, 1, 1, 0, 1, 0, 0, 1, 0, 0, 1, 0, 1, 0, 0, 0, 0] (bodyOf Try.f168)), .code (sub_ [1, 1, 1, 0, 1, 0, 0, 1, 0, 0, 1, 0, 1, 0, 0, 0, 1] (bodyOf Try.f168)), .code (sub_ [1, 1, 1, 0, 1, 0, 0, 1, 0, 0, 1, 0, 1, 0, 0, 1] (bodyOf Try.f168)), .lp (sub_ [1, 1, 1, 0, 1, 0, 0, 1, 0, 0, 1, 0, 1, 0, 0] (bodyOf Try.f168)), .blk 2, .code (sub_ [1, 1, 1, 0, 1, 0, 0, 1, 0, 0, 1, 1] (bodyOf Try.f168)), .blk 1, .code (sub_ [1, 1, 1, 0, 1, 0, 0, 1, 1] (bodyOf Try.f168)), .lp (sub_ [1, 1, 1, 0, 1, 0, 0] (bodyOf Try.f168)), .blk 0, .code (sub_ [1, 1, 1, 1] (bodyOf Try.f168))] (mkSt [(2, .c (.ptr 0 0)), (3, .c (.ptr 1 0)), (5, .c (.sl 2)), (6, .c (.sl 3)), (7, .c (.v (.int .i64 x7))), (8, .c (.v (.bool x8))), (9, .c (.v (.int .i64 x9)))] [.box 85 [.v (.int .i64 b0_0), .v (.int .i64 b0_1), .v (.int .i64 b0_2), .v (.int .i64 b0_3)], .box 85 [.v (.int .i64 b1_0), .v (.int .i64 b1_1), .v (.int .i64 b1_2), .v (.int .i64 b1_3)], .row .own 82 (.st .s82) x5, .row .own 82 (.st .s82) x6])
theorem spec_l5Shared.e4 (k : Nat) (x7 : Int) (b0_0 : Int) (b0_1 : Int) (b0_2 : Int) (b0_3 : Int) (b1_0 : Int) (b1_1 : Int) (b1_2 : Int) (b1_3 : Int) (x5 : List S82) (x6 : List S82) : spec_l5Shared.p4 (k + 1) x7 b0_0 b0_1 b0_2 b0_3 b1_0 b1_1 b1_2 b1_3 x5 x6 = if x7 < 4 then (if x7 < 2 then (if 0 ≤ x7 then (if x7 < (x6.length : Int) then (spec_IsOn.ap k (⟨(⟨b1_0, b1_1⟩ : S82), (⟨b1_2, b1_3⟩ : S82)⟩ : S85) (⟨(rd_T82 x6 x7).f0, (rd_T82 x6 x7).f1⟩ : S82) fun r1 => if r1 = true then (spec_l5Shared.p8 k x7 true 0 b0_0 b0_1 b0_2 b0_3 b1_0 b1_1 b1_2 b1_3 x5 x6) else (if x7 ≥ 2 then (if 0 ≤ x7 then (if x7 < (x6.length : Int) then (spec_IsOn.ap k (⟨(⟨b0_0, b0_1⟩ : S82), (⟨b0_2, b0_3⟩ : S82)⟩ : S85) (⟨(rd_T82 x6 x7).f0, (rd_T82 x6 x7).f1⟩ : S82) fun r2 => spec_l5Shared.p8 k x7 r2 0 b0_0 b0_1 b0_2 b0_3 b1_0 b1_1 b1_2 b1_3 x5 x6) else none) else none) else (spec_l5Shared.p8 k x7 false 0 b0_0 b0_1 b0_2 b0_3 b1_0 b1_1 b1_2 b1_3 x5 x6))) else none) else none) else (if x7 ≥ 2 then (if 0 ≤ x7 then (if x7 < (x6.length : Int) then (spec_IsOn.ap k (⟨(⟨b0_0, b0_1⟩ : S82), (⟨b0_2, b0_3⟩ : S82)⟩ : S85) (⟨(rd_T82 x6 x7).f0, (rd_T82 x6 x7).f1⟩ : S82) fun r3 => spec_l5Shared.p8 k x7 r3 0 b0_0 b0_1 b0_2 b0_3 b1_0 b1_1 b1_2 b1_3 x5 x6) else none) else none) else (spec_l5Shared.p8 k x7 false 0 b0_0 b0_1 b0_2 b0_3 b1_0 b1_1 b1_2 b1_3 x5 x6))) else (spec_l5Shared.ret (x5.length : Int)) := by kernel_rfl
theorem spec_l5Shared.e8 (k : Nat) (x7 : Int) (x8 : Bool) (x9 : Int) (b0_0 : Int) (b0_1 : Int) (b0_2 : Int) (b0_3 : Int) (b1_0 : Int) (b1_1 : Int) (b1_2 : Int) (b1_3 : Int) (x5 : List S82) (x6 : List S82) : spec_l5Shared.p8 (k + 1) x7 x8 x9 b0_0 b0_1 b0_2 b0_3 b1_0 b1_1 b1_2 b1_3 x5 x6 = if x9 < (x5.length : Int) then (if x8 = true then (if 0 ≤ x9 then (if x9 < (x5.length : Int) then (if 0 ≤ x7 then (if x7 < (x6.length : Int) then (spec_l5Shared.p8 k x7 (decide (¬ (((rd_T82 x5 x9).f0) = ((rd_T82 x6 x7).f0) ∧ (((rd_T82 x5 x9).f1) = ((rd_T82 x6 x7).f1) ∧ True)))) (wrap64 (x9 + 1)) b0_0 b0_1 b0_2 b0_3 b1_0 b1_1 b1_2 b1_3 x5 x6) else none) else none) else none) else none) else (spec_l5Shared.p8 k x7 false (wrap64 (x9 + 1)) b0_0 b0_1 b0_2 b0_3 b1_0 b1_1 b1_2 b1_3 x5 x6)) else (if x8 = true then (if 0 ≤ x7 then (if x7 < (x6.length : Int) then (if (x5.length + 1) * 16 ≤ 140737488355328 then (spec_l5Shared.p4 k (wrap64 (x7 + 1)) b0_0 b0_1 b0_2 b0_3 b1_0 b1_1 b1_2 b1_3 (x5 ++ [(⟨(rd_T82 x6 x7).f0, (rd_T82 x6 x7).f1⟩ : S82)]) x6) else none) else none) else none) else (spec_l5Shared.p4 k (wrap64 (x7 + 1)) b0_0 b0_1 b0_2 b0_3 b1_0 b1_1 b1_2 b1_3 x5 x6)) := by kernel_rfl
def spec_l5Shared.run (k : Nat) (h : HL eΓ [.st .s85, .st .s85]) : Option (HL eΓ [.i .i64]) := evF env spec_l5Shared.Fs Try.f168 spec_l5Shared.cut [.st .s85, .st .s85] [.i .i64] k h
theorem spec_l5Shared.ef (k : Nat) (h0 : S85) (h1 : S85) : spec_l5Shared.run k (h0, h1, ()) = spec_l5Shared.p4 k 0 h0.f0.f0 h0.f0.f1 h0.f1.f0 h0.f1.f1 h1.f0.f0 h1.f0.f1 h1.f1.f0 h1.f1.f1 ([] : List S82) ([(⟨h0.f0.f0, h0.f0.f1⟩ : S82), (⟨h0.f1.f0, h0.f1.f1⟩ : S82), (⟨h1.f0.f0, h1.f0.f1⟩ : S82), (⟨h1.f1.f0, h1.f1.f1⟩ : S82)] : List S82) := by kernel_rfl
def spec_l5Shared.toH (t : Int) : HL eΓ [.i .i64] := (t, ())
def spec_l5Shared.spec : Spc env := ⟨168, [.st .s85, .st .s85], [.i .i64], spec_l5Shared.run⟩
theorem spec_l5Shared.snd : Snd env spec_l5Shared.spec := evF_snd env_ok (sndC spec_IsOn.snd (sndN)) (by kernel_rfl) (by kernel_rfl) (by kernel_rfl)
attribute [local irreducible] spec_l5Shared.run
theorem spec_l5Shared.rt (a0 : Int) : spec_l5Shared.ret a0 = some (spec_l5Shared.toH (a0)) := rfl
theorem spec_l5Shared.br (n : Nat) : (∀ K, n ≤ K → ∀ (x7 : Int) (b0_0 : Int) (b0_1 : Int) (b0_2 : Int) (b0_3 : Int) (b1_0 : Int) (b1_1 : Int) (b1_2 : Int) (b1_3 : Int) (x5 : List S82) (x6 : List S82) t, spec_l5Shared.l0 n x5 x6 x7 b0_0 b0_1 b0_2 b0_3 b1_0 b1_1 b1_2 b1_3 = some t → spec_l5Shared.p4 K x7 b0_0 b0_1 b0_2 b0_3 b1_0 b1_1 b1_2 b1_3 x5 x6 = some (spec_l5Shared.toH t)) ∧ (∀ K, n ≤ K → ∀ (x7 : Int) (x8 : Bool) (x9 : Int) (b0_0 : Int) (b0_1 : Int) (b0_2 : Int) (b0_3 : Int) (b1_0 : Int) (b1_1 : Int) (b1_2 : Int) (b1_3 : Int) (x5 : List S82) (x6 : List S82) t, spec_l5Shared.l1 n x5 x6 x7 x8 x9 b0_0 b0_1 b0_2 b0_3 b1_0 b1_1 b1_2 b1_3 = some t → spec_l5Shared.p8 K x7 x8 x9 b0_0 b0_1 b0_2 b0_3 b1_0 b1_1 b1_2 b1_3 x5 x6 = some (spec_l5Shared.toH t)) := by
  induction n using Nat.strongRecOn with
  | _ n ih =>
  refine ⟨fun K hK x7 b0_0 b0_1 b0_2 b0_3 b1_0 b1_1 b1_2 b1_3 x5 x6 t h => ?_, fun K hK x7 x8 x9 b0_0 b0_1 b0_2 b0_3 b1_0 b1_1 b1_2 b1_3 x5 x6 t h => ?_⟩
  all_goals (rcases n with _ | k)
  all_goals (try (exact nos h))
  all_goals (obtain ⟨K, rfl⟩ : ∃ q, K = q + 1 := ⟨K - 1, by omega⟩)
  all_goals (first | rw [spec_l5Shared.e4] | rw [spec_l5Shared.e8])
  all_goals (simp only [spec_l5Shared.l0, spec_l5Shared.l1] at h)
  repeat' (with_reducible first
   | exact nos h
   | (cases some_inj h; exact spec_l5Shared.rt _)
   | exact (ih _ (by omega)).1 _ (by omega) _ _ _ _ _ _ _ _ _ _ _ _ h
   | exact (ih _ (by omega)).2 _ (by omega) _ _ _ _ _ _ _ _ _ _ _ _ _ _ h
   | ((have q : spec_l5Shared.j1 k _ _ _ _ _ _ _ _ _ _ _ _ = some _ := h; clear q); rcases k with _ | k <;> simp only [spec_l5Shared.j1, reduceCtorEq] at h)
   | (simp only [Option.bind_some] at h)
   | (refine ite_by h (fun hc h => ?_) (fun hc h => ?_) <;> (try simp only [nrm] at hc))
   | refine itT ?_ (by first | assumption | omega | (simp only [nrm]; first | done | assumption | omega) | (simp only [nln] at hc ⊢; omega))
   | refine itF ?_ (by first | assumption | omega | (simp only [nrm]; first | done | assumption | omega) | (simp only [nln] at hc ⊢; omega))
   | (refine bind_by h (fun t ht h => ?_); refine (spec_IsOn.ap_of (spec_IsOn.go ht _)).trans ?_; (try dsimp only at h ⊢))
   | (simp only [decide_not, Bool.decide_and, decide_true, Bool.and_true, Bool.not_and, beqI, Int.toNat_natCast, List.take_length] at h ⊢)
   | (exfalso; omega))
theorem spec_l5Shared.go {k : Nat} {a0_0 : Int} {a0_1 : Int} {a0_2 : Int} {a0_3 : Int} {a1_0 : Int} {a1_1 : Int} {a1_2 : Int} {a1_3 : Int} {t} (h : spec_l5Shared.f k a0_0 a0_1 a0_2 a0_3 a1_0 a1_1 a1_2 a1_3 = some t) (K : Nat) (hK : k ≤ K) : spec_l5Shared.run K ((⟨(⟨a0_0, a0_1⟩ : S82), (⟨a0_2, a0_3⟩ : S82)⟩ : S85), (⟨(⟨a1_0, a1_1⟩ : S82), (⟨a1_2, a1_3⟩ : S82)⟩ : S85), ()) = some (spec_l5Shared.toH t) := by
  rw [spec_l5Shared.ef]
  (try dsimp only)
  unfold spec_l5Shared.f at h
  repeat' (with_reducible first
   | exact nos h
   | (cases some_inj h; exact spec_l5Shared.rt _)
   | exact (spec_l5Shared.br _).1 _ (by omega) _ _ _ _ _ _ _ _ _ _ _ _ h
   | exact (spec_l5Shared.br _).2 _ (by omega) _ _ _ _ _ _ _ _ _ _ _ _ _ _ h
   | ((have q : spec_l5Shared.j1 k _ _ _ _ _ _ _ _ _ _ _ _ = some _ := h; clear q); rcases k with _ | k <;> simp only [spec_l5Shared.j1, reduceCtorEq] at h)
   | (simp only [Option.bind_some] at h)
   | (refine ite_by h (fun hc h => ?_) (fun hc h => ?_) <;> (try simp only [nrm] at hc))
   | refine itT ?_ (by first | assumption | omega | (simp only [nrm]; first | done | assumption | omega) | (simp only [nln] at hc ⊢; omega))
   | refine itF ?_ (by first | assumption | omega | (simp only [nrm]; first | done | assumption | omega) | (simp only [nln] at hc ⊢; omega))
   | (refine bind_by h (fun t ht h => ?_); refine (spec_IsOn.ap_of (spec_IsOn.go ht _)).trans ?_; (try dsimp only at h ⊢))
   | (simp only [decide_not, Bool.decide_and, decide_true, Bool.and_true, Bool.not_and, beqI, Int.toNat_natCast, List.take_length] at h ⊢)
   | (exfalso; omega))
theorem spec_l5Shared.calls (k : Nat) (a0_0 : Int) (a0_1 : Int) (a0_2 : Int) (a0_3 : Int) (a1_0 : Int) (a1_1 : Int) (a1_2 : Int) (a1_3 : Int) (r : Int) (w : World) (h : spec_l5Shared.f k a0_0 a0_1 a0_2 a0_3 a1_0 a1_1 a1_2 a1_3 = some r) :
  Calls Try.prog 168 #[.agg #[.int .i64 a0_0, .int .i64 a0_1, .int .i64 a0_2, .int .i64 a0_3], .agg #[.int .i64 a1_0, .int .i64 a1_1, .int .i64 a1_2, .int .i64 a1_3]] w fun e w' => e = .returned (.int .i64 r) ∧ Below w.heap.size w w' := by
  refine (spec_l5Shared.snd.calls _ _ _ (spec_l5Shared.go h k (Nat.le_refl k)) w [.agg #[.int .i64 a0_0, .int .i64 a0_1, .int .i64 a0_2, .int .i64 a0_3], .agg #[.int .i64 a1_0, .int .i64 a1_1, .int .i64 a1_2, .int .i64 a1_3]] ⟨⟨_, rfl, (H85.K _ _ _).2 ⟨rfl, rfl, rfl, rfl, trivial⟩⟩, ⟨_, rfl, (H85.K _ _ _).2 ⟨rfl, rfl, rfl, rfl, trivial⟩⟩, trivial⟩).mono ?_
  rintro e w' ⟨v, rfl, hB, vs, oks, rfl, hR, _⟩
  obtain ⟨x0_, vs, o0_, oks, rfl, rfl, m0_, hR⟩ := rmsC hR
  obtain rfl := rmsN hR
  obtain rfl := List.singleton_inj.1 (show [x0_] = [Value.int .i64 r] from m0_)
  exact ⟨rfl, hB⟩
theorem spec_HowMeet.any (a b c d e f g h : Int) (w : World) : Calls Try.prog 145 #[.agg #[.int .i64 a, .int .i64 b, .int .i64 c, .int .i64 d], .agg #[.int .i64 e, .int .i64 f, .int .i64 g, .int .i64 h]] w fun e_ w' => e_ = .returned (.int .i64 (howS a b c d e f g h)) ∧ Below w.heap.size w w' := by
  unfold howS
  cases hs : isSeg a b c d
  · rw [if_pos (.inl rfl)]; exact spec_HowMeet.no1 a b c d e f g h hs w
  · cases ht : isSeg e f g h
    · rw [if_pos (.inr rfl)]; exact spec_HowMeet.no2 a b c d e f g h hs ht w
    · obtain ⟨y1, y2⟩ := wrap_three _ _ (sd_bd a b c d e f) (sd_bd a b c d g h); obtain ⟨y3, y4⟩ := wrap_three _ _ (sd_bd e f g h a b) (sd_bd e f g h c d); obtain ⟨K, hK⟩ := share_s a b c d e f g h; refine (spec_HowMeet.wlk a b c d e f g h _ _ _ _ _ _ (shareI a b c d e f g h) _ _ _ _ hs ht rfl rfl rfl rfl rfl rfl rfl rfl rfl rfl y2 y4 (fun W => spec_l5Shared.calls K _ _ _ _ _ _ _ _ _ W (hK K (Nat.le_refl _))) w).mono ?_; rintro e_ w' ⟨rfl, hb⟩; refine ⟨?_, hb⟩; rw [y1, y3, if_neg (show ¬ (true = false ∨ true = false) by simp)]; simp only [Bool.or_eq_true, decide_eq_true_eq, or_assoc]
theorem spec_HowMeet.calls (a0_0 : Int) (a0_1 : Int) (a0_2 : Int) (a0_3 : Int) (a1_0 : Int) (a1_1 : Int) (a1_2 : Int) (a1_3 : Int) (r : Int) (w : World) (h : spec_HowMeet.f a0_0 a0_1 a0_2 a0_3 a1_0 a1_1 a1_2 a1_3 = some r) :
    Calls Try.prog 145 #[.agg #[.int .i64 a0_0, .int .i64 a0_1, .int .i64 a0_2, .int .i64 a0_3], .agg #[.int .i64 a1_0, .int .i64 a1_1, .int .i64 a1_2, .int .i64 a1_3]] w fun e w' => e = .returned (.int .i64 r) ∧ Below w.heap.size w w' := by
  obtain rfl := Option.some.inj h
  exact spec_HowMeet.any a0_0 a0_1 a0_2 a0_3 a1_0 a1_1 a1_2 a1_3 w
def spec_HowMeet.toH (t : Int) : HL eΓ [.i .i64] := (t, ())
def spec_HowMeet.run (k : Nat) (h : HL eΓ [.st .s85, .st .s85]) : Option (HL eΓ [.i .i64]) := (spec_HowMeet.f ((h.1 : S85).f0.f0) ((h.1 : S85).f0.f1) ((h.1 : S85).f1.f0) ((h.1 : S85).f1.f1) ((h.2.1 : S85).f0.f0) ((h.2.1 : S85).f0.f1) ((h.2.1 : S85).f1.f0) ((h.2.1 : S85).f1.f1)).map spec_HowMeet.toH
def spec_HowMeet.spec : Spc env := ⟨145, [.st .s85, .st .s85], [.i .i64], spec_HowMeet.run⟩
def spec_HowMeet.ap {R : Type} (k : Nat) (h0 : S85) (h1 : S85) (K : Int → Option R) : Option R := (spec_HowMeet.run k (h0, h1, ())).bind fun r => K (r.1 : Int)
theorem spec_HowMeet.ap_of {R : Type} {k : Nat} {h0 : S85} {h1 : S85} {r0 : Int} {K : Int → Option R} (h : spec_HowMeet.run k (h0, h1, ()) = some (r0, ())) : spec_HowMeet.ap k h0 h1 K = K r0 := by unfold spec_HowMeet.ap; rw [h]; rfl
theorem spec_HowMeet.go {a0_0 : Int} {a0_1 : Int} {a0_2 : Int} {a0_3 : Int} {a1_0 : Int} {a1_1 : Int} {a1_2 : Int} {a1_3 : Int} {t} (h : spec_HowMeet.f a0_0 a0_1 a0_2 a0_3 a1_0 a1_1 a1_2 a1_3 = some t) (K : Nat) : spec_HowMeet.run K ((⟨(⟨a0_0, a0_1⟩ : S82), (⟨a0_2, a0_3⟩ : S82)⟩ : S85), (⟨(⟨a1_0, a1_1⟩ : S82), (⟨a1_2, a1_3⟩ : S82)⟩ : S85), ()) = some (spec_HowMeet.toH t) := by
  show Option.map _ (spec_HowMeet.f a0_0 a0_1 a0_2 a0_3 a1_0 a1_1 a1_2 a1_3) = _
  rw [h]; rfl
theorem spec_HowMeet.snd : Snd env spec_HowMeet.spec := ⟨⟨Try.f145, by kernel_rfl, by kernel_rfl, by kernel_rfl⟩, fun k h r he w us hA => by
  obtain ⟨t, ht, rfl⟩ := Option.map_eq_some_iff.1 (show (spec_HowMeet.f ((h.1 : S85).f0.f0) ((h.1 : S85).f0.f1) ((h.1 : S85).f1.f0) ((h.1 : S85).f1.f1) ((h.2.1 : S85).f0.f0) ((h.2.1 : S85).f0.f1) ((h.2.1 : S85).f1.f0) ((h.2.1 : S85).f1.f1)).map spec_HowMeet.toH = some r from he)
  match us, hA with
  | [u0, u1], ⟨q0, q1, _⟩ =>
  obtain ⟨v0, rfl, q0⟩ := q0
  have q0 := (H85.K _ _ _).1 q0
  match e0 : v0.toList, q0 with
  | [c0_0, c0_1, c0_2, c0_3], ⟨p0_0, p0_1, p0_2, p0_3, _⟩ =>
  obtain rfl : v0 = #[c0_0, c0_1, c0_2, c0_3] := by rw [← Array.toArray_toList (xs := v0), e0]
  obtain rfl := List.singleton_inj.1 (show [c0_0] = [Value.int .i64 ((h.1 : S85).f0.f0)] from p0_0)
  obtain rfl := List.singleton_inj.1 (show [c0_1] = [Value.int .i64 ((h.1 : S85).f0.f1)] from p0_1)
  obtain rfl := List.singleton_inj.1 (show [c0_2] = [Value.int .i64 ((h.1 : S85).f1.f0)] from p0_2)
  obtain rfl := List.singleton_inj.1 (show [c0_3] = [Value.int .i64 ((h.1 : S85).f1.f1)] from p0_3)
  obtain ⟨v1, rfl, q1⟩ := q1
  have q1 := (H85.K _ _ _).1 q1
  match e1 : v1.toList, q1 with
  | [c1_0, c1_1, c1_2, c1_3], ⟨p1_0, p1_1, p1_2, p1_3, _⟩ =>
  obtain rfl : v1 = #[c1_0, c1_1, c1_2, c1_3] := by rw [← Array.toArray_toList (xs := v1), e1]
  obtain rfl := List.singleton_inj.1 (show [c1_0] = [Value.int .i64 ((h.2.1 : S85).f0.f0)] from p1_0)
  obtain rfl := List.singleton_inj.1 (show [c1_1] = [Value.int .i64 ((h.2.1 : S85).f0.f1)] from p1_1)
  obtain rfl := List.singleton_inj.1 (show [c1_2] = [Value.int .i64 ((h.2.1 : S85).f1.f0)] from p1_2)
  obtain rfl := List.singleton_inj.1 (show [c1_3] = [Value.int .i64 ((h.2.1 : S85).f1.f1)] from p1_3)
  refine (spec_HowMeet.calls (w := w) (h := ht) ).mono ?_
  rintro e w' ⟨he, hw⟩
  exact ⟨_, he, hw, [.int .i64 t], [fun _ => False], rfl, ⟨rfl, trivial⟩, by simp [DJ]⟩⟩
def spec_l7Segments.Fs : List (Spc env) := []
def spec_l7Segments.fin : St eΓ → Option (HL eΓ [.l 85 (.st .s85)]) := finR env Try.f147.results.toList [.l 85 (.st .s85)]
def spec_l7Segments.cut : Nat → Option (List (Lv SC)) := lk [(3, [⟨0, none, false⟩, ⟨3, none, false⟩, ⟨4, none, false⟩])]
def spec_l7Segments.ret (r0 : List S85) : Option (HL eΓ [.l 85 (.st .s85)]) := some (r0, ())
def spec_l7Segments.p3 (k : Nat) (x4 : Int) (x0 : List S82) (x3 : List S85) : Option (HL eΓ [.l 85 (.st .s85)]) := evM env spec_l7Segments.Fs Try.f147.ntmps spec_l7Segments.fin spec_l7Segments.cut k [.code (sub_ [1, 1, 0, 1, 0, 0, 0, 0] (bodyOf Try.f147)), .code (sub_ [1, 1, 0, 1, 0, 0, 0, 1] (bodyOf Try.f147)), .code (sub_ [1, 1, 0, 1, 0, 0, 1] (bodyOf Try.f147)), .lp (sub_ [1, 1, 0, 1, 0, 0] (bodyOf Try.f147)), .blk 0, .code (sub_ [1, 1, 1] (bodyOf Try.f147))] (mkSt [(0, .c (.sl 0)), (3, .c (.sl 1)), (4, .c (.v (.int .i64 x4)))] [.row .ro 82 (.st .s82) x0, .row .own 85 (.st .s85) x3])
theorem spec_l7Segments.e3 (k : Nat) (x4 : Int) (x0 : List S82) (x3 : List S85) : spec_l7Segments.p3 (k + 1) x4 x0 x3 = if x4 < (x0.length : Int) then (if 0 ≤ x4 then (if x4 < (x0.length : Int) then (if (x0.length : Int) = 0 then none else (if 0 ≤ (Int.tmod (wrap64 (x4 + 1)) (x0.length : Int)) then (if (Int.tmod (wrap64 (x4 + 1)) (x0.length : Int)) < (x0.length : Int) then (if (x3.length + 1) * 32 ≤ 140737488355328 then (spec_l7Segments.p3 k (wrap64 (x4 + 1)) x0 (x3 ++ [(⟨(⟨(rd_T82 x0 x4).f0, (rd_T82 x0 x4).f1⟩ : S82), (⟨(rd_T82 x0 (Int.tmod (wrap64 (x4 + 1)) (x0.length : Int))).f0, (rd_T82 x0 (Int.tmod (wrap64 (x4 + 1)) (x0.length : Int))).f1⟩ : S82)⟩ : S85)])) else none) else none) else none)) else none) else none) else (spec_l7Segments.ret x3) := by kernel_rfl
def spec_l7Segments.run (k : Nat) (h : HL eΓ [.l 82 (.st .s82)]) : Option (HL eΓ [.l 85 (.st .s85)]) := evF env spec_l7Segments.Fs Try.f147 spec_l7Segments.cut [.l 82 (.st .s82)] [.l 85 (.st .s85)] k h
theorem spec_l7Segments.ef (k : Nat) (h0 : List S82) : spec_l7Segments.run k (h0, ()) = spec_l7Segments.p3 k 0 h0 ([] : List S85) := by kernel_rfl
def spec_l7Segments.toH (t : (List (S85))) : HL eΓ [.l 85 (.st .s85)] := (t, ())
def spec_l7Segments.spec : Spc env := ⟨147, [.l 82 (.st .s82)], [.l 85 (.st .s85)], spec_l7Segments.run⟩
def spec_l7Segments.ap {R : Type} (k : Nat) (h0 : List S82) (K : (List S85) → Option R) : Option R := (spec_l7Segments.run k (h0, ())).bind fun r => K (r.1 : List S85)
theorem spec_l7Segments.ap_of {R : Type} {k : Nat} {h0 : List S82} {r0 : List S85} {K : (List S85) → Option R} (h : spec_l7Segments.run k (h0, ()) = some (r0, ())) : spec_l7Segments.ap k h0 K = K r0 := by unfold spec_l7Segments.ap; rw [h]; rfl
theorem spec_l7Segments.snd : Snd env spec_l7Segments.spec := evF_snd env_ok (sndN) (by kernel_rfl) (by kernel_rfl) (by kernel_rfl)
attribute [local irreducible] spec_l7Segments.run
theorem spec_l7Segments.rt (a0 : List S85) : spec_l7Segments.ret a0 = some (spec_l7Segments.toH (a0)) := rfl
theorem spec_l7Segments.br (n : Nat) : (∀ K, n ≤ K → ∀ (x4 : Int) (x0 : List S82) (x3 : List S85) t, spec_l7Segments.l0 n x0 x3 x4 = some t → spec_l7Segments.p3 K x4 x0 x3 = some (spec_l7Segments.toH t)) := by
  induction n using Nat.strongRecOn with
  | _ n ih =>
  intro K hK x4 x0 x3 t h
  all_goals (rcases n with _ | k)
  all_goals (try (exact nos h))
  all_goals (obtain ⟨K, rfl⟩ : ∃ q, K = q + 1 := ⟨K - 1, by omega⟩)
  all_goals (first | rw [spec_l7Segments.e3])
  all_goals (simp only [spec_l7Segments.l0] at h)
  repeat' (with_reducible first
   | exact nos h
   | (cases some_inj h; exact spec_l7Segments.rt _)
   | exact (ih _ (by omega)) _ (by omega) _ _ _ _ h
   | (simp only [Option.bind_some] at h)
   | (refine ite_by h (fun hc h => ?_) (fun hc h => ?_) <;> (try simp only [nrm] at hc))
   | refine itT ?_ (by first | assumption | omega | (simp only [nrm]; first | done | assumption | omega) | (simp only [nln] at hc ⊢; omega))
   | refine itF ?_ (by first | assumption | omega | (simp only [nrm]; first | done | assumption | omega) | (simp only [nln] at hc ⊢; omega))
   | (simp only [decide_not, Bool.decide_and, decide_true, Bool.and_true, Bool.not_and, beqI, Int.toNat_natCast, List.take_length] at h ⊢)
   | (exfalso; omega))
theorem spec_l7Segments.go {k : Nat} {l0 : List S82} {t} (h : spec_l7Segments.f k l0 = some t) (K : Nat) (hK : k ≤ K) : spec_l7Segments.run K (l0, ()) = some (spec_l7Segments.toH t) := by
  rw [spec_l7Segments.ef]
  (try dsimp only)
  unfold spec_l7Segments.f at h
  repeat' (with_reducible first
   | exact nos h
   | (cases some_inj h; exact spec_l7Segments.rt _)
   | exact (spec_l7Segments.br _) _ (by omega) _ _ _ _ h
   | (simp only [Option.bind_some] at h)
   | (refine ite_by h (fun hc h => ?_) (fun hc h => ?_) <;> (try simp only [nrm] at hc))
   | refine itT ?_ (by first | assumption | omega | (simp only [nrm]; first | done | assumption | omega) | (simp only [nln] at hc ⊢; omega))
   | refine itF ?_ (by first | assumption | omega | (simp only [nrm]; first | done | assumption | omega) | (simp only [nln] at hc ⊢; omega))
   | (simp only [decide_not, Bool.decide_and, decide_true, Bool.and_true, Bool.not_and, beqI, Int.toNat_natCast, List.take_length] at h ⊢)
   | (exfalso; omega))
def spec_IsRing.Fs : List (Spc env) := [spec_l1In.spec, spec_l7Segments.spec, spec_IsSegment.spec, spec_HowMeet.spec]
def spec_IsRing.fin : St eΓ → Option (HL eΓ [.b]) := finR env Try.f109.results.toList [.b]
def spec_IsRing.cut : Nat → Option (List (Lv SC)) := lk [(5, [⟨3, none, false⟩, ⟨4, none, false⟩]), (10, [⟨3, none, false⟩, ⟨4, none, false⟩, ⟨5, none, false⟩])]
def spec_IsRing.ret (r0 : Bool) : Option (HL eΓ [.b]) := some (r0, ())
def spec_IsRing.p5 (k : Nat) (x4 : Int) (x3 : List S85) : Option (HL eΓ [.b]) := evM env spec_IsRing.Fs Try.f109.ntmps spec_IsRing.fin spec_IsRing.cut k [.code (sub_ [1, 1, 1, 0, 1, 0, 0, 0, 0] (bodyOf Try.f109)), .code (sub_ [1, 1, 1, 0, 1, 0, 0, 0, 1] (bodyOf Try.f109)), .code (sub_ [1, 1, 1, 0, 1, 0, 0, 1] (bodyOf Try.f109)), .lp (sub_ [1, 1, 1, 0, 1, 0, 0] (bodyOf Try.f109)), .blk 0, .code (sub_ [1, 1, 1, 1] (bodyOf Try.f109))] (mkSt [(3, .c (.sl 0)), (4, .c (.v (.int .i64 x4)))] [.row .own 85 (.st .s85) x3])
def spec_IsRing.p10 (k : Nat) (x4 : Int) (x5 : Int) (x3 : List S85) : Option (HL eΓ [.b]) := evM env spec_IsRing.Fs Try.f109.ntmps spec_IsRing.fin spec_IsRing.cut k [.code (sub_ [1, 1, 1, 0, 1, 0, 0, 1, 0, 0, 1, 1, 0, 0, 0, 0] (bodyOf Try.f109)), .code (sub_ [1, 1, 1, 0, 1, 0, 0, 1, 0, 0, 1, 1, 0, 0, 0, 1] (bodyOf Try.f109)), .code (sub_ [1, 1, 1, 0, 1, 0, 0, 1, 0, 0, 1, 1, 0, 0, 1] (bodyOf Try.f109)), .lp (sub_ [1, 1, 1, 0, 1, 0, 0, 1, 0, 0, 1, 1, 0, 0] (bodyOf Try.f109)), .blk 2, .blk 1, .code (sub_ [1, 1, 1, 0, 1, 0, 0, 1, 1] (bodyOf Try.f109)), .lp (sub_ [1, 1, 1, 0, 1, 0, 0] (bodyOf Try.f109)), .blk 0, .code (sub_ [1, 1, 1, 1] (bodyOf Try.f109))] (mkSt [(3, .c (.sl 0)), (4, .c (.v (.int .i64 x4))), (5, .c (.v (.int .i64 x5)))] [.row .own 85 (.st .s85) x3])
theorem spec_IsRing.e5 (k : Nat) (x4 : Int) (x3 : List S85) : spec_IsRing.p5 (k + 1) x4 x3 = if x4 < (x3.length : Int) then (if 0 ≤ x4 then (if x4 < (x3.length : Int) then (spec_IsSegment.ap k (⟨(⟨(rd_T85 x3 x4).f0.f0, (rd_T85 x3 x4).f0.f1⟩ : S82), (⟨(rd_T85 x3 x4).f1.f0, (rd_T85 x3 x4).f1.f1⟩ : S82)⟩ : S85) fun r1 => if (!r1) = true then (spec_IsRing.ret false) else (spec_IsRing.p10 k x4 0 x3)) else none) else none) else (spec_IsRing.ret true) := by kernel_rfl
theorem spec_IsRing.e10 (k : Nat) (x4 : Int) (x5 : Int) (x3 : List S85) : spec_IsRing.p10 (k + 1) x4 x5 x3 = if x5 < x4 then (if (wrap64 (x5 + 1)) = x4 then (if 0 ≤ x4 then (if x4 < (x3.length : Int) then (if 0 ≤ x5 then (if x5 < (x3.length : Int) then (spec_HowMeet.ap k (⟨(⟨(rd_T85 x3 x4).f0.f0, (rd_T85 x3 x4).f0.f1⟩ : S82), (⟨(rd_T85 x3 x4).f1.f0, (rd_T85 x3 x4).f1.f1⟩ : S82)⟩ : S85) (⟨(⟨(rd_T85 x3 x5).f0.f0, (rd_T85 x3 x5).f0.f1⟩ : S82), (⟨(rd_T85 x3 x5).f1.f0, (rd_T85 x3 x5).f1.f1⟩ : S82)⟩ : S85) fun r1 => if ¬ r1 = 1 then (spec_IsRing.ret false) else (spec_IsRing.p10 k x4 (wrap64 (x5 + 1)) x3)) else none) else none) else none) else none) else (if x5 = 0 then (if (wrap64 (x4 + 1)) = (x3.length : Int) then (if 0 ≤ x4 then (if x4 < (x3.length : Int) then (if 0 ≤ x5 then (if x5 < (x3.length : Int) then (spec_HowMeet.ap k (⟨(⟨(rd_T85 x3 x4).f0.f0, (rd_T85 x3 x4).f0.f1⟩ : S82), (⟨(rd_T85 x3 x4).f1.f0, (rd_T85 x3 x4).f1.f1⟩ : S82)⟩ : S85) (⟨(⟨(rd_T85 x3 x5).f0.f0, (rd_T85 x3 x5).f0.f1⟩ : S82), (⟨(rd_T85 x3 x5).f1.f0, (rd_T85 x3 x5).f1.f1⟩ : S82)⟩ : S85) fun r2 => if ¬ r2 = 1 then (spec_IsRing.ret false) else (spec_IsRing.p10 k x4 (wrap64 (x5 + 1)) x3)) else none) else none) else none) else none) else (if 0 ≤ x4 then (if x4 < (x3.length : Int) then (if 0 ≤ x5 then (if x5 < (x3.length : Int) then (spec_HowMeet.ap k (⟨(⟨(rd_T85 x3 x4).f0.f0, (rd_T85 x3 x4).f0.f1⟩ : S82), (⟨(rd_T85 x3 x4).f1.f0, (rd_T85 x3 x4).f1.f1⟩ : S82)⟩ : S85) (⟨(⟨(rd_T85 x3 x5).f0.f0, (rd_T85 x3 x5).f0.f1⟩ : S82), (⟨(rd_T85 x3 x5).f1.f0, (rd_T85 x3 x5).f1.f1⟩ : S82)⟩ : S85) fun r3 => if ¬ r3 = 0 then (spec_IsRing.ret false) else (spec_IsRing.p10 k x4 (wrap64 (x5 + 1)) x3)) else none) else none) else none) else none)) else (if 0 ≤ x4 then (if x4 < (x3.length : Int) then (if 0 ≤ x5 then (if x5 < (x3.length : Int) then (spec_HowMeet.ap k (⟨(⟨(rd_T85 x3 x4).f0.f0, (rd_T85 x3 x4).f0.f1⟩ : S82), (⟨(rd_T85 x3 x4).f1.f0, (rd_T85 x3 x4).f1.f1⟩ : S82)⟩ : S85) (⟨(⟨(rd_T85 x3 x5).f0.f0, (rd_T85 x3 x5).f0.f1⟩ : S82), (⟨(rd_T85 x3 x5).f1.f0, (rd_T85 x3 x5).f1.f1⟩ : S82)⟩ : S85) fun r4 => if ¬ r4 = 0 then (spec_IsRing.ret false) else (spec_IsRing.p10 k x4 (wrap64 (x5 + 1)) x3)) else none) else none) else none) else none))) else (spec_IsRing.p5 k (wrap64 (x4 + 1)) x3) := by kernel_rfl
def spec_IsRing.run (k : Nat) (h : HL eΓ [.l 82 (.st .s82)]) : Option (HL eΓ [.b]) := evF env spec_IsRing.Fs Try.f109 spec_IsRing.cut [.l 82 (.st .s82)] [.b] k h
theorem spec_IsRing.ef (k : Nat) (h0 : List S82) : spec_IsRing.run k (h0, ()) = spec_l1In.ap k (h0.length : Int) 3 10 fun r1 => if (!r1) = true then (spec_IsRing.ret false) else (spec_l7Segments.ap k h0 fun r2 => spec_IsRing.p5 k 0 r2) := by kernel_rfl
def spec_IsRing.toH (t : Bool) : HL eΓ [.b] := (t, ())
def spec_IsRing.spec : Spc env := ⟨109, [.l 82 (.st .s82)], [.b], spec_IsRing.run⟩
def spec_IsRing.ap {R : Type} (k : Nat) (h0 : List S82) (K : Bool → Option R) : Option R := (spec_IsRing.run k (h0, ())).bind fun r => K (r.1 : Bool)
theorem spec_IsRing.ap_of {R : Type} {k : Nat} {h0 : List S82} {r0 : Bool} {K : Bool → Option R} (h : spec_IsRing.run k (h0, ()) = some (r0, ())) : spec_IsRing.ap k h0 K = K r0 := by unfold spec_IsRing.ap; rw [h]; rfl
theorem spec_IsRing.snd : Snd env spec_IsRing.spec := evF_snd env_ok (sndC spec_l1In.snd (sndC spec_l7Segments.snd (sndC spec_IsSegment.snd (sndC spec_HowMeet.snd (sndN))))) (by kernel_rfl) (by kernel_rfl) (by kernel_rfl)
attribute [local irreducible] spec_IsRing.run
theorem spec_IsRing.rt (a0 : Bool) : spec_IsRing.ret a0 = some (spec_IsRing.toH (a0)) := rfl
theorem spec_IsRing.br (n : Nat) : (∀ K, n ≤ K → ∀ (x4 : Int) (x3 : List S85) t, spec_IsRing.l0 n x3 x4 = some t → spec_IsRing.p5 K x4 x3 = some (spec_IsRing.toH t)) ∧ (∀ K, n ≤ K → ∀ (x4 : Int) (x5 : Int) (x3 : List S85) t, spec_IsRing.l1 n x3 x4 x5 = some t → spec_IsRing.p10 K x4 x5 x3 = some (spec_IsRing.toH t)) := by
  induction n using Nat.strongRecOn with
  | _ n ih =>
  refine ⟨fun K hK x4 x3 t h => ?_, fun K hK x4 x5 x3 t h => ?_⟩
  all_goals (rcases n with _ | k)
  all_goals (try (exact nos h))
  all_goals (obtain ⟨K, rfl⟩ : ∃ q, K = q + 1 := ⟨K - 1, by omega⟩)
  all_goals (first | rw [spec_IsRing.e5] | rw [spec_IsRing.e10])
  all_goals (simp only [spec_IsRing.l0, spec_IsRing.l1] at h)
  repeat' (with_reducible first
   | exact nos h
   | (cases some_inj h; exact spec_IsRing.rt _)
   | exact (ih _ (by omega)).1 _ (by omega) _ _ _ h
   | exact (ih _ (by omega)).2 _ (by omega) _ _ _ _ h
   | ((have q : spec_IsRing.j2 k _ _ _ _ _ = some _ := h; clear q); rcases k with _ | k <;> simp only [spec_IsRing.j2, reduceCtorEq] at h)
   | (simp only [Option.bind_some] at h)
   | (refine ite_by h (fun hc h => ?_) (fun hc h => ?_) <;> (try simp only [nrm] at hc))
   | refine itT ?_ (by first | assumption | omega | (simp only [nrm]; first | done | assumption | omega) | (simp only [nln] at hc ⊢; omega))
   | refine itF ?_ (by first | assumption | omega | (simp only [nrm]; first | done | assumption | omega) | (simp only [nln] at hc ⊢; omega))
   | (refine bind_by h (fun t ht h => ?_); (first | refine (spec_l1In.ap_of (spec_l1In.go ht _)).trans ?_ | refine (spec_l7Segments.ap_of (spec_l7Segments.go ht _ (by omega))).trans ?_ | refine (spec_IsSegment.ap_of (spec_IsSegment.go ht _)).trans ?_ | refine (spec_HowMeet.ap_of (spec_HowMeet.go ht _)).trans ?_); (try dsimp only at h ⊢))
   | (simp only [decide_not, Bool.decide_and, decide_true, Bool.and_true, Bool.not_and, beqI, Int.toNat_natCast, List.take_length] at h ⊢)
   | (exfalso; omega))
theorem spec_IsRing.go {k : Nat} {l0 : List S82} {t} (h : spec_IsRing.f k l0 = some t) (K : Nat) (hK : k ≤ K) : spec_IsRing.run K (l0, ()) = some (spec_IsRing.toH t) := by
  rw [spec_IsRing.ef]
  (try dsimp only)
  unfold spec_IsRing.f at h
  repeat' (with_reducible first
   | exact nos h
   | (cases some_inj h; exact spec_IsRing.rt _)
   | exact (spec_IsRing.br _).1 _ (by omega) _ _ _ h
   | exact (spec_IsRing.br _).2 _ (by omega) _ _ _ _ h
   | ((have q : spec_IsRing.j2 k _ _ _ _ _ = some _ := h; clear q); rcases k with _ | k <;> simp only [spec_IsRing.j2, reduceCtorEq] at h)
   | (simp only [Option.bind_some] at h)
   | (refine ite_by h (fun hc h => ?_) (fun hc h => ?_) <;> (try simp only [nrm] at hc))
   | refine itT ?_ (by first | assumption | omega | (simp only [nrm]; first | done | assumption | omega) | (simp only [nln] at hc ⊢; omega))
   | refine itF ?_ (by first | assumption | omega | (simp only [nrm]; first | done | assumption | omega) | (simp only [nln] at hc ⊢; omega))
   | (refine bind_by h (fun t ht h => ?_); (first | refine (spec_l1In.ap_of (spec_l1In.go ht _)).trans ?_ | refine (spec_l7Segments.ap_of (spec_l7Segments.go ht _ (by omega))).trans ?_ | refine (spec_IsSegment.ap_of (spec_IsSegment.go ht _)).trans ?_ | refine (spec_HowMeet.ap_of (spec_HowMeet.go ht _)).trans ?_); (try dsimp only at h ⊢))
   | (simp only [decide_not, Bool.decide_and, decide_true, Bool.and_true, Bool.not_and, beqI, Int.toNat_natCast, List.take_length] at h ⊢)
   | (exfalso; omega))
def spec_IsName.Fs : List (Spc env) := [spec_l1In.spec]
def spec_IsName.fin : St eΓ → Option (HL eΓ [.b]) := finR env Try.f116.results.toList [.b]
def spec_IsName.cut : Nat → Option (List (Lv SC)) := lk [(2, [⟨0, none, false⟩, ⟨3, none, false⟩])]
def spec_IsName.ret (r0 : Bool) : Option (HL eΓ [.b]) := some (r0, ())
def spec_IsName.p2 (k : Nat) (x0 : ByteArray) (x3 : Int) : Option (HL eΓ [.b]) := evM env spec_IsName.Fs Try.f116.ntmps spec_IsName.fin spec_IsName.cut k [.code (sub_ [1, 0, 1, 0, 0, 0, 0] (bodyOf Try.f116)), .code (sub_ [1, 0, 1, 0, 0, 0, 1] (bodyOf Try.f116)), .code (sub_ [1, 0, 1, 0, 0, 1] (bodyOf Try.f116)), .lp (sub_ [1, 0, 1, 0, 0] (bodyOf Try.f116)), .blk 0, .code (sub_ [1, 1] (bodyOf Try.f116))] (mkSt [(0, .c (.v (.string x0))), (3, .c (.v (.int .i64 x3)))] [])
theorem spec_IsName.e2 (k : Nat) (x0 : ByteArray) (x3 : Int) : spec_IsName.p2 (k + 1) x0 x3 = if x3 < (x0.size : Int) then (if 0 ≤ x3 then (if x3 < (x0.size : Int) then (if (bt x0 x3) < 97 then (spec_IsName.ret false) else (if 0 ≤ x3 then (if x3 < (x0.size : Int) then (if (bt x0 x3) > 122 then (spec_IsName.ret false) else (spec_IsName.p2 k x0 (wrap64 (x3 + 1)))) else none) else none)) else none) else none) else (spec_l1In.ap k (x0.size : Int) 1 8 fun r1 => spec_IsName.ret r1) := by kernel_rfl
def spec_IsName.run (k : Nat) (h : HL eΓ [.s]) : Option (HL eΓ [.b]) := evF env spec_IsName.Fs Try.f116 spec_IsName.cut [.s] [.b] k h
theorem spec_IsName.ef (k : Nat) (h0 : ByteArray) : spec_IsName.run k (h0, ()) = spec_IsName.p2 k h0 0 := by kernel_rfl
def spec_IsName.toH (t : Bool) : HL eΓ [.b] := (t, ())
def spec_IsName.spec : Spc env := ⟨116, [.s], [.b], spec_IsName.run⟩
def spec_IsName.ap {R : Type} (k : Nat) (h0 : ByteArray) (K : Bool → Option R) : Option R := (spec_IsName.run k (h0, ())).bind fun r => K (r.1 : Bool)
theorem spec_IsName.ap_of {R : Type} {k : Nat} {h0 : ByteArray} {r0 : Bool} {K : Bool → Option R} (h : spec_IsName.run k (h0, ()) = some (r0, ())) : spec_IsName.ap k h0 K = K r0 := by unfold spec_IsName.ap; rw [h]; rfl
theorem spec_IsName.snd : Snd env spec_IsName.spec := evF_snd env_ok (sndC spec_l1In.snd (sndN)) (by kernel_rfl) (by kernel_rfl) (by kernel_rfl)
attribute [local irreducible] spec_IsName.run
theorem spec_IsName.rt (a0 : Bool) : spec_IsName.ret a0 = some (spec_IsName.toH (a0)) := rfl
theorem spec_IsName.br (n : Nat) : (∀ K, n ≤ K → ∀ (x0 : ByteArray) (x3 : Int) t, spec_IsName.l0 n x0 x3 = some t → spec_IsName.p2 K x0 x3 = some (spec_IsName.toH t)) := by
  induction n using Nat.strongRecOn with
  | _ n ih =>
  intro K hK x0 x3 t h
  all_goals (rcases n with _ | k)
  all_goals (try (exact nos h))
  all_goals (obtain ⟨K, rfl⟩ : ∃ q, K = q + 1 := ⟨K - 1, by omega⟩)
  all_goals (first | rw [spec_IsName.e2])
  all_goals (simp only [spec_IsName.l0] at h)
  repeat' (with_reducible first
   | exact nos h
   | (cases some_inj h; exact spec_IsName.rt _)
   | exact (ih _ (by omega)) _ (by omega) _ _ _ h
   | (simp only [Option.bind_some] at h)
   | (refine ite_by h (fun hc h => ?_) (fun hc h => ?_) <;> (try simp only [nrm] at hc))
   | refine itT ?_ (by first | assumption | omega | (simp only [nrm]; first | done | assumption | omega) | (simp only [nln] at hc ⊢; omega))
   | refine itF ?_ (by first | assumption | omega | (simp only [nrm]; first | done | assumption | omega) | (simp only [nln] at hc ⊢; omega))
   | (refine bind_by h (fun t ht h => ?_); refine (spec_l1In.ap_of (spec_l1In.go ht _)).trans ?_; (try dsimp only at h ⊢))
   | (simp only [decide_not, Bool.decide_and, decide_true, Bool.and_true, Bool.not_and, beqI, Int.toNat_natCast, List.take_length] at h ⊢)
   | (exfalso; omega))
theorem spec_IsName.go {k : Nat} {a0 : ByteArray} {t} (h : spec_IsName.f k a0 = some t) (K : Nat) (hK : k ≤ K) : spec_IsName.run K (a0, ()) = some (spec_IsName.toH t) := by
  rw [spec_IsName.ef]
  (try dsimp only)
  unfold spec_IsName.f at h
  repeat' (with_reducible first
   | exact nos h
   | (cases some_inj h; exact spec_IsName.rt _)
   | exact (spec_IsName.br _) _ (by omega) _ _ _ h
   | (simp only [Option.bind_some] at h)
   | (refine ite_by h (fun hc h => ?_) (fun hc h => ?_) <;> (try simp only [nrm] at hc))
   | refine itT ?_ (by first | assumption | omega | (simp only [nrm]; first | done | assumption | omega) | (simp only [nln] at hc ⊢; omega))
   | refine itF ?_ (by first | assumption | omega | (simp only [nrm]; first | done | assumption | omega) | (simp only [nln] at hc ⊢; omega))
   | (refine bind_by h (fun t ht h => ?_); refine (spec_l1In.ap_of (spec_l1In.go ht _)).trans ?_; (try dsimp only at h ⊢))
   | (simp only [decide_not, Bool.decide_and, decide_true, Bool.and_true, Bool.not_and, beqI, Int.toNat_natCast, List.take_length] at h ⊢)
   | (exfalso; omega))
def spec_IsLine.Fs : List (Spc env) := [spec_IsPoint.spec, spec_l1In.spec]
def spec_IsLine.fin : St eΓ → Option (HL eΓ [.b]) := finR env Try.f106.results.toList [.b]
def spec_IsLine.cut : Nat → Option (List (Lv SC)) := lk [(2, [⟨0, none, false⟩, ⟨3, none, false⟩])]
def spec_IsLine.ret (r0 : Bool) : Option (HL eΓ [.b]) := some (r0, ())
def spec_IsLine.p2 (k : Nat) (x3 : Int) (x0 : List S82) : Option (HL eΓ [.b]) := evM env spec_IsLine.Fs Try.f106.ntmps spec_IsLine.fin spec_IsLine.cut k [.code (sub_ [1, 0, 1, 0, 0, 0, 0] (bodyOf Try.f106)), .code (sub_ [1, 0, 1, 0, 0, 0, 1] (bodyOf Try.f106)), .code (sub_ [1, 0, 1, 0, 0, 1] (bodyOf Try.f106)), .lp (sub_ [1, 0, 1, 0, 0] (bodyOf Try.f106)), .blk 0, .code (sub_ [1, 1] (bodyOf Try.f106))] (mkSt [(0, .c (.sl 0)), (3, .c (.v (.int .i64 x3)))] [.row .ro 82 (.st .s82) x0])
theorem spec_IsLine.e2 (k : Nat) (x3 : Int) (x0 : List S82) : spec_IsLine.p2 (k + 1) x3 x0 = if x3 < (x0.length : Int) then (if 0 ≤ x3 then (if x3 < (x0.length : Int) then (spec_IsPoint.ap k (⟨(rd_T82 x0 x3).f0, (rd_T82 x0 x3).f1⟩ : S82) fun r1 => if (!r1) = true then (spec_IsLine.ret false) else (if x3 > 0 then (if 0 ≤ (wrap64 (x3 - 1)) then (if (wrap64 (x3 - 1)) < (x0.length : Int) then (if 0 ≤ x3 then (if x3 < (x0.length : Int) then (if ((rd_T82 x0 (wrap64 (x3 - 1))).f0) = ((rd_T82 x0 x3).f0) ∧ (((rd_T82 x0 (wrap64 (x3 - 1))).f1) = ((rd_T82 x0 x3).f1) ∧ True) then (spec_IsLine.ret false) else (spec_IsLine.p2 k (wrap64 (x3 + 1)) x0)) else none) else none) else none) else none) else (spec_IsLine.p2 k (wrap64 (x3 + 1)) x0))) else none) else none) else (spec_l1In.ap k (x0.length : Int) 2 10 fun r2 => spec_IsLine.ret r2) := by kernel_rfl
def spec_IsLine.run (k : Nat) (h : HL eΓ [.l 82 (.st .s82)]) : Option (HL eΓ [.b]) := evF env spec_IsLine.Fs Try.f106 spec_IsLine.cut [.l 82 (.st .s82)] [.b] k h
theorem spec_IsLine.ef (k : Nat) (h0 : List S82) : spec_IsLine.run k (h0, ()) = spec_IsLine.p2 k 0 h0 := by kernel_rfl
def spec_IsLine.toH (t : Bool) : HL eΓ [.b] := (t, ())
def spec_IsLine.spec : Spc env := ⟨106, [.l 82 (.st .s82)], [.b], spec_IsLine.run⟩
def spec_IsLine.ap {R : Type} (k : Nat) (h0 : List S82) (K : Bool → Option R) : Option R := (spec_IsLine.run k (h0, ())).bind fun r => K (r.1 : Bool)
theorem spec_IsLine.ap_of {R : Type} {k : Nat} {h0 : List S82} {r0 : Bool} {K : Bool → Option R} (h : spec_IsLine.run k (h0, ()) = some (r0, ())) : spec_IsLine.ap k h0 K = K r0 := by unfold spec_IsLine.ap; rw [h]; rfl
theorem spec_IsLine.snd : Snd env spec_IsLine.spec := evF_snd env_ok (sndC spec_IsPoint.snd (sndC spec_l1In.snd (sndN))) (by kernel_rfl) (by kernel_rfl) (by kernel_rfl)
attribute [local irreducible] spec_IsLine.run
theorem spec_IsLine.rt (a0 : Bool) : spec_IsLine.ret a0 = some (spec_IsLine.toH (a0)) := rfl
theorem spec_IsLine.br (n : Nat) : (∀ K, n ≤ K → ∀ (x3 : Int) (x0 : List S82) t, spec_IsLine.l0 n x0 x3 = some t → spec_IsLine.p2 K x3 x0 = some (spec_IsLine.toH t)) := by
  induction n using Nat.strongRecOn with
  | _ n ih =>
  intro K hK x3 x0 t h
  all_goals (rcases n with _ | k)
  all_goals (try (exact nos h))
  all_goals (obtain ⟨K, rfl⟩ : ∃ q, K = q + 1 := ⟨K - 1, by omega⟩)
  all_goals (first | rw [spec_IsLine.e2])
  all_goals (simp only [spec_IsLine.l0] at h)
  repeat' (with_reducible first
   | exact nos h
   | (cases some_inj h; exact spec_IsLine.rt _)
   | exact (ih _ (by omega)) _ (by omega) _ _ _ h
   | (simp only [Option.bind_some] at h)
   | (refine ite_by h (fun hc h => ?_) (fun hc h => ?_) <;> (try simp only [nrm] at hc))
   | refine itT ?_ (by first | assumption | omega | (simp only [nrm]; first | done | assumption | omega) | (simp only [nln] at hc ⊢; omega))
   | refine itF ?_ (by first | assumption | omega | (simp only [nrm]; first | done | assumption | omega) | (simp only [nln] at hc ⊢; omega))
   | (refine bind_by h (fun t ht h => ?_); (first | refine (spec_IsPoint.ap_of (spec_IsPoint.go ht _)).trans ?_ | refine (spec_l1In.ap_of (spec_l1In.go ht _)).trans ?_); (try dsimp only at h ⊢))
   | (simp only [decide_not, Bool.decide_and, decide_true, Bool.and_true, Bool.not_and, beqI, Int.toNat_natCast, List.take_length] at h ⊢)
   | (exfalso; omega))
theorem spec_IsLine.go {k : Nat} {l0 : List S82} {t} (h : spec_IsLine.f k l0 = some t) (K : Nat) (hK : k ≤ K) : spec_IsLine.run K (l0, ()) = some (spec_IsLine.toH t) := by
  rw [spec_IsLine.ef]
  (try dsimp only)
  unfold spec_IsLine.f at h
  repeat' (with_reducible first
   | exact nos h
   | (cases some_inj h; exact spec_IsLine.rt _)
   | exact (spec_IsLine.br _) _ (by omega) _ _ _ h
   | (simp only [Option.bind_some] at h)
   | (refine ite_by h (fun hc h => ?_) (fun hc h => ?_) <;> (try simp only [nrm] at hc))
   | refine itT ?_ (by first | assumption | omega | (simp only [nrm]; first | done | assumption | omega) | (simp only [nln] at hc ⊢; omega))
   | refine itF ?_ (by first | assumption | omega | (simp only [nrm]; first | done | assumption | omega) | (simp only [nln] at hc ⊢; omega))
   | (refine bind_by h (fun t ht h => ?_); (first | refine (spec_IsPoint.ap_of (spec_IsPoint.go ht _)).trans ?_ | refine (spec_l1In.ap_of (spec_l1In.go ht _)).trans ?_); (try dsimp only at h ⊢))
   | (simp only [decide_not, Bool.decide_and, decide_true, Bool.and_true, Bool.not_and, beqI, Int.toNat_natCast, List.take_length] at h ⊢)
   | (exfalso; omega))
def spec_SegmentsOf.Fs : List (Spc env) := [spec_IsLine.spec]
def spec_SegmentsOf.fin : St eΓ → Option (HL eΓ [.l 85 (.st .s85)]) := finR env Try.f119.results.toList [.l 85 (.st .s85)]
def spec_SegmentsOf.cut : Nat → Option (List (Lv SC)) := lk [(3, [⟨0, none, false⟩, ⟨3, none, false⟩, ⟨4, none, false⟩])]
def spec_SegmentsOf.ret (r0 : List S85) : Option (HL eΓ [.l 85 (.st .s85)]) := some (r0, ())
def spec_SegmentsOf.p3 (k : Nat) (x4 : Int) (x0 : List S82) (x3 : List S85) : Option (HL eΓ [.l 85 (.st .s85)]) := evM env spec_SegmentsOf.Fs Try.f119.ntmps spec_SegmentsOf.fin spec_SegmentsOf.cut k [.code (sub_ [1, 1, 0, 1, 0, 0, 0, 0] (bodyOf Try.f119)), .code (sub_ [1, 1, 0, 1, 0, 0, 0, 1] (bodyOf Try.f119)), .code (sub_ [1, 1, 0, 1, 0, 0, 1] (bodyOf Try.f119)), .lp (sub_ [1, 1, 0, 1, 0, 0] (bodyOf Try.f119)), .blk 0, .code (sub_ [1, 1, 1] (bodyOf Try.f119))] (mkSt [(0, .c (.sl 0)), (3, .c (.sl 1)), (4, .c (.v (.int .i64 x4)))] [.row .ro 82 (.st .s82) x0, .row .own 85 (.st .s85) x3])
theorem spec_SegmentsOf.e3 (k : Nat) (x4 : Int) (x0 : List S82) (x3 : List S85) : spec_SegmentsOf.p3 (k + 1) x4 x0 x3 = if x4 < (x0.length : Int) then (spec_IsLine.ap k x0 fun r1 => if r1 = true then (if 0 ≤ (wrap64 (x4 - 1)) then (if (wrap64 (x4 - 1)) < (x0.length : Int) then (if 0 ≤ x4 then (if x4 < (x0.length : Int) then (if (x3.length + 1) * 32 ≤ 140737488355328 then (spec_SegmentsOf.p3 k (wrap64 (x4 + 1)) x0 (x3 ++ [(⟨(⟨(rd_T82 x0 (wrap64 (x4 - 1))).f0, (rd_T82 x0 (wrap64 (x4 - 1))).f1⟩ : S82), (⟨(rd_T82 x0 x4).f0, (rd_T82 x0 x4).f1⟩ : S82)⟩ : S85)])) else none) else none) else none) else none) else none) else (spec_SegmentsOf.ret x3)) else (spec_SegmentsOf.ret x3) := by kernel_rfl
def spec_SegmentsOf.run (k : Nat) (h : HL eΓ [.l 82 (.st .s82)]) : Option (HL eΓ [.l 85 (.st .s85)]) := evF env spec_SegmentsOf.Fs Try.f119 spec_SegmentsOf.cut [.l 82 (.st .s82)] [.l 85 (.st .s85)] k h
theorem spec_SegmentsOf.ef (k : Nat) (h0 : List S82) : spec_SegmentsOf.run k (h0, ()) = spec_SegmentsOf.p3 k 1 h0 ([] : List S85) := by kernel_rfl
def spec_SegmentsOf.toH (t : (List (S85))) : HL eΓ [.l 85 (.st .s85)] := (t, ())
def spec_SegmentsOf.spec : Spc env := ⟨119, [.l 82 (.st .s82)], [.l 85 (.st .s85)], spec_SegmentsOf.run⟩
def spec_SegmentsOf.ap {R : Type} (k : Nat) (h0 : List S82) (K : (List S85) → Option R) : Option R := (spec_SegmentsOf.run k (h0, ())).bind fun r => K (r.1 : List S85)
theorem spec_SegmentsOf.ap_of {R : Type} {k : Nat} {h0 : List S82} {r0 : List S85} {K : (List S85) → Option R} (h : spec_SegmentsOf.run k (h0, ()) = some (r0, ())) : spec_SegmentsOf.ap k h0 K = K r0 := by unfold spec_SegmentsOf.ap; rw [h]; rfl
theorem spec_SegmentsOf.snd : Snd env spec_SegmentsOf.spec := evF_snd env_ok (sndC spec_IsLine.snd (sndN)) (by kernel_rfl) (by kernel_rfl) (by kernel_rfl)
attribute [local irreducible] spec_SegmentsOf.run
theorem spec_SegmentsOf.rt (a0 : List S85) : spec_SegmentsOf.ret a0 = some (spec_SegmentsOf.toH (a0)) := rfl
theorem spec_SegmentsOf.br (n : Nat) : (∀ K, n ≤ K → ∀ (x4 : Int) (x0 : List S82) (x3 : List S85) t, spec_SegmentsOf.l0 n x0 x3 x4 = some t → spec_SegmentsOf.p3 K x4 x0 x3 = some (spec_SegmentsOf.toH t)) := by
  induction n using Nat.strongRecOn with
  | _ n ih =>
  intro K hK x4 x0 x3 t h
  all_goals (rcases n with _ | k)
  all_goals (try (exact nos h))
  all_goals (obtain ⟨K, rfl⟩ : ∃ q, K = q + 1 := ⟨K - 1, by omega⟩)
  all_goals (first | rw [spec_SegmentsOf.e3])
  all_goals (simp only [spec_SegmentsOf.l0] at h)
  repeat' (with_reducible first
   | exact nos h
   | (cases some_inj h; exact spec_SegmentsOf.rt _)
   | exact (ih _ (by omega)) _ (by omega) _ _ _ _ h
   | (simp only [Option.bind_some] at h)
   | (refine ite_by h (fun hc h => ?_) (fun hc h => ?_) <;> (try simp only [nrm] at hc))
   | refine itT ?_ (by first | assumption | omega | (simp only [nrm]; first | done | assumption | omega) | (simp only [nln] at hc ⊢; omega))
   | refine itF ?_ (by first | assumption | omega | (simp only [nrm]; first | done | assumption | omega) | (simp only [nln] at hc ⊢; omega))
   | (refine bind_by h (fun t ht h => ?_); refine (spec_IsLine.ap_of (spec_IsLine.go ht _ (by omega))).trans ?_; (try dsimp only at h ⊢))
   | (simp only [decide_not, Bool.decide_and, decide_true, Bool.and_true, Bool.not_and, beqI, Int.toNat_natCast, List.take_length] at h ⊢)
   | (exfalso; omega))
theorem spec_SegmentsOf.go {k : Nat} {l0 : List S82} {t} (h : spec_SegmentsOf.f k l0 = some t) (K : Nat) (hK : k ≤ K) : spec_SegmentsOf.run K (l0, ()) = some (spec_SegmentsOf.toH t) := by
  rw [spec_SegmentsOf.ef]
  (try dsimp only)
  unfold spec_SegmentsOf.f at h
  repeat' (with_reducible first
   | exact nos h
   | (cases some_inj h; exact spec_SegmentsOf.rt _)
   | exact (spec_SegmentsOf.br _) _ (by omega) _ _ _ _ h
   | (simp only [Option.bind_some] at h)
   | (refine ite_by h (fun hc h => ?_) (fun hc h => ?_) <;> (try simp only [nrm] at hc))
   | refine itT ?_ (by first | assumption | omega | (simp only [nrm]; first | done | assumption | omega) | (simp only [nln] at hc ⊢; omega))
   | refine itF ?_ (by first | assumption | omega | (simp only [nrm]; first | done | assumption | omega) | (simp only [nln] at hc ⊢; omega))
   | (refine bind_by h (fun t ht h => ?_); refine (spec_IsLine.ap_of (spec_IsLine.go ht _ (by omega))).trans ?_; (try dsimp only at h ⊢))
   | (simp only [decide_not, Bool.decide_and, decide_true, Bool.and_true, Bool.not_and, beqI, Int.toNat_natCast, List.take_length] at h ⊢)
   | (exfalso; omega))
def spec_IsSimple.Fs : List (Spc env) := [spec_SegmentsOf.spec, spec_IsLine.spec, spec_HowMeet.spec]
def spec_IsSimple.fin : St eΓ → Option (HL eΓ [.b]) := finR env Try.f118.results.toList [.b]
def spec_IsSimple.cut : Nat → Option (List (Lv SC)) := lk [(3, [⟨0, none, false⟩, ⟨3, none, false⟩, ⟨4, none, false⟩]), (6, [⟨0, none, false⟩, ⟨3, none, false⟩, ⟨4, none, false⟩, ⟨5, none, false⟩])]
def spec_IsSimple.ret (r0 : Bool) : Option (HL eΓ [.b]) := some (r0, ())
def spec_IsSimple.p3 (k : Nat) (x4 : Int) (x0 : List S82) (x3 : List S85) : Option (HL eΓ [.b]) := evM env spec_IsSimple.Fs Try.f118.ntmps spec_IsSimple.fin spec_IsSimple.cut k [.code (sub_ [1, 1, 0, 1, 0, 0, 0, 0] (bodyOf Try.f118)), .code (sub_ [1, 1, 0, 1, 0, 0, 0, 1] (bodyOf Try.f118)), .code (sub_ [1, 1, 0, 1, 0, 0, 1] (bodyOf Try.f118)), .lp (sub_ [1, 1, 0, 1, 0, 0] (bodyOf Try.f118)), .blk 0, .code (sub_ [1, 1, 1] (bodyOf Try.f118))] (mkSt [(0, .c (.sl 0)), (3, .c (.sl 1)), (4, .c (.v (.int .i64 x4)))] [.row .ro 82 (.st .s82) x0, .row .own 85 (.st .s85) x3])
def spec_IsSimple.p6 (k : Nat) (x4 : Int) (x5 : Int) (x0 : List S82) (x3 : List S85) : Option (HL eΓ [.b]) := evM env spec_IsSimple.Fs Try.f118.ntmps spec_IsSimple.fin spec_IsSimple.cut k [.code (sub_ [1, 1, 0, 1, 0, 0, 1, 0, 0, 1, 0, 0, 0, 0] (bodyOf Try.f118)), .code (sub_ [1, 1, 0, 1, 0, 0, 1, 0, 0, 1, 0, 0, 0, 1] (bodyOf Try.f118)), .code (sub_ [1, 1, 0, 1, 0, 0, 1, 0, 0, 1, 0, 0, 1] (bodyOf Try.f118)), .lp (sub_ [1, 1, 0, 1, 0, 0, 1, 0, 0, 1, 0, 0] (bodyOf Try.f118)), .blk 2, .blk 1, .code (sub_ [1, 1, 0, 1, 0, 0, 1, 1] (bodyOf Try.f118)), .lp (sub_ [1, 1, 0, 1, 0, 0] (bodyOf Try.f118)), .blk 0, .code (sub_ [1, 1, 1] (bodyOf Try.f118))] (mkSt [(0, .c (.sl 0)), (3, .c (.sl 1)), (4, .c (.v (.int .i64 x4))), (5, .c (.v (.int .i64 x5)))] [.row .ro 82 (.st .s82) x0, .row .own 85 (.st .s85) x3])
theorem spec_IsSimple.e3 (k : Nat) (x4 : Int) (x0 : List S82) (x3 : List S85) : spec_IsSimple.p3 (k + 1) x4 x0 x3 = if x4 < (x3.length : Int) then (spec_IsSimple.p6 k x4 0 x0 x3) else (spec_IsLine.ap k x0 fun r1 => spec_IsSimple.ret r1) := by kernel_rfl
theorem spec_IsSimple.e6 (k : Nat) (x4 : Int) (x5 : Int) (x0 : List S82) (x3 : List S85) : spec_IsSimple.p6 (k + 1) x4 x5 x0 x3 = if x5 < x4 then (if (wrap64 (x5 + 1)) = x4 then (if 0 ≤ x4 then (if x4 < (x3.length : Int) then (if 0 ≤ x5 then (if x5 < (x3.length : Int) then (spec_HowMeet.ap k (⟨(⟨(rd_T85 x3 x4).f0.f0, (rd_T85 x3 x4).f0.f1⟩ : S82), (⟨(rd_T85 x3 x4).f1.f0, (rd_T85 x3 x4).f1.f1⟩ : S82)⟩ : S85) (⟨(⟨(rd_T85 x3 x5).f0.f0, (rd_T85 x3 x5).f0.f1⟩ : S82), (⟨(rd_T85 x3 x5).f1.f0, (rd_T85 x3 x5).f1.f1⟩ : S82)⟩ : S85) fun r1 => if ¬ r1 = 1 then (spec_IsSimple.ret false) else (spec_IsSimple.p6 k x4 (wrap64 (x5 + 1)) x0 x3)) else none) else none) else none) else none) else (if 0 ≤ x4 then (if x4 < (x3.length : Int) then (if 0 ≤ x5 then (if x5 < (x3.length : Int) then (spec_HowMeet.ap k (⟨(⟨(rd_T85 x3 x4).f0.f0, (rd_T85 x3 x4).f0.f1⟩ : S82), (⟨(rd_T85 x3 x4).f1.f0, (rd_T85 x3 x4).f1.f1⟩ : S82)⟩ : S85) (⟨(⟨(rd_T85 x3 x5).f0.f0, (rd_T85 x3 x5).f0.f1⟩ : S82), (⟨(rd_T85 x3 x5).f1.f0, (rd_T85 x3 x5).f1.f1⟩ : S82)⟩ : S85) fun r2 => if ¬ r2 = 0 then (spec_IsSimple.ret false) else (spec_IsSimple.p6 k x4 (wrap64 (x5 + 1)) x0 x3)) else none) else none) else none) else none)) else (spec_IsSimple.p3 k (wrap64 (x4 + 1)) x0 x3) := by kernel_rfl
def spec_IsSimple.run (k : Nat) (h : HL eΓ [.l 82 (.st .s82)]) : Option (HL eΓ [.b]) := evF env spec_IsSimple.Fs Try.f118 spec_IsSimple.cut [.l 82 (.st .s82)] [.b] k h
theorem spec_IsSimple.ef (k : Nat) (h0 : List S82) : spec_IsSimple.run k (h0, ()) = spec_SegmentsOf.ap k h0 fun r1 => spec_IsSimple.p3 k 0 h0 r1 := by kernel_rfl
def spec_IsSimple.toH (t : Bool) : HL eΓ [.b] := (t, ())
def spec_IsSimple.spec : Spc env := ⟨118, [.l 82 (.st .s82)], [.b], spec_IsSimple.run⟩
def spec_IsSimple.ap {R : Type} (k : Nat) (h0 : List S82) (K : Bool → Option R) : Option R := (spec_IsSimple.run k (h0, ())).bind fun r => K (r.1 : Bool)
theorem spec_IsSimple.ap_of {R : Type} {k : Nat} {h0 : List S82} {r0 : Bool} {K : Bool → Option R} (h : spec_IsSimple.run k (h0, ()) = some (r0, ())) : spec_IsSimple.ap k h0 K = K r0 := by unfold spec_IsSimple.ap; rw [h]; rfl
theorem spec_IsSimple.snd : Snd env spec_IsSimple.spec := evF_snd env_ok (sndC spec_SegmentsOf.snd (sndC spec_IsLine.snd (sndC spec_HowMeet.snd (sndN)))) (by kernel_rfl) (by kernel_rfl) (by kernel_rfl)
attribute [local irreducible] spec_IsSimple.run
theorem spec_IsSimple.rt (a0 : Bool) : spec_IsSimple.ret a0 = some (spec_IsSimple.toH (a0)) := rfl
theorem spec_IsSimple.br (n : Nat) : (∀ K, n ≤ K → ∀ (x4 : Int) (x0 : List S82) (x3 : List S85) t, spec_IsSimple.l0 n x0 x3 x4 = some t → spec_IsSimple.p3 K x4 x0 x3 = some (spec_IsSimple.toH t)) ∧ (∀ K, n ≤ K → ∀ (x4 : Int) (x5 : Int) (x0 : List S82) (x3 : List S85) t, spec_IsSimple.l1 n x0 x3 x4 x5 = some t → spec_IsSimple.p6 K x4 x5 x0 x3 = some (spec_IsSimple.toH t)) := by
  induction n using Nat.strongRecOn with
  | _ n ih =>
  refine ⟨fun K hK x4 x0 x3 t h => ?_, fun K hK x4 x5 x0 x3 t h => ?_⟩
  all_goals (rcases n with _ | k)
  all_goals (try (exact nos h))
  all_goals (obtain ⟨K, rfl⟩ : ∃ q, K = q + 1 := ⟨K - 1, by omega⟩)
  all_goals (first | rw [spec_IsSimple.e3] | rw [spec_IsSimple.e6])
  all_goals (simp only [spec_IsSimple.l0, spec_IsSimple.l1] at h)
  repeat' (with_reducible first
   | exact nos h
   | (cases some_inj h; exact spec_IsSimple.rt _)
   | exact (ih _ (by omega)).1 _ (by omega) _ _ _ _ h
   | exact (ih _ (by omega)).2 _ (by omega) _ _ _ _ _ h
   | (simp only [Option.bind_some] at h)
   | (refine ite_by h (fun hc h => ?_) (fun hc h => ?_) <;> (try simp only [nrm] at hc))
   | refine itT ?_ (by first | assumption | omega | (simp only [nrm]; first | done | assumption | omega) | (simp only [nln] at hc ⊢; omega))
   | refine itF ?_ (by first | assumption | omega | (simp only [nrm]; first | done | assumption | omega) | (simp only [nln] at hc ⊢; omega))
   | (refine bind_by h (fun t ht h => ?_); (first | refine (spec_SegmentsOf.ap_of (spec_SegmentsOf.go ht _ (by omega))).trans ?_ | refine (spec_IsLine.ap_of (spec_IsLine.go ht _ (by omega))).trans ?_ | refine (spec_HowMeet.ap_of (spec_HowMeet.go ht _)).trans ?_); (try dsimp only at h ⊢))
   | (simp only [decide_not, Bool.decide_and, decide_true, Bool.and_true, Bool.not_and, beqI, Int.toNat_natCast, List.take_length] at h ⊢)
   | (exfalso; omega))
theorem spec_IsSimple.go {k : Nat} {l0 : List S82} {t} (h : spec_IsSimple.f k l0 = some t) (K : Nat) (hK : k ≤ K) : spec_IsSimple.run K (l0, ()) = some (spec_IsSimple.toH t) := by
  rw [spec_IsSimple.ef]
  (try dsimp only)
  unfold spec_IsSimple.f at h
  repeat' (with_reducible first
   | exact nos h
   | (cases some_inj h; exact spec_IsSimple.rt _)
   | exact (spec_IsSimple.br _).1 _ (by omega) _ _ _ _ h
   | exact (spec_IsSimple.br _).2 _ (by omega) _ _ _ _ _ h
   | (simp only [Option.bind_some] at h)
   | (refine ite_by h (fun hc h => ?_) (fun hc h => ?_) <;> (try simp only [nrm] at hc))
   | refine itT ?_ (by first | assumption | omega | (simp only [nrm]; first | done | assumption | omega) | (simp only [nln] at hc ⊢; omega))
   | refine itF ?_ (by first | assumption | omega | (simp only [nrm]; first | done | assumption | omega) | (simp only [nln] at hc ⊢; omega))
   | (refine bind_by h (fun t ht h => ?_); (first | refine (spec_SegmentsOf.ap_of (spec_SegmentsOf.go ht _ (by omega))).trans ?_ | refine (spec_IsLine.ap_of (spec_IsLine.go ht _ (by omega))).trans ?_ | refine (spec_HowMeet.ap_of (spec_HowMeet.go ht _)).trans ?_); (try dsimp only at h ⊢))
   | (simp only [decide_not, Bool.decide_and, decide_true, Bool.and_true, Bool.not_and, beqI, Int.toNat_natCast, List.take_length] at h ⊢)
   | (exfalso; omega))
def spec_IsFeature.Fs : List (Spc env) := [spec_l1In.spec, spec_IsName.spec, spec_IsPoint.spec, spec_IsSimple.spec, spec_IsRing.spec]
def spec_IsFeature.cut : Nat → Option (List (Lv SC)) := lk []
def spec_IsFeature.ret (r0 : Bool) : Option (HL eΓ [.b]) := some (r0, ())
def spec_IsFeature.run (k : Nat) (h : HL eΓ [.st .s29]) : Option (HL eΓ [.b]) := evF env spec_IsFeature.Fs Try.f68 spec_IsFeature.cut [.st .s29] [.b] k h
theorem spec_IsFeature.ef (k : Nat) (h0 : S29) : spec_IsFeature.run k (h0, ()) = spec_l1In.ap k h0.f0 1 99 fun r1 => if (!r1) = true then (spec_IsFeature.ret false) else (spec_l1In.ap k h0.f2 0 9 fun r2 => if (!r2) = true then (spec_IsFeature.ret false) else (if ¬ h0.f3.toList = [] then (spec_IsName.ap k h0.f3 fun r3 => if (!r3) = true then (spec_IsFeature.ret false) else (if h0.f1 = 1 then (if (h0.f4.length : Int) = 1 then (if 0 < (h0.f4.length : Int) then (spec_IsPoint.ap k (⟨(rd_T82 h0.f4 0).f0, (rd_T82 h0.f4 0).f1⟩ : S82) fun r4 => spec_IsFeature.ret r4) else none) else (spec_IsFeature.ret false)) else (if h0.f1 = 2 then (spec_IsSimple.ap k h0.f4 fun r5 => spec_IsFeature.ret r5) else (if h0.f1 = 3 then (spec_IsRing.ap k h0.f4 fun r6 => spec_IsFeature.ret r6) else (spec_IsFeature.ret false))))) else (if h0.f1 = 1 then (if (h0.f4.length : Int) = 1 then (if 0 < (h0.f4.length : Int) then (spec_IsPoint.ap k (⟨(rd_T82 h0.f4 0).f0, (rd_T82 h0.f4 0).f1⟩ : S82) fun r7 => spec_IsFeature.ret r7) else none) else (spec_IsFeature.ret false)) else (if h0.f1 = 2 then (spec_IsSimple.ap k h0.f4 fun r8 => spec_IsFeature.ret r8) else (if h0.f1 = 3 then (spec_IsRing.ap k h0.f4 fun r9 => spec_IsFeature.ret r9) else (spec_IsFeature.ret false)))))) := by kernel_rfl
def spec_IsFeature.toH (t : Bool) : HL eΓ [.b] := (t, ())
def spec_IsFeature.spec : Spc env := ⟨68, [.st .s29], [.b], spec_IsFeature.run⟩
def spec_IsFeature.ap {R : Type} (k : Nat) (h0 : S29) (K : Bool → Option R) : Option R := (spec_IsFeature.run k (h0, ())).bind fun r => K (r.1 : Bool)
theorem spec_IsFeature.ap_of {R : Type} {k : Nat} {h0 : S29} {r0 : Bool} {K : Bool → Option R} (h : spec_IsFeature.run k (h0, ()) = some (r0, ())) : spec_IsFeature.ap k h0 K = K r0 := by unfold spec_IsFeature.ap; rw [h]; rfl
theorem spec_IsFeature.snd : Snd env spec_IsFeature.spec := evF_snd env_ok (sndC spec_l1In.snd (sndC spec_IsName.snd (sndC spec_IsPoint.snd (sndC spec_IsSimple.snd (sndC spec_IsRing.snd (sndN)))))) (by kernel_rfl) (by kernel_rfl) (by kernel_rfl)
attribute [local irreducible] spec_IsFeature.run
theorem spec_IsFeature.rt (a0 : Bool) : spec_IsFeature.ret a0 = some (spec_IsFeature.toH (a0)) := rfl
theorem spec_IsFeature.go {k : Nat} {a0_0 : Int} {a0_1 : Int} {a0_2 : Int} {a0_3 : ByteArray} {l0_4 : List S82} {t} (h : spec_IsFeature.f k a0_0 a0_1 a0_2 a0_3 l0_4 = some t) (K : Nat) (hK : k ≤ K) : spec_IsFeature.run K ((⟨a0_0, a0_1, a0_2, a0_3, l0_4⟩ : S29), ()) = some (spec_IsFeature.toH t) := by
  rw [spec_IsFeature.ef]
  (try dsimp only)
  unfold spec_IsFeature.f at h
  repeat' (with_reducible first
   | exact nos h
   | (cases some_inj h; exact spec_IsFeature.rt _)
   | ((have q : spec_IsFeature.j0 k _ _ _ _ _ _ = some _ := h; clear q); rcases k with _ | k <;> simp only [spec_IsFeature.j0, reduceCtorEq] at h)
   | (simp only [Option.bind_some] at h)
   | (refine ite_by h (fun hc h => ?_) (fun hc h => ?_) <;> (try simp only [nrm] at hc))
   | refine itT ?_ (by first | assumption | omega | (simp only [nrm]; first | done | assumption | omega) | (simp only [nln] at hc ⊢; omega))
   | refine itF ?_ (by first | assumption | omega | (simp only [nrm]; first | done | assumption | omega) | (simp only [nln] at hc ⊢; omega))
   | (refine bind_by h (fun t ht h => ?_); (first | refine (spec_l1In.ap_of (spec_l1In.go ht _)).trans ?_ | refine (spec_IsName.ap_of (spec_IsName.go ht _ (by omega))).trans ?_ | refine (spec_IsPoint.ap_of (spec_IsPoint.go ht _)).trans ?_ | refine (spec_IsSimple.ap_of (spec_IsSimple.go ht _ (by omega))).trans ?_ | refine (spec_IsRing.ap_of (spec_IsRing.go ht _ (by omega))).trans ?_); (try dsimp only at h ⊢))
   | (simp only [decide_not, Bool.decide_and, decide_true, Bool.and_true, Bool.not_and, beqI, Int.toNat_natCast, List.take_length] at h ⊢)
   | (exfalso; omega))
def spec_IsSource.Fs : List (Spc env) := [spec_IsFeature.spec]
def spec_IsSource.fin : St eΓ → Option (HL eΓ [.b]) := finR env Try.f83.results.toList [.b]
def spec_IsSource.cut : Nat → Option (List (Lv SC)) := lk [(2, [⟨0, none, false⟩, ⟨3, none, false⟩])]
def spec_IsSource.ret (r0 : Bool) : Option (HL eΓ [.b]) := some (r0, ())
def spec_IsSource.p2 (k : Nat) (x3 : Int) (x0 : List S29) : Option (HL eΓ [.b]) := evM env spec_IsSource.Fs Try.f83.ntmps spec_IsSource.fin spec_IsSource.cut k [.code (sub_ [1, 0, 1, 0, 0, 0, 0] (bodyOf Try.f83)), .code (sub_ [1, 0, 1, 0, 0, 0, 1] (bodyOf Try.f83)), .code (sub_ [1, 0, 1, 0, 0, 1] (bodyOf Try.f83)), .lp (sub_ [1, 0, 1, 0, 0] (bodyOf Try.f83)), .blk 0, .code (sub_ [1, 1] (bodyOf Try.f83))] (mkSt [(0, .c (.sl 0)), (3, .c (.v (.int .i64 x3)))] [.row .ro 29 (.st .s29) x0])
theorem spec_IsSource.e2 (k : Nat) (x3 : Int) (x0 : List S29) : spec_IsSource.p2 (k + 1) x3 x0 = if x3 < (x0.length : Int) then (if 0 ≤ x3 then (if x3 < (x0.length : Int) then (spec_IsFeature.ap k (⟨(rd_T29 x0 x3).f0, (rd_T29 x0 x3).f1, (rd_T29 x0 x3).f2, (rd_T29 x0 x3).f3, (rd_T29 x0 x3).f4⟩ : S29) fun r1 => if (!r1) = true then (spec_IsSource.ret false) else (if x3 > 0 then (if 0 ≤ (wrap64 (x3 - 1)) then (if (wrap64 (x3 - 1)) < (x0.length : Int) then (if 0 ≤ x3 then (if x3 < (x0.length : Int) then (if ((rd_T29 x0 (wrap64 (x3 - 1))).f0) ≥ ((rd_T29 x0 x3).f0) then (spec_IsSource.ret false) else (spec_IsSource.p2 k (wrap64 (x3 + 1)) x0)) else none) else none) else none) else none) else (spec_IsSource.p2 k (wrap64 (x3 + 1)) x0))) else none) else none) else (spec_IsSource.ret (decide ((x0.length : Int) ≤ 16))) := by kernel_rfl
def spec_IsSource.run (k : Nat) (h : HL eΓ [.l 29 (.st .s29)]) : Option (HL eΓ [.b]) := evF env spec_IsSource.Fs Try.f83 spec_IsSource.cut [.l 29 (.st .s29)] [.b] k h
theorem spec_IsSource.ef (k : Nat) (h0 : List S29) : spec_IsSource.run k (h0, ()) = spec_IsSource.p2 k 0 h0 := by kernel_rfl
def spec_IsSource.toH (t : Bool) : HL eΓ [.b] := (t, ())
def spec_IsSource.spec : Spc env := ⟨83, [.l 29 (.st .s29)], [.b], spec_IsSource.run⟩
def spec_IsSource.ap {R : Type} (k : Nat) (h0 : List S29) (K : Bool → Option R) : Option R := (spec_IsSource.run k (h0, ())).bind fun r => K (r.1 : Bool)
theorem spec_IsSource.ap_of {R : Type} {k : Nat} {h0 : List S29} {r0 : Bool} {K : Bool → Option R} (h : spec_IsSource.run k (h0, ()) = some (r0, ())) : spec_IsSource.ap k h0 K = K r0 := by unfold spec_IsSource.ap; rw [h]; rfl
theorem spec_IsSource.snd : Snd env spec_IsSource.spec := evF_snd env_ok (sndC spec_IsFeature.snd (sndN)) (by kernel_rfl) (by kernel_rfl) (by kernel_rfl)
attribute [local irreducible] spec_IsSource.run
theorem spec_IsSource.rt (a0 : Bool) : spec_IsSource.ret a0 = some (spec_IsSource.toH (a0)) := rfl
theorem spec_IsSource.br (n : Nat) : (∀ K, n ≤ K → ∀ (x3 : Int) (x0 : List S29) t, spec_IsSource.l0 n x0 x3 = some t → spec_IsSource.p2 K x3 x0 = some (spec_IsSource.toH t)) := by
  induction n using Nat.strongRecOn with
  | _ n ih =>
  intro K hK x3 x0 t h
  all_goals (rcases n with _ | k)
  all_goals (try (exact nos h))
  all_goals (obtain ⟨K, rfl⟩ : ∃ q, K = q + 1 := ⟨K - 1, by omega⟩)
  all_goals (first | rw [spec_IsSource.e2])
  all_goals (simp only [spec_IsSource.l0] at h)
  repeat' (with_reducible first
   | exact nos h
   | (cases some_inj h; exact spec_IsSource.rt _)
   | exact (ih _ (by omega)) _ (by omega) _ _ _ h
   | (simp only [Option.bind_some] at h)
   | (refine ite_by h (fun hc h => ?_) (fun hc h => ?_) <;> (try simp only [nrm] at hc))
   | refine itT ?_ (by first | assumption | omega | (simp only [nrm]; first | done | assumption | omega) | (simp only [nln] at hc ⊢; omega))
   | refine itF ?_ (by first | assumption | omega | (simp only [nrm]; first | done | assumption | omega) | (simp only [nln] at hc ⊢; omega))
   | (refine bind_by h (fun t ht h => ?_); refine (spec_IsFeature.ap_of (spec_IsFeature.go ht _ (by omega))).trans ?_; (try dsimp only at h ⊢))
   | (simp only [decide_not, Bool.decide_and, decide_true, Bool.and_true, Bool.not_and, beqI, Int.toNat_natCast, List.take_length] at h ⊢)
   | (exfalso; omega))
theorem spec_IsSource.go {k : Nat} {l0 : List S29} {t} (h : spec_IsSource.f k l0 = some t) (K : Nat) (hK : k ≤ K) : spec_IsSource.run K (l0, ()) = some (spec_IsSource.toH t) := by
  rw [spec_IsSource.ef]
  (try dsimp only)
  unfold spec_IsSource.f at h
  repeat' (with_reducible first
   | exact nos h
   | (cases some_inj h; exact spec_IsSource.rt _)
   | exact (spec_IsSource.br _) _ (by omega) _ _ _ h
   | (simp only [Option.bind_some] at h)
   | (refine ite_by h (fun hc h => ?_) (fun hc h => ?_) <;> (try simp only [nrm] at hc))
   | refine itT ?_ (by first | assumption | omega | (simp only [nrm]; first | done | assumption | omega) | (simp only [nln] at hc ⊢; omega))
   | refine itF ?_ (by first | assumption | omega | (simp only [nrm]; first | done | assumption | omega) | (simp only [nln] at hc ⊢; omega))
   | (refine bind_by h (fun t ht h => ?_); refine (spec_IsFeature.ap_of (spec_IsFeature.go ht _ (by omega))).trans ?_; (try dsimp only at h ⊢))
   | (simp only [decide_not, Bool.decide_and, decide_true, Bool.and_true, Bool.not_and, beqI, Int.toNat_natCast, List.take_length] at h ⊢)
   | (exfalso; omega))
def spec_FindFeature.Fs : List (Spc env) := []
def spec_FindFeature.fin : St eΓ → Option (HL eΓ [.i .i64]) := finR env Try.f90.results.toList [.i .i64]
def spec_FindFeature.cut : Nat → Option (List (Lv SC)) := lk [(2, [⟨0, none, false⟩, ⟨1, none, false⟩, ⟨5, none, false⟩])]
def spec_FindFeature.ret (r0 : Int) : Option (HL eΓ [.i .i64]) := some (r0, ())
def spec_FindFeature.p2 (k : Nat) (x1 : Int) (x5 : Int) (x0 : List S29) : Option (HL eΓ [.i .i64]) := evM env spec_FindFeature.Fs Try.f90.ntmps spec_FindFeature.fin spec_FindFeature.cut k [.code (sub_ [1, 0, 1, 0, 0, 0, 0] (bodyOf Try.f90)), .code (sub_ [1, 0, 1, 0, 0, 0, 1] (bodyOf Try.f90)), .code (sub_ [1, 0, 1, 0, 0, 1] (bodyOf Try.f90)), .lp (sub_ [1, 0, 1, 0, 0] (bodyOf Try.f90)), .blk 0, .code (sub_ [1, 1] (bodyOf Try.f90))] (mkSt [(0, .c (.sl 0)), (1, .c (.v (.int .i64 x1))), (5, .c (.v (.int .i64 x5)))] [.row .ro 29 (.st .s29) x0])
theorem spec_FindFeature.e2 (k : Nat) (x1 : Int) (x5 : Int) (x0 : List S29) : spec_FindFeature.p2 (k + 1) x1 x5 x0 = if x5 < (x0.length : Int) then (if 0 ≤ x5 then (if x5 < (x0.length : Int) then (if ((rd_T29 x0 x5).f0) = x1 then (spec_FindFeature.ret x5) else (spec_FindFeature.p2 k x1 (wrap64 (x5 + 1)) x0)) else none) else none) else (spec_FindFeature.ret (-1)) := by kernel_rfl
def spec_FindFeature.run (k : Nat) (h : HL eΓ [.l 29 (.st .s29), .i .i64]) : Option (HL eΓ [.i .i64]) := evF env spec_FindFeature.Fs Try.f90 spec_FindFeature.cut [.l 29 (.st .s29), .i .i64] [.i .i64] k h
theorem spec_FindFeature.ef (k : Nat) (h0 : List S29) (h1 : Int) : spec_FindFeature.run k (h0, h1, ()) = spec_FindFeature.p2 k h1 0 h0 := by kernel_rfl
def spec_FindFeature.toH (t : Int) : HL eΓ [.i .i64] := (t, ())
def spec_FindFeature.spec : Spc env := ⟨90, [.l 29 (.st .s29), .i .i64], [.i .i64], spec_FindFeature.run⟩
def spec_FindFeature.ap {R : Type} (k : Nat) (h0 : List S29) (h1 : Int) (K : Int → Option R) : Option R := (spec_FindFeature.run k (h0, h1, ())).bind fun r => K (r.1 : Int)
theorem spec_FindFeature.ap_of {R : Type} {k : Nat} {h0 : List S29} {h1 : Int} {r0 : Int} {K : Int → Option R} (h : spec_FindFeature.run k (h0, h1, ()) = some (r0, ())) : spec_FindFeature.ap k h0 h1 K = K r0 := by unfold spec_FindFeature.ap; rw [h]; rfl
theorem spec_FindFeature.snd : Snd env spec_FindFeature.spec := evF_snd env_ok (sndN) (by kernel_rfl) (by kernel_rfl) (by kernel_rfl)
attribute [local irreducible] spec_FindFeature.run
theorem spec_FindFeature.rt (a0 : Int) : spec_FindFeature.ret a0 = some (spec_FindFeature.toH (a0)) := rfl
theorem spec_FindFeature.br (n : Nat) : (∀ K, n ≤ K → ∀ (x1 : Int) (x5 : Int) (x0 : List S29) t, spec_FindFeature.l0 n x0 x1 x5 = some t → spec_FindFeature.p2 K x1 x5 x0 = some (spec_FindFeature.toH t)) := by
  induction n using Nat.strongRecOn with
  | _ n ih =>
  intro K hK x1 x5 x0 t h
  all_goals (rcases n with _ | k)
  all_goals (try (exact nos h))
  all_goals (obtain ⟨K, rfl⟩ : ∃ q, K = q + 1 := ⟨K - 1, by omega⟩)
  all_goals (first | rw [spec_FindFeature.e2])
  all_goals (simp only [spec_FindFeature.l0] at h)
  repeat' (with_reducible first
   | exact nos h
   | (cases some_inj h; exact spec_FindFeature.rt _)
   | exact (ih _ (by omega)) _ (by omega) _ _ _ _ h
   | (simp only [Option.bind_some] at h)
   | (refine ite_by h (fun hc h => ?_) (fun hc h => ?_) <;> (try simp only [nrm] at hc))
   | refine itT ?_ (by first | assumption | omega | (simp only [nrm]; first | done | assumption | omega) | (simp only [nln] at hc ⊢; omega))
   | refine itF ?_ (by first | assumption | omega | (simp only [nrm]; first | done | assumption | omega) | (simp only [nln] at hc ⊢; omega))
   | (simp only [decide_not, Bool.decide_and, decide_true, Bool.and_true, Bool.not_and, beqI, Int.toNat_natCast, List.take_length] at h ⊢)
   | (exfalso; omega))
theorem spec_FindFeature.go {k : Nat} {l0 : List S29} {a1 : Int} {t} (h : spec_FindFeature.f k l0 a1 = some t) (K : Nat) (hK : k ≤ K) : spec_FindFeature.run K (l0, a1, ()) = some (spec_FindFeature.toH t) := by
  rw [spec_FindFeature.ef]
  (try dsimp only)
  unfold spec_FindFeature.f at h
  repeat' (with_reducible first
   | exact nos h
   | (cases some_inj h; exact spec_FindFeature.rt _)
   | exact (spec_FindFeature.br _) _ (by omega) _ _ _ _ h
   | (simp only [Option.bind_some] at h)
   | (refine ite_by h (fun hc h => ?_) (fun hc h => ?_) <;> (try simp only [nrm] at hc))
   | refine itT ?_ (by first | assumption | omega | (simp only [nrm]; first | done | assumption | omega) | (simp only [nln] at hc ⊢; omega))
   | refine itF ?_ (by first | assumption | omega | (simp only [nrm]; first | done | assumption | omega) | (simp only [nln] at hc ⊢; omega))
   | (simp only [decide_not, Bool.decide_and, decide_true, Bool.and_true, Bool.not_and, beqI, Int.toNat_natCast, List.take_length] at h ⊢)
   | (exfalso; omega))
def spec_IsBox.Fs : List (Spc env) := [spec_IsPoint.spec]
def spec_IsBox.cut : Nat → Option (List (Lv SC)) := lk []
def spec_IsBox.ret (r0 : Bool) : Option (HL eΓ [.b]) := some (r0, ())
def spec_IsBox.run (k : Nat) (h : HL eΓ [.st .s98]) : Option (HL eΓ [.b]) := evF env spec_IsBox.Fs Try.f157 spec_IsBox.cut [.st .s98] [.b] k h
theorem spec_IsBox.ef (k : Nat) (h0 : S98) : spec_IsBox.run k (h0, ()) = spec_IsPoint.ap k (⟨h0.f0.f0, h0.f0.f1⟩ : S82) fun r1 => if r1 = true then (spec_IsPoint.ap k (⟨h0.f1.f0, h0.f1.f1⟩ : S82) fun r2 => if r2 = true then (if h0.f0.f0 ≤ h0.f1.f0 then (spec_IsBox.ret (decide (h0.f0.f1 ≤ h0.f1.f1))) else (spec_IsBox.ret false)) else (spec_IsBox.ret false)) else (spec_IsBox.ret false) := by kernel_rfl
def spec_IsBox.toH (t : Bool) : HL eΓ [.b] := (t, ())
def spec_IsBox.spec : Spc env := ⟨157, [.st .s98], [.b], spec_IsBox.run⟩
def spec_IsBox.ap {R : Type} (k : Nat) (h0 : S98) (K : Bool → Option R) : Option R := (spec_IsBox.run k (h0, ())).bind fun r => K (r.1 : Bool)
theorem spec_IsBox.ap_of {R : Type} {k : Nat} {h0 : S98} {r0 : Bool} {K : Bool → Option R} (h : spec_IsBox.run k (h0, ()) = some (r0, ())) : spec_IsBox.ap k h0 K = K r0 := by unfold spec_IsBox.ap; rw [h]; rfl
theorem spec_IsBox.snd : Snd env spec_IsBox.spec := evF_snd env_ok (sndC spec_IsPoint.snd (sndN)) (by kernel_rfl) (by kernel_rfl) (by kernel_rfl)
attribute [local irreducible] spec_IsBox.run
theorem spec_IsBox.rt (a0 : Bool) : spec_IsBox.ret a0 = some (spec_IsBox.toH (a0)) := rfl
theorem spec_IsBox.go {a0_0 : Int} {a0_1 : Int} {a0_2 : Int} {a0_3 : Int} {t} (h : spec_IsBox.f a0_0 a0_1 a0_2 a0_3 = some t) (K : Nat) : spec_IsBox.run K ((⟨(⟨a0_0, a0_1⟩ : S82), (⟨a0_2, a0_3⟩ : S82)⟩ : S98), ()) = some (spec_IsBox.toH t) := by
  rw [spec_IsBox.ef]
  (try dsimp only)
  unfold spec_IsBox.f at h
  repeat' (with_reducible first
   | exact nos h
   | (cases some_inj h; exact spec_IsBox.rt _)
   | (simp only [Option.bind_some] at h)
   | (refine ite_by h (fun hc h => ?_) (fun hc h => ?_) <;> (try simp only [nrm] at hc))
   | refine itT ?_ (by first | assumption | omega | (simp only [nrm]; first | done | assumption | omega) | (simp only [nln] at hc ⊢; omega))
   | refine itF ?_ (by first | assumption | omega | (simp only [nrm]; first | done | assumption | omega) | (simp only [nln] at hc ⊢; omega))
   | (refine bind_by h (fun t ht h => ?_); refine (spec_IsPoint.ap_of (spec_IsPoint.go ht _)).trans ?_; (try dsimp only at h ⊢))
   | (simp only [decide_not, Bool.decide_and, decide_true, Bool.and_true, Bool.not_and, beqI, Int.toNat_natCast, List.take_length] at h ⊢)
   | (exfalso; omega))
def spec_BoxesOverlap.Fs : List (Spc env) := [spec_IsBox.spec, spec_Max.spec, spec_Min.spec]
def spec_BoxesOverlap.cut : Nat → Option (List (Lv SC)) := lk []
def spec_BoxesOverlap.ret (r0 : Bool) : Option (HL eΓ [.b]) := some (r0, ())
def spec_BoxesOverlap.run (k : Nat) (h : HL eΓ [.st .s98, .st .s98]) : Option (HL eΓ [.b]) := evF env spec_BoxesOverlap.Fs Try.f134 spec_BoxesOverlap.cut [.st .s98, .st .s98] [.b] k h
theorem spec_BoxesOverlap.ef (k : Nat) (h0 : S98) (h1 : S98) : spec_BoxesOverlap.run k (h0, h1, ()) = spec_IsBox.ap k (⟨(⟨h0.f0.f0, h0.f0.f1⟩ : S82), (⟨h0.f1.f0, h0.f1.f1⟩ : S82)⟩ : S98) fun r1 => if r1 = true then (spec_IsBox.ap k (⟨(⟨h1.f0.f0, h1.f0.f1⟩ : S82), (⟨h1.f1.f0, h1.f1.f1⟩ : S82)⟩ : S98) fun r2 => if r2 = true then (spec_Max.ap k h0.f0.f0 h1.f0.f0 fun r3 => spec_Min.ap k h0.f1.f0 h1.f1.f0 fun r4 => if r3 < r4 then (spec_Max.ap k h0.f0.f1 h1.f0.f1 fun r5 => spec_Min.ap k h0.f1.f1 h1.f1.f1 fun r6 => spec_BoxesOverlap.ret (decide (r5 < r6))) else (spec_BoxesOverlap.ret false)) else (spec_BoxesOverlap.ret false)) else (spec_BoxesOverlap.ret false) := by kernel_rfl
def spec_BoxesOverlap.toH (t : Bool) : HL eΓ [.b] := (t, ())
def spec_BoxesOverlap.spec : Spc env := ⟨134, [.st .s98, .st .s98], [.b], spec_BoxesOverlap.run⟩
def spec_BoxesOverlap.ap {R : Type} (k : Nat) (h0 : S98) (h1 : S98) (K : Bool → Option R) : Option R := (spec_BoxesOverlap.run k (h0, h1, ())).bind fun r => K (r.1 : Bool)
theorem spec_BoxesOverlap.ap_of {R : Type} {k : Nat} {h0 : S98} {h1 : S98} {r0 : Bool} {K : Bool → Option R} (h : spec_BoxesOverlap.run k (h0, h1, ()) = some (r0, ())) : spec_BoxesOverlap.ap k h0 h1 K = K r0 := by unfold spec_BoxesOverlap.ap; rw [h]; rfl
theorem spec_BoxesOverlap.snd : Snd env spec_BoxesOverlap.spec := evF_snd env_ok (sndC spec_IsBox.snd (sndC spec_Max.snd (sndC spec_Min.snd (sndN)))) (by kernel_rfl) (by kernel_rfl) (by kernel_rfl)
attribute [local irreducible] spec_BoxesOverlap.run
theorem spec_BoxesOverlap.rt (a0 : Bool) : spec_BoxesOverlap.ret a0 = some (spec_BoxesOverlap.toH (a0)) := rfl
theorem spec_BoxesOverlap.go {a0_0 : Int} {a0_1 : Int} {a0_2 : Int} {a0_3 : Int} {a1_0 : Int} {a1_1 : Int} {a1_2 : Int} {a1_3 : Int} {t} (h : spec_BoxesOverlap.f a0_0 a0_1 a0_2 a0_3 a1_0 a1_1 a1_2 a1_3 = some t) (K : Nat) : spec_BoxesOverlap.run K ((⟨(⟨a0_0, a0_1⟩ : S82), (⟨a0_2, a0_3⟩ : S82)⟩ : S98), (⟨(⟨a1_0, a1_1⟩ : S82), (⟨a1_2, a1_3⟩ : S82)⟩ : S98), ()) = some (spec_BoxesOverlap.toH t) := by
  rw [spec_BoxesOverlap.ef]
  (try dsimp only)
  unfold spec_BoxesOverlap.f at h
  repeat' (with_reducible first
   | exact nos h
   | (cases some_inj h; exact spec_BoxesOverlap.rt _)
   | (simp only [Option.bind_some] at h)
   | (refine ite_by h (fun hc h => ?_) (fun hc h => ?_) <;> (try simp only [nrm] at hc))
   | refine itT ?_ (by first | assumption | omega | (simp only [nrm]; first | done | assumption | omega) | (simp only [nln] at hc ⊢; omega))
   | refine itF ?_ (by first | assumption | omega | (simp only [nrm]; first | done | assumption | omega) | (simp only [nln] at hc ⊢; omega))
   | (refine bind_by h (fun t ht h => ?_); (first | refine (spec_IsBox.ap_of (spec_IsBox.go ht _)).trans ?_ | refine (spec_Max.ap_of (spec_Max.go ht _)).trans ?_ | refine (spec_Min.ap_of (spec_Min.go ht _)).trans ?_); (try dsimp only at h ⊢))
   | (simp only [decide_not, Bool.decide_and, decide_true, Bool.and_true, Bool.not_and, beqI, Int.toNat_natCast, List.take_length] at h ⊢)
   | (exfalso; omega))
def spec_AreApart.Fs : List (Spc env) := [spec_BoxesOverlap.spec]
def spec_AreApart.fin : St eΓ → Option (HL eΓ [.b]) := finR env Try.f91.results.toList [.b]
def spec_AreApart.cut : Nat → Option (List (Lv SC)) := lk [(2, [⟨0, none, false⟩, ⟨3, none, false⟩]), (5, [⟨0, none, false⟩, ⟨3, none, false⟩, ⟨4, none, false⟩])]
def spec_AreApart.ret (r0 : Bool) : Option (HL eΓ [.b]) := some (r0, ())
def spec_AreApart.p2 (k : Nat) (x3 : Int) (x0 : List S100) : Option (HL eΓ [.b]) := evM env spec_AreApart.Fs Try.f91.ntmps spec_AreApart.fin spec_AreApart.cut k [.code (sub_ [1, 0, 1, 0, 0, 0, 0] (bodyOf Try.f91)), .code (sub_ [1, 0, 1, 0, 0, 0, 1] (bodyOf Try.f91)), .code (sub_ [1, 0, 1, 0, 0, 1] (bodyOf Try.f91)), .lp (sub_ [1, 0, 1, 0, 0] (bodyOf Try.f91)), .blk 0, .code (sub_ [1, 1] (bodyOf Try.f91))] (mkSt [(0, .c (.sl 0)), (3, .c (.v (.int .i64 x3)))] [.row .ro 100 (.st .s100) x0])
def spec_AreApart.p5 (k : Nat) (x3 : Int) (x4 : Int) (x0 : List S100) : Option (HL eΓ [.b]) := evM env spec_AreApart.Fs Try.f91.ntmps spec_AreApart.fin spec_AreApart.cut k [.code (sub_ [1, 0, 1, 0, 0, 1, 0, 0, 1, 0, 0, 0, 0] (bodyOf Try.f91)), .code (sub_ [1, 0, 1, 0, 0, 1, 0, 0, 1, 0, 0, 0, 1] (bodyOf Try.f91)), .code (sub_ [1, 0, 1, 0, 0, 1, 0, 0, 1, 0, 0, 1] (bodyOf Try.f91)), .lp (sub_ [1, 0, 1, 0, 0, 1, 0, 0, 1, 0, 0] (bodyOf Try.f91)), .blk 2, .blk 1, .code (sub_ [1, 0, 1, 0, 0, 1, 1] (bodyOf Try.f91)), .lp (sub_ [1, 0, 1, 0, 0] (bodyOf Try.f91)), .blk 0, .code (sub_ [1, 1] (bodyOf Try.f91))] (mkSt [(0, .c (.sl 0)), (3, .c (.v (.int .i64 x3))), (4, .c (.v (.int .i64 x4)))] [.row .ro 100 (.st .s100) x0])
theorem spec_AreApart.e2 (k : Nat) (x3 : Int) (x0 : List S100) : spec_AreApart.p2 (k + 1) x3 x0 = if x3 < (x0.length : Int) then (spec_AreApart.p5 k x3 0 x0) else (spec_AreApart.ret true) := by kernel_rfl
theorem spec_AreApart.e5 (k : Nat) (x3 : Int) (x4 : Int) (x0 : List S100) : spec_AreApart.p5 (k + 1) x3 x4 x0 = if x4 < x3 then (if 0 ≤ x3 then (if x3 < (x0.length : Int) then (if 0 ≤ x4 then (if x4 < (x0.length : Int) then (spec_BoxesOverlap.ap k (⟨(⟨(rd_T100 x0 x3).f2.f0.f0, (rd_T100 x0 x3).f2.f0.f1⟩ : S82), (⟨(rd_T100 x0 x3).f2.f1.f0, (rd_T100 x0 x3).f2.f1.f1⟩ : S82)⟩ : S98) (⟨(⟨(rd_T100 x0 x4).f2.f0.f0, (rd_T100 x0 x4).f2.f0.f1⟩ : S82), (⟨(rd_T100 x0 x4).f2.f1.f0, (rd_T100 x0 x4).f2.f1.f1⟩ : S82)⟩ : S98) fun r1 => if r1 = true then (spec_AreApart.ret false) else (spec_AreApart.p5 k x3 (wrap64 (x4 + 1)) x0)) else none) else none) else none) else none) else (spec_AreApart.p2 k (wrap64 (x3 + 1)) x0) := by kernel_rfl
def spec_AreApart.run (k : Nat) (h : HL eΓ [.l 100 (.st .s100)]) : Option (HL eΓ [.b]) := evF env spec_AreApart.Fs Try.f91 spec_AreApart.cut [.l 100 (.st .s100)] [.b] k h
theorem spec_AreApart.ef (k : Nat) (h0 : List S100) : spec_AreApart.run k (h0, ()) = spec_AreApart.p2 k 0 h0 := by kernel_rfl
def spec_AreApart.toH (t : Bool) : HL eΓ [.b] := (t, ())
def spec_AreApart.spec : Spc env := ⟨91, [.l 100 (.st .s100)], [.b], spec_AreApart.run⟩
def spec_AreApart.ap {R : Type} (k : Nat) (h0 : List S100) (K : Bool → Option R) : Option R := (spec_AreApart.run k (h0, ())).bind fun r => K (r.1 : Bool)
theorem spec_AreApart.ap_of {R : Type} {k : Nat} {h0 : List S100} {r0 : Bool} {K : Bool → Option R} (h : spec_AreApart.run k (h0, ()) = some (r0, ())) : spec_AreApart.ap k h0 K = K r0 := by unfold spec_AreApart.ap; rw [h]; rfl
theorem spec_AreApart.snd : Snd env spec_AreApart.spec := evF_snd env_ok (sndC spec_BoxesOverlap.snd (sndN)) (by kernel_rfl) (by kernel_rfl) (by kernel_rfl)
attribute [local irreducible] spec_AreApart.run
theorem spec_AreApart.rt (a0 : Bool) : spec_AreApart.ret a0 = some (spec_AreApart.toH (a0)) := rfl
theorem spec_AreApart.br (n : Nat) : (∀ K, n ≤ K → ∀ (x3 : Int) (x0 : List S100) t, spec_AreApart.l0 n x0 x3 = some t → spec_AreApart.p2 K x3 x0 = some (spec_AreApart.toH t)) ∧ (∀ K, n ≤ K → ∀ (x3 : Int) (x4 : Int) (x0 : List S100) t, spec_AreApart.l1 n x0 x3 x4 = some t → spec_AreApart.p5 K x3 x4 x0 = some (spec_AreApart.toH t)) := by
  induction n using Nat.strongRecOn with
  | _ n ih =>
  refine ⟨fun K hK x3 x0 t h => ?_, fun K hK x3 x4 x0 t h => ?_⟩
  all_goals (rcases n with _ | k)
  all_goals (try (exact nos h))
  all_goals (obtain ⟨K, rfl⟩ : ∃ q, K = q + 1 := ⟨K - 1, by omega⟩)
  all_goals (first | rw [spec_AreApart.e2] | rw [spec_AreApart.e5])
  all_goals (simp only [spec_AreApart.l0, spec_AreApart.l1] at h)
  repeat' (with_reducible first
   | exact nos h
   | (cases some_inj h; exact spec_AreApart.rt _)
   | exact (ih _ (by omega)).1 _ (by omega) _ _ _ h
   | exact (ih _ (by omega)).2 _ (by omega) _ _ _ _ h
   | (simp only [Option.bind_some] at h)
   | (refine ite_by h (fun hc h => ?_) (fun hc h => ?_) <;> (try simp only [nrm] at hc))
   | refine itT ?_ (by first | assumption | omega | (simp only [nrm]; first | done | assumption | omega) | (simp only [nln] at hc ⊢; omega))
   | refine itF ?_ (by first | assumption | omega | (simp only [nrm]; first | done | assumption | omega) | (simp only [nln] at hc ⊢; omega))
   | (refine bind_by h (fun t ht h => ?_); refine (spec_BoxesOverlap.ap_of (spec_BoxesOverlap.go ht _)).trans ?_; (try dsimp only at h ⊢))
   | (simp only [decide_not, Bool.decide_and, decide_true, Bool.and_true, Bool.not_and, beqI, Int.toNat_natCast, List.take_length] at h ⊢)
   | (exfalso; omega))
theorem spec_AreApart.go {k : Nat} {l0 : List S100} {t} (h : spec_AreApart.f k l0 = some t) (K : Nat) (hK : k ≤ K) : spec_AreApart.run K (l0, ()) = some (spec_AreApart.toH t) := by
  rw [spec_AreApart.ef]
  (try dsimp only)
  unfold spec_AreApart.f at h
  repeat' (with_reducible first
   | exact nos h
   | (cases some_inj h; exact spec_AreApart.rt _)
   | exact (spec_AreApart.br _).1 _ (by omega) _ _ _ h
   | exact (spec_AreApart.br _).2 _ (by omega) _ _ _ _ h
   | (simp only [Option.bind_some] at h)
   | (refine ite_by h (fun hc h => ?_) (fun hc h => ?_) <;> (try simp only [nrm] at hc))
   | refine itT ?_ (by first | assumption | omega | (simp only [nrm]; first | done | assumption | omega) | (simp only [nln] at hc ⊢; omega))
   | refine itF ?_ (by first | assumption | omega | (simp only [nrm]; first | done | assumption | omega) | (simp only [nln] at hc ⊢; omega))
   | (refine bind_by h (fun t ht h => ?_); refine (spec_BoxesOverlap.ap_of (spec_BoxesOverlap.go ht _)).trans ?_; (try dsimp only at h ⊢))
   | (simp only [decide_not, Bool.decide_and, decide_true, Bool.and_true, Bool.not_and, beqI, Int.toNat_natCast, List.take_length] at h ⊢)
   | (exfalso; omega))
def spec_IsChart.Fs : List (Spc env) := [spec_FindFeature.spec, spec_IsSource.spec, spec_AreApart.spec]
def spec_IsChart.fin : St eΓ → Option (HL eΓ [.b]) := finR env Try.f36.results.toList [.b]
def spec_IsChart.cut : Nat → Option (List (Lv SC)) := lk [(2, [⟨1, none, false⟩, ⟨3, none, false⟩])]
def spec_IsChart.ret (r0 : Bool) : Option (HL eΓ [.b]) := some (r0, ())
def spec_IsChart.p2 (k : Nat) (x3 : Int) (b1 : List S29) (b2 : List S100) : Option (HL eΓ [.b]) := evM env spec_IsChart.Fs Try.f36.ntmps spec_IsChart.fin spec_IsChart.cut k [.code (sub_ [1, 0, 1, 0, 0, 0, 0] (bodyOf Try.f36)), .code (sub_ [1, 0, 1, 0, 0, 0, 1] (bodyOf Try.f36)), .code (sub_ [1, 0, 1, 0, 0, 1] (bodyOf Try.f36)), .lp (sub_ [1, 0, 1, 0, 0] (bodyOf Try.f36)), .blk 0, .code (sub_ [1, 1] (bodyOf Try.f36))] (mkSt [(1, .c (.ptr 0 0)), (3, .c (.v (.int .i64 x3)))] [.box 53 [.sl 1, .sl 2], .row .ro 29 (.st .s29) b1, .row .ro 100 (.st .s100) b2])
theorem spec_IsChart.e2 (k : Nat) (x3 : Int) (b1 : List S29) (b2 : List S100) : spec_IsChart.p2 (k + 1) x3 b1 b2 = if x3 < (b2.length : Int) then (if 0 ≤ x3 then (if x3 < (b2.length : Int) then (spec_FindFeature.ap k b1 ((rd_T100 b2 x3).f0) fun r1 => if r1 < 0 then (spec_IsChart.ret false) else (if 0 ≤ r1 then (if r1 < (b1.length : Int) then (if 0 ≤ x3 then (if x3 < (b2.length : Int) then (if ¬ ((rd_T29 b1 r1).f3).toList = ((rd_T100 b2 x3).f1).toList then (spec_IsChart.ret false) else (spec_IsChart.p2 k (wrap64 (x3 + 1)) b1 b2)) else none) else none) else none) else none)) else none) else none) else (spec_IsSource.ap k b1 fun r2 => if r2 = true then (spec_AreApart.ap k b2 fun r3 => spec_IsChart.ret r3) else (spec_IsChart.ret false)) := by kernel_rfl
def spec_IsChart.run (k : Nat) (h : HL eΓ [.st .s53]) : Option (HL eΓ [.b]) := evF env spec_IsChart.Fs Try.f36 spec_IsChart.cut [.st .s53] [.b] k h
theorem spec_IsChart.ef (k : Nat) (h0 : S53) : spec_IsChart.run k (h0, ()) = spec_IsChart.p2 k 0 h0.f0 h0.f1 := by kernel_rfl
def spec_IsChart.toH (t : Bool) : HL eΓ [.b] := (t, ())
def spec_IsChart.spec : Spc env := ⟨36, [.st .s53], [.b], spec_IsChart.run⟩
theorem spec_IsChart.snd : Snd env spec_IsChart.spec := evF_snd env_ok (sndC spec_FindFeature.snd (sndC spec_IsSource.snd (sndC spec_AreApart.snd (sndN)))) (by kernel_rfl) (by kernel_rfl) (by kernel_rfl)
attribute [local irreducible] spec_IsChart.run
theorem spec_IsChart.rt (a0 : Bool) : spec_IsChart.ret a0 = some (spec_IsChart.toH (a0)) := rfl
theorem spec_IsChart.br (n : Nat) : (∀ K, n ≤ K → ∀ (x3 : Int) (b1 : List S29) (b2 : List S100) t, spec_IsChart.l0 n x3 b1 b2 = some t → spec_IsChart.p2 K x3 b1 b2 = some (spec_IsChart.toH t)) := by
  induction n using Nat.strongRecOn with
  | _ n ih =>
  intro K hK x3 b1 b2 t h
  all_goals (rcases n with _ | k)
  all_goals (try (exact nos h))
  all_goals (obtain ⟨K, rfl⟩ : ∃ q, K = q + 1 := ⟨K - 1, by omega⟩)
  all_goals (first | rw [spec_IsChart.e2])
  all_goals (simp only [spec_IsChart.l0] at h)
  repeat' (with_reducible first
   | exact nos h
   | (cases some_inj h; exact spec_IsChart.rt _)
   | exact (ih _ (by omega)) _ (by omega) _ _ _ _ h
   | (simp only [Option.bind_some] at h)
   | (refine ite_by h (fun hc h => ?_) (fun hc h => ?_) <;> (try simp only [nrm] at hc))
   | refine itT ?_ (by first | assumption | omega | (simp only [nrm]; first | done | assumption | omega) | (simp only [nln] at hc ⊢; omega))
   | refine itF ?_ (by first | assumption | omega | (simp only [nrm]; first | done | assumption | omega) | (simp only [nln] at hc ⊢; omega))
   | (refine bind_by h (fun t ht h => ?_); (first | refine (spec_FindFeature.ap_of (spec_FindFeature.go ht _ (by omega))).trans ?_ | refine (spec_IsSource.ap_of (spec_IsSource.go ht _ (by omega))).trans ?_ | refine (spec_AreApart.ap_of (spec_AreApart.go ht _ (by omega))).trans ?_); (try dsimp only at h ⊢))
   | (simp only [decide_not, Bool.decide_and, decide_true, Bool.and_true, Bool.not_and, beqI, Int.toNat_natCast, List.take_length] at h ⊢)
   | (exfalso; omega))
theorem spec_IsChart.go {k : Nat} {l0_0 : List S29} {l0_1 : List S100} {t} (h : spec_IsChart.f k l0_0 l0_1 = some t) (K : Nat) (hK : k ≤ K) : spec_IsChart.run K ((⟨l0_0, l0_1⟩ : S53), ()) = some (spec_IsChart.toH t) := by
  rw [spec_IsChart.ef]
  (try dsimp only)
  unfold spec_IsChart.f at h
  repeat' (with_reducible first
   | exact nos h
   | (cases some_inj h; exact spec_IsChart.rt _)
   | exact (spec_IsChart.br _) _ (by omega) _ _ _ _ h
   | (simp only [Option.bind_some] at h)
   | (refine ite_by h (fun hc h => ?_) (fun hc h => ?_) <;> (try simp only [nrm] at hc))
   | refine itT ?_ (by first | assumption | omega | (simp only [nrm]; first | done | assumption | omega) | (simp only [nln] at hc ⊢; omega))
   | refine itF ?_ (by first | assumption | omega | (simp only [nrm]; first | done | assumption | omega) | (simp only [nln] at hc ⊢; omega))
   | (refine bind_by h (fun t ht h => ?_); (first | refine (spec_FindFeature.ap_of (spec_FindFeature.go ht _ (by omega))).trans ?_ | refine (spec_IsSource.ap_of (spec_IsSource.go ht _ (by omega))).trans ?_ | refine (spec_AreApart.ap_of (spec_AreApart.go ht _ (by omega))).trans ?_); (try dsimp only at h ⊢))
   | (simp only [decide_not, Bool.decide_and, decide_true, Bool.and_true, Bool.not_and, beqI, Int.toNat_natCast, List.take_length] at h ⊢)
   | (exfalso; omega))
theorem spec_IsChart.calls (k : Nat) (A0_0 : Option Addr) (c0_0 : Nat) (l0_0 : List (S29)) (A0_1 : Option Addr) (c0_1 : Nat) (l0_1 : List (S100)) (r : Bool) (w : World) (hr0_0 : Kd.C k29 w A0_0 l0_0.length l0_0) (hc0_0 : l0_0.length ≤ c0_0) (hr0_1 : Kd.C k100 w A0_1 l0_1.length l0_1) (hc0_1 : l0_1.length ≤ c0_1) (h : spec_IsChart.f k l0_0 l0_1 = some r) :
  Calls Try.prog 36 #[.agg #[.slice A0_0 l0_0.length c0_0, .slice A0_1 l0_1.length c0_1]] w fun e w' => e = .returned (.bool r) ∧ Below w.heap.size w w' := by
  refine (spec_IsChart.snd.calls _ _ _ (spec_IsChart.go h k (Nat.le_refl k)) w [.agg #[.slice A0_0 l0_0.length c0_0, .slice A0_1 l0_1.length c0_1]] ⟨⟨_, rfl, (H53.K _ _ _).2 ⟨⟨_, _, rfl, hc0_0, hr0_0⟩, ⟨_, _, rfl, hc0_1, hr0_1⟩, trivial⟩⟩, trivial⟩).mono ?_
  rintro e w' ⟨v, rfl, hB, vs, oks, rfl, hR, _⟩
  obtain ⟨x0_, vs, o0_, oks, rfl, rfl, m0_, hR⟩ := rmsC hR
  obtain rfl := rmsN hR
  obtain rfl := List.singleton_inj.1 (show [x0_] = [Value.bool r] from m0_)
  exact ⟨rfl, hB⟩
def laws_toPoint.Fs : List (Spc env) := []
def laws_toPoint.cut : Nat → Option (List (Lv SC)) := lk []
def laws_toPoint.ret (r0 : S82) : Option (HL eΓ [.st .s82]) := some (r0, ())
def laws_toPoint.run (k : Nat) (h : HL eΓ [.st .s118]) : Option (HL eΓ [.st .s82]) := evF env laws_toPoint.Fs Try.f110 laws_toPoint.cut [.st .s118] [.st .s82] k h
theorem laws_toPoint.ef (k : Nat) (h0 : S118) : laws_toPoint.run k (h0, ()) = laws_toPoint.ret (⟨h0.f0, h0.f1⟩ : S82) := by kernel_rfl
def laws_toPoint.toH (t : Int × Int) : HL eΓ [.st .s82] := ((⟨t.1, t.2⟩ : S82), ())
def laws_toPoint.spec : Spc env := ⟨110, [.st .s118], [.st .s82], laws_toPoint.run⟩
def laws_toPoint.ap {R : Type} (k : Nat) (h0 : S118) (K : S82 → Option R) : Option R := (laws_toPoint.run k (h0, ())).bind fun r => K (r.1 : S82)
theorem laws_toPoint.ap_of {R : Type} {k : Nat} {h0 : S118} {r0 : S82} {K : S82 → Option R} (h : laws_toPoint.run k (h0, ()) = some (r0, ())) : laws_toPoint.ap k h0 K = K r0 := by unfold laws_toPoint.ap; rw [h]; rfl
theorem laws_toPoint.snd : Snd env laws_toPoint.spec := evF_snd env_ok (sndN) (by kernel_rfl) (by kernel_rfl) (by kernel_rfl)
attribute [local irreducible] laws_toPoint.run
theorem laws_toPoint.rt (a0 : Int) (a1 : Int) : laws_toPoint.ret (⟨a0, a1⟩ : S82) = some (laws_toPoint.toH (a0, a1)) := rfl
theorem laws_toPoint.go {a0_0 : Int} {a0_1 : Int} {t} (h : laws_toPoint.f a0_0 a0_1 = some t) (K : Nat) : laws_toPoint.run K ((⟨a0_0, a0_1⟩ : S118), ()) = some (laws_toPoint.toH t) := by
  rw [laws_toPoint.ef]
  (try dsimp only)
  unfold laws_toPoint.f at h
  repeat' (with_reducible first
   | exact nos h
   | (cases some_inj h; exact laws_toPoint.rt _ _)
   | (simp only [Option.bind_some] at h)
   | (refine ite_by h (fun hc h => ?_) (fun hc h => ?_) <;> (try simp only [nrm] at hc))
   | refine itT ?_ (by first | assumption | omega | (simp only [nrm]; first | done | assumption | omega) | (simp only [nln] at hc ⊢; omega))
   | refine itF ?_ (by first | assumption | omega | (simp only [nrm]; first | done | assumption | omega) | (simp only [nln] at hc ⊢; omega))
   | (simp only [decide_not, Bool.decide_and, decide_true, Bool.and_true, Bool.not_and, beqI, Int.toNat_natCast, List.take_length] at h ⊢)
   | (exfalso; omega))
def laws_toPointS.Fs : List (Spc env) := [laws_toPoint.spec]
def laws_toPointS.fin : St eΓ → Option (HL eΓ [.l 82 (.st .s82)]) := finR env Try.f64.results.toList [.l 82 (.st .s82)]
def laws_toPointS.cut : Nat → Option (List (Lv SC)) := lk [(3, [⟨0, none, false⟩, ⟨3, none, false⟩, ⟨4, none, false⟩])]
def laws_toPointS.ret (r0 : List S82) : Option (HL eΓ [.l 82 (.st .s82)]) := some (r0, ())
def laws_toPointS.p3 (k : Nat) (x4 : Int) (x0 : List S118) (x3 : List S82) : Option (HL eΓ [.l 82 (.st .s82)]) := evM env laws_toPointS.Fs Try.f64.ntmps laws_toPointS.fin laws_toPointS.cut k [.code (sub_ [1, 1, 0, 1, 0, 0, 0, 0] (bodyOf Try.f64)), .code (sub_ [1, 1, 0, 1, 0, 0, 0, 1] (bodyOf Try.f64)), .code (sub_ [1, 1, 0, 1, 0, 0, 1] (bodyOf Try.f64)), .lp (sub_ [1, 1, 0, 1, 0, 0] (bodyOf Try.f64)), .blk 0, .code (sub_ [1, 1, 1] (bodyOf Try.f64))] (mkSt [(0, .c (.sl 0)), (3, .c (.sl 1)), (4, .c (.v (.int .i64 x4)))] [.row .ro 118 (.st .s118) x0, .row .own 82 (.st .s82) x3])
theorem laws_toPointS.e3 (k : Nat) (x4 : Int) (x0 : List S118) (x3 : List S82) : laws_toPointS.p3 (k + 1) x4 x0 x3 = if x4 < (x0.length : Int) then (if 0 ≤ x4 then (if x4 < (x0.length : Int) then (laws_toPoint.ap k (⟨(rd_T118 x0 x4).f0, (rd_T118 x0 x4).f1⟩ : S118) fun r1 => if 0 ≤ x4 then (if x4 < (x3.length : Int) then (laws_toPointS.p3 k (wrap64 (x4 + 1)) x0 (x3.set x4.toNat (⟨r1.f0, r1.f1⟩ : S82))) else none) else none) else none) else none) else (laws_toPointS.ret x3) := by kernel_rfl
def laws_toPointS.run (k : Nat) (h : HL eΓ [.l 118 (.st .s118)]) : Option (HL eΓ [.l 82 (.st .s82)]) := evF env laws_toPointS.Fs Try.f64 laws_toPointS.cut [.l 118 (.st .s118)] [.l 82 (.st .s82)] k h
theorem laws_toPointS.ef (k : Nat) (h0 : List S118) : laws_toPointS.run k (h0, ()) = if (h0.length : Int) = (h0.length : Int) then (if 0 ≤ (h0.length : Int) then (if (h0.length : Int).toNat * 16 ≤ 281474976710656 then (laws_toPointS.p3 k 0 h0 (List.replicate (h0.length : Int).toNat z82)) else none) else none) else none := by kernel_rfl
def laws_toPointS.toH (t : (List (S82))) : HL eΓ [.l 82 (.st .s82)] := (t, ())
def laws_toPointS.spec : Spc env := ⟨64, [.l 118 (.st .s118)], [.l 82 (.st .s82)], laws_toPointS.run⟩
def laws_toPointS.ap {R : Type} (k : Nat) (h0 : List S118) (K : (List S82) → Option R) : Option R := (laws_toPointS.run k (h0, ())).bind fun r => K (r.1 : List S82)
theorem laws_toPointS.ap_of {R : Type} {k : Nat} {h0 : List S118} {r0 : List S82} {K : (List S82) → Option R} (h : laws_toPointS.run k (h0, ()) = some (r0, ())) : laws_toPointS.ap k h0 K = K r0 := by unfold laws_toPointS.ap; rw [h]; rfl
theorem laws_toPointS.snd : Snd env laws_toPointS.spec := evF_snd env_ok (sndC laws_toPoint.snd (sndN)) (by kernel_rfl) (by kernel_rfl) (by kernel_rfl)
attribute [local irreducible] laws_toPointS.run
theorem laws_toPointS.rt (a0 : List S82) : laws_toPointS.ret a0 = some (laws_toPointS.toH (a0)) := rfl
theorem laws_toPointS.br (n : Nat) : (∀ K, n ≤ K → ∀ (x4 : Int) (x0 : List S118) (x3 : List S82) t, laws_toPointS.l0 n x0 x3 x4 = some t → laws_toPointS.p3 K x4 x0 x3 = some (laws_toPointS.toH t)) := by
  induction n using Nat.strongRecOn with
  | _ n ih =>
  intro K hK x4 x0 x3 t h
  all_goals (rcases n with _ | k)
  all_goals (try (exact nos h))
  all_goals (obtain ⟨K, rfl⟩ : ∃ q, K = q + 1 := ⟨K - 1, by omega⟩)
  all_goals (first | rw [laws_toPointS.e3])
  all_goals (simp only [laws_toPointS.l0] at h)
  repeat' (with_reducible first
   | exact nos h
   | (cases some_inj h; exact laws_toPointS.rt _)
   | exact (ih _ (by omega)) _ (by omega) _ _ _ _ h
   | (simp only [Option.bind_some] at h)
   | (refine ite_by h (fun hc h => ?_) (fun hc h => ?_) <;> (try simp only [nrm] at hc))
   | refine itT ?_ (by first | assumption | omega | (simp only [nrm]; first | done | assumption | omega) | (simp only [nln] at hc ⊢; omega))
   | refine itF ?_ (by first | assumption | omega | (simp only [nrm]; first | done | assumption | omega) | (simp only [nln] at hc ⊢; omega))
   | (refine bind_by h (fun t ht h => ?_); refine (laws_toPoint.ap_of (laws_toPoint.go ht _)).trans ?_; (try dsimp only at h ⊢))
   | (simp only [decide_not, Bool.decide_and, decide_true, Bool.and_true, Bool.not_and, beqI, Int.toNat_natCast, List.take_length] at h ⊢)
   | (exfalso; omega))
theorem laws_toPointS.go {k : Nat} {l0 : List S118} {t} (h : laws_toPointS.f k l0 = some t) (K : Nat) (hK : k ≤ K) : laws_toPointS.run K (l0, ()) = some (laws_toPointS.toH t) := by
  rw [laws_toPointS.ef]
  (try dsimp only)
  unfold laws_toPointS.f at h
  repeat' (with_reducible first
   | exact nos h
   | (cases some_inj h; exact laws_toPointS.rt _)
   | exact (laws_toPointS.br _) _ (by omega) _ _ _ _ h
   | (simp only [Option.bind_some] at h)
   | (refine ite_by h (fun hc h => ?_) (fun hc h => ?_) <;> (try simp only [nrm] at hc))
   | refine itT ?_ (by first | assumption | omega | (simp only [nrm]; first | done | assumption | omega) | (simp only [nln] at hc ⊢; omega))
   | refine itF ?_ (by first | assumption | omega | (simp only [nrm]; first | done | assumption | omega) | (simp only [nln] at hc ⊢; omega))
   | (refine bind_by h (fun t ht h => ?_); refine (laws_toPoint.ap_of (laws_toPoint.go ht _)).trans ?_; (try dsimp only at h ⊢))
   | (simp only [decide_not, Bool.decide_and, decide_true, Bool.and_true, Bool.not_and, beqI, Int.toNat_natCast, List.take_length] at h ⊢)
   | (exfalso; omega))
def laws_toFeature.Fs : List (Spc env) := [laws_toPointS.spec]
def laws_toFeature.cut : Nat → Option (List (Lv SC)) := lk []
def laws_toFeature.ret (r0 : S29) : Option (HL eΓ [.st .s29]) := some (r0, ())
def laws_toFeature.run (k : Nat) (h : HL eΓ [.st .s24]) : Option (HL eΓ [.st .s29]) := evF env laws_toFeature.Fs Try.f17 laws_toFeature.cut [.st .s24] [.st .s29] k h
theorem laws_toFeature.ef (k : Nat) (h0 : S24) : laws_toFeature.run k (h0, ()) = laws_toPointS.ap k h0.f4 fun r1 => laws_toFeature.ret (⟨h0.f0, h0.f1, h0.f2, h0.f3, r1⟩ : S29) := by kernel_rfl
def laws_toFeature.toH (t : Int × Int × Int × ByteArray × (List (S82))) : HL eΓ [.st .s29] := ((⟨t.1, t.2.1, t.2.2.1, t.2.2.2.1, t.2.2.2.2⟩ : S29), ())
def laws_toFeature.spec : Spc env := ⟨17, [.st .s24], [.st .s29], laws_toFeature.run⟩
theorem laws_toFeature.snd : Snd env laws_toFeature.spec := evF_snd env_ok (sndC laws_toPointS.snd (sndN)) (by kernel_rfl) (by kernel_rfl) (by kernel_rfl)
attribute [local irreducible] laws_toFeature.run
theorem laws_toFeature.rt (a0 : Int) (a1 : Int) (a2 : Int) (a3 : ByteArray) (a4 : List S82) : laws_toFeature.ret (⟨a0, a1, a2, a3, a4⟩ : S29) = some (laws_toFeature.toH (a0, a1, a2, a3, a4)) := rfl
theorem laws_toFeature.go {k : Nat} {a0_0 : Int} {a0_1 : Int} {a0_2 : Int} {a0_3 : ByteArray} {l0_4 : List S118} {t} (h : laws_toFeature.f k a0_0 a0_1 a0_2 a0_3 l0_4 = some t) (K : Nat) (hK : k ≤ K) : laws_toFeature.run K ((⟨a0_0, a0_1, a0_2, a0_3, l0_4⟩ : S24), ()) = some (laws_toFeature.toH t) := by
  rw [laws_toFeature.ef]
  (try dsimp only)
  unfold laws_toFeature.f at h
  repeat' (with_reducible first
   | exact nos h
   | (cases some_inj h; exact laws_toFeature.rt _ _ _ _ _)
   | (simp only [Option.bind_some] at h)
   | (refine ite_by h (fun hc h => ?_) (fun hc h => ?_) <;> (try simp only [nrm] at hc))
   | refine itT ?_ (by first | assumption | omega | (simp only [nrm]; first | done | assumption | omega) | (simp only [nln] at hc ⊢; omega))
   | refine itF ?_ (by first | assumption | omega | (simp only [nrm]; first | done | assumption | omega) | (simp only [nln] at hc ⊢; omega))
   | (refine bind_by h (fun t ht h => ?_); refine (laws_toPointS.ap_of (laws_toPointS.go ht _ (by omega))).trans ?_; (try dsimp only at h ⊢))
   | (simp only [decide_not, Bool.decide_and, decide_true, Bool.and_true, Bool.not_and, beqI, Int.toNat_natCast, List.take_length] at h ⊢)
   | (exfalso; omega))
theorem laws_toFeature.calls (k : Nat) (a0_0 : Int) (a0_1 : Int) (a0_2 : Int) (a0_3 : ByteArray) (A0_4 : Option Addr) (c0_4 : Nat) (l0_4 : List (S118)) (r1 : Int) (r2 : Int) (r3 : Int) (r4 : ByteArray) (r5 : List (S82)) (w : World) (hr0_4 : Kd.C k118 w A0_4 l0_4.length l0_4) (hc0_4 : l0_4.length ≤ c0_4) (h : laws_toFeature.f k a0_0 a0_1 a0_2 a0_3 l0_4 = some (r1, r2, r3, r4, r5)) :
  Calls Try.prog 17 #[.agg #[.int .i64 a0_0, .int .i64 a0_1, .int .i64 a0_2, .string a0_3, .slice A0_4 l0_4.length c0_4]] w fun e w' => ∃ v4_ : Value, e = .returned (.agg #[.int .i64 r1, .int .i64 r2, .int .i64 r3, .string r4, v4_]) ∧ Kd.R k82 82 w' w.heap.size (fun _ => True) v4_ r5 ∧ Below w.heap.size w w' := by
  refine (laws_toFeature.snd.calls _ _ _ (laws_toFeature.go h k (Nat.le_refl k)) w [.agg #[.int .i64 a0_0, .int .i64 a0_1, .int .i64 a0_2, .string a0_3, .slice A0_4 l0_4.length c0_4]] ⟨⟨_, rfl, (H24.K _ _ _).2 ⟨rfl, rfl, rfl, rfl, ⟨_, _, rfl, hc0_4, hr0_4⟩, trivial⟩⟩, trivial⟩).mono ?_
  rintro e w' ⟨v, rfl, hB, vs, oks, rfl, hR, _⟩
  obtain ⟨x0_, vs, o0_, oks, rfl, rfl, m0_, hR⟩ := rmsC hR
  obtain rfl := rmsN hR
  obtain ⟨y0, rfl, m0_⟩ := m0_
  have m0_ := (H29.M _ _ _ _ _).1 m0_
  match e0 : y0.toList, m0_ with
  | [d0_0, d0_1, d0_2, d0_3, d0_4], ⟨n0_0, n0_1, n0_2, n0_3, n0_4, _⟩ =>
  obtain rfl : y0 = #[d0_0, d0_1, d0_2, d0_3, d0_4] := by rw [← Array.toArray_toList (xs := y0), e0]
  obtain rfl := List.singleton_inj.1 (show [d0_0] = [Value.int .i64 r1] from n0_0)
  obtain rfl := List.singleton_inj.1 (show [d0_1] = [Value.int .i64 r2] from n0_1)
  obtain rfl := List.singleton_inj.1 (show [d0_2] = [Value.int .i64 r3] from n0_2)
  obtain rfl := List.singleton_inj.1 (show [d0_3] = [Value.string r4] from n0_3)
  obtain ⟨d0_4v, d0_4e, d0_4R⟩ := n0_4
  obtain rfl := List.singleton_inj.1 d0_4e
  exact ⟨_, rfl, Kd.R_mono d0_4R (fun _ _ => trivial), hB⟩
end
end Go.Proofs.Ytdfehjfmihokpaa.PFnExactIsChart
