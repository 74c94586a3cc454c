/- A reckoner for Go's code over abstract states, and that what it reckons is what Go does. No condition. -/
import Derived.Test.YtkomgmgpgnjooaaGreatWWords
set_option linter.unusedVariables false
set_option linter.unusedSimpArgs false
namespace Go.Proofs.YtkomgmgpgnjooaaGreatEv
open Go Go.RowKit Go.Proofs.YtkomgmgpgnjooaaGreatW.PrintWords
noncomputable section
inductive Ty (C : Type) where
 | i (k : IntKind)
 | b
 | s
 | st (n : C)
 | l (e : Nat) (t : Ty C)
def Ty.beq {C : Type} (cb : C → C → Bool) : Ty C → Ty C → Bool
 | .i k, .i k' => decide (k = k')
 | .b, .b => true
 | .s, .s => true
 | .st n, .st m => cb n m
 | .l e t, .l e' t' => Nat.beq e e' && t.beq cb t'
 | _, _ => false
theorem Ty.eq_of_beq {C : Type} {cb : C → C → Bool} (hcb : ∀ a b, cb a b = true → a = b) : ∀ {x y : Ty C}, x.beq cb y = true → x = y
 | .i k, .i k', h => by simp only [Ty.beq, decide_eq_true_eq] at h; rw [h]
 | .b, .b, _ => rfl
 | .s, .s, _ => rfl
 | .st n, .st m, h => by simp only [Ty.beq] at h; rw [hcb _ _ h]
 | .l e t, .l e' t', h => by
  simp only [Ty.beq, Bool.and_eq_true] at h
  rw [Nat.eq_of_beq_eq_true h.1, Ty.eq_of_beq hcb h.2]
def Ty.den {C : Type} (Γ : C → Type) : Ty C → Type
 | .i _ => Int
 | .b => Bool
 | .s => ByteArray
 | .st n => Γ n
 | .l _ t => List (t.den Γ)
def HL {C : Type} (Γ : C → Type) : List (Ty C) → Type
 | [] => Unit
 | t :: ts => t.den Γ × HL Γ ts
inductive CV where
 | v (x : Value)
 | lit (x : Bool)
 | p (q : Prop) (d : Decidable q)
 | ptr (id off : Nat)
 | ep (id : Nat) (i : Int) (sz f : Nat)
 | sl (id : Nat)
inductive AV where
 | c (x : CV)
 | agg (xs : List CV)
 | tup (xs : List (Bool × List CV))
 | und
 | any
inductive Mode where
 | own
 | ro
 | view (p : Nat)
inductive Bk {C : Type} (Γ : C → Type) where
 | dead
 | box (t : Nat) (cs : List CV)
 | row (m : Mode) (e : Nat) (t : Ty C) (l : List (t.den Γ))
structure St {C : Type} (Γ : C → Type) where
 tm : Nat → AV
 bk : Nat → Bk Γ
 nx : Nat
structure Env where
 P : Program
 C : Type
 cb : C → C → Bool
 cbe : ∀ a b, cb a b = true → a = b
 Γ : C → Type
 fs : C → List (Ty C)
 opn : (n : C) → Γ n → HL Γ (fs n)
 sht : (n : C) → HL Γ (fs n) → Γ n
 z : (n : C) → Γ n
 kst : (n : C) → Kd (Γ n)
 sh : Nat → Option (Bool × Nat)
 zc : Nat → Option (List Value)
 fld : Nat → Nat → Option Nat
 sl : Nat → Option (Nat × Ty C × Nat × Nat × List Value)
 str : Nat → Bool
 ik : Nat → Option IntKind
 pl : Nat → Option (List (Nat × Nat))
 eqt : Nat → Nat → Bool
def St.put {C : Type} {Γ : C → Type} (σ : St Γ) (dst : Option Nat) (v : AV) : St Γ :=
 match dst with
 | some d => { σ with tm := fun t => bif Nat.beq t d then v else σ.tm t }
 | none => σ
def St.lay {C : Type} {Γ : C → Type} (σ : St Γ) (id : Nat) (b : Bk Γ) : St Γ := { σ with bk := fun n => bif Nat.beq n id then b else σ.bk n }
def CV.ofV : Value → CV
 | .bool x => .lit x
 | u => .v u
def AV.ofV : Value → AV
 | .agg cs => bif cs.toList.all Value.oneCell' then .agg (cs.toList.map CV.ofV) else .any
 | .tuple _ => .any
 | .bool x => .c (.lit x)
 | u => .c (.v u)
def St.ev {C : Type} {Γ : C → Type} (σ : St Γ) : Operand → AV
 | .tmp t => σ.tm t
 | .const v => AV.ofV v
 | .func f => .c (.v (.func (.func f) #[] #[]))
 | .global _ => .any
def St.optI {C : Type} {Γ : C → Type} (σ : St Γ) : Option Operand → Option (Option Int)
 | none => some none
 | some y =>
  match σ.ev y with
  | .c (.v (.int _ n)) => some (some n)
  | _ => none
def orI (d : Int) : Option Int → Int
 | some n => n
 | none => d
def AV.cells : AV → Option (List CV)
 | .c x => some [x]
 | .agg xs => some xs
 | _ => none
def lk {α : Type} : List (Nat × α) → Nat → Option α
 | [], _ => none
 | (k, v) :: r, n => bif Nat.beq k n then some v else lk r n
def lkF (l : List (Nat × List (Nat × Nat × Bool))) (t i : Nat) : Option (Nat × Nat × Bool) :=
 match lk l t with
 | some r => r[i]?
 | none => none
def lkE (l : List (Nat × (Bool × Nat))) (t n : Nat) : Bool :=
 match lk l t with
 | some (true, m) => Nat.beq m n
 | _ => false
def wr : IntKind → Int → Int
 | .i64, x => wrap64 x
 | k, x => k.wrap x
section
variable {R : Type}
def onB : AV → Option R → Option R → Option R
 | .c (.lit true), A, _ => A
 | .c (.lit false), _, B => B
 | .c (.v (.bool x)), A, B => if x = true then A else B
 | .c (.p q d), A, B => @ite _ q d A B
 | _, _, _ => none
def tqS : {f : Int → Int → Int // f = Int.tdiv} := Classical.choice ⟨⟨Int.tdiv, rfl⟩⟩
def tq (x y : Int) : Int := tqS.1 x y
theorem tq_eq (x y : Int) : tq x y = Int.tdiv x y := congrFun (congrFun tqS.2 x) y
def binI (nz : Bool) (op : BinOp) (k : IntKind) (x y : Int) (K : CV → Option R) : Option R :=
 match op with
 | .add => K (.v (.int k (wr k (x + y))))
 | .sub => K (.v (.int k (wr k (x - y))))
 | .mul => K (.v (.int k (wr k (x * y))))
 | .quo => cond nz (K (.v (.int k (wr k (tq x y))))) (if y = 0 then none else K (.v (.int k (wr k (tq x y)))))
 | .rem => cond nz (K (.v (.int k (Int.tmod x y)))) (if y = 0 then none else K (.v (.int k (Int.tmod x y))))
 | .eql => K (.p (x = y) inferInstance)
 | .neq => K (.p (¬ x = y) inferInstance)
 | .lss => K (.p (x < y) inferInstance)
 | .leq => K (.p (x ≤ y) inferInstance)
 | .gtr => K (.p (x > y) inferInstance)
 | .geq => K (.p (x ≥ y) inferInstance)
 | _ => none
def binS (op : BinOp) (x y : ByteArray) (K : CV → Option R) : Option R :=
 match op with
 | .add => if x.size + y.size ≤ 9223372036854775807 then K (.v (.string (x ++ y))) else none
 | .eql => K (.p (x.toList = y.toList) inferInstance)
 | .neq => K (.p (¬ x.toList = y.toList) inferInstance)
 | .lss => K (.v (.bool (Op.bytesLess x.toList y.toList)))
 | _ => none
end
structure Dp where
 q : Prop
 d : Decidable q
def eqC : CV → CV → Option Dp
 | .v (.int k x), .v (.int k' y) => bif decide (k = k') then some ⟨x = y, inferInstance⟩ else none
 | _, _ => none
def eqCs : List CV → List CV → Option Dp
 | [], [] => some ⟨True, inferInstance⟩
 | x :: xs, y :: ys =>
  match eqC x y, eqCs xs ys with
  | some ⟨q, d⟩, some ⟨q', d'⟩ => some ⟨q ∧ q', inferInstance⟩
  | _, _ => none
 | _, _ => none
def isZ : Operand → Bool
 | .const (.int _ n) => !decide (n = 0)
 | _ => false
def AV.boolC : AV → Option CV
 | .c (.lit x) => some (.lit x)
 | .c (.v (.bool x)) => some (.v (.bool x))
 | .c (.p q d) => some (.p q d)
 | _ => none
def notC : AV → Option CV
 | .c (.lit x) => some (.lit (!x))
 | .c (.v (.bool x)) => some (.v (.bool (!x)))
 | .c (.p q d) => some (.p (¬ q) (@instDecidableNot q d))
 | _ => none
section
variable (E : Env)
def ty_to (a c : Ty E.C) (x : a.den E.Γ) : Option (c.den E.Γ) := if h : a.beq E.cb c = true then some (Ty.eq_of_beq E.cbe h ▸ x) else none
def cell (σ : St E.Γ) : (t : Ty E.C) → CV → Option (t.den E.Γ)
 | .i k, .v (.int k' n) => bif decide (k = k') then some n else none
 | .b, .v (.bool x) => some x
 | .b, .lit x => some x
 | .b, .p q d => some (@decide q d)
 | .s, .v (.string x) => some x
 | .l e t, .sl j =>
  match σ.bk j with
  | .row _ e' t' x => ty_to E (.l e' t') (.l e t) x
  | _ => none
 | .l _ _, .v (.slice none 0 0) => some []
 | _, _ => none
def hl (σ : St E.Γ) : (ts : List (Ty E.C)) → List CV → Option (HL E.Γ ts)
 | [], [] => some ()
 | t :: ts, c :: cs =>
  match cell E σ t c with
  | some x => match hl σ ts cs with
   | some h => some (x, h)
   | none => none
  | none => none
 | _, _ => none
def argOf (σ : St E.Γ) : (t : Ty E.C) → AV → Option (t.den E.Γ)
 | .st n, .agg cs => match hl E σ (E.fs n) cs with
  | some h => some (E.sht n h)
  | none => none
 | .st _, _ => none
 | t, .c x => cell E σ t x
 | _, _ => none
def argsOf (σ : St E.Γ) : (ts : List (Ty E.C)) → List AV → Option (HL E.Γ ts)
 | [], [] => some ()
 | t :: ts, v :: vs =>
  match argOf E σ t v with
  | some x => match argsOf σ ts vs with
   | some h => some (x, h)
   | none => none
  | none => none
 | _, _ => none
def outC (n : Nat) : (t : Ty E.C) → t.den E.Γ → CV
 | .i k, x => .v (.int k x)
 | .b, x => .v (.bool x)
 | .s, x => .v (.string x)
 | .l _ _, _ => .sl n
 | .st _, _ => .v undef
def outCs (n : Nat) : (ts : List (Ty E.C)) → HL E.Γ ts → List CV
 | [], _ => []
 | t :: ts, x => outC E n t x.1 :: outCs (n + 1) ts x.2
def outB (m : Mode) : (t : Ty E.C) → t.den E.Γ → Bk E.Γ
 | .l e t, x => .row m e t x
 | _, _ => .dead
def outBs (m : Mode) (old : Nat → Bk E.Γ) (n : Nat) : (ts : List (Ty E.C)) → HL E.Γ ts → Nat → Bk E.Γ
 | [], _ => old
 | t :: ts, x => fun j => bif Nat.beq j n then outB E m t x.1 else outBs m old (n + 1) ts x.2 j
def outA (n : Nat) : (t : Ty E.C) → t.den E.Γ → Bool × List CV
 | .st k, x => (true, outCs E n (E.fs k) (E.opn k x))
 | t, x => (false, [outC E n t x])
def outAs (n : Nat) : (ts : List (Ty E.C)) → HL E.Γ ts → List (Bool × List CV)
 | [], _ => []
 | t :: ts, x => outA E n t x.1 :: outAs (n + 16) ts x.2
def outBA (m : Mode) (old : Nat → Bk E.Γ) (n : Nat) : (t : Ty E.C) → t.den E.Γ → Nat → Bk E.Γ
 | .st k, x => outBs E m old n (E.fs k) (E.opn k x)
 | t, x => fun j => bif Nat.beq j n then outB E m t x else old j
def outBAs (m : Mode) (old : Nat → Bk E.Γ) (n : Nat) : (ts : List (Ty E.C)) → HL E.Γ ts → Nat → Bk E.Γ
 | [], _ => old
 | t :: ts, x => outBA E m (outBAs m old (n + 16) ts x.2) n t x.1
def packA : List (Bool × List CV) → AV
 | [(true, cs)] => .agg cs
 | [(false, [c])] => .c c
 | xs => .tup xs
def dz : (t : Ty E.C) → t.den E.Γ
 | .i _ => (0 : Int)
 | .b => false
 | .s => (⟨#[]⟩ : ByteArray)
 | .st n => E.z n
 | .l _ _ => []
def flat (t : Ty E.C) : List (Ty E.C) :=
 match t with
 | .st n => E.fs n
 | t => [t]
def opnT : (t : Ty E.C) → t.den E.Γ → HL E.Γ (flat E t)
 | .st n, x => E.opn n x
 | .i _, x => (x, ())
 | .b, x => (x, ())
 | .s, x => (x, ())
 | .l _ _, x => (x, ())
def shtT : (t : Ty E.C) → HL E.Γ (flat E t) → t.den E.Γ
 | .st n, x => E.sht n x
 | .i _, x => x.1
 | .b, x => x.1
 | .s, x => x.1
 | .l _ _, x => x.1
def okSz (sz : Nat) (t : Ty E.C) : Bool := Nat.beq sz (flat E t).length && Nat.blt 0 sz && Nat.ble sz 64
def segA (agg : Bool) (sz : Nat) (cs : List CV) (off : Nat) : Option AV :=
 match agg with
 | false => match cs[off]? with
  | some c => some (.c c)
  | none => none
 | true => bif Nat.ble (off + sz) cs.length then some (.agg ((cs.drop off).take sz)) else none
def Mode.under (p : Nat) : Mode → Mode
 | .view q => .view q
 | _ => .view p
def killV {C : Type} {Γ : C → Type} (p : Nat) (bk : Nat → Bk Γ) : Nat → Bk Γ := fun n =>
 match bk n with
 | .row (.view q) e t l => bif Nat.beq q p then .dead else .row (.view q) e t l
 | b => b
def eatB {C : Type} {Γ : C → Type} : Bk Γ → Bool
 | .row .own _ _ _ => true
 | _ => false
def eats (σ : St E.Γ) : List (Ty E.C) → List CV → Option (List Nat)
 | .l _ _ :: ts, .sl j :: cs => bif eatB (σ.bk j) then (match eats σ ts cs with
  | some r => bif r.all (fun n => !Nat.beq n j) then some (j :: r) else none
  | none => none) else none
 | _ :: ts, _ :: cs => eats σ ts cs
 | [], [] => some []
 | _, _ => none
def dropAll {C : Type} {Γ : C → Type} : List Nat → (Nat → Bk Γ) → Nat → Bk Γ
 | [], bk => bk
 | j :: r, bk => fun n => bif Nat.beq n j then .dead else killV j (dropAll r bk) n
def setHL (σ : St E.Γ) : (ts : List (Ty E.C)) → HL E.Γ ts → Nat → List CV → Option (HL E.Γ ts)
 | _, h, _, [] => some h
 | [], _, _, _ :: _ => none
 | t :: ts, h, 0, c :: cs =>
  match cell E σ t c with
  | some x => match setHL σ ts h.2 0 cs with
   | some r => some (x, r)
   | none => none
  | none => none
 | _ :: ts, h, n + 1, c :: cs =>
  match setHL σ ts h.2 n (c :: cs) with
  | some r => some (h.1, r)
  | none => none
def fillC (place : Nat → Option (Nat × Nat)) (cells : List CV) : List (Nat × Option (List CV)) → Option (List CV)
 | [] => some cells
 | (i, some cs) :: rest =>
  match place i with
  | none => none
  | some (off, sz) => bif Nat.beq cs.length sz && Nat.ble (off + sz) cells.length then fillC place (cells.take off ++ cs ++ cells.drop (off + sz)) rest else none
 | (_, none) :: _ => none
def elems (σ : St E.Γ) (t : Ty E.C) (sz : Nat) : Nat → List CV → Option (List (t.den E.Γ))
 | 0, _ => some []
 | n + 1, cs =>
  match hl E σ (flat E t) (cs.take sz) with
  | some h => match elems σ t sz n (cs.drop sz) with
   | some r => some (shtT E t h :: r)
   | none => none
  | none => none
def rep {α : Type} : Nat → List α → List α
 | 0, _ => []
 | n + 1, l => l ++ rep n l
def isL : Ty E.C → Bool
 | .l _ _ => true
 | _ => false
def okRts (rts : List (Ty E.C)) : Bool := Nat.ble rts.length 4 && rts.all fun t => Nat.ble (flat E t).length 16 && Nat.ble ((flat E t).filter (isL E)).length 1
structure Spc where
 id : FuncId
 pts : List (Ty E.C)
 rts : List (Ty E.C)
 run : Nat → HL E.Γ pts → Option (HL E.Γ rts)
def findS : List (Spc E) → FuncId → Option (Spc E)
 | [], _ => none
 | s :: r, f => bif Nat.beq s.id f then some s else findS r f
section
variable {R : Type}
def lenOf (σ : St E.Γ) (t : Nat) : AV → Option Int
 | .c (.sl j) =>
  match E.sl t, σ.bk j with
  | some _, .row _ _ _ l => some (l.length : Int)
  | _, _ => none
 | .c (.v (.slice none 0 0)) =>
  match E.sl t with
  | some _ => some 0
  | none => none
 | .c (.v (.string s)) => bif E.str t then some (s.size : Int) else none
 | _ => none
def mnI (x y : Int) : Int := if y < x then y else x
def mxI (x y : Int) : Int := if y > x then y else x
def rowOf (σ : St E.Γ) (e : Nat) (t : Ty E.C) : AV → Option (List (t.den E.Γ))
 | .c (.sl j) =>
  match σ.bk j with
  | .row _ e' t' l => ty_to E (.l e' t') (.l e t) l
  | _ => none
 | .c (.v (.slice none 0 0)) => some []
 | _ => none
def plainT : Ty E.C → Bool
 | .l _ _ => false
 | .st n => (E.fs n).all fun | .l _ _ => false | _ => true
 | _ => true
def ownIn (σ : St E.Γ) : AV → Option (List Nat)
 | .c (.sl j) => bif eatB (σ.bk j) then some [j] else none
 | .c (.v (.slice none 0 0)) => some []
 | _ => none
def aop (F : List (Spc E)) (k : Nat) (o : Oper) (σ : St E.Γ) (id : Nat) (K : St E.Γ → Option R) : Option R :=
 match o.op with
 | .move x => K (σ.put o.dst (σ.ev x))
 | .assign x => K (σ.put o.dst (σ.ev x))
 | .pick c a b => onB (σ.ev c) (K (σ.put o.dst (σ.ev a))) (K (σ.put o.dst (σ.ev b)))
 | .alloc t =>
  match E.zc t with
  | some cs => K ((σ.lay id (.box t (cs.map CV.ofV))).put o.dst (.c (.ptr id 0)))
  | none => none
 | .box t x =>
  match (σ.ev x).cells, E.sh t with
  | some cs, some (_, sz) => bif Nat.beq cs.length sz then K ((σ.lay id (.box t cs)).put o.dst (.c (.ptr id 0))) else none
  | _, _ => none
 | .build t parts =>
  match E.zc t with
  | some cs =>
   match E.pl t with
   | some ps =>
    match fillC (ps[·]?) (cs.map CV.ofV) (parts.toList.map fun x => (x.1, (σ.ev x.2).cells)) with
    | some r => K (σ.put o.dst (.agg r))
    | none => none
   | none => none
  | none => none
 | .buildSlice t n parts =>
  match E.sl t with
  | some (e, ty, sz, _, zs) =>
   match fillC (fun i => some (i * sz, sz)) (rep n (zs.map CV.ofV)) (parts.toList.map fun x => (x.1, (σ.ev x.2).cells)) with
   | some cs =>
    match elems E σ ty sz n cs, eats E σ (rep n (flat E ty)) cs, Nat.ble (n * sz) 16777216 with
    | some l, some js, true => K ({ σ with bk := fun m => bif Nat.beq m id then .row .own e ty l else dropAll js σ.bk m }.put o.dst (.c (.sl id)))
    | _, _, _ => none
   | none => none
  | none => none
 | .load t a =>
  match σ.ev a, E.sh t with
  | .c (.ptr j off), some (agg, sz) =>
   match σ.bk j with
   | .box _ cs =>
    match segA agg sz cs off with
    | some v => K (σ.put o.dst v)
    | none => none
   | _ => none
  | .c (.ep j i sz' f), some (agg, sz) =>
   match σ.bk j with
   | .row m _ ty l =>
    bif okSz E sz' ty then
    match segA agg sz (outCs E id (flat E ty) (opnT E ty (l.getD i.toNat (dz E ty)))) f with
    | some v => K ({ σ with bk := outBs E (m.under j) σ.bk id (flat E ty) (opnT E ty (l.getD i.toNat (dz E ty))) }.put o.dst v)
    | none => none
    else none
   | _ => none
  | _, _ => none
 | .store t a x =>
  match σ.ev a, (σ.ev x).cells, E.sh t with
  | .c (.ptr j off), some xs, some (_, sz) =>
   match σ.bk j with
   | .box bt cs => bif Nat.beq xs.length sz && Nat.ble (off + sz) cs.length then K ({ σ with bk := fun m => bif Nat.beq m j then .box bt (cs.take off ++ xs ++ cs.drop (off + sz)) else dropAll [j] σ.bk m }.put o.dst .und) else none
   | _ => none
  | .c (.ep j i sz' f), some xs, some (_, sz) =>
   match σ.bk j with
   | .row .own e ty l =>
    bif okSz E sz' ty then
    match setHL E σ (flat E ty) (opnT E ty (l.getD i.toNat (dz E ty))) f xs, eats E σ ((flat E ty).drop f |>.take sz) xs with
    | some h, some js => bif Nat.beq xs.length sz && Nat.ble (f + sz) (flat E ty).length && js.all (fun n => !Nat.beq n j) then
      K ({ σ with bk := fun m => bif Nat.beq m j then .row .own e ty (l.set i.toNat (shtT E ty h)) else dropAll (j :: js) σ.bk m }.put o.dst .und) else none
    | _, _ => none
    else none
   | _ => none
  | _, _, _ => none
 | .binOp op t x y _ =>
  match σ.ev x, σ.ev y with
  | .c (.v (.int k x')), .c (.v (.int k' y')) => bif decide (k = k') then binI (isZ y) op k x' y' (fun c => K (σ.put o.dst (.c c))) else none
  | .c (.v (.string x')), .c (.v (.string y')) => binS op x' y' (fun c => K (σ.put o.dst (.c c)))
  | .agg xs, .agg ys =>
   match op, eqCs xs ys with
   | .eql, some ⟨q, d⟩ => bif E.eqt t xs.length then K (σ.put o.dst (.c (.p q d))) else none
   | .neq, some ⟨q, d⟩ => bif E.eqt t xs.length then K (σ.put o.dst (.c (.p (¬ q) (@instDecidableNot q d)))) else none
   | _, _ => none
  | _, _ => none
 | .unOp op _ x =>
  match op, σ.ev x with
  | .not, v =>
   match notC v with
   | some c => K (σ.put o.dst (.c c))
   | none => none
  | .neg, .c (.v (.int k n)) => K (σ.put o.dst (.c (.v (.int k (wr k (0 - n))))))
  | _, _ => none
 | .fieldAddr s x f =>
  match E.fld s f, σ.ev x with
  | some off, .c (.ptr j q) => K (σ.put o.dst (.c (.ptr j (q + off))))
  | some off, .c (.ep j i sz q) => K (σ.put o.dst (.c (.ep j i sz (q + off))))
  | _, _ => none
 | .indexAddr t x i =>
  match E.sl t, σ.ev x, σ.ev i with
  | some (e, ty, sz, _, _), .c (.sl j), .c (.v (.int _ n)) =>
   match σ.bk j with
   | .row _ e' ty' l => bif Nat.beq e e' && ty.beq E.cb ty' then (if 0 ≤ n then (if n < (l.length : Int) then K (σ.put o.dst (.c (.ep j n sz 0))) else none) else none) else none
   | _ => none
  | _, _, _ => none
 | .index t x i =>
  match E.str t, σ.ev x, σ.ev i with
  | true, .c (.v (.string s)), .c (.v (.int _ n)) => if 0 ≤ n then (if n < (s.size : Int) then K (σ.put o.dst (.c (.v (.int .u8 (bt s n))))) else none) else none
  | _, _, _ => none
 | .extract x n =>
  match σ.ev x with
  | .tup xs =>
   match xs[n]? with
   | some (true, cs) => K (σ.put o.dst (.agg cs))
   | some (false, [c]) => K (σ.put o.dst (.c c))
   | _ => none
  | _ => none
 | .slice t x lo hi none =>
  match σ.ev x with
  | .c (.v (.string s)) =>
   match E.str t, σ.optI lo, σ.optI hi with
   | true, some lo', some hi' =>
    if 0 ≤ orI (s.size : Int) hi' then (if orI (s.size : Int) hi' ≤ (s.size : Int) then (if 0 ≤ orI 0 lo' then (if orI 0 lo' ≤ orI (s.size : Int) hi' then
     K (σ.put o.dst (.c (.v (.string (s.extract (orI 0 lo').toNat (orI (s.size : Int) hi').toNat))))) else none) else none) else none) else none
   | _, _, _ => none
  | .c (.sl j) =>
   match E.sl t, σ.optI lo, σ.optI hi with
   | some (e, ty, _, _, _), some lo', some hi' =>
    match σ.bk j with
    | .row m e' ty' xs =>
     bif Nat.beq e e' && ty.beq E.cb ty' then (if 0 ≤ orI (xs.length : Int) hi' then (if orI (xs.length : Int) hi' ≤ (xs.length : Int) then (if 0 ≤ orI 0 lo' then (if orI 0 lo' ≤ orI (xs.length : Int) hi' then
      K ((σ.lay id (.row (m.under j) e' ty' ((xs.take (orI (xs.length : Int) hi').toNat).drop (orI 0 lo').toNat))).put o.dst (.c (.sl id))) else none) else none) else none) else none) else none
    | _ => none
   | _, _, _ => none
  | _ => none
 | .convert src dst x =>
  match E.ik src, E.ik dst, σ.ev x with
  | some _, some k, .c (.v (.int _ n)) => K (σ.put o.dst (.c (.v (.int k (wr k n)))))
  | _, _, _ => none
 | .makeSlice t len cap =>
  match E.sl t, σ.ev len, σ.ev cap with
  | some (e, ty, _, bytes, _), .c (.v (.int .i64 n)), .c (.v (.int .i64 m)) =>
   if n = m then (if 0 ≤ n then (if n.toNat * bytes ≤ 281474976710656 then K ((σ.lay id (.row .own e ty (List.replicate n.toNat (dz E ty)))).put o.dst (.c (.sl id))) else none) else none) else none
  | _, _, _ => none
 | .call c =>
  match c.callee with
  | .builtin .len =>
   match c.args.toList, c.argTypes.toList with
   | [x], [t] =>
    match lenOf E σ t (σ.ev x) with
    | some n => K (σ.put o.dst (.c (.v (.int .i64 n))))
    | none => none
   | _, _ => none
  | .builtin .min =>
   match c.args.toList.map σ.ev with
   | [.c (.v (.int k x)), .c (.v (.int _ y))] => K (σ.put o.dst (.c (.v (.int k (mnI x y)))))
   | _ => none
  | .builtin .max =>
   match c.args.toList.map σ.ev with
   | [.c (.v (.int k x)), .c (.v (.int _ y))] => K (σ.put o.dst (.c (.v (.int k (mxI x y)))))
   | _ => none
  | .builtin .append =>
   match c.args.toList, c.argTypes.toList with
   | [s, x], [t, t'] =>
    match E.sl t with
    | some (e, ty, _, bytes, _) =>
     match Nat.beq t t', rowOf E σ e ty (σ.ev s), rowOf E σ e ty (σ.ev x), ownIn E σ (σ.ev s), (bif plainT E ty then some [] else ownIn E σ (σ.ev x)) with
     | true, some l, some l', some js, some js' =>
      bif js.all (fun n => js'.all (fun m => !Nat.beq n m)) then
      (if (l.length + l'.length) * bytes ≤ 140737488355328 then K ({ σ with bk := fun m => bif Nat.beq m id then .row .own e ty (l ++ l') else dropAll (js ++ js') σ.bk m }.put o.dst (.c (.sl id))) else none) else none
     | _, _, _, _, _ => none
    | none => none
   | _, _ => none
  | .value (.func f) =>
   match findS E F f with
   | some s =>
    match argsOf E σ s.pts (c.args.toList.map σ.ev), okRts E s.rts with
    | some h, true => (s.run k h).bind fun r => K ({ σ with bk := outBAs E .own σ.bk id s.rts r }.put o.dst (packA (outAs E id s.rts r)))
    | _, _ => none
   | none => none
  | _ => none
 | _ => none
end
end
end
end Go.Proofs.YtkomgmgpgnjooaaGreatEv
namespace Go.Proofs.YtkomgmgpgnjooaaGreatEv
open Go Go.RowKit Go.Proofs.YtkomgmgpgnjooaaGreatW.PrintWords
noncomputable section
def dstOf (ops : List Oper) (j : Nat) : Option Nat :=
 match ops[j]? with
 | some o => o.dst
 | none => none
def knows : List (Nat × Bool) → Nat → Option Bool
 | [], _ => none
 | (d, x) :: r, t => bif Nat.beq d t then some x else knows r t
def pickOf (kn : List (Nat × Bool)) (o : Oper) : Option Operand :=
 match o.op with
 | .pick (.tmp d) a b =>
  match knows kn d with
  | some true => some a
  | some false => some b
  | none => none
 | _ => none
def freshK (kn : List (Nat × Bool)) (dst : Option Nat) : Bool :=
 match dst with
 | some d => kn.all fun x => !Nat.beq x.1 d
 | none => true
def goK {C : Type} {Γ : C → Type} {R : Type} (step : Oper → St Γ → (St Γ → Option R) → Option R) (kn : List (Nat × Bool)) (o : Oper) (σ : St Γ) (K : St Γ → Option R) : Option R :=
 cond (freshK kn o.dst) (match pickOf kn o with
  | some x => K (σ.put o.dst (σ.ev x))
  | none => step o σ K) none
def skipK {C : Type} {Γ : C → Type} {R : Type} (kn : List (Nat × Bool)) (o : Oper) (σ : St Γ) (K : St Γ → Option R) : Option R := cond (freshK kn o.dst) (K (σ.put o.dst .und)) none
def guardK {R : Type} (kn : List (Nat × Bool)) (d : Nat) (v : AV) (want : Bool) (go skip : List (Nat × Bool) → Option R) : Option R :=
 match knows kn d with
 | some x => cond (x == want) (go kn) (skip kn)
 | none =>
  match v with
  | .und => skip kn
  | .c (.lit x) => cond (x == want) (go kn) (skip kn)
  | .c (.v (.bool x)) => if x = true then cond want (go ((d, true) :: kn)) (skip ((d, true) :: kn)) else cond want (skip ((d, false) :: kn)) (go ((d, false) :: kn))
  | .c (.p q dq) => @ite _ q dq (cond want (go ((d, true) :: kn)) (skip ((d, true) :: kn))) (cond want (skip ((d, false) :: kn)) (go ((d, false) :: kn)))
  | _ => none
def evOps {C : Type} {Γ : C → Type} {R : Type} (step : Nat → Oper → St Γ → (St Γ → Option R) → Option R) (ops : List Oper) : List (Nat × Bool) → Nat → List Oper → St Γ → (St Γ → Option R) → Option R
 | _, _, [], σ, K => K σ
 | kn, i, o :: rest, σ, K =>
  match o.guard with
  | none => goK (step i) kn o σ (fun τ => evOps step ops kn (i + 1) rest τ K)
  | some (j, want) =>
   match dstOf ops j with
   | none => none
   | some d => guardK kn d (σ.tm d) want (fun kn => goK (step i) kn o σ (fun τ => evOps step ops kn (i + 1) rest τ K)) (fun kn => skipK kn o σ (fun τ => evOps step ops kn (i + 1) rest τ K))
def looks (o : Oper) (t : Nat) : Bool := o.op.operands.toList.any fun
 | .tmp u => Nat.beq t u
 | _ => false
def looksG (ops : List Oper) (o : Oper) (t : Nat) : Bool := looks o t ||
 match o.guard with
 | some (j, _) => (match dstOf ops j with
  | some d => Nat.beq t d
  | none => false)
 | none => false
def aheadOf (acc : List Nat) : List Edge → Nat
 | [] => 0
 | e :: es => cond (Region.binds .any e) (2 ^ e.on ||| (acc.getD e.on 0) ||| aheadOf acc es) (aheadOf acc es)
def aheads (acc : List Nat) : List Oper → List Nat
 | [] => acc
 | o :: rest => aheads (acc ++ [aheadOf acc o.after.toList]) rest
def noisy (E : Env) (o : Oper) : Bool :=
 match o.op with
 | .store .. => true
 | .buildSlice t _ _ => (match E.sl t with
  | some (_, ty, _) => !plainT E ty
  | none => true)
 | .call c => (match c.callee with
  | .builtin .append => true
  | _ => false)
 | _ => false
def apartD (ops : List Oper) (u o : Oper) : Bool :=
 match u.dst with
 | some d => !looksG ops o d && (match o.dst with
  | some d' => !Nat.beq d d'
  | none => true)
 | none => true
def isStore (o : Oper) : Bool :=
 match o.op with
 | .store .. => (match o.dst with
  | none => true
  | some _ => false)
 | _ => false
def calm (o : Oper) : Bool :=
 match o.op with
 | .load .. => true
 | .fieldAddr .. => true
 | .build .. => true
 | .call c => (match c.callee with
  | .builtin .min => true
  | .builtin .max => true
  | _ => false)
 | _ => false
def isLoad (o : Oper) : Bool :=
 match o.op with
 | .load .. => true
 | _ => false
def memOf (o : Oper) : Option (TypeId × Operand) :=
 match o.op with
 | .store t a _ => (match o.dst with
  | none => some (t, a)
  | some _ => none)
 | .load t a => some (t, a)
 | _ => none
def pairsOk (E : Env) (ops : List Oper) (pre : List Nat) (i : Nat) (o : Oper) : Nat → List Oper → Bool
 | _, [] => true
 | u, x :: rest => (Nat.ble i u || (pre.getD i 0).testBit u || (apartD ops x o && apartD ops o x && !noisy E x && !noisy E o && !(pre.getD u 0).testBit i) || (isStore x && isStore o && !(pre.getD u 0).testBit i) || ((isStore x && calm o || calm x && isStore o) && apartD ops x o && apartD ops o x && !(pre.getD u 0).testBit i)) && pairsOk E ops pre i o (u + 1) rest
def planFrom (E : Env) (ops : List Oper) (pre : List Nat) : Nat → List Oper → Bool
 | _, [] => true
 | i, o :: rest => o.after.toList.all (fun e => !Region.binds .any e || Nat.blt e.on i) && (match o.op with
  | .select .. => false
  | _ => true) && (match o.guard with
  | some (j, _) => Nat.blt j i && (pre.getD i 0).testBit j
  | none => true) && pairsOk E ops pre i o 0 ops && planFrom E ops pre (i + 1) rest
def planD (E : Env) (ops : List Oper) : Bool := planFrom E ops (aheads [] ops) 0 ops
def maskT {C : Type} {Γ : C → Type} (o : Oper) (σ : St Γ) : Nat → AV := fun t => bif looks o t then σ.tm t else .any
def maskB {C : Type} {Γ : C → Type} (E : Env) (pre : Nat) (i : Nat) (o : Oper) (nx : Nat) (bk : Nat → Bk Γ) : Nat → Bk Γ := fun n =>
 bif noisy E o then bk n else bif Nat.blt n nx || Nat.beq ((n - nx) / 64) i || pre.testBit ((n - nx) / 64) then bk n else .dead
def mergeT {C : Type} {Γ : C → Type} (o : Oper) (σ τ : St Γ) : Nat → AV := fun t => bif (match o.dst with
 | some d => Nat.beq t d
 | none => false) then τ.tm t else σ.tm t
def mergeB {C : Type} {Γ : C → Type} (E : Env) (i : Nat) (o : Oper) (σ τ : St Γ) : Nat → Bk Γ := fun n =>
 bif noisy E o then τ.bk n else bif Nat.ble (σ.nx + 64 * i) n && Nat.blt n (σ.nx + 64 * i + 64) then τ.bk n else σ.bk n
section
variable (E : Env) {R : Type}
def stepN (F : List (Spc E)) (k : Nat) (i : Nat) (o : Oper) (σ : St E.Γ) (K : St E.Γ → Option R) : Option R := aop E F k o σ (σ.nx + 64 * i) fun τ => K { τ with nx := σ.nx }
def layer (t : Nat) : Nat → List Oper → Option (Nat × Oper)
 | _, [] => none
 | i, o :: r => match o.dst with
  | some d => cond (Nat.beq d t) (some (i, o)) (layer t (i + 1) r)
  | none => layer t (i + 1) r
def rootOf (ops : List Oper) : Nat → Nat → Nat → Option (Bool × Nat × Nat)
 | 0, _, _ => none
 | k + 1, t, acc => match layer t 0 ops with
  | none => some (false, t, acc)
  | some (m, o) => match o.op with
   | .fieldAddr s (.tmp t') f => (match E.fld s f with
    | some off => rootOf ops k t' (acc + off)
    | none => none)
   | .alloc _ => some (true, m, acc)
   | _ => none
def rootAt (σ : St E.Γ) : Bool × Nat × Nat → Option (Nat × Nat)
 | (false, t, a) => (match σ.tm t with
  | .c (.ptr j q) => some (j, q + a)
  | _ => none)
 | (true, m, a) => some (σ.nx + 64 * m, a)
def cellsOf (o : Oper) (agg : Bool) (sz : Nat) : Nat :=
 match o.op with
 | .load .. => cond agg sz 1
 | _ => sz
def rootHit (ops : List Oper) (σ : St E.Γ) (o : Oper) : Option (Nat × Nat × Nat) :=
 match memOf o with
 | some (t, .tmp d) => (match E.sh t, rootOf E ops 40 d 0 with
  | some (agg, sz), some r => (match rootAt E σ r with
   | some (j, f) => some (j, f, cellsOf o agg sz)
   | none => none)
  | _, _ => none)
 | _ => none
def ownHit (σ : St E.Γ) (o : Oper) : Option (Nat × Nat × Nat) :=
 match memOf o with
 | some (t, a) => (match σ.ev a, E.sh t with
  | .c (.ptr j off), some (agg, sz) => some (j, off, cellsOf o agg sz)
  | _, _ => none)
 | none => none
def hitsApart : Option (Nat × Nat × Nat) → Option (Nat × Nat × Nat) → Bool
 | some (j, f, n), some (j', f', n') => !Nat.beq j j' || Nat.ble (f + n) f' || Nat.ble (f' + n') f
 | _, _ => false
def hitsSame : Option (Nat × Nat × Nat) → Option (Nat × Nat × Nat) → Bool
 | some (j, f, n), some (j', f', n') => Nat.beq j j' && Nat.beq f f' && Nat.beq n n'
 | _, _ => false
def isMem (o : Oper) : Bool := match memOf o with
 | some _ => true
 | none => false
def fellows (pre : List Nat) (ops : List Oper) (i : Nat) (o : Oper) (σ : St E.Γ) : Nat → List Oper → Bool
 | _, [] => true
 | u, x :: rest => (!(isMem x && (isStore x || isStore o)) || Nat.beq u i || (pre.getD i 0).testBit u || (pre.getD u 0).testBit i || (hitsSame (ownHit E σ o) (rootHit E ops σ o) && hitsApart (rootHit E ops σ o) (rootHit E ops σ x))) && (!(isStore o && calm x) || Nat.beq u i || (pre.getD i 0).testBit u || (pre.getD u 0).testBit i || (ownHit E σ o).isSome) && fellows pre ops i o σ (u + 1) rest
def stepD (F : List (Spc E)) (k : Nat) (pre : List Nat) (ops : List Oper) (i : Nat) (o : Oper) (σ : St E.Γ) (K : St E.Γ → Option R) : Option R :=
 cond (!isMem o || fellows E pre ops i o σ 0 ops) (aop E F k o { tm := maskT o σ, bk := maskB E (pre.getD i 0) i o σ.nx σ.bk, nx := σ.nx } (σ.nx + 64 * i) fun τ => K { tm := mergeT o σ τ, bk := mergeB E i o σ τ, nx := σ.nx }) none
def dstsOk (N : Nat) (ops : List Oper) : Bool := ops.all fun o => match o.dst with
 | some d => Nat.blt d N
 | none => true
def evReg (F : List (Spc E)) (N k : Nat) (ops : List Oper) (dr : Bool) (σ : St E.Γ) (K : St E.Γ → Option R) : Option R :=
 cond (dstsOk N ops) (cond dr (cond (planD E ops) (evOps (stepD E F k (aheads [] ops) ops) ops [] 0 ops σ fun τ => K { τ with nx := σ.nx + 64 * ops.length }) none) (evOps (stepN E F k) ops [] 0 ops σ fun τ => K { τ with nx := σ.nx + 64 * ops.length })) none
end
structure Lv (C : Type) where
 t : Nat
 nil : Option (Nat × Ty C) := none
 ro : Bool := false
def CV.refs : CV → List Nat
 | .ptr n _ => [n]
 | .ep n _ _ _ => [n]
 | .sl n => [n]
 | _ => []
def AV.refs : AV → List Nat
 | .c x => x.refs
 | .agg xs => xs.flatMap CV.refs
 | .tup xs => xs.flatMap fun x => x.2.flatMap CV.refs
 | _ => []
def Bk.refs {C : Type} {Γ : C → Type} : Bk Γ → List Nat
 | .box _ cs => cs.flatMap CV.refs
 | .row (.view p) _ _ _ => [p]
 | _ => []
def CV.rn (ρ : Nat → Nat) : CV → CV
 | .lit x => .v (.bool x)
 | .p q d => .v (.bool (@decide q d))
 | .ptr n o => .ptr (ρ n) o
 | .ep n i s f => .ep (ρ n) i s f
 | .sl n => .sl (ρ n)
 | .v x => .v x
def AV.rn (ρ : Nat → Nat) : AV → AV
 | .c x => .c (x.rn ρ)
 | .agg xs => .agg (xs.map (CV.rn ρ))
 | .tup xs => .tup (xs.map fun x => (x.1, x.2.map (CV.rn ρ)))
 | .und => .und
 | .any => .any
def Bk.rn {C : Type} {Γ : C → Type} (ρ : Nat → Nat) : Bk Γ → Bk Γ
 | .box t cs => .box t (cs.map (CV.rn ρ))
 | .row (.view p) e t l => .row (.view (ρ p)) e t l
 | b => b
def collect {C : Type} {Γ : C → Type} (bk : Nat → Bk Γ) : Nat → List Nat → List Nat → List Nat
 | 0, _, acc => acc
 | _ + 1, [], acc => acc
 | n + 1, i :: r, acc => bif acc.any (Nat.beq i) then collect bk n r acc else collect bk n (r ++ (bk i).refs) (acc ++ [i])
def posOf : List Nat → Nat → Nat
 | [], _ => 0
 | i :: r, n => bif Nat.beq i n then 0 else posOf r n + 1
def nodupB : List Nat → Bool
 | [] => true
 | i :: r => !r.any (Nat.beq i) && nodupB r
def mkTm : List (Nat × AV) → Nat → AV
 | [], _ => .any
 | (d, v) :: r, t => bif Nat.beq t d then v else mkTm r t
def mkBk {C : Type} {Γ : C → Type} : List (Bk Γ) → Nat → Bk Γ
 | [], _ => .dead
 | b :: _, 0 => b
 | _ :: r, n + 1 => mkBk r n
def mkSt {C : Type} {Γ : C → Type} (tms : List (Nat × AV)) (bks : List (Bk Γ)) : St Γ := { tm := mkTm tms, bk := mkBk bks, nx := 64 }
def readyLv {C : Type} {Γ : C → Type} (σ : St Γ) (id : Nat) (lv : Lv C) : St Γ :=
 match σ.tm lv.t, lv.nil, lv.ro with
 | .c (.v (.slice none 0 0)), some (e, t), _ => (σ.lay id (.row .own e t [])).put (some lv.t) (.c (.sl id))
 | .c (.sl j), _, true =>
  match σ.bk j with
  | .row .own e t l => σ.lay j (.row .ro e t l)
  | _ => σ
 | _, _, _ => σ
def readyLvs {C : Type} {Γ : C → Type} : Nat → List (Lv C) → St Γ → St Γ
 | _, [], σ => σ
 | id, lv :: r, σ => readyLvs (id + 1) r (readyLv σ id lv)
def canonW {C : Type} {Γ : C → Type} {R : Type} (lv : List (Lv C)) (σ : St Γ) (ids : List Nat) (K : St Γ → Option R) : Option R :=
 cond (nodupB ids && Nat.ble ids.length 64 && (lv.all fun x => (σ.tm x.t).refs.all fun n => ids.any (Nat.beq n)) && (ids.all fun n => (σ.bk n).refs.all fun m => ids.any (Nat.beq m)))
  (K (mkSt (lv.map fun x => (x.t, (σ.tm x.t).rn (posOf ids))) (ids.map fun n => (σ.bk n).rn (posOf ids)))) none
def canonK {C : Type} {Γ : C → Type} {R : Type} (lv : List (Lv C)) (σ : St Γ) (K : St Γ → Option R) : Option R :=
 canonW lv (readyLvs σ.nx lv σ) (collect (readyLvs σ.nx lv σ).bk 400 (lv.flatMap fun x => ((readyLvs σ.nx lv σ).tm x.t).refs) []) K
inductive It where
 | code (c : Code)
 | blk (id : Nat)
 | lp (c : Code)
def jump (id : Nat) : List It → Option (List It)
 | [] => none
 | .blk j :: k => bif Nat.beq j id then some k else jump id k
 | .code _ :: k => jump id k
 | .lp _ :: k => jump id k
section
variable {C : Type} {Γ : C → Type} {R : Type}
def run (J : List It → St Γ → Option R) (fin : St Γ → Option R) (cut : Nat → Option (List (Lv C))) (reg : List Oper → Bool → St Γ → (St Γ → Option R) → Option R) : Nat → List It → St Γ → Option R
 | 0, _, _ => none
 | _ + 1, [], σ => fin σ
 | n + 1, .blk _ :: k, σ => run J fin cut reg n k σ
 | n + 1, .lp c :: k, σ => run J fin cut reg n (.code c :: .lp c :: k) σ
 | n + 1, .code c :: k, σ =>
  match c with
  | .skip => run J fin cut reg n k σ
  | .region id ops dr =>
   match cut id with
   | some lv => canonK lv σ (J (.code (.region id ops dr) :: k))
   | none => reg ops.toList dr σ (run J fin cut reg n k)
  | .seq x y => run J fin cut reg n (.code x :: .code y :: k) σ
  | .cond c x y => onB (σ.ev c) (run J fin cut reg n (.code x :: k) σ) (run J fin cut reg n (.code y :: k) σ)
  | .block id x => run J fin cut reg n (.code x :: .blk id :: k) σ
  | .loop x => run J fin cut reg n (.code x :: .lp x :: k) σ
  | .exit id =>
   match jump id k with
   | some k' => run J fin cut reg n k' σ
   | none => none
  | .ret => fin σ
  | _ => none
end
section
variable (E : Env) {R : Type}
def evM (F : List (Spc E)) (N : Nat) (fin : St E.Γ → Option R) (cut : Nat → Option (List (Lv E.C))) : Nat → List It → St E.Γ → Option R
 | 0, _, _ => none
 | k + 1, st, σ =>
  match st with
  | .code (.region _ ops dr) :: rest => evReg E F N k ops.toList dr σ (run (evM F N fin cut k) fin cut (evReg E F N k) 4000 rest)
  | _ => none
def resAV (σ : St E.Γ) : ResultVar → Option AV
 | .tmp t => some (σ.tm t)
 | .cell t ty =>
  match σ.tm t, E.sh ty with
  | .c (.ptr j off), some (agg, sz) =>
   match σ.bk j with
   | .box _ cs => segA agg sz cs off
   | _ => none
  | _, _ => none
def resAVs (σ : St E.Γ) : List ResultVar → Option (List AV)
 | [] => some []
 | r :: rs =>
  match resAV E σ r with
  | some v => match resAVs σ rs with
   | some vs => some (v :: vs)
   | none => none
  | none => none
def cellsAll : List AV → Option (List CV)
 | [] => some []
 | v :: vs =>
  match v.cells with
  | some cs => match cellsAll vs with
   | some r => some (cs ++ r)
   | none => none
  | none => none
def finR (rv : List ResultVar) (rts : List (Ty E.C)) (σ : St E.Γ) : Option (HL E.Γ rts) :=
 match resAVs E σ rv with
 | some vs =>
  match cellsAll vs with
  | some cs =>
   match eats E σ (rts.flatMap (flat E)) cs with
   | some _ => argsOf E σ rts vs
   | none => none
  | none => none
 | none => none
def entryTm (n : Nat) : (ts : List (Ty E.C)) → HL E.Γ ts → Nat → Nat → AV
 | [], _, _, _ => .und
 | t :: ts, x, i, j => bif Nat.beq i j then packA [outA E n t x.1] else entryTm (n + 16) ts x.2 (i + 1) j
def entry (ts : List (Ty E.C)) (h : HL E.Γ ts) : St E.Γ := { tm := entryTm E 0 ts h 0, bk := outBAs E .ro (fun _ => .dead) 0 ts h, nx := 16 * ts.length }
def evF (F : List (Spc E)) (fn : Func) (cut : Nat → Option (List (Lv E.C))) (pts rts : List (Ty E.C)) (k : Nat) (h : HL E.Γ pts) : Option (HL E.Γ rts) :=
 cond (Nat.ble pts.length fn.ntmps && pts.all fun t => Nat.ble (flat E t).length 16) (match fn.body with
 | some c => run (evM E F fn.ntmps (finR E fn.results.toList rts) cut k) (finR E fn.results.toList rts) cut (evReg E F fn.ntmps k) 4000 [.code c] (entry E pts h)
 | none => none) none
end
end
end Go.Proofs.YtkomgmgpgnjooaaGreatEv
namespace Go.Proofs.YtkomgmgpgnjooaaGreatEv
open Go Go.RowKit Go.Proofs.YtkomgmgpgnjooaaGreatW.PrintWords
def A2 {α β : Type} (R : α → β → Prop) : List α → List β → Prop
 | [], [] => True
 | x :: xs, y :: ys => R x y ∧ A2 R xs ys
 | _, _ => False
theorem A2.imp {α β : Type} {R S : α → β → Prop} (h : ∀ x y, R x y → S x y) : ∀ {xs : List α} {ys : List β}, A2 R xs ys → A2 S xs ys
 | [], [], _ => trivial
 | _ :: _, _ :: _, ⟨h1, h2⟩ => ⟨h _ _ h1, A2.imp h h2⟩
 | [], _ :: _, h => h.elim
 | _ :: _, [], h => h.elim
theorem A2.len {α β : Type} {R : α → β → Prop} : ∀ {xs : List α} {ys : List β}, A2 R xs ys → xs.length = ys.length
 | [], [], _ => rfl
 | _ :: _, _ :: _, ⟨_, h⟩ => congrArg (· + 1) h.len
 | [], _ :: _, h => h.elim
 | _ :: _, [], h => h.elim
theorem A2.get {α β : Type} {R : α → β → Prop} : ∀ {xs : List α} {ys : List β}, A2 R xs ys → ∀ {i : Nat} {x : α}, xs[i]? = some x → ∃ y, ys[i]? = some y ∧ R x y
 | [], [], _, i, x, h => by simp at h
 | x' :: xs, y :: ys, ⟨h1, h2⟩, 0, x, h => by simp at h; subst h; exact ⟨y, rfl, h1⟩
 | x' :: xs, y :: ys, ⟨h1, h2⟩, i + 1, x, h => by simpa using A2.get h2 (i := i) (x := x) (by simpa using h)
 | [], _ :: _, h, _, _, _ => h.elim
 | _ :: _, [], h, _, _, _ => h.elim
theorem A2.take {α β : Type} {R : α → β → Prop} : ∀ {xs : List α} {ys : List β} (n : Nat), A2 R xs ys → A2 R (xs.take n) (ys.take n)
 | _, _, 0, _ => by simp [A2]
 | [], [], _ + 1, _ => trivial
 | _ :: _, _ :: _, n + 1, ⟨h1, h2⟩ => ⟨h1, A2.take n h2⟩
 | [], _ :: _, _ + 1, h => h.elim
 | _ :: _, [], _ + 1, h => h.elim
theorem A2.drop {α β : Type} {R : α → β → Prop} : ∀ {xs : List α} {ys : List β} (n : Nat), A2 R xs ys → A2 R (xs.drop n) (ys.drop n)
 | _, _, 0, h => h
 | [], [], _ + 1, _ => trivial
 | _ :: _, _ :: _, n + 1, ⟨_, h2⟩ => A2.drop n h2
 | [], _ :: _, _ + 1, h => h.elim
 | _ :: _, [], _ + 1, h => h.elim
theorem A2.app {α β : Type} {R : α → β → Prop} : ∀ {xs : List α} {ys : List β} {xs' : List α} {ys' : List β}, A2 R xs ys → A2 R xs' ys' → A2 R (xs ++ xs') (ys ++ ys')
 | [], [], _, _, _, h => h
 | _ :: _, _ :: _, _, _, ⟨h1, h2⟩, h => ⟨h1, A2.app h2 h⟩
 | [], _ :: _, _, _, h, _ => h.elim
 | _ :: _, [], _, _, h, _ => h.elim
theorem A2.map {α β γ : Type} {R : α → β → Prop} (f : γ → α) : ∀ {xs : List γ} {ys : List β}, A2 (fun x y => R (f x) y) xs ys → A2 R (xs.map f) ys
 | [], [], _ => trivial
 | _ :: _, _ :: _, ⟨h1, h2⟩ => ⟨h1, A2.map f h2⟩
 | [], _ :: _, h => h.elim
 | _ :: _, [], h => h.elim
structure Gh where
 φ : Nat → Value
 ok : Nat → Nat → Prop
 al : Nat → Prop
def CRep (g : Gh) : CV → Value → Prop
 | .v x, u => u = x ∧ x.oneCell' = true
 | .lit b, u => u = .bool b
 | .p q d, u => u = .bool (@decide q d)
 | .ptr n off, u => g.al n ∧ ∃ b, g.φ n = .pointer (some ⟨b, 0, none⟩) ∧ u = .pointer (some ⟨b, off, none⟩)
 | .ep n i sz f, u => g.al n ∧ ∃ a m c, g.φ n = .slice (some a) m c ∧ 0 ≤ i ∧ i < m ∧ u = .pointer (some (a.add (i.toNat * sz + f)))
 | .sl n, u => g.al n ∧ u = g.φ n ∧ u.oneCell' = true
def PRep (g : Gh) : Bool × List CV → Value → Prop
 | (true, cs), u => ∃ us, u = .agg us ∧ A2 (CRep g) cs us.toList
 | (false, cs), u => ∃ c, cs = [c] ∧ CRep g c u
def ARep (g : Gh) : AV → Value → Prop
 | .c x, u => CRep g x u
 | .agg xs, u => ∃ us, u = .agg us ∧ A2 (CRep g) xs us.toList
 | .tup xs, u => ∃ us, u = .tuple us ∧ A2 (PRep g) xs us.toList
 | .und, u => u = undef
 | .any, _ => True
theorem CRep.one {g : Gh} {x : CV} {u : Value} (h : CRep g x u) : u.oneCell' = true := by
 cases x with
 | v x => obtain ⟨rfl, h⟩ := h; exact h
 | lit b => obtain rfl := h; rfl
 | p q d => obtain rfl := h; rfl
 | ptr n off => obtain ⟨_, b, _, rfl⟩ := h; rfl
 | ep n i sz f => obtain ⟨_, a, m, c, _, _, _, rfl⟩ := h; rfl
 | sl n => exact h.2.2
structure Ext (g g' : Gh) (S : Nat → Prop) : Prop where
 φ : ∀ n, ¬ S n → g'.φ n = g.φ n
 ok : ∀ n, ¬ S n → g'.ok n = g.ok n
 al : ∀ n, ¬ S n → (g'.al n ↔ g.al n)
 fresh : ∀ n, S n → ¬ g.al n
theorem Ext.refl (g : Gh) : Ext g g (fun _ => False) := ⟨fun _ _ => rfl, fun _ _ => rfl, fun _ _ => Iff.rfl, fun _ h => h.elim⟩
theorem Ext.wide {g g' : Gh} {S T : Nat → Prop} (h : Ext g g' S) (hs : ∀ n, S n → T n) (hf : ∀ n, T n → ¬ g.al n) : Ext g g' T :=
 ⟨fun n hn => h.φ n (fun hs' => hn (hs n hs')), fun n hn => h.ok n (fun hs' => hn (hs n hs')), fun n hn => h.al n (fun hs' => hn (hs n hs')), hf⟩
theorem Ext.alS {g g' : Gh} {S : Nat → Prop} (h : Ext g g' S) {n : Nat} (hn : g.al n) : ¬ S n := fun hs => h.fresh n hs hn
theorem CRep.ext {g g' : Gh} {S : Nat → Prop} (h : Ext g g' S) {x : CV} {u : Value} (hx : CRep g x u) : CRep g' x u := by
 cases x with
 | v x => exact hx
 | lit b => exact hx
 | p q d => exact hx
 | ptr n off => obtain ⟨h1, b, h2, h3⟩ := hx; exact ⟨(h.al n (h.alS h1)).2 h1, b, (h.φ n (h.alS h1)).trans h2, h3⟩
 | ep n i sz f => obtain ⟨h1, a, m, c, h2, h3⟩ := hx; exact ⟨(h.al n (h.alS h1)).2 h1, a, m, c, (h.φ n (h.alS h1)).trans h2, h3⟩
 | sl n => obtain ⟨h1, h2, h3⟩ := hx; exact ⟨(h.al n (h.alS h1)).2 h1, h2.trans (h.φ n (h.alS h1)).symm, h3⟩
theorem PRep.ext {g g' : Gh} {S : Nat → Prop} (h : Ext g g' S) {x : Bool × List CV} {u : Value} (hx : PRep g x u) : PRep g' x u := by
 obtain ⟨b, cs⟩ := x
 cases b
 ·obtain ⟨c, h1, h2⟩ := hx; exact ⟨c, h1, h2.ext h⟩
 ·obtain ⟨us, h1, h2⟩ := hx; exact ⟨us, h1, h2.imp fun _ _ q => q.ext h⟩
theorem ARep.ext {g g' : Gh} {S : Nat → Prop} (h : Ext g g' S) {x : AV} {u : Value} (hx : ARep g x u) : ARep g' x u := by
 cases x with
 | c x => exact CRep.ext h hx
 | agg xs => obtain ⟨us, h1, h2⟩ := hx; exact ⟨us, h1, h2.imp fun _ _ q => q.ext h⟩
 | tup xs => obtain ⟨us, h1, h2⟩ := hx; exact ⟨us, h1, h2.imp fun _ _ q => q.ext h⟩
 | und => exact hx
 | any => trivial
section
variable (E : Env)
def kd : (t : Ty E.C) → Kd (t.den E.Γ)
 | .i k => Kd.int k
 | .b => Kd.bool
 | .s => Kd.string
 | .st n => E.kst n
 | .l e t => Kd.slice e (kd t)
def Stb (w0 : World) (F : Nat → Prop) (w : World) (p : World → Prop) : Prop := ∀ w', Below w0.heap.size w0 w' → (∀ k, F k → w'.heap[k]? = w.heap[k]?) → p w'
theorem Stb.move {w0 w w1 : World} {F : Nat → Prop} {p : World → Prop} (h : Stb w0 F w p) (hm : ∀ k, F k → w1.heap[k]? = w.heap[k]?) : Stb w0 F w1 p :=
 fun w' hb hw => h w' hb fun k hk => (hw k hk).trans (hm k hk)
def BkOk (w0 : World) (g : Gh) (w : World) (n : Nat) : Bk E.Γ → Prop
 | .dead => True
 | .box t cs => ∃ b us, g.φ n = .pointer (some ⟨b, 0, none⟩) ∧ g.ok n b ∧ w.heap[b]? = some (.cells us t (0, 0)) ∧ A2 (CRep g) cs us.toList
 | .row .own e t l => (kd E t).R e w w0.heap.size (g.ok n) (g.φ n) l
 | .row .ro e t l => Stb w0 (g.ok n) w (fun w' => (kd E (.l e t)).K w' l [g.φ n])
 | .row (.view p) e t l => g.al p ∧ Stb w0 (g.ok p) w (fun w' => (kd E (.l e t)).K w' l [g.φ n])
theorem BkOk.move {w0 w w1 : World} {g g' : Gh} {S : Nat → Prop} {n : Nat} {b : Bk E.Γ} (h : BkOk E w0 g w n b) (hx : Ext g g' S) (ha : g.al n)
  (hlt : ∀ m, g.al m → ∀ k, g.ok m k → k < w.heap.size) (hm : ∀ m, g.al m → (m = n ∨ ∃ e t l, b = .row (.view m) e t l) → ∀ k, g.ok m k → w1.heap[k]? = w.heap[k]?) : BkOk E w0 g' w1 n b := by
 have hn := hx.alS ha
 cases b with
 | dead => trivial
 | box t cs =>
  obtain ⟨b, us, h1, h2, h3, h4⟩ := h
  exact ⟨b, us, (hx.φ n hn).trans h1, by rw [hx.ok n hn]; exact h2, (hm n ha (.inl rfl) b h2).trans h3, h4.imp fun _ _ q => q.ext hx⟩
 | row m e t l =>
  cases m with
  | own => show (kd E t).R e w1 _ (g'.ok n) (g'.φ n) l; rw [hx.ok n hn, hx.φ n hn]; exact Kd.R_step h fun k hk _ => hm n ha (.inl rfl) k hk
  | ro => show Stb w0 (g'.ok n) w1 (fun w' => (kd E (.l e t)).K w' l [g'.φ n]); rw [hx.ok n hn, hx.φ n hn]; exact Stb.move h fun k hk => hm n ha (.inl rfl) k hk
  | view p =>
   obtain ⟨hp, h⟩ := h
   have hpn := hx.alS hp
   refine ⟨(hx.al p hpn).2 hp, ?_⟩
   rw [hx.ok p hpn, hx.φ n hn]
   exact Stb.move h fun k hk => hm p hp (.inr ⟨e, t, l, rfl⟩) k hk
structure Rep (N : Nat) (w0 : World) (g : Gh) (σ : St E.Γ) (a : Act) (w : World) : Prop where
 tm : ∀ t, ARep g (σ.tm t) (a.tmps.getD t undef)
 sz : a.tmps.size = N
 below : Below w0.heap.size w0 w
 bk : ∀ n, g.al n → BkOk E w0 g w n (σ.bk n)
 lt : ∀ n k, g.al n → g.ok n k → w0.heap.size ≤ k ∧ k < w.heap.size
 sep : ∀ n m k, g.al n → g.al m → n ≠ m → g.ok n k → g.ok m k → False
 df : a.defers = []
structure QOut (N : Nat) (w0 : World) (g : Gh) (σ : St E.Γ) (a : Act) (w : World) (dst : Option Nat) (S : Nat → Prop) (g' : Gh) (τ : St E.Γ) (a' : Act) (w' : World) : Prop where
 ext : Ext g g' S
 bel : Below w.heap.size w w'
 act : ∃ v, a' = a.put dst v ∧ ∀ d, dst = some d → ARep g' (τ.tm d) v
 tmo : ∀ t, dst ≠ some t → τ.tm t = σ.tm t
 bko : ∀ n, ¬ S n → τ.bk n = σ.bk n
 bkn : ∀ n, S n → g'.al n → BkOk E w0 g' w' n (τ.bk n)
 lt : ∀ n k, S n → g'.al n → g'.ok n k → w.heap.size ≤ k ∧ k < w'.heap.size
 sep : ∀ n m k, S n → S m → g'.al n → g'.al m → n ≠ m → g'.ok n k → g'.ok m k → False
end
theorem put_getD (a : Act) (d : Nat) (v : Value) (t : Nat) (hd : d < a.tmps.size) : (a.put (some d) v).tmps.getD t undef = if t = d then v else a.tmps.getD t undef := by
 simp only [Act.put, Array.getD_eq_getD_getElem?, Array.getElem?_setIfInBounds]
 by_cases h : d = t
 ·subst h; simp [hd]
 ·rw [if_neg h, if_neg (fun e => h e.symm)]
theorem put_size (a : Act) (d : Option Nat) (v : Value) : (a.put d v).tmps.size = a.tmps.size := by cases d <;> simp [Act.put]
theorem put_df (a : Act) (d : Option Nat) (v : Value) : (a.put d v).defers = a.defers := by cases d <;> rfl
section
variable {E : Env}
theorem QOut.rep {N : Nat} {w0 : World} {g g' : Gh} {σ τ σ' τ' : St E.Γ} {a a' : Act} {w w' : World} {dst : Option Nat} {S : Nat → Prop} (hq : QOut E N w0 g σ a w dst S g' τ a' w') (hr : Rep E N w0 g σ' a w)
  (hd : ∀ d, dst = some d → d < N) (ht : ∀ t, τ'.tm t = if dst = some t then τ.tm t else σ'.tm t) (hb : ∀ n, ¬ S n → τ'.bk n = σ'.bk n) (hb' : ∀ n, S n → τ'.bk n = τ.bk n) : Rep E N w0 g' τ' a' w' := by
 obtain ⟨v, rfl, hv⟩ := hq.act
 have hsz : w.heap.size ≤ w'.heap.size := hq.bel.size
 refine ⟨fun t => ?_, by rw [put_size]; exact hr.sz, below_then hr.below hr.below.size hq.bel, fun n hn => ?_, fun n k hn hk => ?_, fun n m k hn hm hne h1 h2 => ?_, by rw [put_df]; exact hr.df⟩
 ·rw [ht t]
  cases dst with
  | none => simpa [Act.put] using (hr.tm t).ext hq.ext
  | some d =>
   rw [put_getD a d v t (by rw [hr.sz]; exact hd d rfl)]
   by_cases e : t = d
   ·subst e; simpa using hv t rfl
   ·rw [if_neg (fun h => e (by injection h with h; exact h.symm)), if_neg e]; exact (hr.tm t).ext hq.ext
 ·by_cases hS : S n
  ·rw [hb' n hS]; exact hq.bkn n hS hn
  ·rw [hb n hS]
   have hn0 := (hq.ext.al n hS).1 hn
   exact BkOk.move E (hr.bk n hn0) hq.ext hn0 (fun m hm k hk => (hr.lt m k hm hk).2) (fun m hm _ k hk => hq.bel.block k (hr.lt m k hm hk).2)
 ·by_cases hS : S n
  ·have := hq.lt n k hS hn hk; exact ⟨Nat.le_trans hr.below.size this.1, this.2⟩
  ·rw [hq.ext.ok n hS] at hk
   have := hr.lt n k ((hq.ext.al n hS).1 hn) hk
   exact ⟨this.1, Nat.lt_of_lt_of_le this.2 hsz⟩
 ·by_cases hS : S n <;> by_cases hT : S m
  ·exact hq.sep n m k hS hT hn hm hne h1 h2
  ·rw [hq.ext.ok m hT] at h2
   have := (hq.lt n k hS hn h1).1; have := (hr.lt m k ((hq.ext.al m hT).1 hm) h2).2; omega
  ·rw [hq.ext.ok n hS] at h1
   have := (hq.lt m k hT hm h2).1; have := (hr.lt n k ((hq.ext.al n hS).1 hn) h1).2; omega
  ·rw [hq.ext.ok n hS] at h1
   rw [hq.ext.ok m hT] at h2
   exact hr.sep n m k ((hq.ext.al n hS).1 hn) ((hq.ext.al m hT).1 hm) hne h1 h2
end
end Go.Proofs.YtkomgmgpgnjooaaGreatEv
namespace Go.Proofs.YtkomgmgpgnjooaaGreatEv
open Go Go.RowKit Go.Proofs.YtkomgmgpgnjooaaGreatW.PrintWords
def isAggD : TypeDesc → Bool
 | .struct _ | .array _ _ => true
 | _ => false
def Ty.flatB {C : Type} : Ty C → Bool
 | .st _ => false
 | _ => true
def eqV : Value → Value → Option Bool
 | .int k x, .int k' y => if k = k' then some (decide (x = y)) else none
 | _, _ => none
def eqVs : List Value → List Value → Option Bool
 | [], [] => some true
 | x :: xs, y :: ys =>
  match eqV x y, eqVs xs ys with
  | some b, some c => some (b && c)
  | _, _ => none
 | _, _ => none
section
variable (E : Env)
def HLr (Q : (t : Ty E.C) → t.den E.Γ → Value → Prop) : (ts : List (Ty E.C)) → HL E.Γ ts → List Value → Prop
 | [], _, [] => True
 | t :: ts, h, c :: cs => Q t h.1 c ∧ HLr Q ts h.2 cs
 | _, _, _ => False
theorem HLr.imp {Q Q' : (t : Ty E.C) → t.den E.Γ → Value → Prop} (hQ : ∀ t x c, Q t x c → Q' t x c) : ∀ {ts : List (Ty E.C)} {h : HL E.Γ ts} {cs : List Value}, HLr E Q ts h cs → HLr E Q' ts h cs
 | [], _, [], _ => trivial
 | _ :: _, _, _ :: _, ⟨h1, h2⟩ => ⟨hQ _ _ _ h1, HLr.imp hQ h2⟩
 | [], _, _ :: _, h => h.elim
 | _ :: _, _, [], h => h.elim
theorem HLr.len {Q : (t : Ty E.C) → t.den E.Γ → Value → Prop} : ∀ {ts : List (Ty E.C)} {h : HL E.Γ ts} {cs : List Value}, HLr E Q ts h cs → cs.length = ts.length
 | [], _, [], _ => rfl
 | _ :: _, _, _ :: _, ⟨_, h2⟩ => congrArg (· + 1) (HLr.len h2)
 | [], _, _ :: _, h => h.elim
 | _ :: _, _, [], h => h.elim
def qK (w : World) (t : Ty E.C) (x : t.den E.Γ) (c : Value) : Prop := (kd E t).K w x [c]
def qM (w : World) (base : Nat) (ok : Nat → Prop) (t : Ty E.C) (x : t.den E.Γ) (c : Value) : Prop := (kd E t).M w base ok x [c]
structure Env.Ok : Prop where
 mixed : E.P.follows .mixedOrders = true
 flat : ∀ n, ∀ t ∈ E.fs n, t.flatB = true
 stK : ∀ n w x cs, (E.kst n).K w x cs ↔ HLr E (qK E w) (E.fs n) (E.opn n x) cs
 stM : ∀ n w base ok x cs, (E.kst n).M w base ok x cs ↔ HLr E (qM E w base ok) (E.fs n) (E.opn n x) cs
 so : ∀ n h, E.opn n (E.sht n h) = h
 os : ∀ n x, E.sht n (E.opn n x) = x
 stz : ∀ n, (E.kst n).sz = (E.fs n).length
 sh : ∀ t agg sz, E.sh t = some (agg, sz) → (∃ d, E.P.underlying t = some d ∧ isAggD d = agg) ∧ (E.P.info? t).map (·.size) = some sz ∧ (agg = false → sz = 1)
 zc : ∀ t cs, E.zc t = some cs → ∃ i z, E.P.info? t = some i ∧ i.zero = some z ∧ z.cells.toList = cs ∧ ∀ c ∈ cs, c.oneCell' = true
 sl : ∀ t e ty sz bt zs, E.sl t = some (e, ty, sz, bt, zs) → E.P.underlying t = some (.slice e) ∧ (∃ i z, E.P.info? e = some i ∧ i.zero = some z ∧ i.size = sz ∧ i.bytes = bt ∧ z.cells.toList = zs ∧ z.cells.size = sz) ∧ 0 < sz ∧ 0 < bt ∧ (kd E ty).sz = sz ∧ (∀ c ∈ zs, c.oneCell' = true) ∧ ∀ w base, (kd E ty).M w base (fun _ => False) (dz E ty) zs
 fld : ∀ t f off, E.fld t f = some off → ∃ fs fd, E.P.underlying t = some (.struct fs) ∧ fs[f]? = some fd ∧ fd.offset = off ∧ ∃ i, E.P.info? fd.type = some i ∧ i.size ≠ 0
 pl : ∀ t ps, E.pl t = some ps → ∃ fields : Array Field, E.P.underlying t = some (.struct fields) ∧ fields.toList.mapM (fun f => (E.P.info? f.type).map fun i => (f.offset, i.size)) = some ps
 str : ∀ t, E.str t = true → E.P.underlying t = some .string
 ik : ∀ t k, E.ik t = some k → E.P.underlying t = some (.int k)
 eqt : ∀ t n, E.eqt t n = true → ∀ (w : World) (x y : Operand) (xs ys : Array Value) (b : Bool), xs.size = n → eqVs xs.toList ys.toList = some b → (∀ op, (eqGuard op t x y (.agg xs) (.agg ys)).run E.P w = .ok () w) ∧ (Op.equal t (.agg xs) (.agg ys)).run E.P w = .ok b w
end
section
variable {E : Env}
theorem kd_one {t : Ty E.C} (ht : t.flatB = true) : (kd E t).sz = 1 := by cases t <;> first | rfl | cases ht
theorem ty_to_some {a c : Ty E.C} {x : a.den E.Γ} {y : c.den E.Γ} (h : ty_to E a c x = some y) : ∃ e : a = c, e ▸ x = y := by
 unfold ty_to at h
 split at h
 ·rename_i hb; injection h with h; exact ⟨_, h⟩
 ·cases h
theorem C_none {α : Type} (d : Kd α) (w : World) : d.C w none 0 [] := ⟨rfl, by omega, fun h => absurd h (by omega)⟩
theorem K_nil {e : Nat} {t : Ty E.C} (w : World) : (kd E (.l e t)).K w ([] : List (t.den E.Γ)) [.slice none 0 0] := ⟨none, 0, rfl, Nat.le_refl _, C_none _ _⟩
theorem M_nil {e : Nat} {t : Ty E.C} (w : World) (base : Nat) (ok : Nat → Prop) : (kd E (.l e t)).M w base ok ([] : List (t.den E.Γ)) [.slice none 0 0] := ⟨_, rfl, Kd.R_nil _ _ _ _ _⟩
theorem BkOk.reads {w0 : World} {g : Gh} {w : World} {n : Nat} {m : Mode} {e : Nat} {t : Ty E.C} {l : List (t.den E.Γ)} (h : BkOk E w0 g w n (.row m e t l)) (hb : Below w0.heap.size w0 w) : (kd E (.l e t)).K w l [g.φ n] := by
 cases m with
 | own => exact (kd E (.l e t)).K_of_M (base := w0.heap.size) (ok := g.ok n) ⟨_, rfl, h⟩
 | ro => exact h w hb fun _ _ => rfl
 | view p => exact h.2 w hb fun _ _ => rfl
theorem cell_K {N : Nat} {w0 : World} {g : Gh} {σ : St E.Γ} {a : Act} {w : World} (hr : Rep E N w0 g σ a w) {t : Ty E.C} {c : CV} {x : t.den E.Γ} {u : Value} (h : cell E σ t c = some x) (hc : CRep g c u) : qK E w t x u := by
 unfold cell at h
 split at h
 ·rename_i k k' n
  by_cases e : k = k'
  ·subst e
   simp only [decide_true, cond_true] at h
   obtain rfl := Option.some.inj h
   obtain ⟨rfl, _⟩ := hc
   rfl
  ·simp [e] at h
 ·obtain rfl := Option.some.inj h; obtain ⟨rfl, _⟩ := hc; rfl
 ·obtain rfl := Option.some.inj h; obtain rfl := hc; rfl
 ·obtain rfl := Option.some.inj h; obtain rfl := hc; rfl
 ·obtain rfl := Option.some.inj h; obtain ⟨rfl, _⟩ := hc; rfl
 ·rename_i e t j
  obtain ⟨ha, rfl, _⟩ := hc
  have hb := hr.bk j ha
  split at h
  ·rename_i m e' t' y hy
   rw [hy] at hb
   obtain ⟨he, rfl⟩ := ty_to_some h
   injection he with he1 he2
   subst he1 he2
   exact hb.reads hr.below
  ·cases h
 ·obtain rfl := Option.some.inj h; obtain ⟨rfl, _⟩ := hc; exact K_nil w
 ·cases h
theorem hl_K {N : Nat} {w0 : World} {g : Gh} {σ : St E.Γ} {a : Act} {w : World} (hr : Rep E N w0 g σ a w) : ∀ {ts : List (Ty E.C)} {cs : List CV} {us : List Value} {h : HL E.Γ ts}, hl E σ ts cs = some h → A2 (CRep g) cs us → HLr E (qK E w) ts h us
 | [], [], [], _, _, _ => trivial
 | t :: ts, c :: cs, u :: us, h, hh, ⟨h1, h2⟩ => by
  unfold hl at hh
  split at hh
  ·rename_i x hx
   split at hh
   ·rename_i r hrr
    obtain rfl := Option.some.inj hh
    exact ⟨cell_K hr hx h1, hl_K hr hrr h2⟩
   ·cases hh
  ·cases hh
 | [], [], _ :: _, _, _, h => h.elim
 | [], _ :: _, _, _, h, _ => by simp [hl] at h
 | _ :: _, [], _, _, h, _ => by simp [hl] at h
 | _ :: _, _ :: _, [], _, _, h => h.elim
def AK (E : Env) (Q : (t : Ty E.C) → t.den E.Γ → List Value → Prop) (t : Ty E.C) (x : t.den E.Γ) (u : Value) : Prop :=
 match t with
 | .st n => ∃ us, u = .agg us ∧ Q (.st n) x us.toList
 | t => Q t x [u]
def AKs (E : Env) (Q : (t : Ty E.C) → t.den E.Γ → List Value → Prop) : (ts : List (Ty E.C)) → HL E.Γ ts → List Value → Prop
 | [], _, [] => True
 | t :: ts, h, u :: us => AK E Q t h.1 u ∧ AKs E Q ts h.2 us
 | _, _, _ => False
theorem arg_K (hE : E.Ok) {N : Nat} {w0 : World} {g : Gh} {σ : St E.Γ} {a : Act} {w : World} (hr : Rep E N w0 g σ a w) {t : Ty E.C} {v : AV} {x : t.den E.Γ} {u : Value} (h : argOf E σ t v = some x) (hv : ARep g v u) : AK E (fun t x cs => (kd E t).K w x cs) t x u := by
 unfold argOf at h
 split at h
 ·rename_i n cs
  split at h
  ·rename_i y hy
   obtain rfl := Option.some.inj h
   obtain ⟨us, rfl, hus⟩ := hv
   refine ⟨us, rfl, (hE.stK n w _ _).2 ?_⟩
   rw [hE.so]
   exact hl_K hr hy hus
  ·cases h
 ·cases h
 ·rename_i t' c hn
  have hh := cell_K hr h hv
  cases t with
  | st n => exact absurd rfl (hn n)
  | i k => exact hh
  | b => exact hh
  | s => exact hh
  | l e t => exact hh
 ·cases h
theorem args_K (hE : E.Ok) {N : Nat} {w0 : World} {g : Gh} {σ : St E.Γ} {a : Act} {w : World} (hr : Rep E N w0 g σ a w) : ∀ {ts : List (Ty E.C)} {vs : List AV} {us : List Value} {h : HL E.Γ ts}, argsOf E σ ts vs = some h → A2 (ARep g) vs us → AKs E (fun t x cs => (kd E t).K w x cs) ts h us
 | [], [], [], _, _, _ => trivial
 | t :: ts, c :: cs, u :: us, h, hh, ⟨h1, h2⟩ => by
  unfold argsOf at hh
  split at hh
  ·rename_i x hx
   split at hh
   ·rename_i r hrr
    obtain rfl := Option.some.inj hh
    exact ⟨arg_K hE hr hx h1, args_K hE hr hrr h2⟩
   ·cases hh
  ·cases hh
 | [], [], _ :: _, _, _, h => h.elim
 | [], _ :: _, _, _, h, _ => by simp [argsOf] at h
 | _ :: _, [], _, _, h, _ => by simp [argsOf] at h
 | _ :: _, _ :: _, [], _, _, h => h.elim
theorem cell_st {σ : St E.Γ} {n : E.C} {c : CV} : cell E σ (.st n) c = none := by
 cases c with
 | v x => cases x <;> rfl
 | _ => rfl
theorem cell_nil {σ : St E.Γ} {e : Nat} {t : Ty E.C} {z : Value} {x : List (t.den E.Γ)} (h : cell E σ (.l e t) (.v z) = some x) : z = .slice none 0 0 ∧ x = [] := by
 cases z with
 | slice a n c =>
  cases a with
  | some a => simp [cell] at h
  | none =>
   cases n with
   | succ n => simp [cell] at h
   | zero =>
    cases c with
    | succ c => simp [cell] at h
    | zero => exact ⟨rfl, (Option.some.inj h).symm⟩
 | _ => simp [cell] at h
theorem cell_M {N : Nat} {w0 : World} {g : Gh} {σ : St E.Γ} {a : Act} {w : World} (hr : Rep E N w0 g σ a w) {t : Ty E.C} (ht : ∀ e t', t ≠ .l e t') {c : CV} {x : t.den E.Γ} {u : Value} (ok : Nat → Prop) (h : cell E σ t c = some x) (hc : CRep g c u) : qM E w w0.heap.size ok t x u := by
 have hk := cell_K hr h hc
 cases t with
 | i k => exact hk
 | b => exact hk
 | s => exact hk
 | st n => rw [cell_st] at h; cases h
 | l e t => exact absurd rfl (ht e t)
theorem cell_own {N : Nat} {w0 : World} {g : Gh} {σ : St E.Γ} {a : Act} {w : World} (hr : Rep E N w0 g σ a w) {e : Nat} {t : Ty E.C} {j : Nat} {x : List (t.den E.Γ)} {u : Value} {ok : Nat → Prop} (h : cell E σ (.l e t) (.sl j) = some x) (hc : CRep g (.sl j) u) (ho : eatB (σ.bk j) = true) (hok : ∀ k, g.ok j k → ok k) : qM E w w0.heap.size ok (.l e t) x u := by
 obtain ⟨ha, rfl, _⟩ := hc
 have hb := hr.bk j ha
 simp only [cell] at h
 split at h
 ·rename_i m e' t' y hy
  rw [hy] at hb ho
  obtain ⟨he, rfl⟩ := ty_to_some h
  injection he with he1 he2
  subst he1 he2
  cases m with
  | own => exact ⟨_, rfl, Kd.R_mono hb hok⟩
  | ro => cases ho
  | view p => cases ho
 ·cases h
theorem hl_M {N : Nat} {w0 : World} {g : Gh} {σ : St E.Γ} {a : Act} {w : World} (hr : Rep E N w0 g σ a w) {ok : Nat → Prop} : ∀ {ts : List (Ty E.C)} {cs : List CV} {us : List Value} {h : HL E.Γ ts} {js : List Nat}, hl E σ ts cs = some h → eats E σ ts cs = some js → (∀ j ∈ js, ∀ k, g.ok j k → ok k) → A2 (CRep g) cs us → HLr E (qM E w w0.heap.size ok) ts h us
 | [], [], [], _, _, _, _, _, _ => trivial
 | t :: ts, c :: cs, u :: us, h, js, hh, he, hok, ⟨h1, h2⟩ => by
  unfold hl at hh
  split at hh
  ·rename_i x hx
   split at hh
   ·rename_i r hrr
    obtain rfl := Option.some.inj hh
    unfold eats at he
    split at he
    ·rename_i e t' ts' j cs' heq1 heq2
     injection heq1 with q1 q2
     injection heq2 with q3 q4
     subst q1 q2 q3 q4
     cases hb : eatB (σ.bk j)
     ·rw [hb] at he; cases he
     ·rw [hb, cond_true] at he
      split at he
      ·rename_i r' hr'
       cases hn : r'.all (fun n => !Nat.beq n j)
       ·rw [hn] at he; cases he
       ·rw [hn, cond_true] at he
        obtain rfl := Option.some.inj he
        exact ⟨cell_own hr hx h1 hb (hok j List.mem_cons_self), hl_M hr hrr hr' (fun i hi => hok i (List.mem_cons_of_mem _ hi)) h2⟩
      ·cases he
    ·rename_i hne heq1 heq2
     injection heq1 with q1 q2
     injection heq2 with q3 q4
     subst q1 q2 q3 q4
     refine ⟨?_, hl_M hr hrr he hok h2⟩
     cases t with
     | l e t =>
      cases c with
      | sl j => exact absurd rfl (hne e t j rfl)
      | v z =>
       obtain ⟨rfl, rfl⟩ := cell_nil hx
       obtain ⟨rfl, _⟩ := h1
       exact M_nil _ _ _
      | _ => simp [cell] at hx
     | i k => exact cell_M hr (fun _ _ h => by cases h) ok hx h1
     | b => exact cell_M hr (fun _ _ h => by cases h) ok hx h1
     | s => exact cell_M hr (fun _ _ h => by cases h) ok hx h1
     | st n => exact cell_M hr (fun _ _ h => by cases h) ok hx h1
    ·rename_i heq1 heq2; cases heq1
    ·cases he
   ·cases hh
  ·cases hh
 | [], [], _ :: _, _, _, _, _, _, h => h.elim
 | [], _ :: _, _, _, _, h, _, _, _ => by simp [hl] at h
 | _ :: _, [], _, _, _, h, _, _, _ => by simp [hl] at h
 | _ :: _, _ :: _, [], _, _, _, _, _, h => h.elim
end
end Go.Proofs.YtkomgmgpgnjooaaGreatEv
namespace Go.Proofs.YtkomgmgpgnjooaaGreatEv
open Go Go.RowKit Go.Proofs.YtkomgmgpgnjooaaGreatW.PrintWords
def Gh.over (g : Gh) (new : Nat → Option (Value × (Nat → Prop))) : Gh where
 φ := fun n => match new n with
  | some x => x.1
  | none => g.φ n
 ok := fun n => match new n with
  | some x => x.2
  | none => g.ok n
 al := fun n => (new n).isSome = true ∨ g.al n
theorem Gh.over_ext (g : Gh) (new : Nat → Option (Value × (Nat → Prop))) {S : Nat → Prop} (hn : ∀ n, (new n).isSome = true → S n) (hS : ∀ n, S n → ¬ g.al n) : Ext g (g.over new) S := by
 have hno : ∀ n, ¬ S n → new n = none := fun n hs => by
  cases h : new n with
  | none => rfl
  | some x => exact absurd (hn n (by simp [h])) hs
 exact ⟨fun n hs => by simp [Gh.over, hno n hs], fun n hs => by simp [Gh.over, hno n hs], fun n hs => by simp [Gh.over, hno n hs], hS⟩
section
variable {E : Env}
theorem QOut.over {N : Nat} {w0 : World} {g : Gh} {σ τ : St E.Γ} {a : Act} {w w' : World} {dst : Option Nat} {S : Nat → Prop} {new : Nat → Option (Value × (Nat → Prop))} {u : Value} (hn : ∀ n, (new n).isSome = true → S n) (hS : ∀ n, S n → ¬ g.al n) (hb : Below w.heap.size w w')
  (hv : ∀ d, dst = some d → ARep (g.over new) (τ.tm d) u) (htm : ∀ t, dst ≠ some t → τ.tm t = σ.tm t) (hbk : ∀ n, ¬ S n → τ.bk n = σ.bk n) (hnew : ∀ n x, new n = some x → BkOk E w0 (g.over new) w' n (τ.bk n))
  (hlt : ∀ n x k, new n = some x → x.2 k → w.heap.size ≤ k ∧ k < w'.heap.size) (hsep : ∀ n m x y k, n ≠ m → new n = some x → new m = some y → x.2 k → y.2 k → False) :
  QOut E N w0 g σ a w dst S (g.over new) τ (a.put dst u) w' := by
 have key : ∀ n, S n → (g.over new).al n → ∃ x, new n = some x := fun n hs ha => by
  rcases ha with h | h
  ·exact Option.isSome_iff_exists.1 h
  ·exact absurd h (hS n hs)
 refine ⟨g.over_ext new hn hS, hb, ⟨u, rfl, hv⟩, htm, hbk, fun n hs ha => ?_, fun n k hs ha hk => ?_, fun n m k hs ht ha hm hne h1 h2 => ?_⟩
 ·obtain ⟨x, hx⟩ := key n hs ha; exact hnew n x hx
 ·obtain ⟨x, hx⟩ := key n hs ha
  refine hlt n x k hx ?_
  simpa [Gh.over, hx] using hk
 ·obtain ⟨x, hx⟩ := key n hs ha
  obtain ⟨y, hy⟩ := key m ht hm
  refine hsep n m x y k hne hx hy ?_ ?_
  ·simpa [Gh.over, hx] using h1
  ·simpa [Gh.over, hy] using h2
def one (id : Nat) (v : Value) (ok : Nat → Prop) : Nat → Option (Value × (Nat → Prop)) := fun n => if n = id then some (v, ok) else none
theorem put_tm {σ : St E.Γ} {dst : Option Nat} {v : AV} {d : Nat} (h : dst = some d) : (σ.put dst v).tm d = v := by subst h; simp [St.put]
theorem put_tmo {σ : St E.Γ} {dst : Option Nat} {v : AV} {t : Nat} (h : dst ≠ some t) : (σ.put dst v).tm t = σ.tm t := by
 cases dst with
 | none => rfl
 | some d =>
  have : t ≠ d := fun e => h (by rw [e])
  have h2 : Nat.beq t d = false := by
   cases hb : Nat.beq t d
   ·rfl
   ·exact absurd (Nat.eq_of_beq_eq_true hb) this
  simp [St.put, h2]
theorem put_bk {σ : St E.Γ} {dst : Option Nat} {v : AV} : (σ.put dst v).bk = σ.bk := by cases dst <;> rfl
theorem lay_bk {σ : St E.Γ} {id : Nat} {b : Bk E.Γ} {n : Nat} : (σ.lay id b).bk n = if n = id then b else σ.bk n := by
 simp only [St.lay]
 by_cases h : n = id
 ·subst h; simp
 ·have h2 : Nat.beq n id = false := by
   cases hb : Nat.beq n id
   ·rfl
   ·exact absurd (Nat.eq_of_beq_eq_true hb) h
  simp [h2, h]
theorem QOut.pure {N : Nat} {w0 : World} {g : Gh} {σ : St E.Γ} {a : Act} {w : World} {dst : Option Nat} {S : Nat → Prop} (hS : ∀ n, S n → ¬ g.al n) {v : AV} {u : Value} (hv : ARep g v u) :
  QOut E N w0 g σ a w dst S g (σ.put dst v) (a.put dst u) w :=
 ⟨⟨fun _ _ => rfl, fun _ _ => rfl, fun _ _ => Iff.rfl, hS⟩, Below.refl _ _, ⟨u, rfl, fun d hd => by rw [put_tm hd]; exact hv⟩, fun t ht => put_tmo ht, fun n _ => by rw [put_bk], fun n hs ha => absurd ha (hS n hs), fun n k hs ha => absurd ha (hS n hs), fun n m k hs _ ha => absurd ha (hS n hs)⟩
theorem QOut.new {N : Nat} {w0 : World} {g : Gh} {σ : St E.Γ} {a : Act} {w w' : World} {dst : Option Nat} {S : Nat → Prop} (hS : ∀ n, S n → ¬ g.al n) {id : Nat} (hid : S id) {v : AV} {u vid : Value} {ok : Nat → Prop} {b : Bk E.Γ} (hb : Below w.heap.size w w')
  (hok : ∀ k, ok k → w.heap.size ≤ k ∧ k < w'.heap.size) (hbk : BkOk E w0 (g.over (one id vid ok)) w' id b) (hv : ARep (g.over (one id vid ok)) v u) :
  QOut E N w0 g σ a w dst S (g.over (one id vid ok)) ((σ.lay id b).put dst v) (a.put dst u) w' := by
 have h1 : ∀ n x, one id vid ok n = some x → n = id ∧ x = (vid, ok) := fun n x h => by
  unfold one at h
  split at h
  ·rename_i e; exact ⟨e, (Option.some.inj h).symm⟩
  ·cases h
 refine QOut.over (fun n hn => ?_) hS hb (fun d hd => by rw [put_tm hd]; exact hv) (fun t ht => put_tmo ht) (fun n hn => ?_) (fun n x hx => ?_) (fun n x k hx hk => ?_) (fun n m x y k hne hx hy _ _ => ?_)
 ·obtain ⟨x, hx⟩ := Option.isSome_iff_exists.1 hn; rw [(h1 n x hx).1]; exact hid
 ·rw [put_bk, lay_bk, if_neg (fun e => hn (by rw [e]; exact hid))]
 ·obtain ⟨rfl, rfl⟩ := h1 n x hx; rw [put_bk, lay_bk, if_pos rfl]; exact hbk
 ·obtain ⟨rfl, rfl⟩ := h1 n x hx; exact hok k hk
 ·exact hne ((h1 n x hx).1.trans (h1 m y hy).1.symm)
theorem over_one_al {g : Gh} {id : Nat} {v : Value} {ok : Nat → Prop} : (g.over (one id v ok)).al id := .inl (by simp [one])
theorem over_one_φ {g : Gh} {id : Nat} {v : Value} {ok : Nat → Prop} : (g.over (one id v ok)).φ id = v := by simp [Gh.over, one]
theorem over_one_ok {g : Gh} {id : Nat} {v : Value} {ok : Nat → Prop} : (g.over (one id v ok)).ok id = ok := by simp [Gh.over, one]
theorem BkOk.stb {w0 : World} {g : Gh} {w : World} {n : Nat} {m : Mode} {e : Nat} {t : Ty E.C} {l : List (t.den E.Γ)} (h : BkOk E w0 g w n (.row m e t l)) (hn : g.al n) : ∃ p, m.under n = .view p ∧ g.al p ∧ Stb w0 (g.ok p) w (fun w' => (kd E (.l e t)).K w' l [g.φ n]) := by
 cases m with
 | own => exact ⟨n, rfl, hn, fun w' _ hm => (kd E (.l e t)).K_of_M (base := w0.heap.size) (ok := g.ok n) ⟨_, rfl, Kd.R_move h hm⟩⟩
 | ro => exact ⟨n, rfl, hn, h⟩
 | view p => exact ⟨p, rfl, h.1, h.2⟩
theorem cell_size_zero {w : World} {a : Addr} {t : TypeId} {fr : Nat × Nat} (h : w.heap[a.block]? = some (.cells #[] t fr)) : w.cell? a = none := by
 simp only [World.cell?, h]
 split <;> simp
theorem Stb.home {w0 w : World} {F : Nat → Prop} {e : Nat} {t : Ty E.C} {l : List (t.den E.Γ)} {a : Addr} {m c : Nat} (h : Stb w0 F w (fun w' => (kd E (.l e t)).K w' l [.slice (some a) m c])) (hb : Below w0.heap.size w0 w) (hl : 0 < l.length) (hs : 0 < (kd E t).sz) : a.block < w0.heap.size ∨ F a.block := by
 refine Classical.byContradiction fun hno => ?_
 have h1 : ¬ a.block < w0.heap.size := fun q => hno (.inl q)
 have h2 : ¬ F a.block := fun q => hno (.inr q)
 have hlt : a.block < w.heap.size := by
  obtain ⟨A, c', he, _, hC⟩ := h w hb (fun _ _ => rfl)
  injection he with he _
  injection he with he1 he2 he3
  subst he1
  obtain ⟨ad, hA, hc⟩ := hC.2.2 hl
  injection hA with hA
  subst hA
  obtain ⟨cs, hcl, _, hcc⟩ := hc 0 _ (List.getElem?_eq_getElem hl)
  have hu : cs[0]? = some cs[0] := List.getElem?_eq_getElem (by rw [hcl]; exact hs)
  have := World.block_lt_of_cell? w _ (hcc 0 _ hu)
  rwa [add_block] at this
 let w' : World := { w with heap := w.heap.setIfInBounds a.block (.cells #[] 0 (0, 0)) }
 have hw : ∀ k, k ≠ a.block → w'.heap[k]? = w.heap[k]? := fun k hk => by
  simp only [w', Array.getElem?_setIfInBounds]
  rw [if_neg (fun e => hk e.symm)]
 have hb' : Below w0.heap.size w0 w' := ⟨hb.os, hb.tape, hb.output, by simp [w']; exact hb.size, fun k hk => (hw k (fun e => h1 (by rw [← e]; exact hk))).trans (hb.block k hk)⟩
 obtain ⟨A, c', he, _, hC⟩ := h w' hb' (fun k hk => hw k (fun e => h2 (by rw [← e]; exact hk)))
 injection he with he _
 injection he with he1 he2 he3
 subst he1
 obtain ⟨ad, hA, hc⟩ := hC.2.2 hl
 injection hA with hA
 subst hA
 obtain ⟨cs, hcl, _, hcc⟩ := hc 0 _ (List.getElem?_eq_getElem hl)
 have hu : cs[0]? = some cs[0] := List.getElem?_eq_getElem (by rw [hcl]; exact hs)
 have h3 := hcc 0 _ hu
 rw [cell_size_zero (t := 0) (fr := (0, 0)) (by rw [add_block]; simp only [w', Array.getElem?_setIfInBounds]; simp [hlt])] at h3
 cases h3
theorem Stb.elem {w0 w : World} {F : Nat → Prop} {e : Nat} {t : Ty E.C} {l : List (t.den E.Γ)} {v : Value} (h : Stb w0 F w (fun w' => (kd E (.l e t)).K w' l [v])) (hb : Below w0.heap.size w0 w) (hs : 0 < (kd E t).sz) (z : t.den E.Γ) (i : Int) (h0 : 0 ≤ i) (h1 : i < l.length) :
  ∃ ad c us, v = .slice (some ad) l.length c ∧ us.length = (kd E t).sz ∧ (∀ j u, us[j]? = some u → w.cell? (ad.add (i.toNat * (kd E t).sz + j)) = some u) ∧ Stb w0 F w (fun w' => (kd E t).K w' (l.getD i.toNat z) us) := by
 obtain ⟨A, c, he, hlc, hC⟩ := h w hb (fun _ _ => rfl)
 obtain ⟨ad, us, rfl, hul, _, hcc⟩ := Kd.C_get hC z i h0 (by omega)
 injection he with he _
 subst he
 have hl : 0 < l.length := by omega
 have hhome := Stb.home h hb hl hs
 refine ⟨ad, c, us, rfl, hul, hcc, fun w' hb' hm => ?_⟩
 obtain ⟨A', c', he', _, hC'⟩ := h w' hb' hm
 injection he' with he' _
 injection he' with q1 q2 q3
 subst q1
 obtain ⟨ad', us', hA', hul', hK', hcc'⟩ := Kd.C_get hC' z i h0 (by omega)
 injection hA' with hA'
 subst hA'
 have hblk : w'.heap[ad.block]? = w.heap[ad.block]? := by
  rcases hhome with q | q
  ·rw [hb'.block _ q, hb.block _ q]
  ·exact hm _ q
 have : us' = us := by
  apply List.ext_getElem?
  intro j
  rcases Nat.lt_or_ge j (kd E t).sz with hj | hj
  ·have e1 : us[j]? = some us[j] := List.getElem?_eq_getElem (by omega)
   have e2 : us'[j]? = some us'[j] := List.getElem?_eq_getElem (by omega)
   have a1 := hcc j _ e1
   have a2 := hcc' j _ e2
   rw [World.cell?_of_block (w := w) (w' := w') (by rw [add_block]; exact hblk)] at a2
   rw [a1] at a2
   rw [e1, e2, Option.some.inj a2]
  ·rw [List.getElem?_eq_none (by omega), List.getElem?_eq_none (by omega)]
 rw [this] at hK'
 exact hK'
def newL (ok : Nat → Prop) (n : Nat) : List (Ty E.C) → List Value → Nat → Option (Value × (Nat → Prop))
 | t :: ts, u :: us => fun m => if m = n then (match t with
  | .l _ _ => some (u, ok)
  | _ => none) else newL ok (n + 1) ts us m
 | _, _ => fun _ => none
theorem newL_lo {ok : Nat → Prop} : ∀ {ts : List (Ty E.C)} {us : List Value} {n m : Nat} {x : Value × (Nat → Prop)}, newL ok n ts us m = some x → n ≤ m ∧ m < n + ts.length ∧ x.2 = ok
 | t :: ts, u :: us, n, m, x, h => by
  simp only [newL] at h
  split at h
  ·rename_i e
   subst e
   split at h
   ·obtain rfl := Option.some.inj h; exact ⟨Nat.le_refl _, by simp, rfl⟩
   ·cases h
  ·have := newL_lo h; exact ⟨by omega, by simp only [List.length_cons]; omega, this.2.2⟩
 | [], _, _, _, _, h => by simp [newL] at h
 | _ :: _, [], _, _, _, h => by simp [newL] at h
theorem outBs_off {m : Mode} {old : Nat → Bk E.Γ} : ∀ {ts : List (Ty E.C)} {h : HL E.Γ ts} {n j : Nat}, (j < n ∨ n + ts.length ≤ j) → outBs E m old n ts h j = old j
 | [], _, _, _, _ => rfl
 | t :: ts, h, n, j, hj => by
  have hne : j ≠ n := by simp only [List.length_cons] at hj; omega
  have h2 : Nat.beq j n = false := by
   cases hb : Nat.beq j n
   ·rfl
   ·exact absurd (Nat.eq_of_beq_eq_true hb) hne
  simp only [outBs, h2, cond_false]
  exact outBs_off (by simp only [List.length_cons] at hj; omega)
theorem stb_head {w0 w : World} {F : Nat → Prop} {t : Ty E.C} {ts : List (Ty E.C)} {h : HL E.Γ (t :: ts)} {u : Value} {us : List Value} (hs : Stb w0 F w (fun w' => HLr E (qK E w') (t :: ts) h (u :: us))) : Stb w0 F w (fun w' => qK E w' t h.1 u) ∧ Stb w0 F w (fun w' => HLr E (qK E w') ts h.2 us) :=
 ⟨fun w' hb hm => (hs w' hb hm).1, fun w' hb hm => (hs w' hb hm).2⟩
theorem outCs_rep {ok : Nat → Prop} {w0 w : World} {F : Nat → Prop} {m : Mode} {p : Nat} {G : Gh} (hm : m = .view p) (hp : G.al p) (hF : G.ok p = F) {old : Nat → Bk E.Γ} (hb : Below w0.heap.size w0 w) : ∀ {ts : List (Ty E.C)} {h : HL E.Γ ts} {us : List Value} {n : Nat}, (∀ t ∈ ts, t.flatB = true) → Stb w0 F w (fun w' => HLr E (qK E w') ts h us) →
  (∀ j x, newL ok n ts us j = some x → G.al j ∧ G.φ j = x.1) → A2 (CRep G) (outCs E n ts h) us ∧ ∀ j x, newL ok n ts us j = some x → BkOk E w0 G w j (outBs E m old n ts h j)
 | [], h, [], n, _, _, _ => ⟨trivial, fun j x hx => by simp [newL] at hx⟩
 | [], h, _ :: _, n, _, hs, _ => (hs w hb (fun _ _ => rfl)).elim
 | _ :: _, h, [], n, _, hs, _ => (hs w hb (fun _ _ => rfl)).elim
 | t :: ts, h, u :: us, n, hf, hs, hG => by
  obtain ⟨hs1, hs2⟩ := stb_head hs
  have hnext : ∀ j x, newL ok (n + 1) ts us j = some x → newL ok n (t :: ts) (u :: us) j = some x := fun j x hx => by
   have := (newL_lo hx).1
   simp only [newL]
   rw [if_neg (by omega)]
   exact hx
  obtain ⟨i1, i2⟩ := outCs_rep (n := n + 1) hm hp hF (old := old) hb (fun t ht => hf t (List.mem_cons_of_mem _ ht)) hs2 (fun j x hx => hG j x (hnext j x hx))
  have hk := hs1 w hb (fun _ _ => rfl)
  refine ⟨⟨?_, i1⟩, fun j x hx => ?_⟩
  ·cases t with
   | i k => obtain rfl : u = _ := List.singleton_inj.1 hk; exact ⟨rfl, rfl⟩
   | b => obtain rfl : u = _ := List.singleton_inj.1 hk; exact ⟨rfl, rfl⟩
   | s => obtain rfl : u = _ := List.singleton_inj.1 hk; exact ⟨rfl, rfl⟩
   | st q => have := hf (.st q) List.mem_cons_self; cases this
   | l e t =>
    obtain ⟨ha, hφ⟩ := hG n (u, ok) (by simp [newL])
    refine ⟨ha, hφ.symm, ?_⟩
    obtain ⟨A, c, he, _⟩ := hk
    rw [List.singleton_inj.1 he]
    rfl
  ·simp only [newL] at hx
   split at hx
   ·rename_i e
    subst e
    cases t with
    | l e t =>
     obtain ⟨ha, hφ⟩ := hG j (u, ok) (by simp [newL])
     have h2 : Nat.beq j j = true := Nat.beq_refl j
     simp only [outBs, h2, cond_true, outB, hm]
     refine ⟨hp, ?_⟩
     rw [hF, hφ]
     exact hs1
    | _ => cases hx
   ·rename_i hne
    have h2 : Nat.beq j n = false := by
     cases hb : Nat.beq j n
     ·rfl
     ·exact absurd (Nat.eq_of_beq_eq_true hb) hne
    simp only [outBs, h2, cond_false]
    exact i2 j x hx
end
end Go.Proofs.YtkomgmgpgnjooaaGreatEv
namespace Go.Proofs.YtkomgmgpgnjooaaGreatEv
open Go Go.RowKit Go.Proofs.YtkomgmgpgnjooaaGreatW.PrintWords
section
variable {P : Program} {o : Oper} {a : Act} {w w' : World} {next : Act → World → Prop} {Q : Exit → Act → World → Prop}
theorem wp_val {u : Value} (h : (execOp a.eval o).run P w = .ok (.value u) w') (hn : next (a.put o.dst u) w') : o.wp P a w next Q := by unfold Oper.wp; rw [h]; exact hn
theorem wp_skip' (h : (execOp a.eval o).run P w = .ok .skip w') (hn : next (a.put o.dst undef) w') : o.wp P a w next Q := by unfold Oper.wp; rw [h]; exact hn
end
theorem wr_eq (k : IntKind) (x : Int) : wr k x = k.wrap x := by
 cases k <;> first | rfl | (show Go.RowKit.wrap64 x = _; unfold Go.RowKit.wrap64; exact (IntKind.wrap_i64 x).symm)
theorem ofV_rep (g : Gh) (v : Value) : ARep g (AV.ofV v) v := by
 have hc : ∀ c : Value, c.oneCell' = true → CRep g (CV.ofV c) c := fun c hc => by cases c <;> first | rfl | exact ⟨rfl, hc⟩
 cases v with
 | agg cs =>
  show ARep g (bif cs.toList.all Value.oneCell' then .agg (cs.toList.map CV.ofV) else .any) _
  cases h : cs.toList.all Value.oneCell'
  ·exact trivial
  ·refine ⟨cs, rfl, A2.map _ ?_⟩
   have : ∀ l : List Value, l.all Value.oneCell' = true → A2 (fun x y => CRep g (CV.ofV x) y) l l := by
    intro l
    induction l with
    | nil => exact fun _ => trivial
    | cons x l ih => intro h; simp only [List.all_cons, Bool.and_eq_true] at h; exact ⟨hc x h.1, ih h.2⟩
   exact this _ h
 | tuple vs => exact trivial
 | bool b => rfl
 | _ => exact ⟨rfl, rfl⟩
section
variable {E : Env} {N : Nat} {w0 : World} {g : Gh} {σ : St E.Γ} {a : Act} {w : World} {R : Type}
theorem ev_rep (hr : Rep E N w0 g σ a w) (x : Operand) : ARep g (σ.ev x) (a.eval x) := by
 cases x with
 | tmp t => exact hr.tm t
 | const v => exact ofV_rep g v
 | global n => trivial
 | func f => exact ⟨rfl, rfl⟩
theorem onB_some {v : AV} {A B : Option R} {r : R} {u : Value} (h : onB v A B = some r) (hv : ARep g v u) : ∃ b, u = .bool b ∧ (if b = true then A else B) = some r := by
 unfold onB at h
 split at h
 ·obtain rfl := hv; exact ⟨true, rfl, h⟩
 ·obtain rfl := hv; exact ⟨false, rfl, h⟩
 ·obtain ⟨rfl, _⟩ := hv; rename_i x; exact ⟨_, rfl, h⟩
 ·obtain rfl := hv
  rename_i q d
  refine ⟨@decide q d, rfl, ?_⟩
  by_cases hq : q
  ·rw [if_pos hq] at h; rw [if_pos (by simpa using hq)]; exact h
  ·rw [if_neg hq] at h; rw [if_neg (by simpa using hq)]; exact h
 ·cases h
theorem notC_rep {v : AV} {c : CV} {u : Value} (h : notC v = some c) (hv : ARep g v u) : ∃ b, u = .bool b ∧ CRep g c (.bool (!b)) := by
 unfold notC at h
 split at h
 ·obtain rfl := Option.some.inj h; obtain rfl := hv; exact ⟨_, rfl, rfl⟩
 ·obtain rfl := Option.some.inj h; obtain ⟨rfl, _⟩ := hv; exact ⟨_, rfl, rfl, rfl⟩
 ·obtain rfl := Option.some.inj h; obtain rfl := hv; exact ⟨_, rfl, by simp [CRep]⟩
 ·cases h
theorem cells_rep {v : AV} {xs : List CV} {u : Value} (h : v.cells = some xs) (hv : ARep g v u) : A2 (CRep g) xs u.cells.toList ∧ u.cells.toList.length = xs.length := by
 have key : A2 (CRep g) xs u.cells.toList := by
  unfold AV.cells at h
  split at h
  ·obtain rfl := Option.some.inj h
   have h1 := CRep.one hv
   have : u.cells = #[u] := by cases u <;> first | rfl | (simp [Value.oneCell'] at h1)
   rw [this]
   exact ⟨hv, trivial⟩
  ·obtain rfl := Option.some.inj h; obtain ⟨us, rfl, hus⟩ := hv; exact hus
  ·cases h
 exact ⟨key, key.len.symm⟩
theorem run_bin {P : Program} {op : BinOp} {t yt : TypeId} {x y : Operand} {o : Oper} (ho : o.op = .binOp op t x y yt) {u v r : Value} (hx : a.eval x = u) (hy : a.eval y = v) (hg : (eqGuard op t x y u v).run P w = .ok () w) (h : (Go.binOp op t u v).run P w = .ok r w) : (execOp a.eval o).run P w = .ok (.value r) w := by
 simp only [execOp, ho, hx, hy]
 simp [hg, h]
theorem guard_int {P : Program} {op : BinOp} {t : TypeId} {x y : Operand} {k k' : IntKind} {p q : Int} : (eqGuard op t x y (.int k p) (.int k' q)).run P w = .ok () w := by unfold eqGuard; cases op <;> simp
theorem guard_str {P : Program} {op : BinOp} {t : TypeId} {x y : Operand} {p q : ByteArray} : (eqGuard op t x y (.string p) (.string q)).run P w = .ok () w := by unfold eqGuard; cases op <;> simp
theorem beq_dec (x y : Int) : CRep g (.p (x = y) inferInstance) (.bool (x == y)) := rfl
theorem binI_rep {P : Program} {nz : Bool} {op : BinOp} {k : IntKind} {x y : Int} {t : TypeId} {K : CV → Option R} {r : R} (hnz : nz = true → y ≠ 0) (h : binI nz op k x y K = some r) : ∃ c u, (Go.binOp op t (.int k x) (.int k y)).run P w = .ok u w ∧ CRep g c u ∧ K c = some r := by
 unfold binI at h
 cases op with
 | add => exact ⟨.v (.int k (wr k (x + y))), .int k (k.wrap (x + y)), by simp [Go.binOp, Op.intArith], ⟨by rw [wr_eq], rfl⟩, h⟩
 | sub => exact ⟨.v (.int k (wr k (x - y))), .int k (k.wrap (x - y)), by simp [Go.binOp, Op.intArith], ⟨by rw [wr_eq], rfl⟩, h⟩
 | mul => exact ⟨.v (.int k (wr k (x * y))), .int k (k.wrap (x * y)), by simp [Go.binOp, Op.intArith], ⟨by rw [wr_eq], rfl⟩, h⟩
 | quo =>
  have key : y ≠ 0 → K (.v (.int k (wr k (tq x y)))) = some r → ∃ c u, (Go.binOp .quo t (.int k x) (.int k y)).run P w = .ok u w ∧ CRep g c u ∧ K c = some r :=
   fun h0 h => ⟨.v (.int k (wr k (tq x y))), .int k (k.wrap (Int.tdiv x y)), by simp [Go.binOp, Op.intDiv, h0], ⟨by rw [wr_eq, tq_eq], rfl⟩, h⟩
  cases nz with
  | true => exact key (hnz rfl) h
  | false =>
   simp only [cond_false] at h
   split at h
   ·cases h
   ·rename_i h0; exact key h0 h
 | rem =>
  have key : y ≠ 0 → K (.v (.int k (Int.tmod x y))) = some r → ∃ c u, (Go.binOp .rem t (.int k x) (.int k y)).run P w = .ok u w ∧ CRep g c u ∧ K c = some r :=
   fun h0 h => ⟨.v (.int k (Int.tmod x y)), .int k (Int.tmod x y), by simp [Go.binOp, Op.intDiv, h0], ⟨rfl, rfl⟩, h⟩
  cases nz with
  | true => exact key (hnz rfl) h
  | false =>
   simp only [cond_false] at h
   split at h
   ·cases h
   ·rename_i h0; exact key h0 h
 | eql => exact ⟨.p (x = y) inferInstance, .bool (x == y), by simp [Go.binOp, Op.intCmp], beq_dec x y, h⟩
 | neq => exact ⟨.p (¬ x = y) inferInstance, .bool (x != y), by simp [Go.binOp, Op.intCmp], congrArg Value.bool (by rw [Bool.eq_iff_iff]; simp [bne]), h⟩
 | lss => exact ⟨.p (x < y) inferInstance, .bool (decide (x < y)), by simp [Go.binOp, Op.intCmp], rfl, h⟩
 | leq => exact ⟨.p (x ≤ y) inferInstance, .bool (decide (x ≤ y)), by simp [Go.binOp, Op.intCmp], rfl, h⟩
 | gtr => exact ⟨.p (x > y) inferInstance, .bool (decide (x > y)), by simp [Go.binOp, Op.intCmp], rfl, h⟩
 | geq => exact ⟨.p (x ≥ y) inferInstance, .bool (decide (x ≥ y)), by simp [Go.binOp, Op.intCmp], rfl, h⟩
 | _ => cases h
theorem binS_rep {P : Program} {op : BinOp} {x y : ByteArray} {t : TypeId} {K : CV → Option R} {r : R} (h : binS op x y K = some r) : ∃ c u, (Go.binOp op t (.string x) (.string y)).run P w = .ok u w ∧ CRep g c u ∧ K c = some r := by
 unfold binS at h
 cases op with
 | add =>
  simp only [] at h
  split at h
  ·rename_i hs
   have h1 : ¬ ((x.size + y.size : Nat) : Int) > IntKind.i64.max := by
    have : IntKind.i64.max = 9223372036854775807 := by decide
    rw [this]; omega
   exact ⟨.v (.string (x ++ y)), .string (x ++ y), by simp only [Go.binOp, Op.stringOp, if_neg h1]; rfl, ⟨rfl, rfl⟩, h⟩
  ·cases h
 | eql => exact ⟨.p (x.toList = y.toList) inferInstance, .bool (x.toList == y.toList), by simp [Go.binOp, Op.stringOp], congrArg Value.bool (by rw [Bool.eq_iff_iff]; simp), h⟩
 | neq => exact ⟨.p (¬ x.toList = y.toList) inferInstance, .bool (!(x.toList == y.toList)), by simp [Go.binOp, Op.stringOp], congrArg Value.bool (by rw [Bool.eq_iff_iff]; simp), h⟩
 | lss => exact ⟨.v (.bool (Op.bytesLess x.toList y.toList)), .bool (Op.bytesLess x.toList y.toList), by simp [Go.binOp, Op.stringOp], ⟨rfl, rfl⟩, h⟩
 | _ => cases h
end
end Go.Proofs.YtkomgmgpgnjooaaGreatEv
namespace Go.Proofs.YtkomgmgpgnjooaaGreatEv
open Go Go.RowKit Go.Proofs.YtkomgmgpgnjooaaGreatW.PrintWords
theorem run_sizeOf' {P : Program} {t : TypeId} {i : TypeInfo} (h : P.info? t = some i) (w : World) : (sizeOf t).run P w = .ok i.size w := by simp [sizeOf, typeInfo, h]
theorem run_isAgg' {P : Program} {t : TypeId} {d : TypeDesc} (h : P.underlying t = some d) (w : World) : (isAgg t).run P w = .ok (isAggD d) w := by
 simp only [isAgg, Sem.run_bind, run_underlying h, Result.andThen_ok, isAggD]
 cases d <;> rfl
theorem run_zero' {P : Program} {t : TypeId} {i : TypeInfo} {z : Value} (h : P.info? t = some i) (hz : i.zero = some z) (w : World) : (zeroValue t).run P w = .ok z w := by simp [zeroValue, typeInfo, h, hz]
theorem add_zero_off (b off k : Nat) : (⟨b, off, none⟩ : Addr).add k = ⟨b, off + k, none⟩ := by unfold Addr.add; split <;> simp_all
section
variable {E : Env} {N : Nat} {w0 : World} {g : Gh} {σ : St E.Γ} {a : Act} {w : World} {R : Type} {o : Oper} {id : Nat} {K : St E.Γ → Option R} {r : R} {Q : Exit → Act → World → Prop}
def rg (id : Nat) (n : Nat) : Prop := id ≤ n ∧ n < id + 64
def QP (E : Env) (N : Nat) (w0 : World) (g : Gh) (σ : St E.Γ) (a : Act) (w : World) (o : Oper) (id : Nat) (K : St E.Γ → Option R) (r : R) : Act → World → Prop :=
 fun a' w' => ∃ g' τ, QOut E N w0 g σ a w o.dst (rg id) g' τ a' w' ∧ K τ = some r
theorem q_pure (hS : ∀ n, rg id n → ¬ g.al n) {v : AV} {u : Value} (hrun : (execOp a.eval o).run E.P w = .ok (.value u) w) (hv : ARep g v u) (hK : K (σ.put o.dst v) = some r) : o.wp E.P a w (QP E N w0 g σ a w o id K r) Q :=
 wp_val hrun ⟨g, _, QOut.pure hS hv, hK⟩
theorem q_box (hS : ∀ n, rg id n → ¬ g.al n) {t : Nat} {cs : List CV} {us : Array Value} (hrun : (execOp a.eval o).run E.P w = .ok (.value (.pointer (some ⟨w.heap.size, 0, none⟩))) (w.alloc (.cells us t (0, 0)))) (hc : A2 (CRep g) cs us.toList) (hK : K ((σ.lay id (.box t cs)).put o.dst (.c (.ptr id 0))) = some r) : o.wp E.P a w (QP E N w0 g σ a w o id K r) Q := by
 have hid : rg id id := ⟨Nat.le_refl _, by omega⟩
 have hx : Ext g (g.over (one id (.pointer (some ⟨w.heap.size, 0, none⟩)) (fun k => k = w.heap.size))) (rg id) := Gh.over_ext _ _ (fun n hn => by
  unfold one at hn; split at hn
  ·rename_i e; rw [e]; exact hid
  ·cases hn) hS
 have hq : QOut E N w0 g σ a w o.dst (rg id) (g.over (one id (.pointer (some ⟨w.heap.size, 0, none⟩)) (fun k => k = w.heap.size))) ((σ.lay id (.box t cs)).put o.dst (.c (.ptr id 0))) (a.put o.dst (.pointer (some ⟨w.heap.size, 0, none⟩))) (w.alloc (.cells us t (0, 0))) := by
  refine QOut.new hS hid (below_alloc (Below.refl _ _) _) (fun k hk => ?_) ?_ ?_
  ·subst hk; exact ⟨Nat.le_refl _, by simp⟩
  ·exact ⟨w.heap.size, us, over_one_φ, by rw [over_one_ok], blk_new w _, hc.imp fun _ _ q => q.ext hx⟩
  ·exact ⟨over_one_al, w.heap.size, over_one_φ, rfl⟩
 exact wp_val hrun ⟨_, _, hq, hK⟩
theorem segA_rep {agg : Bool} {sz off : Nat} {cs : List CV} {us : List Value} {v : AV} (h : segA agg sz cs off = some v) (hc : A2 (CRep g) cs us) (h1 : agg = false → sz = 1) :
  off + sz ≤ us.length ∧ ARep g v (if agg = true then .agg ((us.drop off).take sz).toArray else us.getD off undef) := by
 unfold segA at h
 split at h
 ·split at h
  ·rename_i c hcs
   obtain rfl := Option.some.inj h
   obtain ⟨u, hu, hr⟩ := hc.get hcs
   have := (List.getElem?_eq_some_iff.1 hu).1
   refine ⟨by rw [h1 rfl]; omega, ?_⟩
   rw [if_neg (by simp), List.getD_eq_getElem?_getD, hu]
   exact hr
  ·cases h
 ·cases hb : Nat.ble (off + sz) cs.length
  ·rw [hb] at h; cases h
  ·rw [hb, cond_true] at h
   obtain rfl := Option.some.inj h
   refine ⟨by rw [← hc.len]; exact Nat.le_of_ble_eq_true hb, ?_⟩
   rw [if_pos rfl]
   exact ⟨_, rfl, (hc.drop off).take sz⟩
theorem run_load' {P : Program} {t : TypeId} {d : TypeDesc} {sz : Nat} (hu : P.underlying t = some d) (hs : (P.info? t).map (·.size) = some sz) (h1 : isAggD d = false → sz = 1) (ad : Addr) (us : List Value) (hl : us.length = sz) (hc : ∀ j u, us[j]? = some u → w.cell? (ad.add j) = some u) :
  (loadVar t ad).run P w = .ok (if isAggD d = true then .agg us.toArray else us.getD 0 undef) w := by
 obtain ⟨i, hi, rfl⟩ := Option.map_eq_some_iff.1 hs
 simp only [loadVar, Sem.run_bind, run_isAgg' hu, Result.andThen_ok]
 cases hd : isAggD d
 ·have hl1 : us.length = 1 := by rw [hl]; exact h1 hd
  match us, hl1 with
  | [u], _ =>
   have := hc 0 u rfl
   have e0 : ad.add 0 = ad := by simp [Addr.add]
   rw [e0] at this
   simp [this]
 ·have := run_loadCells_list (P := P) (w := w) ad us hc
  rw [hl] at this
  simp [run_sizeOf' hi, this]
theorem seg_cells {ad : Addr} {us : List Value} (hc : ∀ j u, us[j]? = some u → w.cell? (ad.add j) = some u) (off sz : Nat) (hl : off + sz ≤ us.length) : ((us.drop off).take sz).length = sz ∧ ∀ j u, ((us.drop off).take sz)[j]? = some u → w.cell? ((ad.add off).add j) = some u := by
 refine ⟨by rw [List.length_take, List.length_drop]; omega, fun j u hu => ?_⟩
 rw [List.getElem?_take] at hu
 split at hu
 ·rw [List.getElem?_drop] at hu
  rw [add_add]
  exact hc _ _ hu
 ·cases hu
theorem getD_drop {us : List Value} {off sz : Nat} (h : 0 < sz) : (((us.drop off).take sz).getD 0 undef) = us.getD off undef := by
 rw [List.getD_eq_getElem?_getD, List.getD_eq_getElem?_getD, List.getElem?_take, if_pos h, List.getElem?_drop, Nat.add_zero]
theorem kd_sz (hE : E.Ok) (t : Ty E.C) : (kd E t).sz = (flat E t).length := by
 cases t with
 | st n => exact hE.stz n
 | _ => rfl
theorem kd_hl (hE : E.Ok) {t : Ty E.C} {x : t.den E.Γ} {us : List Value} {w : World} : (kd E t).K w x us ↔ HLr E (qK E w) (flat E t) (opnT E t x) us := by
 have key : ∀ {t : Ty E.C} (x : t.den E.Γ), (kd E t).sz = 1 → ((kd E t).K w x us ↔ HLr E (qK E w) [t] (x, ()) us) := by
  intro t x h1
  constructor
  ·intro h
   have hl := (kd E t).K_len h
   rw [h1] at hl
   match us, hl with
   | [u], _ => exact ⟨h, trivial⟩
  ·intro h
   match us, h with
   | [u], h => exact h.1
 cases t with
 | st n => exact hE.stK n w x us
 | i k => exact key x rfl
 | b => exact key x rfl
 | s => exact key x rfl
 | l e t => exact key (t := .l e t) x rfl
theorem flat_flat (hE : E.Ok) (t : Ty E.C) : ∀ u ∈ flat E t, u.flatB = true := by
 cases t with
 | st n => exact hE.flat n
 | i k => intro u hu; rw [List.mem_singleton.1 hu]; rfl
 | b => intro u hu; rw [List.mem_singleton.1 hu]; rfl
 | s => intro u hu; rw [List.mem_singleton.1 hu]; rfl
 | l e t => intro u hu; rw [List.mem_singleton.1 hu]; rfl
theorem okSz_spec {sz : Nat} {t : Ty E.C} (h : okSz E sz t = true) : sz = (flat E t).length ∧ 0 < sz ∧ sz ≤ 64 := by
 simp only [okSz, Bool.and_eq_true] at h
 exact ⟨Nat.eq_of_beq_eq_true h.1.1, by simpa [Nat.blt_eq] using h.1.2, Nat.le_of_ble_eq_true h.2⟩
theorem q_load (hE : E.Ok) (hr : Rep E N w0 g σ a w) (hS : ∀ n, rg id n → ¬ g.al n) {t : TypeId} {x : Operand} (ho : o.op = .load t x) (F : List (Spc E)) (k : Nat) (h : aop E F k o σ id K = some r) : o.wp E.P a w (QP E N w0 g σ a w o id K r) Q := by
 have hx := ev_rep hr x
 simp only [aop, ho] at h
 split at h
 ·rename_i j off agg sz hj hs
  rw [hj] at hx
  obtain ⟨ha, b, hφ, hp⟩ := hx
  obtain ⟨⟨d, hu, hd⟩, hi, h1⟩ := hE.sh t agg sz hs
  have hb := hr.bk j ha
  split at h
  ·rename_i bt cs hbk
   rw [hbk] at hb
   obtain ⟨b', us, hφ', hok, hblk, hcs⟩ := hb
   rw [hφ] at hφ'
   obtain rfl : b = b' := by injection hφ' with e; injection e with e; injection e
   split at h
   ·rename_i v hv
    obtain ⟨hl, hrep⟩ := segA_rep hv hcs h1
    have hcell : ∀ i u, us.toList[i]? = some u → w.cell? ((⟨b, 0, none⟩ : Addr).add i) = some u := fun i u hu => by
     rw [add_zero_off, Nat.zero_add]
     exact (blk_cell hblk i).trans (by simpa using hu)
    obtain ⟨hl2, hc2⟩ := seg_cells hcell off sz hl
    rw [add_zero_off, Nat.zero_add] at hc2
    have hrun := run_load' (w := w) hu hi (fun q => h1 (hd ▸ q)) ⟨b, off, none⟩ _ hl2 hc2
    refine q_pure (u := if agg = true then .agg ((us.toList.drop off).take sz).toArray else us.toList.getD off undef) hS ?_ hrep h
    simp only [execOp, ho, hp, Instr.loadAt, Instr.sureAddr]
    simp only [Sem.run_bind, Sem.run_pure, Result.andThen_ok, hrun, hd]
    cases agg
    ·have := h1 rfl; subst this; simp
    ·simp
   ·cases h
  ·cases h
 ·rename_i j i sz' f agg sz hj hs
  rw [hj] at hx
  obtain ⟨ha, ad, m, c, hφ, h0, hm, hp⟩ := hx
  obtain ⟨⟨d, hu, hd⟩, hi, h1⟩ := hE.sh t agg sz hs
  have hb := hr.bk j ha
  split at h
  ·rename_i md e ty l hbk
   rw [hbk] at hb
   cases hok : okSz E sz' ty
   ·rw [hok] at h; cases h
   rw [hok, cond_true] at h
   obtain ⟨rfl, hs0, hs64⟩ := okSz_spec hok
   obtain ⟨p, hmd, hpa, hstb⟩ := hb.stb ha
   rw [hφ] at hstb
   have hml : m = l.length := by
    obtain ⟨A, c', he, _⟩ := hstb w hr.below (fun _ _ => rfl)
    injection he with he _
    injection he
   subst hml
   obtain ⟨ad', c', us, hv', hul, hcc, hel⟩ := Stb.elem hstb hr.below (by rw [kd_sz hE]; exact hs0) (dz E ty) i h0 hm
   obtain ⟨rfl, rfl⟩ : ad = ad' ∧ c = c' := by injection hv' with q1 q2 q3; injection q1 with q1; exact ⟨q1, q3⟩
   rw [kd_sz hE] at hul hcc
   have hstb2 : Stb w0 (g.ok p) w (fun w' => HLr E (qK E w') (flat E ty) (opnT E ty (l.getD i.toNat (dz E ty))) us) := fun w' hb' hm' => (kd_hl hE).1 (hel w' hb' hm')
   have hnew : ∀ n, (newL (fun _ => False) id (flat E ty) us n).isSome = true → rg id n := fun n hn => by
    obtain ⟨x, hx⟩ := Option.isSome_iff_exists.1 hn
    have := newL_lo hx
    exact ⟨this.1, by omega⟩
   have hext := Gh.over_ext g (newL (fun _ => False) id (flat E ty) us) hnew hS
   have hpn := hext.alS hpa
   obtain ⟨r1, r2⟩ := outCs_rep (ok := fun _ => False) (G := g.over (newL (fun _ => False) id (flat E ty) us)) (old := σ.bk) (n := id) hmd ((hext.al p hpn).2 hpa) (hext.ok p hpn) hr.below (flat_flat hE ty) hstb2 (fun j x hx => ⟨.inl (by simp [hx]), by simp [Gh.over, hx]⟩)
   split at h
   ·rename_i v hv
    obtain ⟨hl, hrep⟩ := segA_rep hv r1 h1
    obtain ⟨hl2, hc2⟩ := seg_cells (fun j u hu => by rw [add_add]; exact hcc j u hu) f sz hl (ad := ad.add (i.toNat * (flat E ty).length))
    rw [add_add] at hc2
    have hrun := run_load' (w := w) hu hi (fun q => h1 (hd ▸ q)) (ad.add (i.toNat * (flat E ty).length + f)) _ hl2 hc2
    refine wp_val (u := if agg = true then .agg ((us.drop f).take sz).toArray else us.getD f undef) (w' := w) ?_ ⟨g.over (newL (fun _ => False) id (flat E ty) us), _, QOut.over (τ := ({ σ with bk := outBs E (md.under j) σ.bk id (flat E ty) (opnT E ty (l.getD i.toNat (dz E ty))) } : St E.Γ).put o.dst v) hnew hS (Below.refl _ _) (fun d hd => ?_) (fun t ht => by rw [put_tmo ht]) (fun n hn => ?_) (fun n x hx => ?_) (fun n x k hx hk => ?_) (fun n m x y k _ hx _ hk _ => ?_), h⟩
    ·simp only [execOp, ho, hp, Instr.loadAt, Instr.sureAddr]
     simp only [Sem.run_bind, Sem.run_pure, Result.andThen_ok, hrun, hd]
     cases agg
     ·have := h1 rfl; subst this; simp [getD_drop]
     ·simp
    ·rw [put_tm hd]; exact hrep
    ·rw [put_bk]
     refine outBs_off ?_
     rcases Nat.lt_or_ge n id with q | q
     ·exact .inl q
     ·right
      rcases Nat.lt_or_ge n (id + 64) with q2 | q2
      ·exact absurd ⟨q, q2⟩ hn
      ·omega
    ·rw [put_bk]; exact r2 n x hx
    ·rw [(newL_lo hx).2.2] at hk; exact hk.elim
    ·rw [(newL_lo hx).2.2] at hk; exact hk
   ·cases h
  ·cases h
 ·cases h
end
end Go.Proofs.YtkomgmgpgnjooaaGreatEv
namespace Go.Proofs.YtkomgmgpgnjooaaGreatEv
open Go Go.RowKit Go.Proofs.YtkomgmgpgnjooaaGreatW.PrintWords
theorem foldl_splice (off : Nat) : ∀ (vs : List Value) (k : Nat) (cs : Array Value), off + k + vs.length ≤ cs.size →
  ((vs.zipIdx k).foldl (fun (cs : Array Value) (x : Value × Nat) => cs.setIfInBounds (off + x.2) x.1) cs).toList = cs.toList.take (off + k) ++ vs ++ cs.toList.drop (off + k + vs.length)
 | [], k, cs, _ => by simp
 | v :: vs, k, cs, h => by
  simp only [List.length_cons] at h
  rw [List.zipIdx_cons, List.foldl_cons, foldl_splice off vs (k + 1) _ (by simp; omega)]
  have hlt : off + k < cs.toList.length := by simp; omega
  have e1 : (cs.setIfInBounds (off + k) v).toList.take (off + (k + 1)) = cs.toList.take (off + k) ++ [v] := by
   rw [Array.toList_setIfInBounds, show off + (k + 1) = off + k + 1 by omega, List.take_succ_eq_append_getElem (by simpa using hlt)]
   simp [List.take_set_of_le]
  have e2 : (cs.setIfInBounds (off + k) v).toList.drop (off + (k + 1) + vs.length) = cs.toList.drop (off + k + (v :: vs).length) := by
   rw [Array.toList_setIfInBounds, List.drop_set_of_lt (by omega)]
   congr 1
   simp only [List.length_cons]; omega
  rw [e1, e2]
  simp
section
variable {E : Env} {N : Nat} {w0 : World} {g : Gh} {σ : St E.Γ} {a : Act} {w : World} {R : Type} {o : Oper} {id : Nat} {K : St E.Γ → Option R} {r : R} {Q : Exit → Act → World → Prop}
theorem q_c (hS : ∀ n, rg id n → ¬ g.al n) {c : CV} {u : Value} (hrun : (execOp a.eval o).run E.P w = .ok (.value u) w) (hv : CRep g c u) (hK : K (σ.put o.dst (.c c)) = some r) : o.wp E.P a w (QP E N w0 g σ a w o id K r) Q := q_pure (v := .c c) hS hrun hv hK
theorem q_agg (hS : ∀ n, rg id n → ¬ g.al n) {cs : List CV} {us : Array Value} (hrun : (execOp a.eval o).run E.P w = .ok (.value (.agg us)) w) (hv : A2 (CRep g) cs us.toList) (hK : K (σ.put o.dst (.agg cs)) = some r) : o.wp E.P a w (QP E N w0 g σ a w o id K r) Q := q_pure (v := .agg cs) hS hrun ⟨us, rfl, hv⟩ hK
theorem fill_rep (place : Nat → Option (Nat × Nat)) : ∀ (parts : List (Nat × Operand)) (hp : ∀ x : Operand, ARep g (σ.ev x) (a.eval x)) (cs : List CV) (us : Array Value) (r : List CV), A2 (CRep g) cs us.toList → fillC place cs (parts.map fun x => (x.1, (σ.ev x.2).cells)) = some r →
  ∃ us', Instr.fill place us (parts.map fun x => (x.1, a.eval x.2)) = some us' ∧ A2 (CRep g) r us'.toList
 | [], _, cs, us, r, hc, h => by obtain rfl := Option.some.inj h; exact ⟨us, rfl, hc⟩
 | (i, x) :: rest, hp, cs, us, r, hc, h => by
  simp only [List.map_cons] at h ⊢
  cases hx : (σ.ev x).cells with
  | none => rw [hx] at h; cases h
  | some xs =>
   rw [hx] at h
   simp only [fillC] at h
   split at h
   ·cases h
   ·rename_i off sz hpl
    obtain ⟨h1, h2⟩ := cells_rep hx (hp x)
    cases hb : Nat.beq xs.length sz && Nat.ble (off + sz) cs.length
    ·rw [hb] at h; cases h
    ·rw [hb, cond_true] at h
     simp only [Bool.and_eq_true] at hb
     have e1 : xs.length = sz := Nat.eq_of_beq_eq_true hb.1
     have e2 : off + sz ≤ us.size := by have := Nat.le_of_ble_eq_true hb.2; rw [hc.len] at this; simpa using this
     have hsz : (a.eval x).cells.size = sz := by rw [← e1, ← h2]; simp
     have hs := foldl_splice off (a.eval x).cells.toList 0 us (by simp; omega)
     refine (fill_rep place rest hp _ (Array.foldl (fun (cs : Array Value) (x : Value × Nat) => cs.setIfInBounds (off + x.2) x.1) us (a.eval x).cells.zipIdx) r ?_ h).imp fun us' hh => ⟨?_, hh.2⟩
     ·rw [← Array.foldl_toList, Array.toList_zipIdx, hs]
      simp only [Nat.add_zero]
      refine ((hc.take off).app h1).app ?_
      have : off + (a.eval x).cells.toList.length = off + sz := by simp [hsz]
      rw [this]
      exact hc.drop _
     ·simp only [Instr.fill, hpl]
      rw [if_neg (by simp [hsz]; omega)]
      exact hh.1
theorem q_build (hE : E.Ok) (hr : Rep E N w0 g σ a w) (hS : ∀ n, rg id n → ¬ g.al n) {t : TypeId} {parts : Array (Nat × Operand)} (ho : o.op = .build t parts) (F : List (Spc E)) (k : Nat) (h : aop E F k o σ id K = some r) : o.wp E.P a w (QP E N w0 g σ a w o id K r) Q := by
 simp only [aop, ho] at h
 split at h
 ·rename_i cs hz
  split at h
  ·rename_i ps hps
   split at h
   ·rename_i rs hrs
    obtain ⟨i, z, hi, hz0, hzc, h1⟩ := hE.zc t cs hz
    obtain ⟨fields, hu, hpl⟩ := hE.pl t ps hps
    have hc0 : A2 (CRep g) (cs.map CV.ofV) z.cells.toList := by
     rw [hzc]
     refine A2.map _ ?_
     have : ∀ l : List Value, (∀ c ∈ l, c.oneCell' = true) → A2 (fun x y => CRep g (CV.ofV x) y) l l := by
      intro l
      induction l with
      | nil => exact fun _ => trivial
      | cons x l ih =>
       intro h
       refine ⟨?_, ih fun c hc => h c (List.mem_cons_of_mem _ hc)⟩
       have := h x List.mem_cons_self
       cases x <;> first | rfl | exact ⟨rfl, this⟩
     exact this cs h1
    obtain ⟨us', hf, hrep⟩ := fill_rep (ps[·]?) parts.toList (ev_rep hr) _ z.cells _ hc0 hrs
    refine q_agg hS (us := us') ?_ hrep h
    simp only [execOp, ho]
    have hb : (Instr.build t (parts.map fun x => (x.1, a.eval x.2))).run E.P w = .ok (.agg us') w := by
     refine run_build w t _ us' ?_
     simp only [Program.built, hi, hu, hz0, hpl]
     rw [Array.toList_map]
     simpa using hf
    simp [hb]
   ·cases h
  ·cases h
 ·cases h
theorem q_small (hE : E.Ok) (hr : Rep E N w0 g σ a w) (hS : ∀ n, rg id n → ¬ g.al n) (F : List (Spc E)) (k : Nat) (h : aop E F k o σ id K = some r) (hop : match o.op with
  | .move _ | .assign _ | .pick .. | .alloc _ | .box .. | .unOp .. | .extract .. => True
  | _ => False) : o.wp E.P a w (QP E N w0 g σ a w o id K r) Q := by
 cases ho : o.op <;> simp only [ho] at hop <;> simp only [aop, ho] at h
 case move x => exact q_pure hS (by simp [execOp, ho]) (ev_rep hr x) h
 case assign x => exact q_pure hS (by simp [execOp, ho]) (ev_rep hr x) h
 case pick c x y =>
  obtain ⟨b, hb, h⟩ := onB_some h (ev_rep hr c)
  cases b
  ·exact q_pure hS (u := a.eval y) (by simp [execOp, ho, hb, asBool]) (ev_rep hr y) (by simpa using h)
  ·exact q_pure hS (u := a.eval x) (by simp [execOp, ho, hb, asBool]) (ev_rep hr x) (by simpa using h)
 case alloc t =>
  split at h
  ·rename_i cs hz
   obtain ⟨i, z, hi, hz0, hzc, h1⟩ := hE.zc t cs hz
   refine q_box hS (us := z.cells) ?_ ?_ h
   ·simp [execOp, ho, Instr.alloc, run_zero' hi hz0, newVar, newRow]
   ·rw [hzc]
    refine A2.map _ ?_
    have : ∀ l : List Value, (∀ c ∈ l, c.oneCell' = true) → A2 (fun x y => CRep g (CV.ofV x) y) l l := by
     intro l
     induction l with
     | nil => exact fun _ => trivial
     | cons x l ih =>
      intro h
      refine ⟨?_, ih fun c hc => h c (List.mem_cons_of_mem _ hc)⟩
      have := h x List.mem_cons_self
      cases x <;> first | rfl | exact ⟨rfl, this⟩
    exact this cs h1
  ·cases h
 case box t x =>
  split at h
  ·rename_i cs agg sz hcs hs
   cases hb : Nat.beq cs.length sz
   ·rw [hb] at h; cases h
   ·rw [hb, cond_true] at h
    exact q_box hS (us := (a.eval x).cells) (by simp [execOp, ho, Instr.box, newVar, newRow]) (cells_rep hcs (ev_rep hr x)).1 h
  ·cases h
 case unOp op t x =>
  have hx := ev_rep hr x
  split at h
  ·rename_i v
   split at h
   ·rename_i c hc
    obtain ⟨b, hb, hrep⟩ := notC_rep hc hx
    exact q_c hS (u := .bool (!b)) (by simp [execOp, ho, hb, Op.unary]) hrep h
   ·cases h
  ·rename_i k' n hv
   rw [hv] at hx
   obtain ⟨hx, _⟩ := hx
   exact q_c hS (c := .v (.int k' (wr k' (0 - n)))) (u := .int k' (k'.wrap (0 - n))) (by simp [execOp, ho, hx, Op.unary, Op.intArith]) ⟨by rw [wr_eq], rfl⟩ h
  ·cases h
 case extract x n =>
  have hx := ev_rep hr x
  split at h
  ·rename_i xs hv
   rw [hv] at hx
   obtain ⟨us, hu, hus⟩ := hx
   split at h
   ·rename_i cs hcs
    obtain ⟨u, hu2, hp⟩ := hus.get hcs
    obtain ⟨vs, rfl, hvs⟩ := hp
    exact q_agg hS (us := vs) (by simp [execOp, ho, hu, Instr.extract, show us[n]? = some (.agg vs) by simpa using hu2]) hvs h
   ·rename_i c hc
    obtain ⟨u, hu2, hp⟩ := hus.get hc
    obtain ⟨c', hc', hvs⟩ := hp
    injection hc' with hc'
    subst hc'
    exact q_c hS (u := u) (by simp [execOp, ho, hu, Instr.extract, show us[n]? = some u by simpa using hu2]) hvs h
   ·cases h
  ·cases h
theorem eqV_rep {x y : CV} {u v : Value} {q : Dp} (h : eqC x y = some q) (hx : CRep g x u) (hy : CRep g y v) : eqV u v = some (@decide q.q q.d) := by
 unfold eqC at h
 split at h
 ·rename_i k p k' q'
  obtain ⟨rfl, _⟩ := hx
  obtain ⟨rfl, _⟩ := hy
  by_cases e : k = k'
  ·subst e; simp only [decide_true, cond_true] at h; obtain rfl := Option.some.inj h; simp [eqV]
  ·simp [e] at h
 ·cases h
theorem eqVs_rep : ∀ {xs ys : List CV} {us vs : List Value} {q : Dp}, eqCs xs ys = some q → A2 (CRep g) xs us → A2 (CRep g) ys vs → eqVs us vs = some (@decide q.q q.d)
 | [], [], [], [], q, h, _, _ => by obtain rfl := Option.some.inj h; rfl
 | x :: xs, y :: ys, u :: us, v :: vs, q, h, ⟨h1, h2⟩, ⟨h3, h4⟩ => by
  simp only [eqCs] at h
  split at h
  ·rename_i p d p' d' e1 e2
   obtain rfl := Option.some.inj h
   simp only [eqVs, eqV_rep e1 h1 h3, eqVs_rep e2 h2 h4]
   simp
  ·cases h
 | [], _ :: _, _, _, _, h, _, _ => by simp [eqCs] at h
 | _ :: _, [], _, _, _, h, _, _ => by simp [eqCs] at h
 | [], [], _ :: _, _, _, _, h, _ => h.elim
 | [], [], [], _ :: _, _, _, _, h => h.elim
 | _ :: _, _ :: _, [], _, _, _, h, _ => h.elim
 | _ :: _, _ :: _, _ :: _, [], _, _, _, h => h.elim
theorem q_bin (hE : E.Ok) (hr : Rep E N w0 g σ a w) (hS : ∀ n, rg id n → ¬ g.al n) {op : BinOp} {t yt : TypeId} {x y : Operand} (ho : o.op = .binOp op t x y yt) (F : List (Spc E)) (k : Nat) (h : aop E F k o σ id K = some r) : o.wp E.P a w (QP E N w0 g σ a w o id K r) Q := by
 have hx := ev_rep hr x
 have hy := ev_rep hr y
 simp only [aop, ho] at h
 split at h
 ·rename_i k' p k'' q e1 e2
  rw [e1] at hx
  rw [e2] at hy
  obtain ⟨hx, _⟩ := hx
  obtain ⟨hy, _⟩ := hy
  by_cases e : k' = k''
  ·subst e
   simp only [decide_true, cond_true] at h
   obtain ⟨c, u, hrun, hrep, hK⟩ := binI_rep (g := g) (P := E.P) (w := w) (t := t) (fun hz => by
    unfold isZ at hz
    split at hz
    ·rename_i k3 n
     have : (Value.int k3 n) = .int k' q := hy
     injection this with _ e
     subst e
     simpa using hz
    ·cases hz) h
   exact q_c hS (run_bin ho hx hy guard_int hrun) hrep hK
  ·simp [e] at h
 ·rename_i p q e1 e2
  rw [e1] at hx
  rw [e2] at hy
  obtain ⟨hx, _⟩ := hx
  obtain ⟨hy, _⟩ := hy
  obtain ⟨c, u, hrun, hrep, hK⟩ := binS_rep (g := g) (P := E.P) (w := w) (t := t) h
  exact q_c hS (run_bin ho hx hy guard_str hrun) hrep hK
 ·rename_i xs ys e1 e2
  rw [e1] at hx
  rw [e2] at hy
  obtain ⟨us, hx, hus⟩ := hx
  obtain ⟨vs, hy, hvs⟩ := hy
  split at h
  ·rename_i q d hq
   cases hb : E.eqt t xs.length
   ·rw [hb] at h; cases h
   ·rw [hb, cond_true] at h
    obtain ⟨h1, h2⟩ := hE.eqt t _ hb w x y us vs _ (by simpa using hus.len.symm) (eqVs_rep hq hus hvs)
    exact q_c hS (c := .p q d) (run_bin ho hx hy (h1 _) (r := .bool (@decide q d)) (by simp [Go.binOp, h2])) rfl h
  ·rename_i q d hq
   cases hb : E.eqt t xs.length
   ·rw [hb] at h; cases h
   ·rw [hb, cond_true] at h
    obtain ⟨h1, h2⟩ := hE.eqt t _ hb w x y us vs _ (by simpa using hus.len.symm) (eqVs_rep hq hus hvs)
    exact q_c hS (c := .p (¬ q) (@instDecidableNot q d)) (run_bin ho hx hy (h1 _) (r := .bool (!(@decide q d))) (by simp [Go.binOp, h2])) (by show Value.bool _ = Value.bool _; simp) h
  ·cases h
 ·cases h
end
end Go.Proofs.YtkomgmgpgnjooaaGreatEv
namespace Go.Proofs.YtkomgmgpgnjooaaGreatEv
open Go Go.RowKit Go.Proofs.YtkomgmgpgnjooaaGreatW.PrintWords
section
variable {E : Env} {N : Nat} {w0 : World} {g : Gh} {σ : St E.Γ} {a : Act} {w : World} {R : Type} {o : Oper} {id : Nat} {K : St E.Γ → Option R} {r : R} {Q : Exit → Act → World → Prop}
theorem q_fieldAddr (hE : E.Ok) (hr : Rep E N w0 g σ a w) (hS : ∀ n, rg id n → ¬ g.al n) {s : TypeId} {x : Operand} {f : Nat} (ho : o.op = .fieldAddr s x f) (F : List (Spc E)) (k : Nat) (h : aop E F k o σ id K = some r) : o.wp E.P a w (QP E N w0 g σ a w o id K r) Q := by
 have hx := ev_rep hr x
 simp only [aop, ho] at h
 split at h
 ·rename_i off j q hf hv
  rw [hv] at hx
  obtain ⟨ha, b, hφ, hp⟩ := hx
  obtain ⟨fs, fd, hu, hfd, rfl, i, hi, hi0⟩ := hE.fld s f off hf
  refine q_c hS (c := .ptr j (q + fd.offset)) (u := .pointer (some ⟨b, q + fd.offset, none⟩)) ?_ ⟨ha, b, hφ, rfl⟩ h
  simp [execOp, ho, hp, Instr.fieldAt, Instr.sureAddr, run_underlying hu, hfd, fieldPlace, run_sizeOf' hi, hi0, add_zero_off]
 ·rename_i off j i' sz q hf hv
  rw [hv] at hx
  obtain ⟨ha, ad, m, c, hφ, h0, h1, hp⟩ := hx
  obtain ⟨fs, fd, hu, hfd, rfl, i, hi, hi0⟩ := hE.fld s f off hf
  refine q_c hS (c := .ep j i' sz (q + fd.offset)) (u := .pointer (some (ad.add (i'.toNat * sz + (q + fd.offset))))) ?_ ⟨ha, ad, m, c, hφ, h0, h1, rfl⟩ h
  simp [execOp, ho, hp, Instr.fieldAt, Instr.sureAddr, run_underlying hu, hfd, fieldPlace, run_sizeOf' hi, hi0, add_add, Nat.add_assoc]
 ·cases h
theorem row_len {m : Mode} {e : Nat} {t : Ty E.C} {l : List (t.den E.Γ)} {n : Nat} (hr : Rep E N w0 g σ a w) (ha : g.al n) (hb : σ.bk n = .row m e t l) : ∃ A c, g.φ n = .slice A l.length c ∧ l.length ≤ c ∧ (kd E t).C w A l.length l := by
 have := hr.bk n ha
 rw [hb] at this
 obtain ⟨A, c, he, h1, h2⟩ := this.reads hr.below
 exact ⟨A, c, List.singleton_inj.1 he, h1, h2⟩
theorem q_indexAddr (hE : E.Ok) (hr : Rep E N w0 g σ a w) (hS : ∀ n, rg id n → ¬ g.al n) {t : TypeId} {x y : Operand} (ho : o.op = .indexAddr t x y) (F : List (Spc E)) (k : Nat) (h : aop E F k o σ id K = some r) : o.wp E.P a w (QP E N w0 g σ a w o id K r) Q := by
 have hx := ev_rep hr x
 have hy := ev_rep hr y
 simp only [aop, ho] at h
 split at h
 ·rename_i e ty sz bt zs j k' n hsl e1 e2
  rw [e1] at hx
  rw [e2] at hy
  obtain ⟨ha, hx, _⟩ := hx
  obtain ⟨hy, _⟩ := hy
  obtain ⟨hu, ⟨i, z, hi, hz, rfl, _⟩, _⟩ := hE.sl t e ty sz bt zs hsl
  split at h
  ·rename_i m e' ty' l hb
   cases hq : Nat.beq e e' && ty.beq E.cb ty'
   ·rw [hq] at h; cases h
   rw [hq, cond_true] at h
   split at h
   ·rename_i h0
    split at h
    ·rename_i h1
     obtain ⟨A, c, hφ, hlc, hC⟩ := row_len hr ha hb
     obtain ⟨ad, rfl, _⟩ := hC.2.2 (by omega)
     refine q_c hS (c := .ep j n i.size 0) (u := .pointer (some (ad.add (n.toNat * i.size)))) ?_ ⟨ha, ad, l.length, c, hφ, h0, h1, by simp⟩ h
     simp only [execOp, ho, hx, hy, hφ]
     simp [Instr.indexAt, asIntOf, run_underlying hu, run_sizeOf' hi, h0, h1]
    ·cases h
   ·cases h
  ·cases h
 ·cases h
theorem bt_eq {s : ByteArray} {n : Int} (h0 : 0 ≤ n) (h1 : n < (s.size : Int)) : ∃ b, s[n.toNat]? = some b ∧ bt s n = (b.toNat : Int) := by
 have h : n.toNat < s.size := by omega
 refine ⟨s[n.toNat], by simp [h], ?_⟩
 simp [bt, h]
theorem q_index (hE : E.Ok) (hr : Rep E N w0 g σ a w) (hS : ∀ n, rg id n → ¬ g.al n) {t : TypeId} {x y : Operand} (ho : o.op = .index t x y) (F : List (Spc E)) (k : Nat) (h : aop E F k o σ id K = some r) : o.wp E.P a w (QP E N w0 g σ a w o id K r) Q := by
 have hx := ev_rep hr x
 have hy := ev_rep hr y
 simp only [aop, ho] at h
 split at h
 ·rename_i s k' n hst e1 e2
  rw [e1] at hx
  rw [e2] at hy
  obtain ⟨hx, _⟩ := hx
  obtain ⟨hy, _⟩ := hy
  split at h
  ·rename_i h0
   split at h
   ·rename_i h1
    obtain ⟨b, hb, hbt⟩ := bt_eq h0 h1
    refine q_c hS (c := .v (.int .u8 (bt s n))) (u := .int .u8 b.toNat) ?_ ⟨by rw [hbt], rfl⟩ h
    simp only [execOp, ho, hx, hy]
    simp [Instr.index, asIntOf, run_underlying (hE.str t hst), h0, hb]
   ·cases h
  ·cases h
 ·cases h
theorem q_convert (hE : E.Ok) (hr : Rep E N w0 g σ a w) (hS : ∀ n, rg id n → ¬ g.al n) {s t : TypeId} {x : Operand} (ho : o.op = .convert s t x) (F : List (Spc E)) (k : Nat) (h : aop E F k o σ id K = some r) : o.wp E.P a w (QP E N w0 g σ a w o id K r) Q := by
 have hx := ev_rep hr x
 simp only [aop, ho] at h
 split at h
 ·rename_i k1 k2 k3 n h1 h2 e1
  rw [e1] at hx
  obtain ⟨hx, _⟩ := hx
  refine q_c hS (c := .v (.int k2 (wr k2 n))) (u := .int k2 (k2.wrap n)) ?_ ⟨by rw [wr_eq], rfl⟩ h
  simp only [execOp, ho, hx]
  simp [Go.convert, run_underlying (hE.ik s _ h1), run_underlying (hE.ik t _ h2), Conv.intToInt]
 ·cases h
def OptV (lo : Option Value) : Option Int → Prop
 | some n => ∃ k, lo = some (.int k n)
 | none => lo = none
theorem optInt {lo : Option Operand} {x : Option Int} (hr : Rep E N w0 g σ a w) (h : σ.optI lo = some x) : OptV (lo.map a.eval) x := by
 cases lo with
 | none => obtain rfl := Option.some.inj h; rfl
 | some y =>
  have hy := ev_rep hr y
  simp only [St.optI] at h
  split at h
  ·rename_i k n e
   obtain rfl := Option.some.inj h
   rw [e] at hy
   obtain ⟨hy, _⟩ := hy
   exact ⟨k, by simp [hy]⟩
  ·cases h
theorem run_bounds {P : Program} {isS : Bool} {len cap : Nat} {lo hi : Option Value} {lo' hi' : Option Int} (hlo : OptV lo lo') (hhi : OptV hi hi') (hc : len ≤ cap) (h0 : 0 ≤ orI (len : Int) hi') (h1 : orI (len : Int) hi' ≤ (len : Int)) (h2 : 0 ≤ orI 0 lo') (h3 : orI 0 lo' ≤ orI (len : Int) hi') : (Instr.sliceBounds isS len cap lo hi none).run P w = .ok ((orI 0 lo').toNat, (orI (len : Int) hi').toNat, cap) w := by
 have hcap : orI (len : Int) hi' ≤ (cap : Int) := by omega
 have e3 : (((orI (len : Int) hi').toNat : Nat) : Int) = orI (len : Int) hi' := Int.toNat_of_nonneg h0
 cases hi' with
 | none =>
  obtain rfl := hhi
  cases lo' with
  | none => obtain rfl := hlo; simp [Instr.sliceBounds, orI]
  | some n => obtain ⟨k, rfl⟩ := hlo; simp only [orI] at *; simp [Instr.sliceBounds, Instr.sliceBound, asIntOf, h2, h3]
 | some m =>
  obtain ⟨k, rfl⟩ := hhi
  cases lo' with
  | none => obtain rfl := hlo; simp only [orI] at *; simp [Instr.sliceBounds, Instr.sliceBound, asIntOf, h0, hcap]
  | some n => obtain ⟨k, rfl⟩ := hlo; simp only [orI] at *; simp [Instr.sliceBounds, Instr.sliceBound, asIntOf, h0, hcap, h2, e3, h3]
theorem K_part {e : Nat} {t : Ty E.C} {l : List (t.den E.Γ)} {A : Option Addr} {c lo hi : Nat} {w' : World} (h : (kd E (.l e t)).K w' l [.slice A l.length c]) (h1 : lo ≤ hi) (h2 : hi ≤ l.length) : (kd E (.l e t)).K w' ((l.take hi).drop lo) [.slice (if c = lo then A else A.map (·.add (lo * (kd E t).sz))) (hi - lo) (c - lo)] := by
 obtain ⟨A', c', he, hlc, hC⟩ := h
 obtain ⟨rfl, rfl⟩ : A = A' ∧ c = c' := by have := List.singleton_inj.1 he; injection this with q1 q2 q3; exact ⟨q1, q3⟩
 have hlen : ((l.take hi).drop lo).length = hi - lo := by rw [List.length_drop, List.length_take]; omega
 refine ⟨_, _, by rw [hlen], by omega, rfl, by have := hC.2.1; omega, fun hp => ?_⟩
 obtain ⟨ad, rfl, hc⟩ := hC.2.2 (by omega)
 refine ⟨ad.add (lo * (kd E t).sz), by rw [if_neg (by omega)]; rfl, fun j p hj => ?_⟩
 rw [List.getElem?_drop, List.getElem?_take] at hj
 split at hj
 ·obtain ⟨cs, h3, h4, h5⟩ := hc (lo + j) p hj
  refine ⟨cs, h3, h4, fun i u hu => ?_⟩
  rw [add_add, ← Nat.add_assoc, ← Nat.add_mul]
  exact h5 i u hu
 ·cases hj
theorem q_slice (hE : E.Ok) (hr : Rep E N w0 g σ a w) (hS : ∀ n, rg id n → ¬ g.al n) {t : TypeId} {x : Operand} {lo hi : Option Operand} (ho : o.op = .slice t x lo hi none) (F : List (Spc E)) (k : Nat) (h : aop E F k o σ id K = some r) : o.wp E.P a w (QP E N w0 g σ a w o id K r) Q := by
 have hx := ev_rep hr x
 simp only [aop, ho] at h
 split at h
 ·rename_i s e1
  rw [e1] at hx
  obtain ⟨hx, _⟩ := hx
  split at h
  ·rename_i lo' hi' hst e2 e3
   have q1 := optInt hr e2
   have q2 := optInt hr e3
   split at h
   ·rename_i h0
    split at h
    ·rename_i h1
     split at h
     ·rename_i h2
      split at h
      ·rename_i h3
       have hb := run_bounds (P := E.P) (w := w) (isS := false) q1 q2 (Nat.le_refl s.size) h0 h1 h2 h3
       refine q_c hS (c := .v (.string (s.extract (orI 0 lo').toNat (orI (s.size : Int) hi').toNat))) (u := .string (s.extract (orI 0 lo').toNat (orI (s.size : Int) hi').toNat)) ?_ ⟨rfl, rfl⟩ h
       simp only [execOp, ho, hx]
       simp [Instr.sliceAt, Instr.slice, run_underlying (hE.str t hst), hb]
      ·cases h
     ·cases h
    ·cases h
   ·cases h
  ·cases h
 ·rename_i j e1
  rw [e1] at hx
  obtain ⟨ha, hx, _⟩ := hx
  split at h
  ·rename_i e ty sz bt zs lo' hi' hsl e2 e3
   have q1 := optInt hr e2
   have q2 := optInt hr e3
   obtain ⟨hu, ⟨i, z, hi2, hz, rfl, _⟩, hs0, _, hks, _⟩ := hE.sl t e ty sz bt zs hsl
   split at h
   ·rename_i m e' ty' l hbk
    cases hq : Nat.beq e e' && ty.beq E.cb ty'
    ·rw [hq, cond_false] at h; cases h
    rw [hq, cond_true] at h
    simp only [Bool.and_eq_true] at hq
    obtain rfl := Nat.eq_of_beq_eq_true hq.1
    obtain rfl := Ty.eq_of_beq E.cbe hq.2
    split at h
    ·rename_i h0
     split at h
     ·rename_i h1
      split at h
      ·rename_i h2
       split at h
       ·rename_i h3
        obtain ⟨A, c, hφ, hlc, hC⟩ := row_len hr ha hbk
        have hb := run_bounds (P := E.P) (w := w) (isS := true) q1 q2 hlc h0 h1 h2 h3
        have hbj := hr.bk j ha
        rw [hbk] at hbj
        obtain ⟨p, hmd, hpa, hstb⟩ := hbj.stb ha
        rw [hφ] at hstb
        have hid : rg id id := ⟨Nat.le_refl _, by omega⟩
        generalize orI 0 lo' = L at *
        generalize orI (l.length : Int) hi' = H at *
        generalize hvid : Value.slice (if c = L.toNat then A else A.map (·.add (L.toNat * i.size))) (H.toNat - L.toNat) (c - L.toNat) = vid
        have hext : Ext g (g.over (one id vid (fun _ => False))) (rg id) := Gh.over_ext _ _ (fun n hn => by
         unfold one at hn; split at hn
         ·rename_i e; rw [e]; exact hid
         ·cases hn) hS
        have hpn := hext.alS hpa
        have hq : QOut E N w0 g σ a w o.dst (rg id) (g.over (one id vid (fun _ => False))) ((σ.lay id (.row (m.under j) e ty ((l.take H.toNat).drop L.toNat))).put o.dst (.c (.sl id))) (a.put o.dst vid) w := by
         refine QOut.new hS hid (Below.refl _ _) (fun k hk => hk.elim) ?_ ⟨over_one_al, over_one_φ.symm, by rw [← hvid]; rfl⟩
         rw [hmd]
         refine ⟨(hext.al p hpn).2 hpa, ?_⟩
         rw [hext.ok p hpn, over_one_φ, ← hvid, ← hks]
         exact fun w' hb' hm' => K_part (hstb w' hb' hm') (by omega) (by omega)
        refine wp_val ?_ ⟨_, _, hq, h⟩
        simp only [execOp, ho, hx, hφ]
        simp [Instr.sliceAt, Instr.slice, run_underlying hu, hb, run_sizeOf' hi2, ← hvid]
       ·cases h
      ·cases h
     ·cases h
    ·cases h
   ·cases h
  ·cases h
 ·cases h
end
end Go.Proofs.YtkomgmgpgnjooaaGreatEv
namespace Go.Proofs.YtkomgmgpgnjooaaGreatEv
open Go Go.RowKit Go.Proofs.YtkomgmgpgnjooaaGreatW.PrintWords
theorem rep_get {α : Type} (d : α) (zs : List α) (h : 0 < zs.length) : ∀ (n i : Nat), i < n * zs.length → (rep n zs)[i]? = some (zs.getD (i % zs.length) d)
 | 0, i, hi => by omega
 | n + 1, i, hi => by
  simp only [rep]
  rcases Nat.lt_or_ge i zs.length with q | q
  ·rw [List.getElem?_append_left q, Nat.mod_eq_of_lt q, List.getD_eq_getElem?_getD, List.getElem?_eq_getElem q]; rfl
  ·rw [List.getElem?_append_right q, rep_get d zs h n (i - zs.length) (by rw [Nat.add_mul, Nat.one_mul] at hi; omega)]
   congr 2
   exact (Nat.mod_eq_sub_mod q).symm
theorem rep_len {α : Type} (zs : List α) : ∀ n, (rep n zs).length = n * zs.length
 | 0 => by simp [rep]
 | n + 1 => by rw [rep, List.length_append, rep_len zs n, Nat.add_mul, Nat.one_mul, Nat.add_comm]
theorem range_rep (z : Array Value) (n : Nat) (hz : 0 < z.size) : ((Array.range (n * z.size)).map (fun i => z[i % z.size]!)).toList = rep n z.toList := by
 apply List.ext_getElem?
 intro i
 rcases Nat.lt_or_ge i (n * z.size) with q | q
 ·rw [rep_get undef z.toList (by simpa using hz) n i (by simpa using q)]
  have hm : i % z.size < z.size := Nat.mod_lt _ hz
  simp [q, hm, List.getD_eq_getElem?_getD]
 ·rw [List.getElem?_eq_none (by simpa using q), List.getElem?_eq_none (by rw [rep_len]; simpa using q)]
theorem Reps.cons' {α : Type} {R : α → List Value → Prop} {size : Nat} {p : α} {ps : List α} {c cs : List Value} (hc : c.length = size) (hp : R p c) (h : Reps R size ps cs) : Reps R size (p :: ps) (c ++ cs) := by
 refine ⟨by rw [List.length_append, hc, h.1, List.length_cons, Nat.add_mul, Nat.one_mul, Nat.add_comm], fun j q hq => ?_⟩
 cases j with
 | zero =>
  obtain rfl : p = q := by simpa using hq
  rw [Nat.zero_mul, List.drop_zero, ← hc, List.take_left]
  exact hp
 | succ j =>
  have h2 := h.2 j q (by simpa using hq)
  rw [Nat.succ_mul, Nat.add_comm, ← List.drop_drop, ← hc, List.drop_left]
  rw [hc]
  exact h2
theorem A2_rep {α β : Type} {R : α → β → Prop} {xs : List α} {ys : List β} (h : A2 R xs ys) : ∀ n, A2 R (rep n xs) (rep n ys)
 | 0 => trivial
 | n + 1 => h.app (A2_rep h n)
section
variable {E : Env} {N : Nat} {w0 : World} {g : Gh} {σ : St E.Γ} {a : Act} {w : World} {R : Type} {o : Oper} {id : Nat} {K : St E.Γ → Option R} {r : R} {Q : Exit → Act → World → Prop}
theorem eats_app : ∀ {A B : List (Ty E.C)} {cs : List CV} {js : List Nat}, eats E σ (A ++ B) cs = some js → ∃ j1 j2, eats E σ A (cs.take A.length) = some j1 ∧ eats E σ B (cs.drop A.length) = some j2 ∧ js = j1 ++ j2
 | [], B, cs, js, h => ⟨[], js, by simp [eats], by simpa using h, rfl⟩
 | t :: A, B, [], js, h => by simp [eats] at h
 | t :: A, B, c :: cs, js, h => by
  rw [List.cons_append] at h
  have hskip : ∀ js, eats E σ (A ++ B) cs = some js → (∀ x y, eats E σ (t :: x) (c :: y) = eats E σ x y) → ∃ j1 j2, eats E σ (t :: A) ((c :: cs).take (t :: A).length) = some j1 ∧ eats E σ B ((c :: cs).drop (t :: A).length) = some j2 ∧ js = j1 ++ j2 := by
   intro js h hs
   obtain ⟨j1, j2, h1, h2, h3⟩ := eats_app h
   exact ⟨j1, j2, by rw [List.length_cons, List.take_succ_cons, hs]; exact h1, by rw [List.length_cons, List.drop_succ_cons]; exact h2, h3⟩
  cases t with
  | l e t =>
   cases c with
   | sl j =>
    simp only [eats] at h
    cases hb : eatB (σ.bk j)
    ·rw [hb] at h; cases h
    ·rw [hb, cond_true] at h
     split at h
     ·rename_i r hr
      cases hn : r.all (fun n => !Nat.beq n j)
      ·rw [hn] at h; cases h
      ·rw [hn, cond_true] at h
       obtain rfl := Option.some.inj h
       obtain ⟨j1, j2, h1, h2, rfl⟩ := eats_app hr
       have hn1 : j1.all (fun n => !Nat.beq n j) = true := by rw [List.all_append] at hn; exact (Bool.and_eq_true _ _ ▸ hn).1
       refine ⟨j :: j1, j2, ?_, by simpa using h2, rfl⟩
       rw [List.length_cons, List.take_succ_cons]
       simp only [eats, hb, cond_true, h1, hn1]
     ·cases h
   | v x => exact hskip js (by simpa [eats] using h) (fun x y => by simp [eats])
   | lit x => exact hskip js (by simpa [eats] using h) (fun x y => by simp [eats])
   | p q d => exact hskip js (by simpa [eats] using h) (fun x y => by simp [eats])
   | ptr n k => exact hskip js (by simpa [eats] using h) (fun x y => by simp [eats])
   | ep n k m q => exact hskip js (by simpa [eats] using h) (fun x y => by simp [eats])
  | i k => exact hskip js (by simpa [eats] using h) (fun x y => by simp [eats])
  | b => exact hskip js (by simpa [eats] using h) (fun x y => by simp [eats])
  | s => exact hskip js (by simpa [eats] using h) (fun x y => by simp [eats])
  | st n => exact hskip js (by simpa [eats] using h) (fun x y => by simp [eats])
theorem eats_plain : ∀ {ts : List (Ty E.C)} {cs : List CV} {js : List Nat}, (∀ t ∈ ts, isL E t = false) → eats E σ ts cs = some js → js = []
 | [], [], js, _, h => (Option.some.inj h).symm
 | [], _ :: _, js, _, h => by simp [eats] at h
 | _ :: _, [], js, _, h => by simp [eats] at h
 | t :: ts, c :: cs, js, hp, h => by
  have ht := hp t List.mem_cons_self
  have hs : eats E σ (t :: ts) (c :: cs) = eats E σ ts cs := by cases t <;> first | (simp [isL] at ht; done) | simp [eats]
  rw [hs] at h
  exact eats_plain (fun t h => hp t (List.mem_cons_of_mem _ h)) h
theorem plain_flat {t : Ty E.C} (h : plainT E t = true) : ∀ u ∈ flat E t, isL E u = false := by
 cases t with
 | st n =>
  intro u hu
  have := List.all_eq_true.1 h u hu
  cases u <;> first | rfl | cases this
 | l e t => cases h
 | i k => intro u hu; rw [List.mem_singleton.1 hu]; rfl
 | b => intro u hu; rw [List.mem_singleton.1 hu]; rfl
 | s => intro u hu; rw [List.mem_singleton.1 hu]; rfl
theorem rep_mem {α : Type} {zs : List α} {x : α} : ∀ {n}, x ∈ rep n zs → x ∈ zs
 | 0, h => by simp [rep] at h
 | n + 1, h => by
  rcases List.mem_append.1 h with h | h
  ·exact h
  ·exact rep_mem h
theorem shtT_M (hE : E.Ok) {t : Ty E.C} {h : HL E.Γ (flat E t)} {us : List Value} {base : Nat} {ok : Nat → Prop} (hh : HLr E (qM E w base ok) (flat E t) h us) : (kd E t).M w base ok (shtT E t h) us := by
 cases t with
 | st n => exact (hE.stM n w base ok _ us).2 ((congrArg (fun y => HLr E (qM E w base ok) (E.fs n) y us) (hE.so n h)).mpr hh)
 | i k => match us, hh with
  | [u], hh => exact hh.1
 | b => match us, hh with
  | [u], hh => exact hh.1
 | s => match us, hh with
  | [u], hh => exact hh.1
 | l e t => match us, hh with
  | [u], hh => exact hh.1
theorem elems_M (hE : E.Ok) (hr : Rep E N w0 g σ a w) {t : Ty E.C} {sz : Nat} (hsz : sz = (flat E t).length) {ok : Nat → Prop} : ∀ {n : Nat} {cs : List CV} {us : List Value} {l : List (t.den E.Γ)} {js : List Nat}, elems E σ t sz n cs = some l → eats E σ (rep n (flat E t)) cs = some js → (∀ j ∈ js, ∀ k, g.ok j k → ok k) → A2 (CRep g) cs us → Reps ((kd E t).M w w0.heap.size ok) sz l us
 | 0, cs, us, l, js, h, he, _, hc => by
  obtain rfl := Option.some.inj h
  cases cs with
  | cons c cs => simp [rep, eats] at he
  | nil =>
   cases us with
   | nil => exact Reps.none _ _
   | cons u us => exact hc.elim
 | n + 1, cs, us, l, js, h, he, hok, hc => by
  simp only [elems] at h
  split at h
  ·rename_i x hx
   split at h
   ·rename_i r hrr
    obtain rfl := Option.some.inj h
    simp only [rep] at he
    obtain ⟨j1, j2, h1, h2, rfl⟩ := eats_app he
    rw [← hsz] at h1 h2
    have hlen : sz ≤ us.length := by
     have h3 := hl_M hr (ok := fun _ => True) hx h1 (fun _ _ _ _ => trivial) (hc.take sz)
     have := HLr.len E h3
     rw [List.length_take, ← hsz] at this
     omega
    have e1 : us = us.take sz ++ us.drop sz := (List.take_append_drop _ _).symm
    rw [e1]
    refine Reps.cons' (by rw [List.length_take]; omega) (shtT_M hE (hl_M hr hx h1 (fun j hj => hok j (List.mem_append_left _ hj)) (hc.take sz))) (elems_M hE hr hsz hrr h2 (fun j hj => hok j (List.mem_append_right _ hj)) (hc.drop sz))
   ·cases h
  ·cases h
theorem elems_len {t : Ty E.C} {sz : Nat} : ∀ {n : Nat} {cs : List CV} {l : List (t.den E.Γ)}, elems E σ t sz n cs = some l → l.length = n
 | 0, _, l, h => by obtain rfl := Option.some.inj h; rfl
 | n + 1, cs, l, h => by
  simp only [elems] at h
  split at h
  ·split at h
   ·rename_i r hrr
    obtain rfl := Option.some.inj h
    simp [elems_len hrr]
   ·cases h
  ·cases h
theorem R_made {t : Ty E.C} {e : Nat} {l : List (t.den E.Γ)} {inner : List Value} {ok : Nat → Prop} (hb : Below w0.heap.size w0 w) (hrep : Reps ((kd E t).M w w0.heap.size ok) (kd E t).sz l inner) (hm : l.length ≤ 9223372036854775807) :
  (kd E t).R e (w.alloc (.cells inner.toArray e)) w0.heap.size (fun k => k = w.heap.size ∨ ok k) (.slice (some ⟨w.heap.size, 0, none⟩) l.length l.length) l := by
 refine ⟨fun k hk => .inl (by have : w.heap.size = k := (by simpa [Value.ownBlock] using hk); exact this.symm), inner, ?_, ?_⟩
 ·have h2 := World.ownsRow_lit (base := w0.heap.size) (e := e) (size := (kd E t).sz) w inner.toArray l.length hb.size (by simpa [maxLen] using hm) (by simpa using hrep.1)
  simpa using h2
 ·refine hrep.imp_ (fun p c hp => (kd E t).M_mono (fun k hk => ⟨.inr hk.1, fun he => ?_⟩) (Kd.M_below ((kd E t).M_bound hp) (below_alloc (Below.refl _ _) _)))
  have h3 : k = w.heap.size := by simpa [Value.ownBlock] using he
  have := hk.2.2.1
  omega
theorem q_row (hS : ∀ n, rg id n → ¬ g.al n) (hb : Below w0.heap.size w0 w) {t : Ty E.C} {e : Nat} {l : List (t.den E.Γ)} {inner : List Value} (hrun : (execOp a.eval o).run E.P w = .ok (.value (.slice (some ⟨w.heap.size, 0, none⟩) l.length l.length)) (w.alloc (.cells inner.toArray e)))
  (hrep : Reps ((kd E t).M w w0.heap.size (fun _ => False)) (kd E t).sz l inner) (hm : l.length ≤ 9223372036854775807) (hK : K ((σ.lay id (.row .own e t l)).put o.dst (.c (.sl id))) = some r) : o.wp E.P a w (QP E N w0 g σ a w o id K r) Q := by
 have hid : rg id id := ⟨Nat.le_refl _, by omega⟩
 have hq : QOut E N w0 g σ a w o.dst (rg id) (g.over (one id (.slice (some ⟨w.heap.size, 0, none⟩) l.length l.length) (fun k => k = w.heap.size))) ((σ.lay id (.row .own e t l)).put o.dst (.c (.sl id))) (a.put o.dst (.slice (some ⟨w.heap.size, 0, none⟩) l.length l.length)) (w.alloc (.cells inner.toArray e)) := by
  refine QOut.new hS hid (below_alloc (Below.refl _ _) _) (fun k hk => ?_) ?_ ⟨over_one_al, over_one_φ.symm, rfl⟩
  ·subst hk; exact ⟨Nat.le_refl _, by simp⟩
  ·show (kd E t).R e _ _ ((g.over (one id _ _)).ok id) ((g.over (one id _ _)).φ id) l
   rw [over_one_ok, over_one_φ]
   exact Kd.R_mono (R_made hb hrep hm) (fun k hk => hk.elim (fun q => q) (fun q => q.elim))
 exact wp_val hrun ⟨_, _, hq, hK⟩
theorem lay_eq {b : Bk E.Γ} : σ.lay id b = { σ with bk := fun m => bif Nat.beq m id then b else dropAll [] σ.bk m } := rfl
theorem q_makeSlice (hE : E.Ok) (hr : Rep E N w0 g σ a w) (hS : ∀ n, rg id n → ¬ g.al n) {t : TypeId} {x y : Operand} (ho : o.op = .makeSlice t x y) (F : List (Spc E)) (k : Nat) (h : aop E F k o σ id K = some r) : o.wp E.P a w (QP E N w0 g σ a w o id K r) Q := by
 have hx := ev_rep hr x
 have hy := ev_rep hr y
 simp only [aop, ho] at h
 split at h
 ·rename_i e ty sz bt zs n m hsl e1 e2
  rw [e1] at hx
  rw [e2] at hy
  obtain ⟨hx, _⟩ := hx
  obtain ⟨hy, _⟩ := hy
  obtain ⟨hu, ⟨i, z, hi, hz, rfl, rfl, rfl, hzs⟩, hs0, hb0, hks, _, hM⟩ := hE.sl t e ty sz bt zs hsl
  split at h
  ·rename_i hnm
   subst hnm
   split at h
   ·rename_i h0
    split at h
    ·rename_i h1
     obtain ⟨m, rfl⟩ := Int.eq_ofNat_of_zero_le h0
     simp only [Int.toNat_natCast] at h1 h
     have hm : m ≤ 281474976710656 := Nat.le_trans (Nat.le_mul_of_pos_right _ hb0) h1
     have hrun := run_make (P := E.P) w t e i z hu hi hz .i64 .i64 (m : Int) (m : Int) (by omega) (by omega) (by
      have h3 : ((i.bytes * m : Nat) : Int) ≤ 281474976710656 := by rw [Nat.mul_comm]; omega
      rwa [Int.natCast_mul] at h3) (by omega)
     simp only [Int.toNat_natCast] at hrun
     refine q_row hS hr.below (l := List.replicate m (dz E ty)) (inner := (madeCells z.cells (m * i.size)).toList) ?_ ?_ (by simp; omega) h
     ·simp [execOp, ho, hx, hy, hrun]
     ·rw [hks]; exact Kd.reps_made hzs hs0 (hM w _) m
    ·cases h
   ·cases h
  ·cases h
 ·cases h
theorem q_buildSlice (hE : E.Ok) (hr : Rep E N w0 g σ a w) (hS : ∀ n, rg id n → ¬ g.al n) {t : TypeId} {n : Nat} {parts : Array (Nat × Operand)} (ho : o.op = .buildSlice t n parts) (hq : noisy E o = false) (F : List (Spc E)) (k : Nat) (h : aop E F k o σ id K = some r) : o.wp E.P a w (QP E N w0 g σ a w o id K r) Q := by
 simp only [aop, ho] at h
 simp only [noisy, ho] at hq
 split at h
 ·rename_i e ty sz bt zs hsl
  rw [hsl] at hq
  have hpl : plainT E ty = true := by simpa using hq
  obtain ⟨hu, ⟨i, z, hi, hz, rfl, _, rfl, hzs⟩, hs0, _, hks, h1, _⟩ := hE.sl t e ty sz bt zs hsl
  split at h
  ·rename_i cs hcs
   split at h
   ·rename_i l js hl he hle
    have hc0 : A2 (CRep g) (rep n (z.cells.toList.map CV.ofV)) (rep n z.cells.toList) := by
     have h2 : ∀ l : List Value, (∀ c ∈ l, c.oneCell' = true) → A2 (CRep g) (l.map CV.ofV) l := by
      intro l
      induction l with
      | nil => exact fun _ => trivial
      | cons x l ih =>
       intro h
       refine ⟨?_, ih fun c hc => h c (List.mem_cons_of_mem _ hc)⟩
       have := h x List.mem_cons_self
       cases x <;> first | rfl | exact ⟨rfl, this⟩
     exact A2_rep (h2 _ h1) n
    obtain ⟨us', hf, hrep⟩ := fill_rep (fun q => some (q * i.size, i.size)) parts.toList (ev_rep hr) _ (rep n z.cells.toList).toArray _ (by simpa using hc0) hcs
    obtain rfl := eats_plain (fun u hu => plain_flat hpl u (rep_mem hu)) he
    have hsz : i.size = (flat E ty).length := by rw [← hks, kd_sz hE]
    have hreps := elems_M hE hr hsz (ok := fun _ => False) hl he (fun j hj => by cases hj) hrep
    have hn : l.length = n := elems_len hl
    have hle' : n * i.size ≤ 16777216 := Nat.le_of_ble_eq_true hle
    have hnle : n ≤ 16777216 := Nat.le_trans (Nat.le_mul_of_pos_right _ hs0) hle'
    refine q_row hS hr.below (inner := us'.toList) ?_ (by rw [hks]; exact hreps) (by omega) h
    have hb : (Instr.buildSlice t n (parts.map fun x => (x.1, a.eval x.2))).run E.P w = .ok (.slice (some ⟨w.heap.size, 0, none⟩) n n) (w.alloc (.cells us' e)) := by
     have hf' : Instr.fill (fun q => some (q * i.size, i.size)) ((Array.range (n * i.size)).map (fun q => z.cells[q % z.cells.size]!)) (parts.map fun x => (x.1, a.eval x.2)).toList = some us' := by
      rw [Array.toList_map, ← hf]
      congr 1
      apply Array.ext'
      rw [← hzs, range_rep _ _ (by omega)]
     simp only [Instr.buildSlice, Sem.run_bind, run_underlying hu, Result.andThen_ok, run_sizeOf' hi]
     rw [if_neg (by omega)]
     by_cases h0 : n * i.size = 0
     ·have hn0 : n = 0 := by rcases Nat.mul_eq_zero.1 h0 with q | q <;> omega
      subst hn0
      have e0 : ∀ f : Nat → Value, Array.map f (Array.range 0) = #[] := by intro f; simp
      simp only [Nat.zero_mul, e0] at hf'
      simp only [Nat.zero_mul, if_true, Sem.run_bind, Sem.run_pure, Result.andThen_ok, e0]
      rw [hf']
      simp [newRow]
     ·simp only [h0, if_false, Sem.run_bind, run_zero' hi hz, Result.andThen_ok, Sem.run_pure]
      rw [hf']
      simp [newRow]
    simp only [execOp, ho]
    rw [hn]
    simp [hb]
   ·cases h
  ·cases h
 ·cases h
end
end Go.Proofs.YtkomgmgpgnjooaaGreatEv
namespace Go.Proofs.YtkomgmgpgnjooaaGreatEv
open Go Go.RowKit Go.Proofs.YtkomgmgpgnjooaaGreatW.PrintWords
def packV : List Value → Value
 | [v] => v
 | vs => .tuple vs.toArray
def DJ : List (Nat → Prop) → Prop
 | [] => True
 | p :: r => (∀ q ∈ r, ∀ k, p k → q k → False) ∧ DJ r
section
variable (E : Env)
def RMs (w : World) (base : Nat) : (ts : List (Ty E.C)) → HL E.Γ ts → List Value → List (Nat → Prop) → Prop
 | [], _, [], _ => True
 | t :: ts, h, u :: us, ok :: oks => AK E (fun t x cs => (kd E t).M w base ok x cs) t h.1 u ∧ RMs w base ts h.2 us oks
 | _, _, _, _ => False
def ResOk (w w' : World) (rts : List (Ty E.C)) (r : HL E.Γ rts) (v : Value) : Prop := ∃ vs oks, v = packV vs ∧ RMs E w' w.heap.size rts r vs oks ∧ DJ oks
structure Snd (s : Spc E) : Prop where
 fn : ∃ fn, E.P.funcs[s.id]? = some fn ∧ (fn.name == "runtime.NumGoroutine") = false ∧ fn.body.isNone = false
 calls : ∀ k h r, s.run k h = some r → ∀ (w : World) (us : List Value), AKs E (fun t x cs => (kd E t).K w x cs) s.pts h us → Calls E.P s.id us.toArray w fun e w' => ∃ v, e = .returned v ∧ Below w.heap.size w w' ∧ ResOk E w w' s.rts r v
end
def Ty.isSt {C : Type} : Ty C → Bool
 | .st _ => true
 | _ => false
section
variable {E : Env}
def cellsU (t : Ty E.C) (u : Value) : List Value :=
 match t with
 | .st _ => u.cells.toList
 | _ => [u]
theorem outA_eq (n : Nat) (t : Ty E.C) (x : t.den E.Γ) : outA E n t x = (t.isSt, outCs E n (flat E t) (opnT E t x)) := by cases t <;> rfl
theorem outBA_eq (m : Mode) (old : Nat → Bk E.Γ) (n : Nat) (t : Ty E.C) (x : t.den E.Γ) : outBA E m old n t x = outBs E m old n (flat E t) (opnT E t x) := by cases t <;> rfl
theorem kd_hlM (hE : E.Ok) {t : Ty E.C} {x : t.den E.Γ} {us : List Value} {w : World} {base : Nat} {ok : Nat → Prop} : (kd E t).M w base ok x us ↔ HLr E (qM E w base ok) (flat E t) (opnT E t x) us := by
 have key : ∀ {t : Ty E.C} (x : t.den E.Γ), (kd E t).sz = 1 → ((kd E t).M w base ok x us ↔ HLr E (qM E w base ok) [t] (x, ()) us) := by
  intro t x h1
  constructor
  ·intro h
   have hl := (kd E t).K_len ((kd E t).K_of_M h)
   rw [h1] at hl
   match us, hl with
   | [u], _ => exact ⟨h, trivial⟩
  ·intro h
   match us, h with
   | [u], h => exact h.1
 cases t with
 | st n => exact hE.stM n w base ok x us
 | i k => exact key x rfl
 | b => exact key x rfl
 | s => exact key x rfl
 | l e t => exact key (t := .l e t) x rfl
theorem AK_cells (hE : E.Ok) {t : Ty E.C} {x : t.den E.Γ} {u : Value} {w : World} {base : Nat} {ok : Nat → Prop} (h : AK E (fun t x cs => (kd E t).M w base ok x cs) t x u) : HLr E (qM E w base ok) (flat E t) (opnT E t x) (cellsU t u) ∧ (t.isSt = true → ∃ us, u = .agg us) := by
 cases t with
 | st n => obtain ⟨us, rfl, h⟩ := h; exact ⟨(kd_hlM hE).1 h, fun _ => ⟨us, rfl⟩⟩
 | i k => exact ⟨(kd_hlM hE).1 h, fun h => by cases h⟩
 | b => exact ⟨(kd_hlM hE).1 h, fun h => by cases h⟩
 | s => exact ⟨(kd_hlM hE).1 h, fun h => by cases h⟩
 | l e t => exact ⟨(kd_hlM hE (t := .l e t)).1 h, fun h => by cases h⟩
theorem outCs_own {ok : Nat → Prop} {w0 w : World} {base : Nat} {G : Gh} {old : Nat → Bk E.Γ} (hb : w0.heap.size ≤ base) : ∀ {ts : List (Ty E.C)} {h : HL E.Γ ts} {us : List Value} {n : Nat}, (∀ t ∈ ts, t.flatB = true) → HLr E (qM E w base ok) ts h us →
  (∀ j x, newL ok n ts us j = some x → G.al j ∧ G.φ j = x.1 ∧ G.ok j = x.2) → A2 (CRep G) (outCs E n ts h) us ∧ ∀ j x, newL ok n ts us j = some x → BkOk E w0 G w j (outBs E .own old n ts h j)
 | [], h, [], n, _, _, _ => ⟨trivial, fun j x hx => by simp [newL] at hx⟩
 | [], h, _ :: _, n, _, hs, _ => hs.elim
 | _ :: _, h, [], n, _, hs, _ => hs.elim
 | t :: ts, h, u :: us, n, hf, ⟨hk, hs2⟩, hG => by
  have hnext : ∀ j x, newL ok (n + 1) ts us j = some x → newL ok n (t :: ts) (u :: us) j = some x := fun j x hx => by
   have := (newL_lo hx).1
   simp only [newL]
   rw [if_neg (by omega)]
   exact hx
  obtain ⟨i1, i2⟩ := outCs_own (n := n + 1) (old := old) hb (fun t ht => hf t (List.mem_cons_of_mem _ ht)) hs2 (fun j x hx => hG j x (hnext j x hx))
  refine ⟨⟨?_, i1⟩, fun j x hx => ?_⟩
  ·cases t with
   | i k => obtain rfl : u = _ := List.singleton_inj.1 hk; exact ⟨rfl, rfl⟩
   | b => obtain rfl : u = _ := List.singleton_inj.1 hk; exact ⟨rfl, rfl⟩
   | s => obtain rfl : u = _ := List.singleton_inj.1 hk; exact ⟨rfl, rfl⟩
   | st q => have := hf (.st q) List.mem_cons_self; cases this
   | l e t =>
    obtain ⟨ha, hφ, _⟩ := hG n (u, ok) (by simp [newL])
    refine ⟨ha, hφ.symm, ?_⟩
    obtain ⟨v, he, hR⟩ := hk
    rw [List.singleton_inj.1 he]
    obtain ⟨A, c, rfl⟩ := Kd.R_slice hR
    rfl
  ·simp only [newL] at hx
   split at hx
   ·rename_i e
    subst e
    cases t with
    | l e t =>
     obtain ⟨ha, hφ, hok⟩ := hG j (u, ok) (by simp [newL])
     have h2 : Nat.beq j j = true := Nat.beq_refl j
     simp only [outBs, h2, cond_true, outB]
     show (kd E t).R e w w0.heap.size (G.ok j) (G.φ j) h.1
     rw [hok, hφ]
     obtain ⟨v, he, hR⟩ := hk
     rw [List.singleton_inj.1 he]
     exact Kd.R_lower hR hb
    | _ => cases hx
   ·rename_i hne
    have h2 : Nat.beq j n = false := by
     cases hb : Nat.beq j n
     ·rfl
     ·exact absurd (Nat.eq_of_beq_eq_true hb) hne
    simp only [outBs, h2, cond_false]
    exact i2 j x hx
theorem newL_uniq {ok : Nat → Prop} : ∀ {ts : List (Ty E.C)} {us : List Value} {n j m : Nat} {x y : Value × (Nat → Prop)}, (ts.filter (isL E)).length ≤ 1 → newL ok n ts us j = some x → newL ok n ts us m = some y → j = m
 | [], _, _, _, _, _, _, _, h, _ => by simp [newL] at h
 | _ :: _, [], _, _, _, _, _, _, h, _ => by simp [newL] at h
 | t :: ts, u :: us, n, j, m, x, y, h1, h2, h3 => by
  have no : isL E t = true → ∀ {q z}, newL ok (n + 1) ts us q = some z → False := by
   intro ht q z hz
   rw [List.filter_cons_of_pos ht, List.length_cons] at h1
   have h0 : ts.filter (isL E) = [] := List.length_eq_zero_iff.1 (by omega)
   have : ∀ {ts : List (Ty E.C)} {us : List Value} {n : Nat}, ts.filter (isL E) = [] → newL ok n ts us q = some z → False := by
    intro ts
    induction ts with
    | nil => intro us n _ h; simp [newL] at h
    | cons t ts ih =>
     intro us n h0 h
     cases us with
     | nil => simp [newL] at h
     | cons u us =>
      have hl : isL E t = false := by
       cases hb : isL E t
       ·rfl
       ·rw [List.filter_cons_of_pos hb] at h0; cases h0
      rw [List.filter_cons_of_neg (by simp [hl])] at h0
      simp only [newL] at h
      split at h
      ·cases t <;> first | (cases hl; done) | (cases h; done)
      ·exact ih h0 h
   exact this h0 hz
  simp only [newL] at h2 h3
  split at h2
  ·rename_i e1
   have ht : isL E t = true := by cases t <;> first | rfl | cases h2
   split at h3
   ·rename_i e2; omega
   ·exact (no ht h3).elim
  ·split at h3
   ·have ht : isL E t = true := by cases t <;> first | rfl | cases h3
    exact (no ht h2).elim
   ·refine newL_uniq ?_ h2 h3
    cases hb : isL E t
    ·rwa [List.filter_cons_of_neg (by simp [hb])] at h1
    ·rw [List.filter_cons_of_pos hb, List.length_cons] at h1; omega
def newA (n : Nat) : List (Ty E.C) → List Value → List (Nat → Prop) → Nat → Option (Value × (Nat → Prop))
 | t :: ts, u :: us, ok :: oks => fun m => match newL ok n (flat E t) (cellsU t u) m with
  | some x => some x
  | none => newA (n + 16) ts us oks m
 | _, _, _ => fun _ => none
theorem newA_lo : ∀ {ts : List (Ty E.C)} {us : List Value} {oks : List (Nat → Prop)} {n m : Nat} {x : Value × (Nat → Prop)}, (∀ t ∈ ts, (flat E t).length ≤ 16) → newA n ts us oks m = some x → n ≤ m ∧ m < n + 16 * ts.length ∧ x.2 ∈ oks
 | t :: ts, u :: us, ok :: oks, n, m, x, hf, h => by
  simp only [newA] at h
  split at h
  ·rename_i y hy
   obtain rfl := Option.some.inj h
   have := newL_lo hy
   have h16 := hf t List.mem_cons_self
   exact ⟨this.1, by simp only [List.length_cons]; omega, by rw [this.2.2]; exact List.mem_cons_self⟩
  ·have := newA_lo (fun t h => hf t (List.mem_cons_of_mem _ h)) h
   exact ⟨by omega, by simp only [List.length_cons]; omega, List.mem_cons_of_mem _ this.2.2⟩
 | [], _, _, _, _, _, _, h => by simp [newA] at h
 | _ :: _, [], _, _, _, _, _, h => by simp [newA] at h
 | _ :: _, _ :: _, [], _, _, _, _, h => by simp [newA] at h
theorem outAs_own (hE : E.Ok) {w0 w : World} {base : Nat} {G : Gh} {old : Nat → Bk E.Γ} (hb : w0.heap.size ≤ base) : ∀ {ts : List (Ty E.C)} {h : HL E.Γ ts} {us : List Value} {oks : List (Nat → Prop)} {n : Nat}, (∀ t ∈ ts, (flat E t).length ≤ 16) → RMs E w base ts h us oks →
  (∀ j x, newA n ts us oks j = some x → G.al j ∧ G.φ j = x.1 ∧ G.ok j = x.2) → A2 (PRep G) (outAs E n ts h) us ∧ ∀ j x, newA n ts us oks j = some x → BkOk E w0 G w j (outBAs E .own old n ts h j)
 | [], h, [], oks, n, _, _, _ => ⟨trivial, fun j x hx => by simp [newA] at hx⟩
 | [], h, _ :: _, oks, n, _, hs, _ => hs.elim
 | _ :: _, h, [], oks, n, _, hs, _ => hs.elim
 | _ :: _, h, _ :: _, [], n, _, hs, _ => hs.elim
 | t :: ts, h, u :: us, ok :: oks, n, hf, ⟨hk, hs2⟩, hG => by
  have h16 := hf t List.mem_cons_self
  have hnone : ∀ j x, newA (n + 16) ts us oks j = some x → newL ok n (flat E t) (cellsU t u) j = none := fun j x hx => by
   have := (newA_lo (fun t h => hf t (List.mem_cons_of_mem _ h)) hx).1
   cases hq : newL ok n (flat E t) (cellsU t u) j with
   | none => rfl
   | some y => have := newL_lo hq; omega
  obtain ⟨i1, i2⟩ := outAs_own (n := n + 16) (old := old) hE hb (fun t ht => hf t (List.mem_cons_of_mem _ ht)) hs2 (fun j x hx => hG j x (by simp only [newA, hnone j x hx]; exact hx))
  obtain ⟨hc, hagg⟩ := AK_cells hE hk
  obtain ⟨r1, r2⟩ := outCs_own (old := outBAs E .own old (n + 16) ts h.2) (n := n) hb (flat_flat hE t) hc (fun j x hx => hG j x (by simp only [newA, hx]))
  refine ⟨⟨?_, i1⟩, fun j x hx => ?_⟩
  ·rw [outA_eq]
   cases t with
   | st q => obtain ⟨us', rfl⟩ := hagg rfl; exact ⟨us', rfl, r1⟩
   | i k => exact ⟨_, rfl, r1.1⟩
   | b => exact ⟨_, rfl, r1.1⟩
   | s => exact ⟨_, rfl, r1.1⟩
   | l e t => exact ⟨_, rfl, r1.1⟩
  ·simp only [outBAs]
   rw [outBA_eq]
   simp only [newA] at hx
   split at hx
   ·rename_i y hy
    exact r2 j y hy
   ·rw [outBs_off (by right; have := (newA_lo (fun t h => hf t (List.mem_cons_of_mem _ h)) hx).1; omega)]
    exact i2 j x hx
theorem newA_sep : ∀ {ts : List (Ty E.C)} {us : List Value} {oks : List (Nat → Prop)} {n j m k : Nat} {x y : Value × (Nat → Prop)}, (∀ t ∈ ts, (flat E t).length ≤ 16) → (∀ t ∈ ts, ((flat E t).filter (isL E)).length ≤ 1) → DJ oks → j ≠ m → newA n ts us oks j = some x → newA n ts us oks m = some y → x.2 k → y.2 k → False
 | t :: ts, u :: us, ok :: oks, n, j, m, k, x, y, hf, h1, hd, hne, hx, hy, kx, ky => by
  have hf' := fun t h => hf t (List.mem_cons_of_mem _ h)
  simp only [newA] at hx hy
  split at hx
  ·rename_i x' ex
   obtain rfl := Option.some.inj hx
   split at hy
   ·rename_i y' ey
    exact hne (newL_uniq (h1 t List.mem_cons_self) ex ey)
   ·rw [(newL_lo ex).2.2] at kx
    exact hd.1 _ (newA_lo hf' hy).2.2 k kx ky
  ·split at hy
   ·rename_i y' ey
    obtain rfl := Option.some.inj hy
    rw [(newL_lo ey).2.2] at ky
    exact hd.1 _ (newA_lo hf' hx).2.2 k ky kx
   ·exact newA_sep hf' (fun t h => h1 t (List.mem_cons_of_mem _ h)) hd.2 hne hx hy kx ky
 | [], _, _, _, _, _, _, _, _, _, _, _, _, h, _, _, _ => by simp [newA] at h
 | _ :: _, [], _, _, _, _, _, _, _, _, _, _, _, h, _, _, _ => by simp [newA] at h
 | _ :: _, _ :: _, [], _, _, _, _, _, _, _, _, _, _, h, _, _, _ => by simp [newA] at h
theorem AK_imp {Q Q' : (t : Ty E.C) → t.den E.Γ → List Value → Prop} (hQ : ∀ t x cs, Q t x cs → Q' t x cs) {t : Ty E.C} {x : t.den E.Γ} {u : Value} (h : AK E Q t x u) : AK E Q' t x u := by
 cases t with
 | st n => obtain ⟨us, h1, h2⟩ := h; exact ⟨us, h1, hQ _ _ _ h2⟩
 | i k => exact hQ _ _ _ h
 | b => exact hQ _ _ _ h
 | s => exact hQ _ _ _ h
 | l e t => exact hQ _ _ _ h
theorem RMs_bound {w : World} {base : Nat} : ∀ {ts : List (Ty E.C)} {h : HL E.Γ ts} {us : List Value} {oks : List (Nat → Prop)}, RMs E w base ts h us oks → RMs E w base ts h us (oks.map fun ok k => ok k ∧ base ≤ k ∧ k < w.heap.size)
 | [], _, [], _, _ => trivial
 | t :: ts, h, u :: us, ok :: oks, ⟨h1, h2⟩ => ⟨AK_imp (fun t x cs hq => (kd E t).M_mono (fun k hk => ⟨hk.1, hk.2.1, hk.2.2.1⟩) ((kd E t).M_bound hq)) h1, RMs_bound h2⟩
 | [], _, _ :: _, _, h => h.elim
 | _ :: _, _, [], _, h => h.elim
 | _ :: _, _, _ :: _, [], h => h.elim
theorem DJ_map {f : (Nat → Prop) → Nat → Prop} (hf : ∀ p k, f p k → p k) : ∀ {oks : List (Nat → Prop)}, DJ oks → DJ (oks.map f)
 | [], _ => trivial
 | p :: r, ⟨h1, h2⟩ => ⟨fun q hq k hp hk => by
   obtain ⟨q', hq', rfl⟩ := List.mem_map.1 hq
   exact h1 q' hq' k (hf p k hp) (hf q' k hk), DJ_map hf h2⟩
theorem packA_rep {G : Gh} {xs : List (Bool × List CV)} {us : List Value} (h : A2 (PRep G) xs us) : ARep G (packA xs) (packV us) := by
 match xs, us, h with
 | [], [], _ => exact ⟨#[], rfl, trivial⟩
 | [(true, cs)], [u], h => exact h.1
 | [(false, cs)], [u], h =>
  obtain ⟨c, rfl, hc⟩ := h.1
  exact hc
 | x :: y :: xs, u :: v :: us, h =>
  have e1 : packA (x :: y :: xs) = .tup (x :: y :: xs) := by 
   obtain ⟨b, cs⟩ := x
   cases b
   ·cases cs with
    | nil => rfl
    | cons c cs => cases cs <;> rfl
   ·rfl
  rw [e1]
  exact ⟨_, rfl, by simpa using h⟩
 | [_], [], h => exact h.elim
 | [_], _ :: _ :: _, h => exact h.2.elim
 | [], _ :: _, h => exact h.elim
 | _ :: _ :: _, [], h => exact h.elim
 | _ :: _ :: _, [_], h => exact h.2.elim
theorem findS_some : ∀ {F : List (Spc E)} {f : FuncId} {s : Spc E}, findS E F f = some s → s ∈ F ∧ s.id = f
 | [], _, _, h => by simp [findS] at h
 | x :: F, f, s, h => by
  simp only [findS] at h
  cases hb : Nat.beq x.id f
  ·rw [hb, cond_false] at h; have := findS_some h; exact ⟨List.mem_cons_of_mem _ this.1, this.2⟩
  ·rw [hb, cond_true] at h
   obtain rfl := Option.some.inj h
   exact ⟨List.mem_cons_self, Nat.eq_of_beq_eq_true hb⟩
variable {N : Nat} {w0 : World} {g : Gh} {σ : St E.Γ} {a : Act} {w : World} {R : Type} {o : Oper} {id : Nat} {K : St E.Γ → Option R} {r : R} {Q : Exit → Act → World → Prop}
theorem args_rep (hr : Rep E N w0 g σ a w) : ∀ (l : List Operand), A2 (ARep g) (l.map σ.ev) (l.map a.eval)
 | [] => trivial
 | x :: l => ⟨ev_rep hr x, args_rep hr l⟩
theorem q_callF (hE : E.Ok) (hr : Rep E N w0 g σ a w) (hS : ∀ n, rg id n → ¬ g.al n) {c : Call} {f : FuncId} (ho : o.op = .call c) (hc : c.callee = .value (.func f)) (F : List (Spc E)) (hF : ∀ s ∈ F, Snd E s) (k : Nat) (h : aop E F k o σ id K = some r) : o.wp E.P a w (QP E N w0 g σ a w o id K r) Q := by
 simp only [aop, ho, hc] at h
 split at h
 ·rename_i s hs
  obtain ⟨hmem, rfl⟩ := findS_some hs
  obtain ⟨fn, hfn, hname, hbody⟩ := (hF s hmem).fn
  split at h
  ·rename_i hh ha hok
   obtain ⟨res, hres, h⟩ := Option.bind_eq_some_iff.1 h
   have hAK := args_K hE hr ha (args_rep hr c.args.toList)
   have hcall := (hF s hmem).calls k hh res hres w _ hAK
   have hrun : (execOp a.eval o).run E.P w = .ok (.enter s.id (c.args.toList.map a.eval).toArray) w := by
    have e1 : (c.args.toList.map a.eval).toArray = c.args.map a.eval := by rw [← Array.toList_map]
    rw [e1]
    have n1 : fn.name ≠ "runtime.NumGoroutine" := by simpa using hname
    have n2 : fn.body ≠ none := by intro q; rw [q] at hbody; cases hbody
    simp [execOp, ho, resolve, hc, Act.eval, Deferred.ofValue, invoke, callFunc, hfn, n1, n2]
   unfold Oper.wp
   rw [hrun]
   refine Calls.mono hcall ?_
   rintro e w' ⟨v, rfl, hbel, vs, oks, rfl, hRM, hDJ⟩
   simp only [okRts, Bool.and_eq_true, List.all_eq_true] at hok
   have h4 : s.rts.length ≤ 4 := Nat.le_of_ble_eq_true hok.1
   have h16 : ∀ t ∈ s.rts, (flat E t).length ≤ 16 := fun t ht => Nat.le_of_ble_eq_true (hok.2 t ht).1
   have h1 : ∀ t ∈ s.rts, ((flat E t).filter (isL E)).length ≤ 1 := fun t ht => Nat.le_of_ble_eq_true (hok.2 t ht).2
   have hRM' := RMs_bound hRM
   have hDJ' := DJ_map (f := fun ok k => ok k ∧ w.heap.size ≤ k ∧ k < w'.heap.size) (fun p k hk => hk.1) hDJ
   generalize hoks : oks.map (fun ok k => ok k ∧ w.heap.size ≤ k ∧ k < w'.heap.size) = oks' at hRM' hDJ'
   have hnew : ∀ n, (newA id s.rts vs oks' n).isSome = true → rg id n := fun n hn => by
    obtain ⟨x, hx⟩ := Option.isSome_iff_exists.1 hn
    have := newA_lo h16 hx
    exact ⟨this.1, by omega⟩
   obtain ⟨r1, r2⟩ := outAs_own (w0 := w0) (G := g.over (newA id s.rts vs oks')) (old := σ.bk) (n := id) hE hr.below.size h16 hRM' (fun j x hx => ⟨.inl (by simp [hx]), by simp [Gh.over, hx], by simp [Gh.over, hx]⟩)
   have hoff : ∀ {ts : List (Ty E.C)} {h : HL E.Γ ts} {n j : Nat}, (∀ t ∈ ts, (flat E t).length ≤ 16) → (j < n ∨ n + 16 * ts.length ≤ j) → outBAs E .own σ.bk n ts h j = σ.bk j := by
    intro ts
    induction ts with
    | nil => intro _ _ _ _ _; rfl
    | cons t ts ih =>
     intro h n j hf hj
     have := hf t List.mem_cons_self
     simp only [List.length_cons] at hj
     simp only [outBAs]
     rw [outBA_eq, outBs_off (by omega)]
     exact ih (fun t h => hf t (List.mem_cons_of_mem _ h)) (by omega)
   refine ⟨g.over (newA id s.rts vs oks'), ({ σ with bk := outBAs E .own σ.bk id s.rts res } : St E.Γ).put o.dst (packA (outAs E id s.rts res)), QOut.over hnew hS hbel (fun d hd => ?_) (fun t ht => by rw [put_tmo ht]) (fun n hn => ?_) (fun n x hx => ?_) (fun n x k hx hk => ?_) (fun n m x y k hne hx hy hk hk' => newA_sep h16 h1 hDJ' hne hx hy hk hk'), h⟩
   ·rw [put_tm hd]; exact packA_rep r1
   ·rw [put_bk]
    refine hoff h16 ?_
    rcases Nat.lt_or_ge n id with q | q
    ·exact .inl q
    ·right
     rcases Nat.lt_or_ge n (id + 64) with q2 | q2
     ·exact absurd ⟨q, q2⟩ hn
     ·omega
   ·rw [put_bk]; exact r2 n x hx
   ·have hm := (newA_lo h16 hx).2.2
    rw [← hoks] at hm
    obtain ⟨ok, _, he⟩ := List.mem_map.1 hm
    rw [← he] at hk
    exact hk.2
  ·cases h
 ·cases h
end
end Go.Proofs.YtkomgmgpgnjooaaGreatEv
namespace Go.Proofs.YtkomgmgpgnjooaaGreatEv
open Go Go.RowKit Go.Proofs.YtkomgmgpgnjooaaGreatW.PrintWords
section
variable {E : Env} {N : Nat} {w0 : World} {g : Gh} {σ : St E.Γ} {a : Act} {w : World} {R : Type} {o : Oper} {id : Nat} {K : St E.Γ → Option R} {r : R} {Q : Exit → Act → World → Prop}
theorem toList_one {α : Type} {x : Array α} {y : α} (h : x.toList = [y]) : x = #[y] := by cases x; simp at h; subst h; rfl
theorem toList_two {α : Type} {x : Array α} {y z : α} (h : x.toList = [y, z]) : x = #[y, z] := by cases x; simp at h; subst h; rfl
theorem run_builtin {P : Program} {c : Call} {b : Builtin} {u : Value} {w' : World} (ho : o.op = .call c) (hc : c.callee = .builtin b) (h : ∀ consts, (Go.builtin b c.argTypes o.type consts (c.args.map a.eval)).run P w = .ok (.value u) w') : (execOp a.eval o).run P w = .ok (.value u) w' := by
 simp only [execOp, ho, resolve, hc]
 simp [invoke, h]
theorem q_len (hE : E.Ok) (hr : Rep E N w0 g σ a w) (hS : ∀ n, rg id n → ¬ g.al n) {c : Call} (ho : o.op = .call c) (hc : c.callee = .builtin .len) (F : List (Spc E)) (k : Nat) (h : aop E F k o σ id K = some r) : o.wp E.P a w (QP E N w0 g σ a w o id K r) Q := by
 simp only [aop, ho, hc] at h
 split at h
 ·rename_i x t e1 e2
  have hx := ev_rep hr x
  have h1 := toList_one e1
  have h2 := toList_one e2
  split at h
  ·rename_i n hn
   have key : ∀ v : Value, a.eval x = v → (Builtin.len_ #[t] o.type #[v]).run E.P w = .ok (.int .i64 n) w → o.wp E.P a w (QP E N w0 g σ a w o id K r) Q := by
    intro v hv hl
    refine q_c hS (c := .v (.int .i64 n)) (u := .int .i64 n) (run_builtin ho hc fun consts => ?_) ⟨rfl, rfl⟩ h
    rw [h1, h2]
    simp [Go.builtin, hv, hl]
   unfold lenOf at hn
   split at hn
   ·rename_i j e3
    rw [e3] at hx
    obtain ⟨ha, hx, _⟩ := hx
    split at hn
    ·rename_i e ty sz bt zs m e' ty' l hsl hb
     obtain rfl := Option.some.inj hn
     obtain ⟨A, c', hφ, _⟩ := row_len hr ha hb
     refine key _ (hx.trans hφ) ?_
     simp [Builtin.len_, run_underlying (hE.sl t _ _ _ _ _ hsl).1, goInt]
    ·cases hn
   ·rename_i e3
    rw [e3] at hx
    obtain ⟨hx, _⟩ := hx
    split at hn
    ·rename_i y hsl
     obtain ⟨e, ty, sz, bt, zs⟩ := y
     obtain rfl := Option.some.inj hn
     refine key _ hx ?_
     simp [Builtin.len_, run_underlying (hE.sl t _ _ _ _ _ hsl).1, goInt]
    ·cases hn
   ·rename_i s e3
    rw [e3] at hx
    obtain ⟨hx, _⟩ := hx
    cases hst : E.str t
    ·rw [hst] at hn; cases hn
    ·rw [hst, cond_true] at hn
     obtain rfl := Option.some.inj hn
     refine key _ hx ?_
     simp [Builtin.len_, run_underlying (hE.str t hst), goInt]
   ·cases hn
  ·cases h
 ·cases h
theorem q_mm (hr : Rep E N w0 g σ a w) (hS : ∀ n, rg id n → ¬ g.al n) {c : Call} (ho : o.op = .call c) (hc : c.callee = .builtin .min ∨ c.callee = .builtin .max) (F : List (Spc E)) (k : Nat) (h : aop E F k o σ id K = some r) : o.wp E.P a w (QP E N w0 g σ a w o id K r) Q := by
 have hargs := args_rep hr c.args.toList
 have key : ∀ {k1 k2 : IntKind} {x y : Int}, c.args.toList.map σ.ev = [.c (.v (.int k1 x)), .c (.v (.int k2 y))] → c.args.map a.eval = #[.int k1 x, .int k2 y] := by
  intro k1 k2 x y e
  rw [e] at hargs
  obtain ⟨u, v, e2, hu, hv⟩ : ∃ u v, c.args.toList.map a.eval = [u, v] ∧ u = .int k1 x ∧ v = .int k2 y := by
   match hl : c.args.toList.map a.eval, hargs with
   | [u, v], ⟨h1, h2, _⟩ => exact ⟨u, v, rfl, h1.1, h2.1⟩
  subst hu hv
  exact toList_two (by rw [Array.toList_map]; exact e2)
 rcases hc with hc | hc
 ·simp only [aop, ho, hc] at h
  split at h
  ·rename_i k1 x k2 y e
   exact q_c hS (c := .v (.int k1 (mnI x y))) (u := .int k1 (mnI x y)) (run_builtin ho hc fun consts => by rw [key e]; simp [Go.builtin, run_min_int2, mnI]) ⟨rfl, rfl⟩ h
  ·cases h
 ·simp only [aop, ho, hc] at h
  split at h
  ·rename_i k1 x k2 y e
   exact q_c hS (c := .v (.int k1 (mxI x y))) (u := .int k1 (mxI x y)) (run_builtin ho hc fun consts => by rw [key e]; simp [Go.builtin, run_max_int2, mxI]) ⟨rfl, rfl⟩ h
  ·cases h
theorem aop_quiet (hE : E.Ok) (F : List (Spc E)) (hF : ∀ s ∈ F, Snd E s) (k : Nat) (hq : noisy E o = false) (hr : Rep E N w0 g σ a w) (hS : ∀ n, rg id n → ¬ g.al n) (h : aop E F k o σ id K = some r) : o.wp E.P a w (QP E N w0 g σ a w o id K r) Q := by
 cases ho : o.op with
 | move x => exact q_small hE hr hS F k h (by rw [ho]; trivial)
 | assign x => exact q_small hE hr hS F k h (by rw [ho]; trivial)
 | pick c x y => exact q_small hE hr hS F k h (by rw [ho]; trivial)
 | alloc t => exact q_small hE hr hS F k h (by rw [ho]; trivial)
 | box t x => exact q_small hE hr hS F k h (by rw [ho]; trivial)
 | unOp op t x => exact q_small hE hr hS F k h (by rw [ho]; trivial)
 | extract x n => exact q_small hE hr hS F k h (by rw [ho]; trivial)
 | build t ps => exact q_build hE hr hS ho F k h
 | buildSlice t n ps => exact q_buildSlice hE hr hS ho hq F k h
 | load t x => exact q_load hE hr hS ho F k h
 | store t x y => simp [noisy, ho] at hq
 | binOp op t x y yt => exact q_bin hE hr hS ho F k h
 | fieldAddr s x f => exact q_fieldAddr hE hr hS ho F k h
 | indexAddr t x i => exact q_indexAddr hE hr hS ho F k h
 | index t x i => exact q_index hE hr hS ho F k h
 | slice t x lo hi mx =>
  cases mx with
  | none => exact q_slice hE hr hS ho F k h
  | some m => simp [aop, ho] at h
 | convert s t x => exact q_convert hE hr hS ho F k h
 | makeSlice t x y => exact q_makeSlice hE hr hS ho F k h
 | call c =>
  cases hc : c.callee with
  | builtin b =>
   cases b with
   | len => exact q_len hE hr hS ho hc F k h
   | min => exact q_mm hr hS ho (.inl hc) F k h
   | max => exact q_mm hr hS ho (.inr hc) F k h
   | append => simp [noisy, ho, hc] at hq
   | _ => simp [aop, ho, hc] at h
  | invoke x m => simp [aop, ho, hc] at h
  | value x =>
   cases x with
   | func f => exact q_callF hE hr hS ho hc F hF k h
   | _ => simp [aop, ho, hc] at h
 | _ => simp [aop, ho] at h
end
end Go.Proofs.YtkomgmgpgnjooaaGreatEv
