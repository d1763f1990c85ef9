/-
  A weakest-precondition formula over the model, proved sound. By an AI agent.
-/
import Derived.OrdersIn
import Derived.RangeFuncNested
import Derived.RangeFuncLeaves
import Derived.Shelf.Abstract
import Derived.KernelRfl
import Derived.Below
import Derived.WalkKit
import Derived.WalkLawsBesides
import Derived.Laws.AppendOwn
import Derived.Laws.MakeOwn
import Derived.Laws.OwnMore
import Derived.Great.BuildSlice
import Derived.Laws.BitsLemmas
import Derived.Laws.Bits64
set_option linter.unusedSimpArgs false
set_option linter.unusedVariables false
set_option linter.unusedSectionVars false
namespace Go.Eng
open Go Go.RowKit
structure Tag {α : Type} (a : α) : Type where
 mk ::
abbrev Wd (r : Option Nat) : Fence := { Fence.wide with round := r }
theorem wd_room (r : Option Nat) (k : Nat) : (Wd r).room k := fun _ h => by simp [Fence.wide] at h
abbrev Sl := List (Nat × Value)
def gt : Sl → Nat → Value
 | [], _ => undef
 | (j, v) :: s, i => bif Nat.beq j i then v else gt s i
def sl (n : Nat) (s : Sl) (i : Nat) : Value := bif Nat.blt i n then gt s i else undef
def toA (n : Nat) (s : Sl) : Array Value := Array.ofFn (fun i : Fin n => gt s i.val)
theorem gt_same (j : Nat) (v : Value) (s : Sl) : gt ((j, v) :: s) j = v := by simp [gt]
theorem gt_other {i j : Nat} (h : j ≠ i) (v : Value) (s : Sl) : gt ((j, v) :: s) i = gt s i := by
 have : Nat.beq j i = false := by
  cases hb : Nat.beq j i
  ·rfl
  ·exact absurd (Nat.eq_of_beq_eq_true hb) h
 simp [gt, this]
theorem toA_get? (n : Nat) (s : Sl) (i : Nat) : (toA n s)[i]? = if i < n then some (gt s i) else none := by
 simp only [toA, Array.getElem?_ofFn]
 split <;> rfl
theorem sl_eq (n : Nat) (s : Sl) (i : Nat) : sl n s i = if i < n then gt s i else undef := by
 unfold sl
 by_cases h : i < n
 ·have : Nat.blt i n = true := by simpa [Nat.blt_eq] using h
  simp [this, h]
 ·have : Nat.blt i n = false := by
   cases hb : Nat.blt i n
   ·rfl
   ·exact absurd (by simpa [Nat.blt_eq] using hb) h
  simp [this, h]
theorem toA_getD (n : Nat) (s : Sl) (i : Nat) : (toA n s).getD i undef = sl n s i := by
 rw [Array.getD_eq_getD_getElem?, toA_get?, sl_eq]
 split <;> rfl
theorem toA_size (n : Nat) (s : Sl) : (toA n s).size = n := by simp [toA]
theorem toA_ext {n : Nat} {s s' : Sl} (h : ∀ i, i < n → gt s i = gt s' i) : toA n s = toA n s' := by
 simp only [toA]
 congr 1
 funext i
 exact h i.val i.isLt
theorem toA_set (n : Nat) (s : Sl) (d : Nat) (v : Value) : (toA n s).setIfInBounds d v = toA n ((d, v) :: s) := by
 apply Array.ext_getElem?
 intro i
 rw [Array.getElem?_setIfInBounds, toA_get?, toA_get?, toA_size]
 by_cases hd : d = i
 ·subst hd
  by_cases hn : d < n <;> simp [hn, gt_same]
 ·simp [hd, gt_other hd]
def ev (n : Nat) (s : Sl) : Operand → Value
 | .tmp t => sl n s t
 | .const v => v
 | .global g => .pointer (some ⟨g, 0, none⟩)
 | .func f => .func (.func f) #[] #[]
theorem eval_toA (n : Nat) (s : Sl) (d : List Deferred) : Act.eval ⟨toA n s, d⟩ = ev n s := by
 funext x
 cases x <;> simp only [Act.eval, ev, toA_getD]
structure St where
 s : Sl
 d : List Deferred
def St.act (n : Nat) (st : St) : Act := ⟨toA n st.s, st.d⟩
def putO (o : Option Nat) (v : Value) (s : Sl) : Sl := match o with | some d => (d, v) :: s | none => s
theorem put_act (n : Nat) (s : Sl) (d : List Deferred) (o : Option Nat) (v : Value) : Act.put ⟨toA n s, d⟩ o v = ⟨toA n (putO o v s), d⟩ := by
 cases o with
 | none => rfl
 | some t => simp only [Act.put, putO, toA_set]
def AllN : Nat → (List Value → Prop) → Prop
 | 0, p => p []
 | n + 1, p => ∀ v, AllN n (fun l => p (v :: l))
def PredN : Nat → Type
 | 0 => World → Prop
 | n + 1 => Value → PredN n
def appN : (n : Nat) → PredN n → List Value → World → Prop
 | 0, I, _, w => I w
 | n + 1, I, v :: l, w => appN n (I v) l w
 | _ + 1, _, [], _ => False
def curN : (n : Nat) → (List Value → World → Prop) → PredN n
 | 0, f => f []
 | n + 1, f => fun v => curN n (fun l => f (v :: l))
def MeasN : Nat → Type
 | 0 => World → Nat
 | n + 1 => Value → MeasN n
def appM : (n : Nat) → MeasN n → List Value → World → Nat
 | 0, I, _, w => I w
 | n + 1, I, v :: l, w => appM n (I v) l w
 | _ + 1, _, [], _ => 0
theorem AllN_elim {n : Nat} {p : List Value → Prop} (h : AllN n p) (l : List Value) (hl : l.length = n) : p l := by
 induction n generalizing p l with
 | zero => cases l <;> simp_all [AllN]
 | succ n ih =>
  cases l with
  | nil => simp at hl
  | cons v l => exact ih (p := fun l => p (v :: l)) (h v) l (by simpa using hl)
theorem AllN_intro {n : Nat} {p : List Value → Prop} (h : ∀ l, l.length = n → p l) : AllN n p := by
 induction n generalizing p with
 | zero => exact h [] rfl
 | succ n ih => exact fun v => ih fun l hl => h (v :: l) (by simp [hl])
theorem appN_curN {n : Nat} (f : List Value → World → Prop) (l : List Value) (hl : l.length = n) (w : World) : appN n (curN n f) l w ↔ f l w := by
 induction n generalizing f l with
 | zero => cases l <;> simp_all [appN, curN]
 | succ n ih =>
  cases l with
  | nil => simp at hl
  | cons v l => simp only [appN, curN]; exact ih (fun l => f (v :: l)) l (by simpa using hl)
def upN (P : Program) (pan : List PanicEntry → World → Prop) (K : Value → World → Prop) : Result Next → Prop
 | .ok (.value v) w' => K v w'
 | .ok .skip w' => K undef w'
 | .ok (.enter f args) w' => Calls P f args w' fun
  | .returned v, w'' => K v w''
  | .panicked c, w'' => pan c w''
  | .outgrown, _ => False
 | .ok (.round l f tmps assign body) w' => RoundIn (Wd none) 9 P l f tmps assign body w' fun
  | .returned v, w'' => K v w''
  | .panicked c, w'' => pan c w''
  | .outgrown, _ => False
 | .halt (.panic v) w' => pan [{ v, recovered := false }] w'
 | _ => False
def N (P : Program) (s : Sem Next) (w : World) (pan : List PanicEntry → World → Prop) (K : Value → World → Prop) : Prop := upN P pan K (s.run P w)
def V (P : Program) (s : Sem Value) (w : World) (K : Value → World → Prop) : Prop := ∃ v w', s.run P w = .ok v w' ∧ K v w'
def U (P : Program) (s : Sem Unit) (w : World) (K : World → Prop) : Prop := ∃ w', s.run P w = .ok () w' ∧ K w'
theorem V_N {P : Program} {s : Sem Value} {w : World} {pan : List PanicEntry → World → Prop} {K : Value → World → Prop} (h : V P s w K) :
 N P (do pure (.value (← s))) w pan K := by
 obtain ⟨v, w', h1, h2⟩ := h
 simp only [N, Sem.run_bind, h1, Result.andThen_ok, Sem.run_pure]
 exact h2
theorem U_N {P : Program} {s : Sem Unit} {w : World} {pan : List PanicEntry → World → Prop} {K : Value → World → Prop} (h : U P s w (K undef)) :
 N P (do s; pure .skip) w pan K := by
 obtain ⟨w', h1, h2⟩ := h
 simp only [N, Sem.run_bind, h1, Result.andThen_ok, Sem.run_pure]
 exact h2
theorem upN_mono {P : Program} {pan pan' : List PanicEntry → World → Prop} {K K' : Value → World → Prop} {r : Result Next} (h : upN P pan K r)
 (hp : ∀ c w, pan c w → pan' c w) (hk : ∀ v w, K v w → K' v w) : upN P pan' K' r := by
 cases r with
 | ok x w' =>
  cases x <;> simp only [upN] at h ⊢ <;>
   first
    | exact hk _ _ h
    | exact h
    | exact Calls.mono h (fun e w'' he => by cases e <;> first | exact hk _ _ he | exact hp _ _ he | exact he)
    | exact RoundIn.mono h (fun e w'' he => by cases e <;> first | exact hk _ _ he | exact hp _ _ he | exact he)
 | halt x w' => cases x <;> simp only [upN] at h ⊢ <;> first | exact hp _ _ h | exact h
theorem N_wpIn {P : Program} {r : Option Nat} {o : Oper} {a : Act} {w : World} {next : Act → World → Prop} {Q : Exit → Act → World → Prop}
 (hd : ∀ c, o.op ≠ .defer c) (h : N P (execOp a.eval o) w (fun c w' => Q (.panic c) a w') (fun v w' => next (a.put o.dst v) w')) :
 o.wpIn (Wd r) 9 P a w next Q := by
 refine ⟨fun _ _ => trivial, ?_⟩
 rw [Oper.semAt_eq _ _ _ hd]
 unfold N at h
 generalize (execOp a.eval o).run P w = x at h
 have hc : ∀ {f args w' R}, Calls P f args w' R → CallsIn (Wd r) 8 P f args w' R := fun h => callsIn_wide (n := 8) |>.2 h
 cases x with
 | ok x w' =>
  cases x <;> simp only [upN] at h <;> simp only [Oper.uponIn] <;>
   first
    | exact h
    | exact h.elim
    | exact ⟨fun _ => by decide, (hc h).mono (fun e w'' he => by cases e <;> first | exact he | exact he.elim)⟩
    | exact ⟨fun _ => by decide, (show RoundIn (Wd r) 8 P _ _ _ _ _ _ _ from ⟨trivial, fun c cs hr => h.2 c cs (wd_room _ _)⟩).mono (fun e w'' he => by cases e <;> first | exact he | exact he.elim)⟩
 | halt x w' => cases x <;> simp only [upN] at h <;> simp only [Oper.uponIn] <;> first | exact h | exact h.elim
section
variable (P : Program)
def Al (t : TypeId) (w : World) (K : Value → World → Prop) : Prop := V P (Instr.alloc t true (.tuple #[])) w K
def Bx (t : TypeId) (v : Value) (w : World) (K : Value → World → Prop) : Prop := V P (Instr.box t v) w K
def Bd (t : TypeId) (ps : List (Nat × Value)) (w : World) (K : Value → World → Prop) : Prop := V P (Instr.build t ps.toArray) w K
def Bs (t : TypeId) (n : Nat) (ps : List (Nat × Value)) (w : World) (K : Value → World → Prop) : Prop := V P (Instr.buildSlice t n ps.toArray) w K
def Ld (t : TypeId) (a : Value) (w : World) (K : Value → World → Prop) : Prop := V P (Instr.loadAt t a) w K
def Sto (t : TypeId) (a v : Value) (w : World) (K : World → Prop) : Prop := U P (Instr.storeAt t a v) w K
def Nc (v : Value) (w : World) (K : Value → World → Prop) (_ : Tag K := .mk) : Prop :=
 match v with
 | .pointer none | .nilIface | .nilFunc => False
 | .func (.method _) _ _ => False
 | v => K v w
def eqG (op : BinOp) (t : TypeId) (c : Bool) (a b : Value) : Sem Unit := eqGuard op t (bif c then .const undef else .tmp 0) (.tmp 0) a b
def Bn (op : BinOp) (t : TypeId) (c : Bool) (a b : Value) (w : World) (K : Value → World → Prop) : Prop := V P (do eqG op t c a b; binOp op t a b) w K
def Un (op : UnOp) (x : Value) (w : World) (K : Value → World → Prop) : Prop := V P (Op.unary op x) w K
def Cv (s d : TypeId) (x : Value) (w : World) (K : Value → World → Prop) : Prop := V P (convert s d x) w K
def Mi (t : TypeId) (x : Value) (w : World) (K : Value → World → Prop) : Prop := V P (Instr.makeInterface t x) w K
def Mm (t : TypeId) (r : Option Value) (w : World) (K : Value → World → Prop) : Prop := V P (Instr.makeMap t r) w K
def Ms (t : TypeId) (l c : Value) (w : World) (K : Value → World → Prop) : Prop := V P (Instr.makeSlice t l c) w K
def Sc (t : TypeId) (x : Value) (lo hi mx : Option Value) (w : World) (K : Value → World → Prop) : Prop := V P (Instr.sliceAt t x lo hi mx) w K
def Fa (t : TypeId) (x : Value) (f : Nat) (w : World) (K : Value → World → Prop) : Prop := V P (Instr.fieldAt t x f) w K
def Fd (t : TypeId) (x : Value) (f : Nat) (w : World) (K : Value → World → Prop) : Prop := V P (Instr.field t x f) w K
def Ia (t : TypeId) (x i : Value) (w : World) (K : Value → World → Prop) : Prop := V P (Instr.indexAt t x i) w K
def Ix (t : TypeId) (x i : Value) (w : World) (K : Value → World → Prop) : Prop := V P (Instr.index t x i) w K
def Lk (t : TypeId) (x i : Value) (ok : Bool) (w : World) (K : Value → World → Prop) : Prop := V P (Instr.lookup t x i ok) w K
def Mu (t : TypeId) (m k v : Value) (w : World) (K : World → Prop) : Prop := U P (Instr.mapUpdate t m k v) w K
def Rg (t : TypeId) (x : Value) (w : World) (K : Value → World → Prop) : Prop := V P (Instr.range t x) w K
def Nx (it : Value) (s : Bool) (t : TypeId) (w : World) (K : Value → World → Prop) : Prop := V P (Instr.next it s t) w K
def En (it : Value) (w : World) (K : Value → World → Prop) : Prop := V P (Instr.entry it) w K
def Ta (x : Value) (xt at_ : TypeId) (ok : Bool) (w : World) (K : Value → World → Prop) : Prop := V P (Instr.typeAssert x xt at_ ok) w K
def Pn (x : Value) (w : World) (pan : List PanicEntry → World → Prop) (K : Value → World → Prop) (_ : Tag pan := .mk) (_ : Tag K := .mk) : Prop := N P (do pure (.value (← Instr.panic x))) w pan K
def Cl (f : FuncId) (args : Array Value) (w : World) (pan : List PanicEntry → World → Prop) (K : Value → World → Prop) (_ : Tag pan := .mk) (_ : Tag K := .mk) : Prop := N P (callFunc f args) w pan K
def Cw (v : Value) (args : Array Value) (w : World) (pan : List PanicEntry → World → Prop) (K : Value → World → Prop) (_ : Tag pan := .mk) (_ : Tag K := .mk) : Prop :=
 N P (do let d ← Deferred.ofValue v args; invoke d.target d.args) w pan K
def bV (b : Builtin) (ats : Array TypeId) (T : TypeId) (args : Array Value) : Sem Value :=
 match b with
 | .append => Builtin.append_ ats T args
 | .cap => Builtin.cap_ ats T args
 | .clear => Builtin.clear_ ats T args
 | .copy => Builtin.copy_ ats T args
 | .delete => Builtin.delete_ ats T args
 | .len => Builtin.len_ ats T args
 | .max => Builtin.max_ ats T args
 | .min => Builtin.min_ ats T args
 | .unsafeString => Builtin.unsafeString_ ats T args
 | .unsafeSliceData => Builtin.unsafeSliceData_ ats T args
 | _ => stuck ""
def isV (b : Builtin) : Bool :=
 match b with
 | .append | .cap | .clear | .copy | .delete | .len | .max | .min | .unsafeString | .unsafeSliceData => true
 | _ => false
def Bt (b : Builtin) (ats : Array TypeId) (T : TypeId) (args : Array Value) (w : World) (K : Value → World → Prop) : Prop := V P (bV b ats T args) w K
end
def Pick (c a b : Value) (w : World) (K : Value → World → Prop) (_ : Tag K := .mk) : Prop :=
 match c with
 | .bool t => K (bif t then a else b) w
 | _ => False
def Ex (v : Value) (i : Nat) (w : World) (K : Value → World → Prop) (_ : Tag K := .mk) : Prop :=
 match v with
 | .tuple vs => match vs[i]? with
  | some x => K x w
  | none => False
 | _ => False
def If (c : Value) (A B : Prop) (_ : Tag A := .mk) (_ : Tag B := .mk) : Prop :=
 match c with
 | .bool t => match t with
  | true => A
  | false => B
 | _ => False
def Gd (y : Value) (want : Bool) (A : (Value → World → Prop) → Prop) (w : World) (K : Value → World → Prop) (_ : Tag A := .mk) (_ : Tag K := .mk) : Prop :=
 match y with
 | .bool b => match b == want with
  | true => A K
  | false => K undef w
 | _ => K undef w
def mapA (ρ : Operand → Value) (xs : Array Operand) : Array Value := (xs.toList.map ρ).toArray
theorem mapA_eq (ρ : Operand → Value) (xs : Array Operand) : mapA ρ xs = xs.map ρ := by
 apply Array.ext'
 simp [mapA]
def mapP (ρ : Operand → Value) (xs : Array (Nat × Operand)) : List (Nat × Value) := xs.toList.map fun p => (p.1, ρ p.2)
theorem mapP_eq (ρ : Operand → Value) (xs : Array (Nat × Operand)) : (mapP ρ xs).toArray = xs.map (fun (i, x) => (i, ρ x)) := by
 apply Array.ext'
 simp [mapP]
def callF (P : Program) (pan : List PanicEntry → World → Prop) (c : Call) (T : TypeId) (ρ : Operand → Value) (w : World) (K : Value → World → Prop) : Prop :=
 match c.callee with
 | .value (.func f) => Cl P f (mapA ρ c.args) w pan K
 | .value v => Cw P (ρ v) (mapA ρ c.args) w pan K
 | .builtin b => match isV b with
  | true => Bt P b c.argTypes T (mapA ρ c.args) w K
  | false => N P (builtin b c.argTypes T (c.args.map fun | .const _ => true | _ => false) (mapA ρ c.args)) w pan K
 | _ => N P (do let d ← resolve ρ c T; invoke d.target d.args) w pan K
def opF (P : Program) (pan : List PanicEntry → World → Prop) (o : Oper) (ρ : Operand → Value) (w : World) (K : Value → World → Prop) : Prop :=
 match o.op with
 | .move x | .assign x => K (ρ x) w
 | .pick c a b => Pick (ρ c) (ρ a) (ρ b) w K
 | .alloc t => Al P t w K
 | .box t x => Bx P t (ρ x) w K
 | .build t ps => Bd P t (mapP ρ ps) w K
 | .buildSlice t n ps => Bs P t n (mapP ρ ps) w K
 | .load t a => Ld P t (ρ a) w K
 | .store t a x => Sto P t (ρ a) (ρ x) w (K undef)
 | .nilCheck x => Nc (ρ x) w K
 | .binOp op t x y _ => Bn P op t (Region.isConst x || Region.isConst y) (ρ x) (ρ y) w K
 | .unOp op _ x => Un P op (ρ x) w K
 | .convert s d x => Cv P s d (ρ x) w K
 | .makeInterface t x => Mi P t (ρ x) w K
 | .makeFunc fn f c => K (.func fn (mapA ρ f) (mapA ρ c)) w
 | .makeMap t r => Mm P t (r.map ρ) w K
 | .makeSlice t l c => Ms P t (ρ l) (ρ c) w K
 | .slice t x lo hi mx => Sc P t (ρ x) (lo.map ρ) (hi.map ρ) (mx.map ρ) w K
 | .fieldAddr t x f => Fa P t (ρ x) f w K
 | .field t x f => Fd P t (ρ x) f w K
 | .indexAddr t x i => Ia P t (ρ x) (ρ i) w K
 | .index t x i => Ix P t (ρ x) (ρ i) w K
 | .lookup t x i ok => Lk P t (ρ x) (ρ i) ok w K
 | .mapUpdate t m k x | .insert t m k x => Mu P t (ρ m) (ρ k) (ρ x) w (K undef)
 | .range t x => Rg P t (ρ x) w K
 | .next it s => Nx P (ρ it) s o.type w K
 | .entry it => En P (ρ it) w K
 | .typeAssert x xt a ok => Ta P (ρ x) xt a ok w K
 | .extract t i => Ex (ρ t) i w K
 | .panic x => Pn P (ρ x) w pan K
 | .call c => callF P pan c o.type ρ w K
 | _ => N P (execOp ρ o) w pan K
theorem eqG_eq (op : BinOp) (t : TypeId) (x y : Operand) (a b : Value) : eqG op t (Region.isConst x || Region.isConst y) a b = eqGuard op t x y a b := by
 cases x <;> cases y <;> rfl
theorem callF_N {P : Program} {pan : List PanicEntry → World → Prop} {c : Call} {T : TypeId} {ρ : Operand → Value} {w : World} {K : Value → World → Prop}
 (hf : ∀ f, ρ (.func f) = .func (.func f) #[] #[]) (h : callF P pan c T ρ w K) : N P (do let d ← resolve ρ c T; invoke d.target d.args) w pan K := by
 obtain ⟨callee, args, ats⟩ := c
 unfold callF at h
 simp only [mapA_eq] at h
 cases callee with
 | value f =>
  cases f with
  | func f =>
   simp only [resolve, hf]
   simpa [Deferred.ofValue, invoke, Cl] using h
  | _ => exact h
 | invoke r m => exact h
 | builtin b =>
  cases b <;> simp only [isV] at h <;> first | exact h | exact V_N h
theorem opF_N {P : Program} {pan : List PanicEntry → World → Prop} {o : Oper} {ρ : Operand → Value} {w : World} {K : Value → World → Prop}
 (hf : ∀ f, ρ (.func f) = .func (.func f) #[] #[]) (h : opF P pan o ρ w K) : N P (execOp ρ o) w pan K := by
 obtain ⟨dst, op, type, pos, after, guard⟩ := o
 cases op <;> simp only [opF] at h <;> simp only [execOp] <;>
  first
   | exact V_N h
   | exact U_N h
   | exact callF_N hf h
   | exact h
   | skip
 case pick c a b =>
  unfold Pick at h
  cases hc : ρ c <;> simp only [hc] at h
  rename_i t
  simp only [N, asBool, Sem.run_bind, Sem.run_pure, Result.andThen_ok]
  cases t <;> exact h
 case build t ps =>
  rw [← mapP_eq]; exact V_N h
 case buildSlice t n ps =>
  rw [← mapP_eq]; exact V_N h
 case nilCheck x =>
  unfold Nc at h
  generalize ρ x = v at h
  cases v with
  | pointer a => cases a <;> simp only at h; exact h
  | func fn f c => cases fn <;> simp only at h <;> exact h
  | nilFunc => exact h.elim
  | nilIface => exact h.elim
  | _ => exact h
 case binOp op t x y yt =>
  have := V_N (pan := pan) h
  rw [eqG_eq] at this
  exact this
 case makeFunc fn f c =>
  rw [mapA_eq, mapA_eq] at h
  exact h
 case extract t i =>
  unfold Ex at h
  generalize ρ t = v at h
  cases v <;> simp only at h
  rename_i vs
  refine V_N (P := P) (s := Instr.extract (.tuple vs) i) ?_
  unfold Instr.extract
  cases hv : vs[i]? with
  | none => simp [hv] at h
  | some x => simp only [hv] at h; exact ⟨x, w, by simp [hv], h⟩
def gv (n : Nat) (ops : Array Oper) (s : Sl) (g : Nat) : Value :=
 match (ops[g]?).bind (·.dst) with
 | some d => sl n s d
 | none => undef
def noDefer (o : Oper) : Bool := match o.op with | .defer _ => false | _ => true
def seqF (P : Program) (n : Nat) (ops : Array Oper) (pan : List PanicEntry → World → Prop) : List Oper → Sl → World → (Sl → World → Prop) → Prop
 | [], s, w, K => K s w
 | o :: os, s, w, K =>
  match o.guard with
  | none => opF P pan o (ev n s) w fun v w' => seqF P n ops pan os (putO o.dst v s) w' K
  | some (g, want) => Gd (gv n ops s g) want (fun k => opF P pan o (ev n s) w k) w fun v w' => seqF P n ops pan os (putO o.dst v s) w' K
def asB (y : Value) : Option Bool := match y with | .bool b => some b | _ => none
def gok (y : Value) (want : Bool) : Bool := asB y == some want
theorem yielded_toA (n : Nat) (ops : Array Oper) (s : Sl) (g : Nat) : yielded ops (toA n s) g = asB (gv n ops s g) := by
 unfold yielded gv asB
 cases h : (ops[g]?).bind (·.dst) with
 | none => rfl
 | some d =>
  simp only [Option.bind_some, toA_get?, sl_eq]
  by_cases hd : d < n <;> simp [hd]
  ·cases gt s d <;> rfl
  ·rfl
theorem Gd_cases {y : Value} {want : Bool} {A : (Value → World → Prop) → Prop} {w : World} {K : Value → World → Prop} (h : Gd y want A w K) :
 gok y want = true ∧ A K ∨ gok y want = false ∧ K undef w := by
 unfold Gd at h
 cases y <;> simp only at h <;> first | exact .inr ⟨rfl, h⟩ | skip
 rename_i b
 cases b <;> cases want <;> first | exact .inl ⟨rfl, h⟩ | exact .inr ⟨rfl, h⟩
def St.of (s : Sl) (d : List Deferred) : St := ⟨s, d⟩
def Same (n : Nat) (ms : List Nat) (s s' : Sl) : Prop := ∀ i, i < n → i ∉ ms → gt s' i = gt s i
theorem Same.refl (n : Nat) (ms : List Nat) (s : Sl) : Same n ms s s := fun _ _ _ => rfl
theorem Same.trans {n : Nat} {ms : List Nat} {a b c : Sl} (h : Same n ms a b) (k : Same n ms b c) : Same n ms a c := fun i hi hm => (k i hi hm).trans (h i hi hm)
theorem Same.mono {n : Nat} {ms ms' : List Nat} {a b : Sl} (h : Same n ms a b) (hs : ∀ i ∈ ms, i ∈ ms') : Same n ms' a b := fun i hi hm => h i hi (fun h' => hm (hs i h'))
def dsts (ops : List Oper) : List Nat := ops.filterMap (·.dst)
theorem Same.put {n : Nat} {ms : List Nat} {a b : Sl} (h : Same n ms a b) (o : Option Nat) (ho : ∀ d, o = some d → d ∈ ms) (v : Value) : Same n ms a (putO o v b) := by
 cases o with
 | none => exact h
 | some d =>
  intro i hi hm
  have hne : d ≠ i := fun e => hm (e ▸ ho d rfl)
  exact (gt_other hne v b).trans (h i hi hm)
theorem seqF_sound {P : Program} {r : Option Nat} {n : Nat} {ops : Array Oper} {Q : Exit → Act → World → Prop} {pan : List PanicEntry → World → Prop} {d : List Deferred} {K : Sl → World → Prop} (s0 : Sl)
 (hQ : ∀ s w, Same n (dsts ops.toList) s0 s → K s w → Q .normal ⟨toA n s, d⟩ w) (hp : ∀ c s w, pan c w → Same n (dsts ops.toList) s0 s → Q (.panic c) ⟨toA n s, d⟩ w) (hd : ops.toList.all noDefer = true) :
 ∀ (k : Nat) (s : Sl) (w : World), Same n (dsts ops.toList) s0 s → seqF P n ops pan (ops.toList.drop k) s w K →
  wpOpsIn (Wd r) 9 P ops Q ((List.range ops.size).drop k) ⟨toA n s, d⟩ w := by
 have key : ∀ (m k : Nat) (s : Sl) (w : World), ops.size - k = m → Same n (dsts ops.toList) s0 s → seqF P n ops pan (ops.toList.drop k) s w K →
  wpOpsIn (Wd r) 9 P ops Q ((List.range ops.size).drop k) ⟨toA n s, d⟩ w := by
  intro m
  induction m with
  | zero =>
   intro k s w hm hs h
   have h1 : ops.toList.drop k = [] := List.drop_eq_nil_of_le (by simp; omega)
   have h2 : (List.range ops.size).drop k = [] := List.drop_eq_nil_of_le (by simp; omega)
   rw [h1] at h
   rw [h2]
   exact hQ _ _ hs h
  | succ m ih =>
   intro k s w hm hs h
   have hk : k < ops.size := by omega
   rw [List.drop_eq_getElem_cons (by simpa using hk)] at h
   rw [List.drop_eq_getElem_cons (by simpa using hk), List.getElem_range, wpOpsIn_cons]
   have ho : ops[k]? = some ops.toList[k] := by simp [hk]
   have hmem : ops.toList[k] ∈ ops.toList := List.getElem_mem _
   have hnd : ∀ c, ops.toList[k].op ≠ .defer c := by
    intro c hc
    have := List.all_eq_true.1 hd _ hmem
    unfold noDefer at this
    rw [hc] at this
    cases this
   unfold wpOpIn
   simp only [ho]
   generalize hoo : ops.toList[k] = o at *
   have hnext : ∀ v w', seqF P n ops pan (ops.toList.drop (k + 1)) (putO o.dst v s) w' K →
    wpOpsIn (Wd r) 9 P ops Q ((List.range ops.size).drop (k + 1)) (Act.put ⟨toA n s, d⟩ o.dst v) w' := by
    intro v w' h'
    rw [put_act]
    exact ih (k + 1) _ w' (by omega) (hs.put _ (fun t ht => List.mem_filterMap.2 ⟨o, hmem, ht⟩) v) h'
   have hrun : ∀ K', opF P pan o (ev n s) w K' → (∀ v w', K' v w' → wpOpsIn (Wd r) 9 P ops Q ((List.range ops.size).drop (k + 1)) (Act.put ⟨toA n s, d⟩ o.dst v) w') →
    o.wpIn (Wd r) 9 P ⟨toA n s, d⟩ w (wpOpsIn (Wd r) 9 P ops Q ((List.range ops.size).drop (k + 1))) Q := by
    intro K' hK hn
    refine N_wpIn hnd ?_
    rw [eval_toA]
    exact upN_mono (opF_N (fun _ => rfl) hK) (fun c w' hc => hp c s w' hc hs) hn
   unfold seqF at h
   have hwant : Region.wanted o (yielded ops (toA n s)) = match o.guard with
    | none => true
    | some (g, want) => gok (gv n ops s g) want := by
    unfold Region.wanted
    cases o.guard with
    | none => rfl
    | some gw => simp only [yielded_toA, gok]
   rw [hwant]
   clear hwant
   cases hg : o.guard with
   | none =>
    simp only [hg] at h
    simp only [if_true]
    exact hrun _ h hnext
   | some gw =>
    obtain ⟨g, want⟩ := gw
    simp only [hg] at h
    rcases Gd_cases h with ⟨h1, h2⟩ | ⟨h1, h2⟩
    ·simp only
     rw [if_pos h1]
     exact hrun _ h2 hnext
    ·simp only
     rw [if_neg (by rw [h1]; decide)]
     exact ⟨fun _ _ => trivial, hnext _ _ h2⟩
 exact fun k s w => key _ k s w rfl
inductive PT where
 | done
 | pur (wi : Bool) (i : Nat) (t : PT)
 | eff (i : Nat) (ks : List Nat) (t : PT)
 | alt (a b : PT)
def memB (i : Nat) : List Nat → Bool
 | [] => false
 | j :: l => bif Nat.beq j i then true else memB i l
theorem memB_iff {i : Nat} {l : List Nat} : memB i l = true ↔ i ∈ l := by
 induction l with
 | nil => simp [memB]
 | cons j l ih =>
  unfold memB
  cases h : Nat.beq j i with
  | true =>
   have := Nat.eq_of_beq_eq_true h
   simp [this]
  | false =>
   have hne : j ≠ i := fun e => by rw [e] at h; simp at h
   simp only [cond_false, ih, List.mem_cons]
   exact ⟨.inr, fun h => h.resolve_left (fun e => hne e.symm)⟩
def eqO (d : Option Nat) (s : Nat) : Bool := match d with | some t => Nat.beq t s | none => false
theorem eqO_iff {d : Option Nat} {s : Nat} : eqO d s = true ↔ d = some s := by
 cases d with
 | none => simp [eqO]
 | some t => simp [eqO]
def fw : List (Option Nat) → Nat → Nat → Nat → Option Nat
 | [], _, _, _ => none
 | d :: ds, q, i, s => bif Nat.blt q i then (bif eqO d s then some q else fw ds (q + 1) i s) else none
def evD (n : Nat) (s0 : Sl) (ds : List (Option Nat)) (E : Sl) (i : Nat) : Operand → Value
 | .tmp t => match fw ds 0 i t with
  | some q => gt E q
  | none => sl n s0 t
 | .const v => v
 | .global g => .pointer (some ⟨g, 0, none⟩)
 | .func f => .func (.func f) #[] #[]
def gvD (n : Nat) (s0 : Sl) (ds : List (Option Nat)) (E : Sl) (i g : Nat) : Value :=
 match ds[g]? with
 | some (some d) => evD n s0 ds E i (.tmp d)
 | _ => undef
def finS : List (Option Nat) → Nat → Sl → Sl → Sl
 | [], _, _, s => s
 | d :: ds, q, E, s => finS ds (q + 1) E (putO d (gt E q) s)
def Dv (P : Program) (wi : Bool) (s : Sem Value) (w : World) (K : Value → Prop) : Prop :=
 match wi with
 | true => ∃ v, (∀ w', s.run P w' = .ok v w') ∧ K v
 | false => ∃ v, s.run P w = .ok v w ∧ K v
def PickP (c a b : Value) (K : Value → Prop) (_ : Tag K := .mk) : Prop :=
 match c with
 | .bool t => K (bif t then a else b)
 | _ => False
def ExP (v : Value) (i : Nat) (K : Value → Prop) (_ : Tag K := .mk) : Prop :=
 match v with
 | .tuple vs => match vs[i]? with
  | some x => K x
  | none => False
 | _ => False
def NcP (v : Value) (K : Value → Prop) (_ : Tag K := .mk) : Prop :=
 match v with
 | .pointer none | .nilIface | .nilFunc => False
 | .func (.method _) _ _ => False
 | v => K v
def GdP (y : Value) (want : Bool) (A : (Value → Prop) → Prop) (K : Value → Prop) (_ : Tag A := .mk) (_ : Tag K := .mk) : Prop :=
 match y with
 | .bool b => match b == want with
  | true => A K
  | false => K undef
 | _ => K undef
def semV (o : Oper) (ρ : Operand → Value) : Option (Sem Value) :=
 match o.op with
 | .load t a => some (Instr.loadAt t (ρ a))
 | .binOp op t x y _ => some (do eqG op t (Region.isConst x || Region.isConst y) (ρ x) (ρ y); binOp op t (ρ x) (ρ y))
 | .unOp op _ x => some (Op.unary op (ρ x))
 | .convert s d x => some (convert s d (ρ x))
 | .makeInterface t x => some (Instr.makeInterface t (ρ x))
 | .build t ps => some (Instr.build t (mapP ρ ps).toArray)
 | .slice t x lo hi mx => some (Instr.sliceAt t (ρ x) (lo.map ρ) (hi.map ρ) (mx.map ρ))
 | .fieldAddr t x f => some (Instr.fieldAt t (ρ x) f)
 | .field t x f => some (Instr.field t (ρ x) f)
 | .indexAddr t x i => some (Instr.indexAt t (ρ x) (ρ i))
 | .index t x i => some (Instr.index t (ρ x) (ρ i))
 | .lookup t x i ok => some (Instr.lookup t (ρ x) (ρ i) ok)
 | .call c => match c.callee with
  | .builtin b => match isV b with
   | true => some (bV b c.argTypes o.type (mapA ρ c.args))
   | false => none
  | _ => none
 | _ => none
def purF (P : Program) (wi : Bool) (o : Oper) (ρ : Operand → Value) (w : World) (K : Value → Prop) : Prop :=
 match o.op with
 | .move x | .assign x => K (ρ x)
 | .pick c a b => PickP (ρ c) (ρ a) (ρ b) K
 | .nilCheck x => NcP (ρ x) K
 | .extract t i => ExP (ρ t) i K
 | .makeFunc fn f c => K (.func fn (mapA ρ f) (mapA ρ c))
 | _ => match semV o ρ with
  | some s => Dv P wi s w K
  | none => False
def Ke (P : Program) (s : Sem Value) (v : Value) (w : World) (rest : Prop) : Prop := s.run P w = .ok v w ∧ rest
def Kg (y : Value) (want : Bool) (P : Program) (s : Sem Value) (v : Value) (w : World) (rest : Prop) : Prop := (gok y want = true → s.run P w = .ok v w) ∧ rest
def keF (P : Program) (n : Nat) (s0 : Sl) (ops : Array Oper) (ds : List (Option Nat)) (E : Sl) (w : World) : List Nat → Prop → Prop
 | [], R => R
 | p :: ps, R => match ops[p]? with
  | none => False
  | some o => match semV o (evD n s0 ds E p) with
   | none => False
   | some s => match o.guard with
    | none => Ke P s (gt E p) w (keF P n s0 ops ds E w ps R)
    | some (g, want) => Kg (gvD n s0 ds E p g) want P s (gt E p) w (keF P n s0 ops ds E w ps R)
def drF (P : Program) (n : Nat) (s0 : Sl) (ops : Array Oper) (ds : List (Option Nat)) (pan : List PanicEntry → World → Prop) : PT → Sl → World → (Sl → World → Prop) → Prop
 | .done, E, w, K => K E w
 | .pur wi i t, E, w, K => match ops[i]? with
  | none => False
  | some o => match o.guard with
   | none => purF P wi o (evD n s0 ds E i) w fun v => drF P n s0 ops ds pan t ((i, v) :: E) w K
   | some (g, want) => GdP (gvD n s0 ds E i g) want (fun k => purF P wi o (evD n s0 ds E i) w k) fun v => drF P n s0 ops ds pan t ((i, v) :: E) w K
 | .eff i ks t, E, w, K => match ops[i]? with
  | none => False
  | some o => match o.guard with
   | none => opF P pan o (evD n s0 ds E i) w fun v w' => keF P n s0 ops ds E w' ks (drF P n s0 ops ds pan t ((i, v) :: E) w' K)
   | some (g, want) => Gd (gvD n s0 ds E i g) want (fun k => opF P pan o (evD n s0 ds E i) w k) w fun v w' => keF P n s0 ops ds E w' ks (drF P n s0 ops ds pan t ((i, v) :: E) w' K)
 | .alt a b, E, w, K => drF P n s0 ops ds pan a E w K ∧ drF P n s0 ops ds pan b E w K
def predsOf (o : Oper) : List Nat := (o.after.toList.filter (Region.binds .any)).map (·.on)
def bmAll : List Oper → List Nat → List Nat
 | [], acc => acc
 | o :: os, acc => bmAll os (acc ++ [(predsOf o).foldl (fun s e => s ||| 2 ^ e ||| acc.getD e 0) 0])
def looks (ds : List (Option Nat)) (o : Oper) : List Nat :=
 (o.op.operands.toList.filterMap fun | .tmp t => some t | _ => none) ++
 (match o.guard with
  | some (g, _) => (ds.getD g none).toList
  | none => [])
def heads : PT → List Nat
 | .eff i _ _ => [i]
 | .alt a b => heads a ++ heads b
 | _ => []
def allB (n : Nat) (p : Nat → Bool) : Bool := match n with
 | 0 => true
 | n + 1 => p n && allB n p
theorem allB_iff {n : Nat} {p : Nat → Bool} : allB n p = true ↔ ∀ i, i < n → p i = true := by
 induction n with
 | zero => simp [allB]
 | succ n ih =>
  simp only [allB, Bool.and_eq_true, ih]
  constructor
  ·rintro ⟨h1, h2⟩ i hi
   by_cases e : i = n
   ·exact e ▸ h1
   ·exact h2 i (by omega)
  ·exact fun h => ⟨h n (by omega), fun i hi => h i (by omega)⟩
def subB (l : List Nat) (C : List Nat) : Bool := l.all (memB · C)
def predsAt (pr : List (List Nat)) (i : Nat) : List Nat := pr.getD i []
def chk (sz : Nat) (pr : List (List Nat)) (bm : List Nat) : Bool → PT → List Nat → List Nat → List Nat → Bool
 | top, .done, C, _, _ => top && allB sz (memB · C)
 | top, .pur wi i t, C, W, e => top && (!memB i C && (Nat.blt i sz && (subB (predsAt pr i) C && chk sz pr bm true t (i :: C) (bif wi then i :: W else W) e)))
 | top, .eff i ks t, C, W, e =>
  (!top || allB sz fun j => memB j C || !subB (predsAt pr j) C || Nat.beq j i) &&
  (!memB i C && (Nat.blt i sz && (subB (predsAt pr i) C && (C.all (fun p => memB p W || memB p e || memB p ks || (bm.getD i 0).testBit p) && chk sz pr bm true t (i :: C) W (i :: e)))))
 | top, .alt a b, C, W, e =>
  (!top || allB sz fun j => memB j C || !subB (predsAt pr j) C || memB j (heads a ++ heads b)) && (chk sz pr bm false a C W e && chk sz pr bm false b C W e)
def noSel (o : Oper) : Bool := match o.op with | .select .. => false | _ => true
def uniqB : List (Option Nat) → Bool
 | [] => true
 | none :: l => uniqB l
 | some d :: l => !(l.any (eqO · d)) && uniqB l
def chkAll (n : Nat) (ops : Array Oper) (t : PT) : Bool :=
 let l := ops.toList
 let ds := l.map (·.dst)
 let pr := l.map predsOf
 let bm := bmAll l []
 let lk := l.map (looks ds)
 (l.all noDefer && l.all noSel) && (uniqB ds && ((ds.all fun d => match d with | some d => Nat.blt d n | none => true) && (
  (allB l.length fun i => (lk.getD i []).all fun s => allB l.length fun q => Nat.beq q i || !eqO (ds.getD q none) s || (bif Nat.blt q i then (bm.getD i 0).testBit q else (bm.getD q 0).testBit i)) &&
  chk l.length pr bm true t [] [] [])))
theorem fw_some {ds : List (Option Nat)} {q0 i s q : Nat} (h : fw ds q0 i s = some q) : q0 ≤ q ∧ q < i ∧ ds[q - q0]? = some (some s) := by
 induction ds generalizing q0 with
 | nil => simp [fw] at h
 | cons d ds ih =>
  unfold fw at h
  cases hb : Nat.blt q0 i with
  | false => simp [hb] at h
  | true =>
   have hlt : q0 < i := by simpa [Nat.blt_eq] using hb
   simp only [hb, cond_true] at h
   cases he : eqO d s with
   | true =>
    simp only [he, cond_true, Option.some.injEq] at h
    subst h
    simp [eqO_iff.1 he, hlt]
   | false =>
    simp only [he, cond_false] at h
    obtain ⟨h1, h2, h3⟩ := ih h
    refine ⟨by omega, h2, ?_⟩
    rw [show q - q0 = (q - (q0 + 1)) + 1 from by omega, List.getElem?_cons_succ]
    exact h3
theorem fw_none {ds : List (Option Nat)} {q0 i s : Nat} (h : fw ds q0 i s = none) (k : Nat) (hk : q0 + k < i) : ds[k]? ≠ some (some s) := by
 induction ds generalizing q0 k with
 | nil => simp
 | cons d ds ih =>
  unfold fw at h
  have hb : Nat.blt q0 i = true := by simp; omega
  simp only [hb, cond_true] at h
  cases he : eqO d s with
  | true => simp [he] at h
  | false =>
   simp only [he, cond_false] at h
   cases k with
   | zero =>
    simp only [List.getElem?_cons_zero, ne_eq, Option.some.injEq]
    intro e
    rw [eqO_iff.2 e] at he
    cases he
   | succ k =>
    rw [List.getElem?_cons_succ]
    exact ih h k (by omega)
theorem uniqB_spec {ds : List (Option Nat)} (h : uniqB ds = true) {p q s : Nat} (hp : ds[p]? = some (some s)) (hq : ds[q]? = some (some s)) : p = q := by
 induction ds generalizing p q with
 | nil => simp at hp
 | cons d ds ih =>
  cases d with
  | none =>
   cases p with
   | zero => simp at hp
   | succ p =>
    cases q with
    | zero => simp at hq
    | succ q =>
     exact congrArg Nat.succ (ih (by simpa [uniqB] using h) (p := p) (q := q) (by simpa using hp) (by simpa using hq))
  | some d =>
   simp only [uniqB, Bool.and_eq_true, Bool.not_eq_true', List.any_eq_false] at h
   cases p with
   | zero =>
    simp only [List.getElem?_cons_zero, Option.some.injEq] at hp
    subst hp
    cases q with
    | zero => rfl
    | succ q =>
     rw [List.getElem?_cons_succ] at hq
     exact absurd (eqO_iff.2 rfl) (h.1 _ (List.mem_of_getElem? hq))
   | succ p =>
    rw [List.getElem?_cons_succ] at hp
    cases q with
    | zero =>
     simp only [List.getElem?_cons_zero, Option.some.injEq] at hq
     subst hq
     exact absurd (eqO_iff.2 rfl) (h.1 _ (List.mem_of_getElem? hp))
    | succ q => exact congrArg Nat.succ (ih h.2 (p := p) (q := q) hp (by simpa using hq))
theorem finS_no {ds : List (Option Nat)} {q0 : Nat} {E s : Sl} {x : Nat} (h : ∀ k : Nat, ds[k]? ≠ some (some x)) : gt (finS ds q0 E s) x = gt s x := by
 induction ds generalizing q0 s with
 | nil => rfl
 | cons d ds ih =>
  unfold finS
  rw [ih (fun k => by have := h (k + 1); simpa using this)]
  cases d with
  | none => rfl
  | some d =>
   have hne : d ≠ x := fun e => h 0 (by simp [e])
   exact gt_other hne _ _
theorem finS_yes {ds : List (Option Nat)} {q0 : Nat} {E s : Sl} {x k : Nat} (hu : uniqB ds = true) (h : ds[k]? = some (some x)) : gt (finS ds q0 E s) x = gt E (q0 + k) := by
 induction ds generalizing q0 s k with
 | nil => simp at h
 | cons d ds ih =>
  unfold finS
  cases k with
  | zero =>
   simp only [List.getElem?_cons_zero, Option.some.injEq] at h
   subst h
   rw [finS_no]
   ·simp [putO, gt_same]
   ·intro k hk
    have := uniqB_spec hu (p := 0) (q := k + 1) (s := x) (by simp) (by simpa using hk)
    omega
  | succ k =>
   have hu' : uniqB ds = true := by
    cases d with
    | none => simpa [uniqB] using hu
    | some d => simp only [uniqB, Bool.and_eq_true] at hu; exact hu.2
   rw [ih hu' (by simpa using h)]
   congr 1
   omega
theorem getD_big {l : List Nat} {i : Nat} (h : l.length ≤ i) : l.getD i 0 = 0 := by
 rw [List.getD_eq_getElem?_getD, List.getElem?_eq_none h]
 rfl
theorem foldl_bits {ps : List Nat} {acc : List Nat} {s j : Nat} (h : (ps.foldl (fun s e => s ||| 2 ^ e ||| acc.getD e 0) s).testBit j = true) :
 s.testBit j = true ∨ ∃ e ∈ ps, j = e ∨ (acc.getD e 0).testBit j = true := by
 induction ps generalizing s with
 | nil => exact .inl h
 | cons e ps ih =>
  simp only [List.foldl_cons] at h
  rcases ih h with h | ⟨e', he', h'⟩
  ·simp only [Nat.testBit_or, Bool.or_eq_true, Nat.testBit_two_pow, decide_eq_true_eq] at h
   rcases h with (h | h) | h
   ·exact .inl h
   ·exact .inr ⟨e, by simp, .inl h.symm⟩
   ·exact .inr ⟨e, by simp, .inr h⟩
  ·exact .inr ⟨e', by simp [he'], h'⟩
theorem bmAll_spec (L : List Oper) : ∀ (os : List Oper) (acc : List Nat), L.drop acc.length = os → acc.length + os.length = L.length →
 (∀ i, i < acc.length → ∀ j, (acc.getD i 0).testBit j = true → ∃ o, L[i]? = some o ∧ ∃ e ∈ predsOf o, j = e ∨ (e < i ∧ (acc.getD e 0).testBit j = true)) →
 ∀ i j, ((bmAll os acc).getD i 0).testBit j = true → ∃ o, L[i]? = some o ∧ ∃ e ∈ predsOf o, j = e ∨ (e < i ∧ ((bmAll os acc).getD e 0).testBit j = true) := by
 intro os
 induction os with
 | nil =>
  intro acc _ hl h i j hb
  unfold bmAll at hb ⊢
  by_cases hi : i < acc.length
  ·exact h i hi j hb
  ·rw [getD_big (by omega)] at hb
   simp at hb
 | cons o os ih =>
  intro acc hd hl h i j hb
  unfold bmAll at hb ⊢
  have hlt : acc.length < L.length := by simp at hl; omega
  have hd2 := hd
  rw [List.drop_eq_getElem_cons hlt] at hd2
  injection hd2 with e1 e2
  refine ih _ (by simp; exact e2) (by simp at hl ⊢; omega) ?_ i j hb
  intro i hi j hb
  have hgl : ∀ k m, k < acc.length → (acc ++ [m]).getD k 0 = acc.getD k 0 := by
   intro k m hk
   simp [List.getD_eq_getElem?_getD, List.getElem?_append_left hk]
  by_cases hc : i < acc.length
  ·rw [hgl _ _ hc] at hb
   obtain ⟨o', ho', e, he, h'⟩ := h i hc j hb
   refine ⟨o', ho', e, he, ?_⟩
   rcases h' with h' | ⟨h1, h2⟩
   ·exact .inl h'
   ·exact .inr ⟨h1, by rw [hgl _ _ (by omega)]; exact h2⟩
  ·have hi2 : i = acc.length := by simp at hi; omega
   subst hi2
   have hnew : ∀ m, (acc ++ [m]).getD acc.length 0 = m := by intro m; simp [List.getD_eq_getElem?_getD]
   rw [hnew] at hb
   refine ⟨o, by rw [List.getElem?_eq_getElem hlt, e1], ?_⟩
   rcases foldl_bits hb with hb | ⟨e, he, h'⟩
   ·simp at hb
   ·refine ⟨e, he, ?_⟩
    rcases h' with h' | h'
    ·exact .inl h'
    ·by_cases hel : e < acc.length
     ·exact .inr ⟨hel, by rw [hgl _ _ hel]; exact h'⟩
     ·rw [getD_big (by omega)] at h'
      simp at h'
theorem bm_closed {L : List Oper} {D : Nat → Prop} (hD : ∀ m o, L[m]? = some o → D m → ∀ j ∈ predsOf o, D j) : ∀ (i : Nat) (o : Oper), L[i]? = some o → (∀ j ∈ predsOf o, D j) →
 ∀ j, ((bmAll L []).getD i 0).testBit j = true → D j := by
 intro i
 induction i using Nat.strongRecOn with
 | _ i ih =>
  intro o ho hp j hb
  obtain ⟨o', ho', e, he, h⟩ := bmAll_spec L L [] (by simp) (by simp) (by simp) i j hb
  rw [ho] at ho'
  obtain rfl : o = o' := by injection ho'
  rcases h with h | ⟨h1, h2⟩
  ·exact h ▸ hp e he
  ·have hDe := hp e he
   cases hoe : L[e]? with
   | none =>
    have hlen : L.length ≤ e := by simpa using hoe
    have : i < L.length := by
     rcases Nat.lt_or_ge i L.length with h | h
     ·exact h
     ·simp [List.getElem?_eq_none h] at ho
    omega
   | some oe => exact ih e h1 oe hoe (hD e oe hoe hDe) j h2
theorem cnt_lt {l : List Nat} {p q : Nat → Bool} (h : ∀ x, q x = true → p x = true) {i : Nat} (hi : i ∈ l) (hp : p i = true) (hq : q i = false) : (l.filter q).length < (l.filter p).length := by
 induction l with
 | nil => simp at hi
 | cons a l ih =>
  have hle : (l.filter q).length ≤ (l.filter p).length := by
   clear ih hi
   induction l with
   | nil => simp
   | cons b l ih2 =>
    simp only [List.filter_cons]
    cases hqb : q b with
    | true => rw [h b hqb]; simp; exact ih2
    | false => cases p b <;> simp <;> omega
  simp only [List.filter_cons]
  rcases List.mem_cons.1 hi with e | e
  ·subst e
   simp [hp, hq]
   omega
  ·have := ih e
   cases hqa : q a with
   | true => rw [h a hqa]; simp; exact this
   | false => cases p a <;> simp <;> omega
def PRun (P : Program) (wi : Bool) (o : Oper) (ρ : Operand → Value) (w : World) (v : Value) : Prop :=
 (wi = true → ∀ w', (execOp ρ o).run P w' = .ok (.value v) w') ∧ (execOp ρ o).run P w = .ok (.value v) w
theorem semV_run {P : Program} {o : Oper} {ρ : Operand → Value} {s : Sem Value} (h : semV o ρ = some s) {w w' : World} {v : Value} (hr : s.run P w = .ok v w') :
 (execOp ρ o).run P w = .ok (.value v) w' := by
 have key : (do pure (.value (← s)) : Sem Next).run P w = .ok (.value v) w' := by
  simp only [Sem.run_bind, hr, Result.andThen_ok, Sem.run_pure]
 obtain ⟨dst, op, type, pos, after, guard⟩ := o
 cases op <;> simp only [semV, Option.some.injEq, reduceCtorEq] at h <;> simp only [execOp] <;> first | (subst h; exact key) | skip
 case build t ps =>
  rw [mapP_eq] at h; subst h; exact key
 case binOp op t x y yt =>
  rw [eqG_eq] at h; subst h; exact key
 case call c =>
  obtain ⟨callee, args, ats⟩ := c
  cases callee with
  | builtin b =>
   cases b <;> simp only [isV, Option.some.injEq, reduceCtorEq] at h <;> (subst h; rw [mapA_eq] at key; exact key)
  | _ => cases h
theorem Dv_run {P : Program} {wi : Bool} {o : Oper} {ρ : Operand → Value} {s : Sem Value} (h : semV o ρ = some s) {w : World} {K : Value → Prop} (hd : Dv P wi s w K) :
 ∃ v, PRun P wi o ρ w v ∧ K v := by
 cases wi with
 | true =>
  obtain ⟨v, h1, h2⟩ := hd
  exact ⟨v, ⟨fun _ w' => semV_run h (h1 w'), semV_run h (h1 w)⟩, h2⟩
 | false =>
  obtain ⟨v, h1, h2⟩ := hd
  exact ⟨v, ⟨fun h => (by cases h), semV_run h h1⟩, h2⟩
theorem PRun.all {P : Program} {wi : Bool} {o : Oper} {ρ : Operand → Value} {w : World} {v : Value} (h : ∀ w', (execOp ρ o).run P w' = .ok (.value v) w') : PRun P wi o ρ w v := ⟨fun _ => h, h w⟩
theorem purF_run {P : Program} {wi : Bool} {o : Oper} {ρ : Operand → Value} {w : World} {K : Value → Prop} (h : purF P wi o ρ w K) : ∃ v, PRun P wi o ρ w v ∧ K v := by
 by_cases hs : ∃ s, semV o ρ = some s
 ·obtain ⟨s, hs⟩ := hs
  refine Dv_run hs (K := K) ?_
  unfold purF at h
  rw [hs] at h
  obtain ⟨dst, op, type, pos, after, guard⟩ := o
  cases op <;> first | exact h | (simp only [semV, reduceCtorEq] at hs)
 ·have hn : semV o ρ = none := by cases h' : semV o ρ with | none => rfl | some s => exact absurd ⟨s, h'⟩ hs
  unfold purF at h
  rw [hn] at h
  clear hs hn
  obtain ⟨dst, op, type, pos, after, guard⟩ := o
  cases op <;> simp only at h
  case move x => exact ⟨_, PRun.all (fun _ => rfl), h⟩
  case assign x => exact ⟨_, PRun.all (fun _ => rfl), h⟩
  case pick c a b =>
   unfold PickP at h
   cases hc : ρ c <;> simp only [hc] at h
   rename_i t
   refine ⟨_, PRun.all (fun w' => ?_), h⟩
   simp only [execOp, hc, asBool, Sem.run_bind, Sem.run_pure, Result.andThen_ok]
   cases t <;> rfl
  case nilCheck x =>
   unfold NcP at h
   cases hv : ρ x with
   | pointer a => cases a <;> simp only [hv] at h; exact ⟨_, PRun.all (fun w' => by simp [execOp, hv]), h⟩
   | func fn f c => cases fn <;> simp only [hv] at h <;> exact ⟨_, PRun.all (fun w' => by simp [execOp, hv]), h⟩
   | nilFunc => simp only [hv] at h
   | nilIface => simp only [hv] at h
   | _ => simp only [hv] at h; exact ⟨_, PRun.all (fun w' => by simp [execOp, hv]), h⟩
  case extract t i =>
   unfold ExP at h
   cases hv : ρ t <;> simp only [hv] at h
   rename_i vs
   cases hx : vs[i]? with
   | none => simp [hx] at h
   | some x =>
    simp only [hx] at h
    exact ⟨x, PRun.all (fun w' => by simp [execOp, hv, Instr.extract, hx]), h⟩
  case makeFunc fn f c =>
   refine ⟨_, PRun.all (fun w' => ?_), h⟩
   simp only [execOp, mapA_eq]
   rfl
section
variable {P : Program} {r : Option Nat} {n : Nat} {s0 : Sl} {d : List Deferred} {ops : Array Oper}
def dsOf (ops : Array Oper) : List (Option Nat) := ops.toList.map (·.dst)
def wantedD (n : Nat) (s0 : Sl) (ops : Array Oper) (E : Sl) (p : Nat) (o : Oper) : Bool :=
 match o.guard with
 | none => true
 | some (g, want) => gok (gvD n s0 (dsOf ops) E p g) want
def Pend (P : Program) (n : Nat) (s0 : Sl) (ops : Array Oper) (E : Sl) (W : List Nat) (w : World) (p : Nat) : Prop :=
 ∀ o, ops.toList[p]? = some o → (wantedD n s0 ops E p o = true → PRun P (memB p W) o (evD n s0 (dsOf ops) E p) w (gt E p)) ∧ (wantedD n s0 ops E p o = false → gt E p = undef)
def TopL (ops : Array Oper) : List Nat → Prop
 | [] => True
 | i :: C => (∃ o, ops.toList[i]? = some o ∧ ∀ j ∈ predsOf o, j ∈ C) ∧ i ∉ C ∧ TopL ops C
theorem TopL.closed {C : List Nat} (h : TopL ops C) : ∀ (m : Nat) (o : Oper), ops.toList[m]? = some o → m ∈ C → ∀ j ∈ predsOf o, j ∈ C := by
 induction C with
 | nil => intro m o _ hm; cases hm
 | cons i C ih =>
  intro m o ho hm j hj
  obtain ⟨⟨o', ho', h1⟩, h2, h3⟩ := h
  rcases List.mem_cons.1 hm with e | e
  ·subst e
   rw [ho] at ho'
   injection ho' with ho'
   subst ho'
   exact List.mem_cons_of_mem _ (h1 j hj)
  ·exact List.mem_cons_of_mem _ (ih h3 m o ho e j hj)
theorem TopL.first {D : Nat → Prop} {C : List Nat} (h : TopL ops C) (hp : ∃ p ∈ C, ¬ D p) : ∃ p ∈ C, ¬ D p ∧ ∃ o, ops.toList[p]? = some o ∧ ∀ j ∈ predsOf o, D j := by
 induction C with
 | nil => obtain ⟨p, hp, _⟩ := hp; cases hp
 | cons i C ih =>
  obtain ⟨⟨o', ho', h1⟩, h2, h3⟩ := h
  by_cases hc : ∃ p ∈ C, ¬ D p
  ·obtain ⟨p, hp, h'⟩ := ih h3 hc
   exact ⟨p, List.mem_cons_of_mem _ hp, h'⟩
  ·have hall : ∀ p ∈ C, D p := fun p hp => Classical.byContradiction fun hn => hc ⟨p, hp, hn⟩
   obtain ⟨p, hp, hn⟩ := hp
   rcases List.mem_cons.1 hp with e | e
   ·subst e
    exact ⟨p, by simp, hn, o', ho', fun j hj => hall j (h1 j hj)⟩
   ·exact absurd (hall p e) hn
structure DOK (n : Nat) (ops : Array Oper) : Prop where
 nd : ∀ o ∈ ops.toList, noDefer o = true ∧ noSel o = true
 uq : uniqB (dsOf ops) = true
 dn : ∀ (q x : Nat), (dsOf ops)[q]? = some (some x) → x < n
 lk : ∀ i o, ops.toList[i]? = some o → ∀ s ∈ looks (dsOf ops) o, ∀ q, q ≠ i → (dsOf ops)[q]? = some (some s) →
  (q < i → ((bmAll ops.toList []).getD i 0).testBit q = true) ∧ (i < q → ((bmAll ops.toList []).getD q 0).testBit i = true)
structure Inv (P : Program) (n : Nat) (s0 : Sl) (d : List Deferred) (ops : Array Oper) (C W e : List Nat) (D : Array Bool) (E : Sl) (a : Act) (w : World) : Prop where
 sz : D.size = ops.size
 down : ∀ m o, ops.toList[m]? = some o → D.getD m false = true → ∀ j ∈ predsOf o, D.getD j false = true
 sub : ∀ m, D.getD m false = true → m ∈ C
 eff : ∀ m ∈ e, D.getD m false = true
 wsub : ∀ m ∈ W, m ∈ C
 top : TopL ops C
 fr0 : a.defers = d
 frs : a.tmps.size = n
 fr1 : ∀ x, x < n → ∀ q : Nat, D.getD q false = true → (dsOf ops)[q]? = some (some x) → a.tmps[x]? = some (gt E q)
 fr2 : ∀ x, x < n → (∀ q : Nat, D.getD q false = true → (dsOf ops)[q]? ≠ some (some x)) → a.tmps[x]? = some (gt s0 x)
 pend : ∀ p ∈ C, D.getD p false = false → Pend P n s0 ops E W w p
theorem dsOf_get {q : Nat} {o : Oper} (ho : ops.toList[q]? = some o) : (dsOf ops)[q]? = some o.dst := by simp [dsOf, ho]
theorem mem_of_dsOf {q : Nat} {x : Option Nat} (h : (dsOf ops)[q]? = some x) : ∃ o, ops.toList[q]? = some o ∧ o.dst = x := by
 simp only [dsOf, List.getElem?_map] at h
 cases ho : ops.toList[q]? with
 | none => simp [ho] at h
 | some o => simp only [ho, Option.map_some, Option.some.injEq] at h; exact ⟨o, rfl, h⟩
theorem Inv.agree {C W e : List Nat} {D : Array Bool} {E : Sl} {a : Act} {w : World} (hk : DOK n ops) (h : Inv P n s0 d ops C W e D E a w) {i : Nat} {o : Oper} (ho : ops.toList[i]? = some o)
 (hi : D.getD i false = false) (hp : ∀ j ∈ predsOf o, D.getD j false = true) {t : Nat} (ht : t ∈ looks (dsOf ops) o) : a.tmps.getD t undef = evD n s0 (dsOf ops) E i (.tmp t) := by
 have hcl := bm_closed (L := ops.toList) (D := fun m => D.getD m false = true) (fun m o ho hm j hj => h.down m o ho hm j hj)
 simp only [evD]
 cases hf : fw (dsOf ops) 0 i t with
 | some q =>
  obtain ⟨_, hq, hd⟩ := fw_some hf
  simp only [Nat.sub_zero] at hd
  have hb := (hk.lk i o ho t ht q (by omega) hd).1 hq
  have hDq := hcl i o ho hp q hb
  have := h.fr1 t (hk.dn q t hd) q hDq hd
  rw [Array.getD_eq_getD_getElem?, this]
  rfl
 | none =>
  have hno : ∀ q : Nat, D.getD q false = true → (dsOf ops)[q]? ≠ some (some t) := by
   intro q hq hd
   have hne : q ≠ i := fun e => by rw [e, hi] at hq; cases hq
   rcases Nat.lt_or_gt_of_ne hne with hlt | hgt
   ·exact fw_none hf q (by omega) hd
   ·have hb := (hk.lk i o ho t ht q hne hd).2 hgt
    obtain ⟨oq, hoq, _⟩ := mem_of_dsOf hd
    have := hcl q oq hoq (h.down q oq hoq hq) i hb
    rw [hi] at this
    cases this
  simp only [sl_eq]
  by_cases hn : t < n
  ·rw [Array.getD_eq_getD_getElem?, h.fr2 t hn hno]
   simp [hn]
  ·rw [if_neg hn, Array.getD_eq_getD_getElem?, Array.getElem?_eq_none (by rw [h.frs]; omega)]
   rfl
theorem looks_op {ds : List (Option Nat)} {o : Oper} {t : Nat} (h : Operand.tmp t ∈ o.op.operands) : t ∈ looks ds o :=
 List.mem_append_left _ (List.mem_filterMap.2 ⟨.tmp t, by simpa using h, rfl⟩)
theorem looks_guard {ds : List (Option Nat)} {o : Oper} {g t : Nat} {want : Bool} (hg : o.guard = some (g, want)) (h : ds[g]? = some (some t)) : t ∈ looks ds o :=
 List.mem_append_right _ (by simp [hg, List.getD_eq_getElem?_getD, h])
theorem Inv.exec {C W e : List Nat} {D : Array Bool} {E : Sl} {a : Act} {w : World} (hk : DOK n ops) (h : Inv P n s0 d ops C W e D E a w) {i : Nat} {o : Oper} (ho : ops.toList[i]? = some o)
 (hi : D.getD i false = false) (hp : ∀ j ∈ predsOf o, D.getD j false = true) : execOp a.eval o = execOp (evD n s0 (dsOf ops) E i) o := by
 refine execOp_congr o ?_ ?_
 ·intro cs b hs
  have := (hk.nd o (List.mem_of_getElem? ho)).2
  unfold noSel at this
  rw [hs] at this
  cases this
 ·intro x hx
  cases x with
  | tmp t => exact h.agree hk ho hi hp (looks_op hx)
  | _ => rfl
theorem Inv.wanted {C W e : List Nat} {D : Array Bool} {E : Sl} {a : Act} {w : World} (hk : DOK n ops) (h : Inv P n s0 d ops C W e D E a w) {i : Nat} {o : Oper} (ho : ops.toList[i]? = some o)
 (hi : D.getD i false = false) (hp : ∀ j ∈ predsOf o, D.getD j false = true) : Region.wanted o (yielded ops a.tmps) = wantedD n s0 ops E i o := by
 unfold Region.wanted wantedD
 cases hg : o.guard with
 | none => rfl
 | some gw =>
  obtain ⟨g, want⟩ := gw
  simp only [gok]
  congr 1
  unfold yielded gvD
  cases hd : (dsOf ops)[g]? with
  | none =>
   have : ops[g]? = none := by
    simp only [dsOf, List.getElem?_map] at hd
    cases hh : ops.toList[g]? with
    | none => simpa using hh
    | some o => simp [hh] at hd
   simp [this, asB, undef]
  | some x =>
   obtain ⟨og, hog, hx⟩ := mem_of_dsOf hd
   have hog2 : ops[g]? = some og := by simpa using hog
   cases x with
   | none => simp [hog2, hx, asB, undef]
   | some t =>
    have ha := h.agree hk ho hi hp (looks_guard hg hd)
    have htn := hk.dn g t hd
    simp only [hog2, Option.bind_some, hx]
    rw [← ha, Array.getD_eq_getD_getElem?]
    have : a.tmps[t]? = some (a.tmps[t]'(by rw [h.frs]; exact htn)) := Array.getElem?_eq_getElem _
    rw [this]
    simp only [Option.getD_some, asB]
    generalize a.tmps[t]'(by rw [h.frs]; exact htn) = v
    cases v <;> rfl
theorem evD_ext {C : List Nat} (hk : DOK n ops) (htop : TopL ops C) {E : Sl} {i p : Nat} {v : Value} {o : Oper} (hi : i ∉ C) (hp : p ∈ C) (ho : ops.toList[p]? = some o) {t : Nat} (ht : t ∈ looks (dsOf ops) o) :
 evD n s0 (dsOf ops) ((i, v) :: E) p (.tmp t) = evD n s0 (dsOf ops) E p (.tmp t) := by
 simp only [evD]
 cases hf : fw (dsOf ops) 0 p t with
 | none => rfl
 | some q =>
  obtain ⟨_, hq, hd⟩ := fw_some hf
  simp only [Nat.sub_zero] at hd
  have hb := (hk.lk p o ho t ht q (by omega) hd).1 hq
  have hc := bm_closed (L := ops.toList) (D := fun m => m ∈ C) (fun m o ho hm j hj => htop.closed m o ho hm j hj) p o ho (htop.closed p o ho hp) q hb
  have hne : i ≠ q := fun e => hi (e ▸ hc)
  exact gt_other hne _ _
theorem exec_ext {C : List Nat} (hk : DOK n ops) (htop : TopL ops C) {E : Sl} {i p : Nat} {v : Value} {o : Oper} (hi : i ∉ C) (hp : p ∈ C) (ho : ops.toList[p]? = some o) :
 execOp (evD n s0 (dsOf ops) ((i, v) :: E) p) o = execOp (evD n s0 (dsOf ops) E p) o := by
 refine execOp_congr o ?_ ?_
 ·intro cs b hs
  have := (hk.nd o (List.mem_of_getElem? ho)).2
  unfold noSel at this
  rw [hs] at this
  cases this
 ·intro x hx
  cases x with
  | tmp t => exact evD_ext hk htop hi hp ho (looks_op hx)
  | _ => rfl
theorem wanted_ext {C : List Nat} (hk : DOK n ops) (htop : TopL ops C) {E : Sl} {i p : Nat} {v : Value} {o : Oper} (hi : i ∉ C) (hp : p ∈ C) (ho : ops.toList[p]? = some o) :
 wantedD n s0 ops ((i, v) :: E) p o = wantedD n s0 ops E p o := by
 unfold wantedD
 cases hg : o.guard with
 | none => rfl
 | some gw =>
  obtain ⟨g, want⟩ := gw
  simp only [gvD]
  cases hd : (dsOf ops)[g]? with
  | none => rfl
  | some x =>
   cases x with
   | none => rfl
   | some t => simp only [evD_ext hk htop hi hp ho (looks_guard hg hd)]
theorem Pend.ext {C W W' : List Nat} (hk : DOK n ops) (htop : TopL ops C) {E : Sl} {i p : Nat} {v : Value} {w : World} (hi : i ∉ C) (hp : p ∈ C) (hW : memB p W' = true → memB p W = true) (h : Pend P n s0 ops E W w p) :
 Pend P n s0 ops ((i, v) :: E) W' w p := by
 intro o ho
 have hne : i ≠ p := fun e => hi (e ▸ hp)
 obtain ⟨h1, h2⟩ := h o ho
 rw [wanted_ext hk htop hi hp ho, gt_other hne]
 refine ⟨fun hw => ?_, h2⟩
 obtain ⟨a1, a2⟩ := h1 hw
 unfold PRun
 rw [exec_ext hk htop hi hp ho]
 exact ⟨fun hh => a1 (hW hh), a2⟩
end
section
variable {P : Program} {r : Option Nat} {n : Nat} {s0 : Sl} {d : List Deferred} {ops : Array Oper}
theorem getD_set {D : Array Bool} {i m : Nat} (hi : i < D.size) : (D.setIfInBounds i true).getD m false = if m = i then true else D.getD m false := by
 rw [Array.getD_eq_getD_getElem?, Array.getD_eq_getD_getElem?, Array.getElem?_setIfInBounds]
 by_cases h : i = m
 ·subst h; simp [hi]
 ·have : ¬ m = i := fun e => h e.symm
  simp [h, this]
theorem put_get {a : Act} {o : Option Nat} {v : Value} {x : Nat} (hx : x < a.tmps.size) : (a.put o v).tmps[x]? = if o = some x then some v else a.tmps[x]? := by
 cases o with
 | none => simp [Act.put]
 | some t =>
  simp only [Act.put, Array.getElem?_setIfInBounds, Option.some.injEq]
  by_cases h : t = x
  ·subst h; simp [hx]
  ·simp [h]
theorem put_size {a : Act} {o : Option Nat} {v : Value} : (a.put o v).tmps.size = a.tmps.size := by cases o <;> simp [Act.put]
theorem put_defers {a : Act} {o : Option Nat} {v : Value} : (a.put o v).defers = a.defers := by cases o <;> rfl
theorem Inv.step {C W e C' W' e' : List Nat} {D : Array Bool} {E E' : Sl} {a : Act} {w w' : World} (hk : DOK n ops) (h : Inv P n s0 d ops C W e D E a w) {i : Nat} {o : Oper} (ho : ops.toList[i]? = some o)
 (hi : D.getD i false = false) (hp : ∀ j ∈ predsOf o, D.getD j false = true) (hC : ∀ m ∈ C, m ∈ C') (hiC : i ∈ C') (he : ∀ m ∈ e', m ∈ e ∨ m = i) (hW : ∀ m ∈ W', m ∈ C') (htop : TopL ops C')
 (hE : ∀ q, D.getD q false = true → gt E' q = gt E q) (hpe : ∀ p ∈ C', (D.setIfInBounds i true).getD p false = false → Pend P n s0 ops E' W' w' p) :
 Inv P n s0 d ops C' W' e' (D.setIfInBounds i true) E' (a.put o.dst (gt E' i)) w' := by
 have hisz : i < ops.size := by
  have := (List.getElem?_eq_some_iff.1 ho).1
  simpa using this
 have hiD : i < D.size := by rw [h.sz]; exact hisz
 refine ⟨by simp [h.sz], ?_, ?_, ?_, hW, htop, by rw [put_defers]; exact h.fr0, by rw [put_size]; exact h.frs, ?_, ?_, hpe⟩
 ·intro m om hom hm j hj
  rw [getD_set hiD] at hm ⊢
  by_cases hmi : m = i
  ·subst hmi
   rw [ho] at hom
   injection hom with hom
   subst hom
   simp [hp j hj]
  ·simp only [hmi, if_false] at hm
   simp [h.down m om hom hm j hj]
 ·intro m hm
  rw [getD_set hiD] at hm
  by_cases hmi : m = i
  ·exact hmi ▸ hiC
  ·simp only [hmi, if_false] at hm
   exact hC m (h.sub m hm)
 ·intro m hm
  rw [getD_set hiD]
  rcases he m hm with hm | hm
  ·simp [h.eff m hm]
  ·simp [hm]
 ·intro x hx q hq hd
  rw [put_get (by rw [h.frs]; exact hx)]
  rw [getD_set hiD] at hq
  by_cases hqi : q = i
  ·subst hqi
   have := dsOf_get ho
   rw [hd] at this
   injection this with this
   simp [← this]
  ·simp only [hqi, if_false] at hq
   have hne : ¬ o.dst = some x := by
    intro he
    have h2 := dsOf_get ho
    rw [he] at h2
    exact hqi (uniqB_spec hk.uq hd h2)
   rw [if_neg hne, h.fr1 x hx q hq hd, hE q hq]
 ·intro x hx hno
  rw [put_get (by rw [h.frs]; exact hx)]
  have hne : ¬ o.dst = some x := by
   intro he
   have h2 := dsOf_get ho
   rw [he] at h2
   exact hno i (by rw [getD_set hiD]; simp) h2
  rw [if_neg hne]
  refine h.fr2 x hx fun q hq => hno q ?_
  rw [getD_set hiD]
  simp [hq]
theorem Inv.pur {C W e : List Nat} {D : Array Bool} {E : Sl} {a : Act} {w : World} (hk : DOK n ops) (h : Inv P n s0 d ops C W e D E a w) {i : Nat} {o : Oper} {v : Value} {wi : Bool} (ho : ops.toList[i]? = some o)
 (hi : i ∉ C) (hp : ∀ j ∈ predsOf o, j ∈ C)
 (hrun : (wantedD n s0 ops E i o = true → PRun P wi o (evD n s0 (dsOf ops) E i) w v) ∧ (wantedD n s0 ops E i o = false → v = undef)) :
 Inv P n s0 d ops (i :: C) (bif wi then i :: W else W) e D ((i, v) :: E) a w := by
 have hDi : D.getD i false = false := by
  cases hd : D.getD i false with
  | false => rfl
  | true => exact absurd (h.sub i hd) hi
 have htop : TopL ops (i :: C) := ⟨⟨o, ho, hp⟩, hi, h.top⟩
 have hEq : ∀ q, D.getD q false = true → gt ((i, v) :: E) q = gt E q := fun q hq => by
  have hne : i ≠ q := fun e => by rw [← e, hDi] at hq; cases hq
  exact gt_other hne _ _
 have hself : ∀ t, evD n s0 (dsOf ops) ((i, v) :: E) i (.tmp t) = evD n s0 (dsOf ops) E i (.tmp t) := by
  intro t
  simp only [evD]
  cases hf : fw (dsOf ops) 0 i t with
  | none => rfl
  | some q =>
   have hq := (fw_some hf).2.1
   have hne : i ≠ q := by omega
   exact gt_other hne _ _
 refine ⟨h.sz, h.down, fun m hm => List.mem_cons_of_mem _ (h.sub m hm), h.eff, ?_, htop, h.fr0, h.frs, ?_, h.fr2, ?_⟩
 ·intro m hm
  cases wi with
  | true =>
   rcases List.mem_cons.1 hm with e | e
   ·exact e ▸ List.mem_cons_self
   ·exact List.mem_cons_of_mem _ (h.wsub m e)
  | false => exact List.mem_cons_of_mem _ (h.wsub m hm)
 ·intro x hx q hq hd
  rw [hEq q hq]
  exact h.fr1 x hx q hq hd
 ·intro p hpC hpD
  rcases List.mem_cons.1 hpC with e | e
  ·subst e
   intro o' ho'
   rw [ho] at ho'
   injection ho' with ho'
   subst ho'
   have e1 : execOp (evD n s0 (dsOf ops) ((p, v) :: E) p) o = execOp (evD n s0 (dsOf ops) E p) o := by
    refine execOp_congr o ?_ ?_
    ·intro cs b hs
     have := (hk.nd o (List.mem_of_getElem? ho)).2
     unfold noSel at this
     rw [hs] at this
     cases this
    ·intro x _
     cases x with
     | tmp t => exact hself t
     | _ => rfl
   have e2 : wantedD n s0 ops ((p, v) :: E) p o = wantedD n s0 ops E p o := by
    unfold wantedD
    cases o.guard with
    | none => rfl
    | some gw =>
     obtain ⟨g, want⟩ := gw
     simp only [gvD]
     cases hd : (dsOf ops)[g]? with
     | none => rfl
     | some x => cases x with
      | none => rfl
      | some t => simp only [hself]
   rw [e2, gt_same]
   refine ⟨fun hw => ?_, hrun.2⟩
   obtain ⟨a1, a2⟩ := hrun.1 hw
   unfold PRun
   rw [e1]
   refine ⟨fun hm => ?_, a2⟩
   cases wi with
   | true => exact a1 rfl
   | false => exact absurd (h.wsub p (memB_iff.1 hm)) hi
  ·refine Pend.ext hk h.top hi e ?_ (h.pend p e hpD)
   intro hm
   cases wi with
   | true =>
    rcases List.mem_cons.1 (memB_iff.1 hm) with e' | e'
    ·exact absurd (e' ▸ e) hi
    ·exact memB_iff.2 e'
   | false => exact hm
theorem keF_elim {E : Sl} {w : World} {R : Prop} : ∀ {ks : List Nat}, keF P n s0 ops (dsOf ops) E w ks R →
 (∀ p ∈ ks, ∃ o s, ops.toList[p]? = some o ∧ semV o (evD n s0 (dsOf ops) E p) = some s ∧ (wantedD n s0 ops E p o = true → s.run P w = .ok (gt E p) w)) ∧ R
 | [], h => ⟨fun p hp => (by cases hp), h⟩
 | p :: ps, h => by
  unfold keF at h
  cases ho : ops[p]? with
  | none => simp [ho] at h
  | some o =>
   simp only [ho] at h
   cases hs : semV o (evD n s0 (dsOf ops) E p) with
   | none => simp [hs] at h
   | some s =>
    simp only [hs] at h
    have ho' : ops.toList[p]? = some o := by simpa using ho
    cases hg : o.guard with
    | none =>
     simp only [hg] at h
     obtain ⟨h1, h2⟩ := h
     obtain ⟨h3, h4⟩ := keF_elim h2
     refine ⟨fun q hq => ?_, h4⟩
     rcases List.mem_cons.1 hq with e | e
     ·exact ⟨o, s, e ▸ ho', e ▸ hs, fun _ => e ▸ h1⟩
     ·exact h3 q e
    | some gw =>
     obtain ⟨g, want⟩ := gw
     simp only [hg] at h
     obtain ⟨h1, h2⟩ := h
     obtain ⟨h3, h4⟩ := keF_elim h2
     refine ⟨fun q hq => ?_, h4⟩
     rcases List.mem_cons.1 hq with e | e
     ·refine ⟨o, s, e ▸ ho', e ▸ hs, fun hw => e ▸ h1 ?_⟩
      simpa [wantedD, hg, e] using hw
     ·exact h3 q e
def isPur : PT → Bool | .pur .. => true | _ => false
theorem GdP_cases {y : Value} {want : Bool} {A : (Value → Prop) → Prop} {K : Value → Prop} (h : GdP y want A K) : gok y want = true ∧ A K ∨ gok y want = false ∧ K undef := by
 unfold GdP at h
 cases y <;> simp only at h <;> first | exact .inr ⟨rfl, h⟩ | skip
 rename_i b
 cases b <;> cases want <;> first | exact .inl ⟨rfl, h⟩ | exact .inr ⟨rfl, h⟩
abbrev prOf (ops : Array Oper) : List (List Nat) := ops.toList.map predsOf
abbrev bmOf (ops : Array Oper) : List Nat := bmAll ops.toList []
theorem preds_sub {i : Nat} {C : List Nat} (h : subB (predsAt (prOf ops) i) C = true) {o : Oper} (ho : ops.toList[i]? = some o) : ∀ j ∈ predsOf o, j ∈ C := by
 intro j hj
 have : predsAt (prOf ops) i = predsOf o := by simp [predsAt, prOf, List.getD_eq_getElem?_getD, ho]
 rw [this] at h
 exact memB_iff.1 (List.all_eq_true.1 h j hj)
theorem preds_sub' {i : Nat} {C : List Nat} {o : Oper} (ho : ops.toList[i]? = some o) (h : ∀ j ∈ predsOf o, j ∈ C) : subB (predsAt (prOf ops) i) C = true := by
 have : predsAt (prOf ops) i = predsOf o := by simp [predsAt, prOf, List.getD_eq_getElem?_getD, ho]
 rw [this]
 exact List.all_eq_true.2 fun j hj => memB_iff.2 (h j hj)
theorem get_of_lt {i : Nat} (h : i < ops.toList.length) : ∃ o, ops.toList[i]? = some o ∧ ops[i]? = some o := by
 refine ⟨ops.toList[i], List.getElem?_eq_getElem h, ?_⟩
 have : i < ops.size := by simpa using h
 simp [this]
theorem advance {pan : List PanicEntry → World → Prop} {K : Sl → World → Prop} {w : World} {a : Act} {D : Array Bool} {e : List Nat} (hk : DOK n ops) : ∀ (t : PT) (C W : List Nat) (E : Sl),
 chk ops.toList.length (prOf ops) (bmOf ops) true t C W e = true → Inv P n s0 d ops C W e D E a w → drF P n s0 ops (dsOf ops) pan t E w K →
 ∃ t' C' W' E', isPur t' = false ∧ chk ops.toList.length (prOf ops) (bmOf ops) true t' C' W' e = true ∧ Inv P n s0 d ops C' W' e D E' a w ∧ drF P n s0 ops (dsOf ops) pan t' E' w K
 | .pur wi i t, C, W, E, hc, hI, hf => by
  simp only [chk, Bool.true_and, Bool.and_eq_true, Bool.not_eq_true'] at hc
  obtain ⟨h1, h2, h3, h4⟩ := hc
  have hlt : i < ops.toList.length := by simpa [Nat.blt_eq] using h2
  obtain ⟨o, ho, ho'⟩ := get_of_lt hlt
  have hiC : i ∉ C := fun h => by rw [memB_iff.2 h] at h1; cases h1
  have hp := preds_sub h3 ho
  simp only [drF, ho'] at hf
  have key : ∃ v, ((wantedD n s0 ops E i o = true → PRun P wi o (evD n s0 (dsOf ops) E i) w v) ∧ (wantedD n s0 ops E i o = false → v = undef)) ∧ drF P n s0 ops (dsOf ops) pan t ((i, v) :: E) w K := by
   cases hg : o.guard with
   | none =>
    simp only [hg] at hf
    obtain ⟨v, hr, hk'⟩ := purF_run hf
    exact ⟨v, ⟨fun _ => hr, fun hw => by simp [wantedD, hg] at hw⟩, hk'⟩
   | some gw =>
    obtain ⟨g, want⟩ := gw
    simp only [hg] at hf
    rcases GdP_cases hf with ⟨g1, g2⟩ | ⟨g1, g2⟩
    ·obtain ⟨v, hr, hk'⟩ := purF_run g2
     exact ⟨v, ⟨fun _ => hr, fun hw => by simp [wantedD, hg, g1] at hw⟩, hk'⟩
    ·exact ⟨undef, ⟨fun hw => by simp [wantedD, hg, g1] at hw, fun _ => rfl⟩, g2⟩
  obtain ⟨v, hr, hf'⟩ := key
  exact advance hk t _ _ _ h4 (hI.pur hk ho hiC hp hr) hf'
 | .done, C, W, E, hc, hI, hf => ⟨_, C, W, E, rfl, hc, hI, hf⟩
 | .eff i ks t, C, W, E, hc, hI, hf => ⟨_, C, W, E, rfl, hc, hI, hf⟩
 | .alt a b, C, W, E, hc, hI, hf => ⟨_, C, W, E, rfl, hc, hI, hf⟩
theorem pick_head {pan : List PanicEntry → World → Prop} {K : Sl → World → Prop} {w : World} {C W e : List Nat} {E : Sl} {i : Nat} : ∀ (t : PT) (top : Bool),
 chk ops.toList.length (prOf ops) (bmOf ops) top t C W e = true → drF P n s0 ops (dsOf ops) pan t E w K → i ∈ heads t →
 ∃ ks t', chk ops.toList.length (prOf ops) (bmOf ops) false (.eff i ks t') C W e = true ∧ drF P n s0 ops (dsOf ops) pan (.eff i ks t') E w K
 | .eff j ks t, top, hc, hf, hi => by
  simp only [heads, List.mem_singleton] at hi
  subst hi
  refine ⟨ks, t, ?_, hf⟩
  simp only [chk, Bool.and_eq_true] at hc ⊢
  exact ⟨rfl, hc.2⟩
 | .alt a b, top, hc, hf, hi => by
  simp only [chk, Bool.and_eq_true] at hc
  simp only [heads, List.mem_append] at hi
  rcases hi with hi | hi
  ·exact pick_head a false hc.2.1 hf.1 hi
  ·exact pick_head b false hc.2.2 hf.2 hi
 | .done, _, _, _, hi => by cases hi
 | .pur .., _, _, _, hi => by cases hi
theorem cover {C W e : List Nat} {t : PT} (hp : isPur t = false) (hc : chk ops.toList.length (prOf ops) (bmOf ops) true t C W e = true) {i : Nat} {o : Oper} (ho : ops.toList[i]? = some o) (hi : i ∉ C) (hpr : ∀ j ∈ predsOf o, j ∈ C) : i ∈ heads t := by
 have hlt := (List.getElem?_eq_some_iff.1 ho).1
 have hm : memB i C = false := by cases h : memB i C with | false => rfl | true => exact absurd (memB_iff.1 h) hi
 have hs := preds_sub' ho hpr
 cases t with
 | done =>
  simp only [chk, Bool.true_and] at hc
  have := allB_iff.1 hc i hlt
  rw [hm] at this
  cases this
 | pur => cases hp
 | eff j ks t =>
  simp only [chk, Bool.and_eq_true, Bool.not_true, Bool.false_or] at hc
  have := allB_iff.1 hc.1 i hlt
  simp only [hm, hs, Bool.not_true, Bool.false_or] at this
  simp [heads, Nat.eq_of_beq_eq_true this]
 | alt a b =>
  simp only [chk, Bool.and_eq_true, Bool.not_true, Bool.false_or] at hc
  have := allB_iff.1 hc.1 i hlt
  simp only [hm, hs, Bool.not_true, Bool.false_or] at this
  exact memB_iff.1 this
theorem ready_iff {D : Array Bool} {i : Nat} : i ∈ Region.ready .any ops D ↔ i < ops.size ∧ D.getD i true = false ∧ ∃ o, ops[i]? = some o ∧ ∀ j ∈ predsOf o, D.getD j false = true := by
 unfold Region.ready
 simp only [List.mem_filter, List.mem_range, Bool.and_eq_true, Bool.not_eq_true']
 constructor
 ·rintro ⟨h1, h2, h3⟩
  refine ⟨h1, h2, ?_⟩
  have ho : ops[i]? = some ops[i] := Array.getElem?_eq_getElem h1
  rw [ho] at h3
  refine ⟨ops[i], ho, fun j hj => ?_⟩
  simp only [Option.map_some, Option.getD_some, Array.all_eq_true'] at h3
  simp only [predsOf, List.mem_map, List.mem_filter] at hj
  obtain ⟨e, ⟨he, hb⟩, rfl⟩ := hj
  have := h3 e (by simpa using he)
  simpa [hb] using this
 ·rintro ⟨h1, h2, o, ho, h3⟩
  refine ⟨h1, h2, ?_⟩
  rw [ho]
  simp only [Option.map_some, Option.getD_some, Array.all_eq_true']
  intro e he
  cases hb : Region.binds .any e with
  | false => simp
  | true => simpa using h3 e.on (List.mem_map.2 ⟨e, List.mem_filter.2 ⟨by simpa using he, hb⟩, rfl⟩)
theorem getD_tf {D : Array Bool} {i : Nat} (h : i < D.size) : D.getD i true = D.getD i false := by
 simp [Array.getD_eq_getD_getElem?, h]
def left (sz : Nat) (D : Array Bool) : Nat := ((List.range sz).filter fun m => !D.getD m false).length
theorem left_set {D : Array Bool} {i : Nat} (hi : i < D.size) (hd : D.getD i false = false) : left D.size (D.setIfInBounds i true) < left D.size D := by
 unfold left
 refine cnt_lt (i := i) ?_ (by simpa using hi) (by simp [hd]) (by rw [getD_set hi]; simp)
 intro x hx
 rw [getD_set hi] at hx
 by_cases h : x = i
 ·simp [h] at hx
 ·simpa [h] using hx
theorem drF_sound {Q : Exit → Act → World → Prop} {pan : List PanicEntry → World → Prop} {K : Sl → World → Prop} (hk : DOK n ops)
 (hK : ∀ E w, K E w → Q .normal ⟨toA n (finS (dsOf ops) 0 E s0), d⟩ w)
 (hpan : ∀ c a w, pan c w → a.defers = d → a.tmps.size = n → (∀ x, x < n → (∀ q : Nat, (dsOf ops)[q]? ≠ some (some x)) → a.tmps[x]? = some (gt s0 x)) → Q (.panic c) a w) :
 ∀ (fuel : Nat) (t : PT) (C W e : List Nat) (D : Array Bool) (E : Sl) (a : Act) (w : World),
  chk ops.toList.length (prOf ops) (bmOf ops) true t C W e = true → Inv P n s0 d ops C W e D E a w → drF P n s0 ops (dsOf ops) pan t E w K → left ops.size D ≤ fuel →
  wpAnyIn (Wd r) 9 P .any ops Q fuel D a w := by
 have fin : ∀ (t : PT) (C W e : List Nat) (D : Array Bool) (E : Sl) (a : Act) (w : World),
  chk ops.toList.length (prOf ops) (bmOf ops) true t C W e = true → Inv P n s0 d ops C W e D E a w → drF P n s0 ops (dsOf ops) pan t E w K → Region.ready .any ops D = [] → Q .normal a w := by
  intro t C W e D E a w hc hI hf hr
  obtain ⟨t', C', W', E', hp, hc', hI', hf'⟩ := advance hk t C W E hc hI hf
  have hno : ∀ i o, ops.toList[i]? = some o → D.getD i false = false → ¬ ∀ j ∈ predsOf o, D.getD j false = true := by
   intro i o ho hd hj
   have hlt : i < ops.size := by simpa using (List.getElem?_eq_some_iff.1 ho).1
   have : i ∈ Region.ready .any ops D := ready_iff.2 ⟨hlt, by rw [getD_tf (by rw [hI.sz]; exact hlt)]; exact hd, o, by simpa using ho, hj⟩
   rw [hr] at this
   cases this
  have hCD : ∀ p ∈ C', D.getD p false = true := by
   refine fun p hp => Classical.byContradiction fun hn => ?_
   obtain ⟨q, hq, hn, o, ho, hj⟩ := TopL.first (D := fun m => D.getD m false = true) hI'.top ⟨p, hp, hn⟩
   exact hno q o ho (by simpa using hn) hj
  have hdone : t' = .done := by
   cases t' with
   | done => rfl
   | pur => cases hp
   | eff i ks t1 =>
    simp only [chk, Bool.and_eq_true] at hc'
    obtain ⟨_, h1, h2, h3, _⟩ := hc'
    have hlt : i < ops.toList.length := by simpa [Nat.blt_eq] using h2
    obtain ⟨o, ho, _⟩ := get_of_lt hlt
    have hiC : i ∉ C' := fun h => by rw [memB_iff.2 h] at h1; cases h1
    have hd : D.getD i false = false := by
     cases hd : D.getD i false with
     | false => rfl
     | true => exact absurd (hI'.sub i hd) hiC
    exact absurd (fun j hj => hCD j (preds_sub h3 ho j hj)) (hno i o ho hd)
   | alt x y =>
    exfalso
    have : ∃ i, i ∈ heads (.alt x y) := by
     have hh : ∀ t : PT, isPur t = false → t ≠ .done → (∀ top, chk ops.toList.length (prOf ops) (bmOf ops) top t C' W' e = true → ∃ i, i ∈ heads t) := by
      intro t
      induction t with
      | done => intro _ h; exact absurd rfl h
      | pur => intro h; cases h
      | eff i => intro _ _ _ _; exact ⟨i, by simp [heads]⟩
      | alt a b iha ihb =>
       intro _ _ top hc
       simp only [chk, Bool.and_eq_true] at hc
       have hpa : isPur a = false := by
        cases a with
        | pur => have := hc.2.1; simp [chk] at this
        | _ => rfl
       have hda : a ≠ .done := by
        intro e; subst e; have := hc.2.1; simp [chk] at this
       obtain ⟨i, hi⟩ := iha hpa hda false hc.2.1
       exact ⟨i, by simp [heads, hi]⟩
     exact hh _ hp (by intro h; cases h) true hc'
    obtain ⟨i, hi⟩ := this
    obtain ⟨ks, t1, hcc, _⟩ := pick_head _ true hc' hf' hi
    simp only [chk, Bool.and_eq_true] at hcc
    obtain ⟨_, h1, h2, h3, _⟩ := hcc
    have hlt : i < ops.toList.length := by simpa [Nat.blt_eq] using h2
    obtain ⟨o, ho, _⟩ := get_of_lt hlt
    have hiC : i ∉ C' := fun h => by rw [memB_iff.2 h] at h1; cases h1
    have hd : D.getD i false = false := by
     cases hd : D.getD i false with
     | false => rfl
     | true => exact absurd (hI'.sub i hd) hiC
    exact absurd (fun j hj => hCD j (preds_sub h3 ho j hj)) (hno i o ho hd)
  subst hdone
  simp only [chk, Bool.true_and] at hc'
  have hall : ∀ i, i < ops.size → D.getD i false = true := fun i hi => hCD i (memB_iff.1 (allB_iff.1 hc' i (by simpa using hi)))
  have ha : a = ⟨toA n (finS (dsOf ops) 0 E' s0), d⟩ := by
   obtain ⟨tm, df⟩ := a
   have h1 := hI'.fr0
   simp only at h1
   subst h1
   congr 1
   apply Array.ext_getElem?
   intro x
   rw [toA_get?]
   by_cases hx : x < n
   ·rw [if_pos hx]
    by_cases hq : ∃ q : Nat, (dsOf ops)[q]? = some (some x)
    ·obtain ⟨q, hq⟩ := hq
     have hlt : q < ops.size := by
      obtain ⟨o, ho, _⟩ := mem_of_dsOf hq
      simpa using (List.getElem?_eq_some_iff.1 ho).1
     rw [finS_yes hk.uq hq, Nat.zero_add]
     exact hI'.fr1 x hx q (hall q hlt) hq
    ·rw [finS_no (fun k hk' => hq ⟨k, hk'⟩)]
     exact hI'.fr2 x hx fun q _ hq' => hq ⟨q, hq'⟩
   ·rw [if_neg hx, Array.getElem?_eq_none]
    have := hI'.frs
    simp only at this
    omega
  rw [ha]
  exact hK E' w hf'
 intro fuel
 induction fuel with
 | zero =>
  intro t C W e D E a w hc hI hf hl
  have hr : Region.ready .any ops D = [] := by
   cases hh : Region.ready .any ops D with
   | nil => rfl
   | cons i l =>
    have hi : i ∈ Region.ready .any ops D := by rw [hh]; simp
    obtain ⟨h1, h2, _⟩ := ready_iff.1 hi
    have h3 : i < D.size := by rw [hI.sz]; exact h1
    have := left_set h3 (by rw [← getD_tf h3]; exact h2)
    rw [hI.sz] at this
    omega
  exact ⟨hr, fin t C W e D E a w hc hI hf hr⟩
 | succ fuel ih =>
  intro t C W e D E a w hc hI hf hl
  refine ⟨fin t C W e D E a w hc hI hf, ?_⟩
  intro i hi
  obtain ⟨hlt, hd, o, ho, hpr⟩ := ready_iff.1 hi
  have hiD : i < D.size := by rw [hI.sz]; exact hlt
  rw [getD_tf hiD] at hd
  have hleft : left ops.size (D.setIfInBounds i true) ≤ fuel := by
   have := left_set hiD hd
   rw [hI.sz] at this
   omega
  have ho' : ops.toList[i]? = some o := by simpa using ho
  obtain ⟨t', C', W', E', hp, hc', hI', hf'⟩ := advance hk t C W E hc hI hf
  have hwt := hI'.wanted hk ho' hd hpr
  have hex := hI'.exec hk ho' hd hpr
  have hndo : ∀ c, o.op ≠ .defer c := by
   intro c hcc
   have := (hk.nd o (List.mem_of_getElem? ho')).1
   unfold noDefer at this
   rw [hcc] at this
   cases this
  unfold wpOpIn
  simp only [ho]
  rw [hwt]
  by_cases hiC : i ∈ C'
  ·
   have hpend := hI'.pend i hiC hd o ho'
   have hnew : wpAnyIn (Wd r) 9 P .any ops Q fuel (D.setIfInBounds i true) (a.put o.dst (gt E' i)) w :=
    ih t' C' W' e _ E' _ w hc' (hI'.step hk ho' hd hpr (fun m hm => hm) hiC (fun m hm => .inl hm) hI'.wsub hI'.top (fun _ _ => rfl)
     (fun p hpC hpD => hI'.pend p hpC (by
      rw [getD_set hiD] at hpD
      by_cases hpi : p = i
      ·simp [hpi] at hpD
      ·simpa [hpi] using hpD))) hf' hleft
   by_cases hw : wantedD n s0 ops E' i o = true
   ·rw [if_pos hw]
    refine N_wpIn hndo ?_
    rw [hex]
    unfold N
    rw [(hpend.1 hw).2]
    exact hnew
   ·rw [if_neg hw]
    have := hpend.2 (by simpa using hw)
    rw [this] at hnew
    exact ⟨fun _ _ => trivial, hnew⟩
  ·
   have hprC : ∀ j ∈ predsOf o, j ∈ C' := fun j hj => hI'.sub j (hpr j hj)
   have hh := cover hp hc' ho' hiC hprC
   obtain ⟨ks, t1, hcc, hff⟩ := pick_head t' true hc' hf' hh
   simp only [chk, Bool.and_eq_true] at hcc
   obtain ⟨_, _, _, _, hks, hc1⟩ := hcc
   simp only [drF, ho] at hff
   have hnext : ∀ v w', keF P n s0 ops (dsOf ops) E' w' ks (drF P n s0 ops (dsOf ops) pan t1 ((i, v) :: E') w' K) →
    wpAnyIn (Wd r) 9 P .any ops Q fuel (D.setIfInBounds i true) (a.put o.dst v) w' := by
    intro v w' hke
    obtain ⟨k1, k2⟩ := keF_elim hke
    have htop : TopL ops (i :: C') := ⟨⟨o, ho', hprC⟩, hiC, hI'.top⟩
    have hst : Inv P n s0 d ops (i :: C') W' (i :: e) (D.setIfInBounds i true) ((i, v) :: E') (a.put o.dst (gt ((i, v) :: E') i)) w' := by
     refine hI'.step hk ho' hd hpr (fun m hm => List.mem_cons_of_mem _ hm) List.mem_cons_self (fun m hm => ?_) (fun m hm => List.mem_cons_of_mem _ (hI'.wsub m hm)) htop ?_ ?_
     ·rcases List.mem_cons.1 hm with e | e
      ·exact .inr e
      ·exact .inl e
     ·intro q hq
      have hne : i ≠ q := fun e => by rw [← e, hd] at hq; cases hq
      exact gt_other hne _ _
     ·intro p hpC hpD
      rw [getD_set hiD] at hpD
      by_cases hpi : p = i
      ·simp [hpi] at hpD
      ·simp only [hpi, if_false] at hpD
       have hpC' : p ∈ C' := (List.mem_cons.1 hpC).resolve_left hpi
       have hpend := hI'.pend p hpC' hpD
       refine Pend.ext hk hI'.top hiC hpC' (fun h => h) ?_
       intro op hop
       obtain ⟨p1, p2⟩ := hpend op hop
       refine ⟨fun hw => ?_, p2⟩
       obtain ⟨q1, q2⟩ := p1 hw
       refine ⟨q1, ?_⟩
       have hcase := List.all_eq_true.1 hks p hpC'
       simp only [Bool.or_eq_true] at hcase
       rcases hcase with ((hcase | hcase) | hcase) | hcase
       ·exact q1 hcase w'
       ·have := hI'.eff p (memB_iff.1 hcase)
        rw [hpD] at this
        cases this
       ·obtain ⟨o2, s2, ho2, hs2, hr2⟩ := k1 p (memB_iff.1 hcase)
        rw [hop] at ho2
        injection ho2 with ho2
        subst ho2
        exact semV_run hs2 (hr2 hw)
       ·have := bm_closed (L := ops.toList) (D := fun m => D.getD m false = true) (fun m o ho hm j hj => hI'.down m o ho hm j hj) i o ho' hpr p hcase
        rw [hpD] at this
        cases this
    rw [gt_same] at hst
    exact ih t1 (i :: C') W' (i :: e) _ _ _ w' hc1 hst k2 hleft
   have hrun : ∀ K', opF P pan o (evD n s0 (dsOf ops) E' i) w K' → (∀ v w', K' v w' → wpAnyIn (Wd r) 9 P .any ops Q fuel (D.setIfInBounds i true) (a.put o.dst v) w') →
    o.wpIn (Wd r) 9 P a w (wpAnyIn (Wd r) 9 P .any ops Q fuel (D.setIfInBounds i true)) Q := by
    intro K' hK' hn
    refine N_wpIn hndo ?_
    rw [hex]
    refine upN_mono (opF_N (fun _ => rfl) hK') (fun c w' hcw => ?_) hn
    exact hpan c a w' hcw hI'.fr0 hI'.frs (fun x hx hno => hI'.fr2 x hx fun q _ => hno q)
   cases hg : o.guard with
   | none =>
    simp only [hg] at hff
    have hw : wantedD n s0 ops E' i o = true := by simp [wantedD, hg]
    rw [if_pos hw]
    exact hrun _ hff hnext
   | some gw =>
    obtain ⟨g, want⟩ := gw
    simp only [hg] at hff
    rcases Gd_cases hff with ⟨g1, g2⟩ | ⟨g1, g2⟩
    ·have hw : wantedD n s0 ops E' i o = true := by simp [wantedD, hg, g1]
     rw [if_pos hw]
     exact hrun _ g2 hnext
    ·have hw : ¬ wantedD n s0 ops E' i o = true := by simp [wantedD, hg, g1]
     rw [if_neg hw]
     exact ⟨fun _ _ => trivial, hnext _ _ g2⟩
end
inductive H where
 | z
 | sq (a b : H)
 | jn (live dead : List Nat) (a b : H)
 | cd (a b : H)
 | bk (a : H)
 | lp (live dead : List Nat) (a : H)
 | dr (t : PT)
 | rf (a : H) (exits : List Nat)
 | sc (live dead : List Nat) (a b c : H)
def mods : Code → List Nat
 | .region _ ops _ => dsts ops.toList
 | .seq a b => mods a ++ mods b
 | .cond _ a b => mods a ++ mods b
 | .block _ a => mods a
 | .loop a => mods a
 | .scope a => mods a
 | _ => []
def nsub (l m k : List Nat) : Bool := l.all fun i => memB i m || memB i k
theorem nsub_iff {l m k : List Nat} (h : nsub l m k = true) {i : Nat} (hi : i ∈ l) : i ∈ m ∨ i ∈ k := by
 have := List.all_eq_true.1 h i hi
 simp only [Bool.or_eq_true] at this
 exact this.imp memB_iff.1 memB_iff.1
def hv (live : List Nat) (vs : List Value) (dead : List Nat) (u : Nat → Value) (s : Sl) : Sl :=
 match live, vs with
 | i :: l, v :: vs => (i, v) :: hv l vs dead u s
 | _, _ => dead.map (fun i => (i, u i)) ++ s
theorem gt_dead (dead : List Nat) (u : Nat → Value) (s : Sl) (i : Nat) : gt (dead.map (fun i => (i, u i)) ++ s) i = if i ∈ dead then u i else gt s i := by
 induction dead with
 | nil => simp
 | cons j l ih =>
  simp only [List.map_cons, List.cons_append]
  by_cases h : j = i
  ·subst h; simp [gt_same]
  ·rw [gt_other h, ih]
   simp only [List.mem_cons]
   have : ¬ i = j := fun e => h e.symm
   simp [this]
theorem gt_hv (live dead : List Nat) (s s' : Sl) (i : Nat) : gt (hv live (live.map (gt s')) dead (gt s') s) i = if i ∈ live ∨ i ∈ dead then gt s' i else gt s i := by
 induction live with
 | nil => simp [hv, gt_dead]
 | cons j l ih =>
  simp only [List.map_cons, hv]
  by_cases h : j = i
  ·subst h; simp [gt_same]
  ·rw [gt_other h, ih]
   have : ¬ i = j := fun e => h e.symm
   simp [this]
def thenQ (K : St → World → Prop) (Q : Exit → St → World → Prop) : Exit → St → World → Prop
 | .normal, st, w => K st w
 | e, st, w => Q e st w
def inBlk (id : Nat) (Q : Exit → St → World → Prop) : Exit → St → World → Prop
 | .exit j, st, w => match Nat.beq j id with
  | true => Q .normal st w
  | false => Q (.exit j) st w
 | e, st, w => Q e st w
def gtQ (l : Nat) (K : St → World → Prop) (Q : Exit → St → World → Prop) : Exit → St → World → Prop
 | .goto j, st, w => match Nat.beq j l with
  | true => K st w
  | false => False
 | e, st, w => Q e st w
def JnN (k : Nat) (A : (List Value → World → Prop) → Prop) (B : List Value → World → Prop) : Prop :=
 ∀ K : PredN k, AllN k (fun vs => ∀ w, B vs w → appN k K vs w) → A (appN k K)
def LpN (k : Nat) (init : List Value) (w : World) (B : List Value → World → (List Value → World → Prop) → Prop) : Prop :=
 ∃ (I : PredN k) (μ : MeasN k), appN k I init w ∧ AllN k (fun vs => ∀ w, appN k I vs w → B vs w (fun vs' w' => appN k I vs' w' ∧ appM k μ vs' w' < appM k μ vs w))
structure Bk (B : Nat) (W W' : World) : Prop where
 os : W'.os = W.os
 tape : W'.tape = W.tape
 output : W'.output = W.output
 size : W.heap.size ≤ W'.heap.size
 block : ∀ k, k < W.heap.size → W'.heap[k]? = W.heap[k]? ∨ (B ≤ k ∧ ∃ r r', W.heap[k]? = some (.loop r) ∧ W'.heap[k]? = some (.loop r'))
structure Kf (B : Nat) (W W' : World) : Prop where
 size : W.heap.size ≤ W'.heap.size
 block : ∀ k, B ≤ k → k < W.heap.size → ((∃ r, W.heap[k]? = some (.loop r)) ∨ ∃ r, W.heap[k]? = some (.deferred r)) → W'.heap[k]? = W.heap[k]?
def Yd (P : Program) (l : Nat) (vs : List Value) (W : World) (R : Bool → World → Prop) : Prop :=
 N P (Instr.yield l vs.toArray) W (fun _ _ => False) (fun v W' => ∃ b, v = .bool b ∧ R b W')
def IterG (P : Program) (gf : FuncId) (lb : Array Value) (n : Nat) (Y : Nat → List Value → World → Prop) (Rl : World → World → Prop) (w : World) (J : Nat → World → Prop) : Prop :=
 ∀ (l : Nat) (JJ : Nat → World → Prop) (XX : World → Prop) (W1 : World), Below w.heap.size w W1 → (∀ i W, JJ i W → J i W) →
  (∀ i W W', JJ i W → Rl W W' → JJ i W') → (∀ W W', XX W → Rl W W' → XX W') →
  (∀ i vs W, i < n → Y i vs W → JJ i W → Yd P l vs W fun b W' => (b = true ∧ JJ (i + 1) W') ∨ (b = false ∧ XX W')) → JJ 0 W1 →
  Calls P gf (#[.func (.yield l) #[] #[]] ++ lb) W1 fun e W' => (∃ v, e = .returned v) ∧ (JJ n W' ∨ XX W')
structure IterOk (w : World) (Y : Nat → List Value → World → Prop) (Rl : World → World → Prop) (J : Nat → World → Prop) (X : Exit → World → Prop) : Prop where
 jb : ∀ i W W', J i W → Bk w.heap.size W W' → J i W'
 xb : ∀ e W W', X e W → Bk w.heap.size W W' → X e W'
 yb : ∀ i vs W W', Y i vs W → Bk w.heap.size W W' → Y i vs W'
 jr : ∀ i W W', J i W → Rl W W' → J i W'
 xr : ∀ e W W', X e W → Rl W W' → X e W'
 rc : ∀ W W', Rl W W' → Kf w.heap.size W W'
def mark (D : Nat) : Deferred := { target := .collected D, args := #[] }
def RfN (P : Program) (k : Nat) (gv : Value) (w : World) (B : List Value → World → (World → Prop) → (Exit → World → Prop) → Prop) (After Ret : Nat → World → Prop) (Exs : List (Nat × (Nat → World → Prop))) : Prop :=
 ∃ (gf : FuncId) (lb : Array Value) (n : Nat) (Y : Nat → List Value → World → Prop) (Rl : World → World → Prop) (J : Nat → World → Prop) (X : Exit → World → Prop),
  gv = .func (.func gf) #[] lb ∧ Proofs.Enters P gf ∧ (∀ i vs W, Y i vs W → vs.length = k) ∧ IterG P gf lb n Y Rl w J ∧
  IterOk w Y Rl J X ∧ J 0 w ∧
  (AllN k fun vs => ∀ i W, i < n → Y i vs W → J i W → w.heap.size ≤ W.heap.size → B vs W (fun W' => J (i + 1) W' ∧ Kf w.heap.size W W') (fun e W' => X e W' ∧ Kf w.heap.size W W')) ∧
  (∀ D W, w.heap.size ≤ D → W.heap[D]? = some (.deferred (some [])) → J n W → After D W) ∧
  (∀ D W, w.heap.size ≤ D → W.heap[D]? = some (.deferred (some [])) → X .ret W → Ret D W) ∧
  (∀ p ∈ Exs, ∀ D W, w.heap.size ≤ D → W.heap[D]? = some (.deferred (some [])) → X (.exit p.1) W → p.2 D W)
def asgO (n : Nat) : List Oper → Sl → Option Sl
 | [], s => some s
 | o :: os, s => match o.guard with
  | none => match o.op with
   | .move x | .assign x => asgO n os (putO o.dst (ev n s x) s)
   | _ => none
  | some _ => none
def asgS (n : Nat) : Code → Sl → Option Sl
 | .skip, s => some s
 | .region _ ops false, s => asgO n ops.toList s
 | .seq a b, s => match asgS n a s with
  | some s' => asgS n b s'
  | none => none
 | _, _ => none
def zipS (ps : List Tmp) (vs : List Value) (s : Sl) : Sl := match ps, vs with
 | p :: ps, v :: vs => zipS ps vs ((p, v) :: s)
 | _, _ => s
def rndQ (exits : List Nat) (next : World → Prop) (lv : Exit → World → Prop) : Exit → St → World → Prop
 | .normal, _, w => next w
 | .ret, _, w => lv .ret w
 | .exit id, _, w => match memB id exits with
  | true => lv (.exit id) w
  | false => False
 | _, _, _ => False
def norf : Code → Bool
 | .seq a b => norf a && norf b
 | .cond _ a b => norf a && norf b
 | .block _ a => norf a
 | .loop a => norf a
 | .scope a => norf a
 | .rangeFunc .. => false
 | _ => true
def wpA (P : Program) (n : Nat) : Bool → Code → H → (Exit → St → World → Prop) → St → World → Prop
 | _, .skip, _, Q, st, w => Q .normal st w
 | _, .label _, _, Q, st, w => Q .normal st w
 | _, .exit id, _, Q, st, w => Q (.exit id) st w
 | _, .goto l, _, Q, st, w => Q (.goto l) st w
 | _, .ret, _, Q, st, w => Q .ret st w
 | _, .region _ ops false, _, Q, st, w => match ops.toList.all noDefer with
  | true => seqF P n ops (fun c w => Q (.panic c) st w) ops.toList st.s w (fun s w => Q .normal ⟨s, st.d⟩ w)
  | false => False
 | _, .region _ ops true, .dr t, Q, st, w => match chkAll n ops t with
  | true => drF P n st.s ops (dsOf ops) (fun c w => Q (.panic c) st w) t [] w.drew (fun E w => Q .normal ⟨finS (dsOf ops) 0 E st.s, st.d⟩ w)
  | false => False
 | r, .seq a b, .sq ha hb, Q, st, w => wpA P n r a ha (thenQ (fun st w => wpA P n r b hb Q st w) Q) st w
 | r, .seq a b, .jn live dead ha hb, Q, st, w => match nsub (mods a) live dead && norf a with
  | true => JnN live.length (fun k => wpA P n r a ha (thenQ (fun st' w => k (live.map (gt st'.s)) w) Q) st w)
   (fun vs w => ∀ u : Nat → Value, wpA P n r b hb Q ⟨hv live vs dead u st.s, st.d⟩ w)
  | false => False
 | r, .cond c a b, .cd ha hb, Q, st, w => If (ev n st.s c) (wpA P n r a ha Q st w) (wpA P n r b hb Q st w)
 | r, .block id a, .bk h, Q, st, w => wpA P n r a h (inBlk id Q) st w
 | r, .loop a, .lp live dead h, Q, st, w => match nsub (mods a) live dead && norf a && live.all (fun i => Nat.blt i n) with
  | true => LpN live.length (live.map (gt st.s)) w (fun vs w next => ∀ u : Nat → Value, wpA P n r a h (thenQ (fun st' w => next (live.map (gt st'.s)) w) Q) ⟨hv live vs dead u st.s, st.d⟩ w)
  | false => False
 | r, .scope (.seq a (.seq b (.seq (.label l) c))), .sc live dead ha hb hc, Q, st, w => match nsub (mods c) live dead && norf c && live.all (fun i => Nat.blt i n) && (findLabel a l).isNone && (findLabel b l).isNone with
  | true => wpA P n r a ha (thenQ (fun st1 w => wpA P n r b hb (thenQ (fun st2 w =>
   LpN live.length (live.map (gt st2.s)) w (fun vs w next => ∀ u : Nat → Value, wpA P n r c hc (gtQ l (fun st' w => next (live.map (gt st'.s)) w) Q) ⟨hv live vs dead u st2.s, st2.d⟩ w))
   (gtQ l (fun _ _ => False) Q)) st1 w) (gtQ l (fun _ _ => False) Q)) st w
  | false => False
 | false, .rangeFunc g ps asg body, .rf hb exits, Q, st, w => RfN P ps.toList.length (ev n st.s g) w
  (fun vs w next lv => match asgS n asg (zipS ps.toList vs st.s) with
   | some s' => wpA P n true body hb (rndQ exits next lv) ⟨s', []⟩ w
   | none => match hb with
    | .sq ha hb2 => ∀ (W0 : World) (l : Nat) (r r' : Loop), W0.heap[l]? = some (.loop r) → w = W0.putObj l (.loop r') →
     wpA P n true asg ha (thenQ (fun st1 W1 => (∀ k, k < W0.heap.size → W1.heap[k]? = W0.heap[k]?) ∧ st1.d = [] ∧ wpA P n true body hb2 (rndQ exits next lv) ⟨st1.s, []⟩ (W1.putObj l (.loop r'))) (fun _ _ _ => False)) ⟨zipS ps.toList vs st.s, []⟩ W0
    | _ => False)
  (fun D w => Q .normal ⟨st.s, mark D :: st.d⟩ w) (fun D w => Q .ret ⟨st.s, mark D :: st.d⟩ w) (exits.map fun id => (id, fun D w => Q (.exit id) ⟨st.s, mark D :: st.d⟩ w))
 | _, _, _, _, _, _ => False
def PanOK (Q : Exit → St → World → Prop) : Prop := ∀ c st st' w, st.d = st'.d → Q (.panic c) st w → Q (.panic c) st' w
theorem PanOK.then {K : St → World → Prop} {Q : Exit → St → World → Prop} (h : PanOK Q) : PanOK (thenQ K Q) := fun c st st' w hd hq => h c st st' w hd hq
theorem PanOK.inBlk {id : Nat} {Q : Exit → St → World → Prop} (h : PanOK Q) : PanOK (inBlk id Q) := fun c st st' w hd hq => h c st st' w hd hq
theorem PanOK.gtQ {l : Nat} {K : St → World → Prop} {Q : Exit → St → World → Prop} (h : PanOK Q) : PanOK (gtQ l K Q) := fun c st st' w hd hq => h c st st' w hd hq
def lift (n : Nat) (c : Code) (s0 : Sl) (d : List Deferred) (Q : Exit → St → World → Prop) : Exit → Act → World → Prop :=
 fun e a w => ∃ s d', a = ⟨toA n s, d'⟩ ∧ Same n (mods c) s0 s ∧ (norf c = true → d' = d) ∧ Q e ⟨s, d'⟩ w
theorem chkAll_DOK {n : Nat} {ops : Array Oper} {t : PT} (h : chkAll n ops t = true) :
 DOK n ops ∧ chk ops.toList.length (prOf ops) (bmOf ops) true t [] [] [] = true := by
 unfold chkAll at h
 simp only [Bool.and_eq_true] at h
 obtain ⟨⟨h1, hs⟩, h2, h3, h4, h5⟩ := h
 refine ⟨⟨fun o ho => ⟨List.all_eq_true.1 h1 o ho, List.all_eq_true.1 hs o ho⟩, h2, ?_, ?_⟩, h5⟩
 ·intro q x hq
  have := List.all_eq_true.1 h3 _ (List.mem_of_getElem? hq)
  simpa [Nat.blt_eq] using this
 ·intro i o ho s hs q hq hd
  have hi := (List.getElem?_eq_some_iff.1 ho).1
  have hql : q < ops.toList.length := by
   obtain ⟨oq, hoq, _⟩ := mem_of_dsOf hd
   exact (List.getElem?_eq_some_iff.1 hoq).1
  have h6 := allB_iff.1 h4 i hi
  have e1 : (ops.toList.map (looks (dsOf ops))).getD i [] = looks (dsOf ops) o := by simp [List.getD_eq_getElem?_getD, ho]
  have h7 := allB_iff.1 (List.all_eq_true.1 (e1 ▸ h6) s hs) q hql
  have e2 : eqO ((dsOf ops).getD q none) s = true := by
   rw [List.getD_eq_getElem?_getD, hd]; exact eqO_iff.2 rfl
  have e3 : Nat.beq q i = false := by
   cases hb : Nat.beq q i with
   | false => rfl
   | true => exact absurd (Nat.eq_of_beq_eq_true hb) hq
  have e2' : eqO ((ops.toList.map (·.dst)).getD q none) s = true := e2
  rw [e3, e2'] at h7
  simp only [Bool.not_true, Bool.or_false, Bool.false_or] at h7
  constructor
  ·intro hlt
   have hb : Nat.blt q i = true := by simpa [Nat.blt_eq] using hlt
   simpa [hb] using h7
  ·intro hgt
   have hb : Nat.blt q i = false := by
    cases hb : Nat.blt q i with
    | false => rfl
    | true => have : q < i := by simpa [Nat.blt_eq] using hb
              omega
   simpa [hb] using h7
theorem asgO_sound {P : Program} {F : Fence} {n : Nat} {ops : Array Oper} {d : List Deferred} {Q : Exit → Act → World → Prop} {w : World} (hF : ∀ f, F.fn f) : ∀ (m k : Nat) (s s' : Sl), ops.size - k = m → asgO n (ops.toList.drop k) s = some s' →
 Q .normal ⟨toA n s', d⟩ w → wpOpsIn F 9 P ops Q ((List.range ops.size).drop k) ⟨toA n s, d⟩ w := by
 intro m
 induction m with
 | zero =>
  intro k s s' hm h hQ
  have h1 : ops.toList.drop k = [] := List.drop_eq_nil_of_le (by simp; omega)
  have h2 : (List.range ops.size).drop k = [] := List.drop_eq_nil_of_le (by simp; omega)
  rw [h1] at h
  rw [h2]
  simp only [asgO, Option.some.injEq] at h
  subst h
  exact hQ
 | succ m ih =>
  intro k s s' hm h hQ
  have hk : k < ops.size := by omega
  rw [List.drop_eq_getElem_cons (by simpa using hk)] at h
  rw [List.drop_eq_getElem_cons (by simpa using hk), List.getElem_range, wpOpsIn_cons]
  have ho : ops[k]? = some ops.toList[k] := by simp [hk]
  unfold wpOpIn
  simp only [ho]
  generalize ops.toList[k] = o at h ⊢
  unfold asgO at h
  cases hg : o.guard with
  | some g => simp [hg] at h
  | none =>
   simp only [hg] at h
   have hw : Region.wanted o (yielded ops (toA n s)) = true := by simp [Region.wanted, hg]
   rw [if_pos hw]
   have fin : ∀ x, (execOp (Act.eval ⟨toA n s, d⟩) o) = pure (.value (ev n s x)) → o.op = .move x ∨ o.op = .assign x → asgO n (ops.toList.drop (k + 1)) (putO o.dst (ev n s x) s) = some s' →
    o.wpIn F 9 P ⟨toA n s, d⟩ w (wpOpsIn F 9 P ops Q ((List.range ops.size).drop (k + 1))) Q := by
    intro x he hop hr
    refine ⟨fun f hf => hF f, ?_⟩
    rw [Oper.semAt_eq _ _ _ (by intro c hc; rcases hop with e | e <;> (rw [hc] at e; cases e)), he]
    simp only [Sem.run_pure, Oper.uponIn]
    rw [put_act]
    exact ih (k + 1) _ s' (by omega) hr hQ
   cases hop : o.op <;> simp only [hop, reduceCtorEq] at h
   case move x => exact fin x (by simp [execOp, hop, eval_toA]) (.inl hop) h
   case assign x => exact fin x (by simp [execOp, hop, eval_toA]) (.inr hop) h
theorem asgS_sound {P : Program} {F : Fence} {n : Nat} {d : List Deferred} (hF : ∀ f, F.fn f) : ∀ (c : Code) (s s' : Sl) (Q : Exit → Act → World → Prop) (w : World), asgS n c s = some s' → Q .normal ⟨toA n s', d⟩ w → c.wpIn F 9 P Q ⟨toA n s, d⟩ w := by
 intro c
 induction c with
 | skip => intro s s' Q w h hQ; simp only [asgS, Option.some.injEq] at h; subst h; exact wpIn_skip hQ
 | region id ops draw =>
  intro s s' Q w h hQ
  cases draw with
  | true => simp [asgS] at h
  | false =>
   refine wpIn_region ?_
   have := asgO_sound (P := P) (F := F) (d := d) (Q := Q) (w := w) hF (ops.size - 0) 0 s s' rfl (by simpa [asgS] using h) hQ
   simpa using this
 | seq a b iha ihb =>
  intro s s' Q w h hQ
  simp only [asgS] at h
  cases ha : asgS n a s with
  | none => simp [ha] at h
  | some s1 =>
   simp only [ha] at h
   exact wpIn_seq (iha s s1 _ w ha (ihb s1 s' Q w h hQ))
 | _ => intro s s' Q w h; simp [asgS] at h
theorem zipS_toA (n : Nat) : ∀ (ps : List Tmp) (vs : List Value) (s : Sl), (ps.zip vs).foldl (fun t (p, v) => t.setIfInBounds p v) (toA n s) = toA n (zipS ps vs s)
 | [], vs, s => by simp [zipS]
 | p :: ps, [], s => by simp [zipS]
 | p :: ps, v :: vs, s => by
  simp only [List.zip_cons_cons, List.foldl_cons, zipS, toA_set]
  exact zipS_toA n ps vs _
theorem Bk.refl (B : Nat) (W : World) : Bk B W W := ⟨rfl, rfl, rfl, Nat.le_refl _, fun _ _ => .inl rfl⟩
theorem Bk.below {B : Nat} {W W' : World} (h : Below W.heap.size W W') : Bk B W W' := ⟨h.os, h.tape, h.output, h.size, fun k hk => .inl (h.block k hk)⟩
theorem Bk.put {B : Nat} {W : World} {l : Nat} {r r' : Loop} (hl : W.heap[l]? = some (.loop r)) (hB : B ≤ l) : Bk B W (W.putObj l (.loop r')) := by
 refine ⟨rfl, rfl, rfl, by simp, fun k hk => ?_⟩
 by_cases h : k = l
 ·subst h
  exact .inr ⟨hB, r, r', hl, World.putObj_heap_same hk⟩
 ·exact .inl (World.putObj_heap_other h)
theorem RfN_sound {P : Program} {n : Nat} {k : Nat} {g : Operand} {ps : Array Tmp} {asg body : Code} {s : Sl} {d : List Deferred} {w : World} {Q : Exit → Act → World → Prop}
 {B : List Value → World → (World → Prop) → (Exit → World → Prop) → Prop} {After Ret : Nat → World → Prop} {Exs : List (Nat × (Nat → World → Prop))} {ids : List Nat}
 (hk : ps.toList.length = k)
 (hB : ∀ (l : Nat) vs W next lv, vs.length = k → B vs W next lv → ∀ (W0 : World) (r r' : Loop), W0.heap[l]? = some (.loop r) → W = W0.putObj l (.loop r') →
  asg.wpIn (Wd (some l)) 9 P (fun e a W1 => e = .normal ∧ ∃ s', a = ⟨toA n s', []⟩ ∧ (∀ k, k < W0.heap.size → W1.heap[k]? = W0.heap[k]?) ∧ body.wpIn (Wd (some l)) 9 P (fun e _ W' => match e with
   | .normal => next W' | .ret => lv .ret W' | .exit id => id ∈ ids ∧ lv (.exit id) W' | _ => False) ⟨toA n s', []⟩ (W1.putObj l (.loop r'))) ⟨toA n (zipS ps.toList vs s), []⟩ W0)
 (hA : ∀ D W, After D W → Q .normal ⟨toA n s, mark D :: d⟩ W) (hR : ∀ D W, Ret D W → Q .ret ⟨toA n s, mark D :: d⟩ W)
 (hE : ∀ id ∈ ids, ∃ p ∈ Exs, p.1 = id ∧ ∀ D W, p.2 D W → Q (.exit id) ⟨toA n s, mark D :: d⟩ W)
 (h : RfN P k (ev n s g) w B After Ret Exs) : (Code.rangeFunc g ps asg body).wpIn (Wd none) 9 P Q ⟨toA n s, d⟩ w := by
 obtain ⟨gf, lb, xs, Y, Rl, J, X, hg, hen, hlen, hit, ⟨hJ, hX, hY, hJr, hXr, hrc⟩, h0, hround, hdone, hret, hex⟩ := h
 refine wpIn_rangeFunc ?_
 intro fn _
 obtain ⟨rec, hrec⟩ : ∃ rec : LoopState → Option Code → Loop, rec = fun st pe => { state := st, pending := pe, fn, tmps := toA n s, params := ps, assign := asg, body, defers := w.heap.size } := ⟨_, rfl⟩
 obtain ⟨W1, hW1⟩ : ∃ W1, (w.alloc (.deferred (some []))).alloc (.loop (rec .ready none)) = W1 := ⟨_, rfl⟩
 have hL1 : W1.heap[w.heap.size + 1]? = some (.loop (rec .ready none)) := by
  rw [← hW1]; have := World.alloc_heap_new (w.alloc (.deferred (some []))) (.loop (rec .ready none)); rwa [World.size_alloc] at this
 have hK1 : W1.heap[w.heap.size]? = some (.deferred (some [])) := by
  rw [← hW1]; exact (Below.heap_alloc _ _ _ (by simp)).trans (World.alloc_heap_new w _)
 have hb1 : Below w.heap.size w W1 := by
  rw [← hW1]; exact ((Below.refl _ w).alloc (Nat.le_refl _) _).alloc (by simp) _
 let JJ : Nat → World → Prop := fun i W => J i W ∧ W.heap[w.heap.size + 1]? = some (.loop (rec .ready none)) ∧ W.heap[w.heap.size]? = some (.deferred (some []))
 let XX : World → Prop := fun W => ∃ (e : Exit) (c : Code), (e = .ret ∧ c = .ret ∨ ∃ id, id ∈ ids ∧ e = .exit id ∧ c = .exit id) ∧ X e W ∧ W.heap[w.heap.size + 1]? = some (.loop (rec .done (some c))) ∧ W.heap[w.heap.size]? = some (.deferred (some []))
 refine ⟨w.heap.size + 1, [mark w.heap.size], W1, { target := .fn (.func gf) lb, args := #[.func (.yield (w.heap.size + 1)) #[] #[]] }, W1, gf,
  #[.func (.yield (w.heap.size + 1)) #[] #[]] ++ lb, W1, ?_, ?_, fun _ _ => trivial, ?_, fun _ => by decide, ?_⟩
 ·rw [← hW1, hrec]; exact run_enterLoop_outer _ _ _ _ _
 ·have : Act.eval ⟨toA n s, d⟩ g = .func (.func gf) #[] lb := by rw [eval_toA]; exact hg
  simp only [resolve, this]
  simp [Deferred.ofValue, Act.eval]
 ·simp only [invoke]; exact hen _ _
 ·refine (callsIn_wide (n := 9 - 1)).2 ((hit (w.heap.size + 1) JJ XX W1 hb1 (fun i W h => h.1) ?_ ?_ ?_ ⟨hJ _ _ _ h0 (Bk.below hb1), hL1, hK1⟩).mono ?_)
  ·rintro i W W' ⟨h1, h2, h3⟩ hb
   have hlt := (Array.getElem?_eq_some_iff.1 h2).1
   exact ⟨hJr _ _ _ h1 hb, ((hrc _ _ hb).block _ (by omega) hlt (.inl ⟨_, h2⟩)).trans h2, ((hrc _ _ hb).block _ (by omega) (by omega) (.inr ⟨_, h3⟩)).trans h3⟩
  ·rintro W W' ⟨e, c, hec, h1, h2, h3⟩ hb
   have hlt := (Array.getElem?_eq_some_iff.1 h2).1
   exact ⟨e, c, hec, hXr _ _ _ h1 hb, ((hrc _ _ hb).block _ (by omega) hlt (.inl ⟨_, h2⟩)).trans h2, ((hrc _ _ hb).block _ (by omega) (by omega) (.inr ⟨_, h3⟩)).trans h3⟩
  ·
   rintro i vs W hin hvs ⟨hj, hl, hD⟩
   have hlt := (Array.getElem?_eq_some_iff.1 hl).1
   have hvl : vs.length = k := hlen i vs W hvs
   unfold Yd N
   rw [run_yield hl (by rw [hrec]; simp [hvl, ← hk])]
   simp only [hrec, upN]
   obtain ⟨Wb, hWb⟩ : ∃ Wb, W.putObj (w.heap.size + 1) (.loop { rec .ready none with state := .busy }) = Wb := ⟨_, rfl⟩
   have hlb : Wb.heap[w.heap.size + 1]? = some (.loop { rec .ready none with state := .busy }) := by rw [← hWb]; exact World.putObj_heap_same hlt
   have hDb : Wb.heap[w.heap.size]? = some (.deferred (some [])) := by rw [← hWb]; exact (World.putObj_heap_other (by omega)).trans hD
   have hsb : Wb.heap.size = W.heap.size := by rw [← hWb]; simp
   have hjb : J i Wb := by rw [← hWb]; exact hJ _ _ _ hj (Bk.put hl (by omega))
   have hasg := hB (w.heap.size + 1) vs Wb _ _ hvl (AllN_elim hround vs hvl i Wb hin (by rw [← hWb]; exact hY _ _ _ _ hvs (Bk.put hl (by omega))) hjb (by omega)) W _ _ hl hWb.symm
   have key : RoundIn (Wd none) 9 P (w.heap.size + 1) fn ((ps.zip vs.toArray).foldl (fun tmps (t, a) => tmps.setIfInBounds t a) (toA n s)) asg body W (fun e W' => ∃ b, e = .returned (.bool b) ∧ ((b = true ∧ JJ (i + 1) W') ∨ (b = false ∧ XX W'))) := by
    refine roundIn_of_wpIn trivial ?_
    have hz : (ps.zip vs.toArray).foldl (fun tmps (t, a) => tmps.setIfInBounds t a) (toA n s) = toA n (zipS ps.toList vs s) := by
     rw [← zipS_toA, ← Array.foldl_toList, Array.toList_zip]
    rw [hz]
    refine wpIn_mono hasg ?_
    rintro e0 a0 W1 ⟨rfl, s', rfl, hkeep, hbody⟩
    have hl1 := (hkeep _ hlt).trans hl
    refine ⟨_, run_beginRound hl1 (by rw [hrec]), ?_⟩
    clear hasg
    ·refine wpIn_mono hbody ?_
     have fin : ∀ (jump : Option Code) (W3 : World), Kf w.heap.size Wb W3 →
      (Instr.endRound (w.heap.size + 1) jump).run P W3 = .ok (.bool jump.isNone) (W3.putObj (w.heap.size + 1) (.loop (rec (if jump.isNone then .ready else .done) jump))) ∧
      (W3.putObj (w.heap.size + 1) (.loop (rec (if jump.isNone then .ready else .done) jump))).heap[w.heap.size + 1]? = some (.loop (rec (if jump.isNone then .ready else .done) jump)) ∧
      (W3.putObj (w.heap.size + 1) (.loop (rec (if jump.isNone then .ready else .done) jump))).heap[w.heap.size]? = some (.deferred (some [])) ∧
      Bk w.heap.size W3 (W3.putObj (w.heap.size + 1) (.loop (rec (if jump.isNone then .ready else .done) jump))) := by
      intro jump W3 hk3
      have hl3 : W3.heap[w.heap.size + 1]? = some (.loop { rec .ready none with state := .busy }) := (hk3.block _ (by omega) (by omega) (.inl ⟨_, hlb⟩)).trans hlb
      have hD3 : W3.heap[w.heap.size]? = some (.deferred (some [])) := (hk3.block _ (by omega) (by omega) (.inr ⟨_, hDb⟩)).trans hDb
      have hr := run_endRound (P := P) jump hl3
      rw [hrec] at hr ⊢
      exact ⟨hr, World.putObj_heap_same (Array.getElem?_eq_some_iff.1 hl3).1, (World.putObj_heap_other (by omega)).trans hD3, Bk.put hl3 (by omega)⟩
     rintro e a3 W3 hp
     cases e with
     | normal =>
      obtain ⟨hj3, hk3⟩ := hp
      obtain ⟨hr, h1, h2, hbk⟩ := fin none W3 hk3
      exact ⟨_, _, hr, true, rfl, .inl ⟨rfl, hJ _ _ _ hj3 hbk, h1, h2⟩⟩
     | ret =>
      obtain ⟨hj3, hk3⟩ := hp
      obtain ⟨hr, h1, h2, hbk⟩ := fin (some .ret) W3 hk3
      exact ⟨_, _, hr, false, rfl, .inr ⟨rfl, .ret, .ret, .inl ⟨rfl, rfl⟩, hX _ _ _ hj3 hbk, h1, h2⟩⟩
     | exit id =>
      obtain ⟨hid, hj3, hk3⟩ := hp
      obtain ⟨hr, h1, h2, hbk⟩ := fin (some (.exit id)) W3 hk3
      exact ⟨_, _, hr, false, rfl, .inr ⟨rfl, .exit id, .exit id, .inr ⟨id, hid, rfl, rfl⟩, hX _ _ _ hj3 hbk, h1, h2⟩⟩
     | _ => exact hp.elim
   refine key.mono ?_
   rintro e W' ⟨b, rfl, hb⟩
   exact ⟨b, rfl, hb⟩
  ·
   rintro e W3 ⟨⟨v, rfl⟩, hfin⟩
   rcases hfin with ⟨hj, hl, hD⟩ | ⟨e, c, hec, hx, hl, hD⟩
   ·refine ⟨_, _, run_endLoop hl (by rw [hrec]; simp), ?_⟩
    have hlt := (Array.getElem?_eq_some_iff.1 hl).1
    have hnone : (rec .ready none).pending = none := by rw [hrec]
    rw [hnone]
    exact hA _ _ (hdone _ _ (Nat.le_refl _) ((World.putObj_heap_other (by omega)).trans hD) (hJ _ _ _ hj (Bk.put hl (by omega))))
   ·obtain ⟨r0, hr0⟩ : ∃ r0, rec .done (some c) = r0 := ⟨_, rfl⟩
    rw [hr0] at hl
    have hpe : r0.pending = some c := by rw [← hr0, hrec]
    have hen := run_endLoop (P := P) hl (by rw [← hr0, hrec]; simp)
    rw [hpe] at hen
    refine ⟨some c, _, hen, ?_⟩
    simp only
    generalize hr1 : ({ state := .exhausted, pending := some c, fn := r0.fn, tmps := r0.tmps, params := r0.params, assign := r0.assign, body := r0.body, defers := r0.defers } : Loop) = r1
    have hD' := (World.putObj_heap_other (w := W3) (r := w.heap.size + 1) (k := w.heap.size) (o := .loop r1) (by omega)).trans hD
    have hx' := hX _ _ _ hx (Bk.put (r' := r1) hl (by omega : w.heap.size ≤ w.heap.size + 1))
    rcases hec with ⟨rfl, rfl⟩ | ⟨id, hid, rfl, rfl⟩
    ·exact wpIn_ret (hR _ _ (hret _ _ (Nat.le_refl _) hD' hx'))
    ·obtain ⟨p, hp, hpid, hq⟩ := hE id hid
     refine wpIn_exit (hq _ _ (hex p hp _ _ (Nat.le_refl _) hD' (by rw [hpid]; exact hx')))
section
variable {P : Program} {b : Frame} {a : Act} {k : List Item} {cs : List Frame} {w : World} {F : Fence} {n : Nat}
theorem stepR_scope {c : Code} : step P (lone (b.atR a (.code (.scope c) :: k)) cs w) = .next (lone (b.atR a (.code c :: .inScope c :: k)) cs w) :=
 step_lone_go (by simp [stepG, stepG.exec, Frame.atR])
theorem stepR_inScope {c : Code} : step P (lone (b.atR a (.inScope c :: k)) cs w) = .next (lone (b.atR a k) cs w) :=
 step_lone_go (by simp [stepG, stepG.exec, Frame.atR])
def jmpQ (l : Nat) (J : Act → World → Prop) (Q : Exit → Act → World → Prop) : Exit → Act → World → Prop
 | .goto l', a, w => l' = l ∧ J a w
 | e, a, w => Q e a w
def GoodS (F : Fence) (n : Nat) (P : Program) (body rest : Code) (Q : Exit → Act → World → Prop) (a : Act) (w : World) : Prop :=
 ∀ (b : Frame) (k : List Item) (cs : List Frame), b.roundOf = F.round → F.fn b.fn → F.room (cs.length + 1 + n) →
  ∃ e a' w', Q e a' w' ∧ ArrivesIn (Machine.fenced P F) P (lone (b.atR a (.code rest :: .inScope body :: k)) cs w) b k cs e a' w'
theorem leaveS {Q : Exit → Act → World → Prop} {body rest : Code} {l : Nat} {m : Machine} {e : Exit} {a₁ : Act} {w₁ : World} (hf : findLabel body l = some rest) (hro : b.roundOf = F.round) (hb : F.fn b.fn) (hr : F.room (cs.length + 1 + n))
 (harr : ArrivesIn (Machine.fenced P F) P m b (.inScope body :: k) cs e a₁ w₁) (hq : jmpQ l (GoodS F n P body rest Q) Q e a₁ w₁) :
 ∃ e a' w', Q e a' w' ∧ ArrivesIn (Machine.fenced P F) P m b k cs e a' w' := by
 cases e with
 | normal => exact ⟨.normal, a₁, w₁, hq, StepsIn.trans harr (.one (fenced_calm hb hr rfl) stepR_inScope)⟩
 | exit id =>
  have hx : exitTo id (.inScope body :: k) = exitTo id k := by simp [exitTo]
  exact ⟨.exit id, a₁, w₁, hq, fun k' hk => harr.1 k' (by rw [hx]; exact hk), fun hr' hk => harr.2 hr' (by rw [hx]; exact hk)⟩
 | goto l' =>
  obtain ⟨rfl, hG⟩ := hq
  have hg : gotoIn l' (.inScope body :: k) = some (.code rest :: .inScope body :: k) := by simp [gotoIn, hf]
  obtain ⟨e₂, a₂, w₂, hq₂, harr₂⟩ := hG b k cs hro hb hr
  exact ⟨e₂, a₂, w₂, hq₂, .of_steps (harr.1 _ hg) harr₂⟩
 | ret => exact ⟨_, a₁, w₁, hq, harr⟩
 | panic ch => exact ⟨_, a₁, w₁, hq, harr⟩
 | outgrown => exact ⟨_, a₁, w₁, hq, harr⟩
theorem wpIn_scope {Q : Exit → Act → World → Prop} {body rest : Code} {l : Nat} (hf : findLabel body l = some rest) (h : body.wpIn F n P (jmpQ l (GoodS F n P body rest Q) Q) a w) : (Code.scope body).wpIn F n P Q a w := by
 intro b k cs hro hb hr
 obtain ⟨e, a₁, w₁, hq, harr⟩ := h b (.inScope body :: k) cs hro hb hr
 obtain ⟨e₂, a₂, w₂, hq₂, harr₂⟩ := leaveS hf hro hb hr harr hq
 exact ⟨e₂, a₂, w₂, hq₂, .of_steps (.one (fenced_calm hb hr rfl) stepR_scope) harr₂⟩
theorem good_of_loop {Q : Exit → Act → World → Prop} {body rest : Code} {l : Nat} (hf : findLabel body l = some rest) (J : Act → World → Prop) (μ : Act → World → Nat)
 (pass : ∀ a w, J a w → rest.wpIn F n P (jmpQ l (fun a' w' => J a' w' ∧ μ a' w' < μ a w) Q) a w) : ∀ a w, J a w → GoodS F n P body rest Q a w := by
 have key : ∀ m a w, μ a w = m → J a w → GoodS F n P body rest Q a w := by
  intro m
  induction m using Nat.strongRecOn with
  | _ m ih =>
   intro a w hm hJ b k cs hro hb hr
   obtain ⟨e, a₁, w₁, hq, harr⟩ := pass a w hJ b (.inScope body :: k) cs hro hb hr
   refine leaveS hf hro hb hr harr ?_
   cases e with
   | goto l' => exact ⟨hq.1, ih _ (by have := hq.2.2; omega) a₁ w₁ rfl hq.2.1⟩
   | _ => exact hq
 exact fun a w h => key _ a w rfl h
end
def AllC (M : Code → Prop) : Code → Prop
 | .seq a b => M (.seq a b) ∧ AllC M a ∧ AllC M b
 | c => M c
theorem AllC.head {M : Code → Prop} {c : Code} (h : AllC M c) : M c := by
 cases c <;> first | exact h.1 | exact h
theorem code_ind {M : Code → Prop} (skip : M .skip) (region : ∀ i o d, M (.region i o d)) (seq : ∀ a b, M a → M b → M (.seq a b)) (cond : ∀ c a b, M a → M b → M (.cond c a b))
 (block : ∀ i a, M a → M (.block i a)) (loop : ∀ a, M a → M (.loop a)) (rangeFunc : ∀ f ps a b, M a → M b → M (.rangeFunc f ps a b)) (exit : ∀ i, M (.exit i))
 (scope : ∀ a, (∀ x y l z, a = .seq x (.seq y (.seq (.label l) z)) → M x ∧ M y ∧ M z) → M (.scope a)) (label : ∀ l, M (.label l)) (goto : ∀ l, M (.goto l)) (ret : M .ret) (refuse : ∀ y, M (.refuse y))
 : ∀ c, M c := by
 have all : ∀ c, AllC M c := by
  intro c
  induction c with
  | skip => exact skip
  | region i o d => exact region i o d
  | seq a b iha ihb => exact ⟨seq a b iha.head ihb.head, iha, ihb⟩
  | cond c a b iha ihb => exact cond c a b iha.head ihb.head
  | block i a iha => exact block i a iha.head
  | loop a iha => exact loop a iha.head
  | rangeFunc f ps a b iha ihb => exact rangeFunc f ps a b iha.head ihb.head
  | exit i => exact exit i
  | scope a iha =>
   refine scope a fun x y l z he => ?_
   subst he
   exact ⟨iha.2.1.head, iha.2.2.2.1.head, iha.2.2.2.2.2.2.head⟩
  | label l => exact label l
  | goto l => exact goto l
  | ret => exact ret
  | refuse y => exact refuse y
 exact fun c => (all c).head
theorem wpA_sound {P : Program} {n : Nat} (hm : P.follows .mixedOrders = true) : ∀ (c : Code) (rb : Bool) (r : Option Nat), (rb = false → r = none) → ∀ (h : H) (Q : Exit → St → World → Prop) (st : St) (w : World),
 PanOK Q → wpA P n rb c h Q st w → c.wpIn (Wd r) 9 P (lift n c st.s st.d Q) ⟨toA n st.s, st.d⟩ w := by
 intro c
 induction c using code_ind with
 | skip => intro rb r hr h Q st w _ hw; exact wpIn_skip ⟨st.s, st.d, rfl, Same.refl _ _ _, fun _ => rfl, by cases rb <;> exact hw⟩
 | label l => intro rb r hr h Q st w _ hw; exact wpIn_label ⟨st.s, st.d, rfl, Same.refl _ _ _, fun _ => rfl, by cases rb <;> exact hw⟩
 | exit id => intro rb r hr h Q st w _ hw; exact wpIn_exit ⟨st.s, st.d, rfl, Same.refl _ _ _, fun _ => rfl, by cases rb <;> exact hw⟩
 | goto l => intro rb r hr h Q st w _ hw; exact wpIn_goto ⟨st.s, st.d, rfl, Same.refl _ _ _, fun _ => rfl, by cases rb <;> exact hw⟩
 | ret => intro rb r hr h Q st w _ hw; exact wpIn_ret ⟨st.s, st.d, rfl, Same.refl _ _ _, fun _ => rfl, by cases rb <;> exact hw⟩
 | region id ops draw =>
  intro rb r hr h Q st w hp hw
  cases draw with
  | false =>
   have hw : (match ops.toList.all noDefer with
    | true => seqF P n ops (fun c w => Q (.panic c) st w) ops.toList st.s w (fun s w => Q .normal ⟨s, st.d⟩ w)
    | false => False) := by cases rb <;> exact hw
   split at hw
   ·rename_i hd
    refine wpIn_region ?_
    have := seqF_sound (P := P) (r := r) (n := n) (ops := ops) (Q := lift n (.region id ops false) st.s st.d Q) (pan := fun c w => Q (.panic c) st w) (d := st.d)
     (K := fun s w => Q .normal ⟨s, st.d⟩ w) st.s (fun s w hsame hk => ⟨s, st.d, rfl, hsame, fun _ => rfl, hk⟩) (fun c s w hc hsame => ⟨s, st.d, rfl, hsame, fun _ => rfl, hp c st _ w rfl hc⟩) hd 0 st.s w (Same.refl _ _ _) (by simpa using hw)
    simpa using this
   ·exact hw.elim
  | true =>
   cases h <;> first | (cases rb <;> exact hw.elim) | skip
   rename_i t
   have hw : (match chkAll n ops t with
    | true => drF P n st.s ops (dsOf ops) (fun c w => Q (.panic c) st w) t [] w.drew (fun E w => Q .normal ⟨finS (dsOf ops) 0 E st.s, st.d⟩ w)
    | false => False) := by cases rb <;> exact hw
   split at hw
   ·rename_i hc
    refine wpIn_region_any hm ?_
    obtain ⟨hk, hck⟩ := chkAll_DOK hc
    have hInv : Inv P n st.s st.d ops [] [] [] (Array.replicate ops.size false) [] ⟨toA n st.s, st.d⟩ w.drew := by
     have hf : ∀ m, (Array.replicate ops.size false).getD m false = false := by
      intro m
      rw [Array.getD_eq_getD_getElem?, Array.getElem?_replicate]
      split <;> rfl
     refine ⟨by simp, ?_, ?_, ?_, ?_, trivial, rfl, toA_size _ _, ?_, ?_, ?_⟩
     ·intro m o _ h; rw [hf] at h; cases h
     ·intro m h; rw [hf] at h; cases h
     ·intro m h; cases h
     ·intro m h; cases h
     ·intro x _ q h; rw [hf] at h; cases h
     ·intro x hx _; simp [toA_get?, hx]
     ·intro p h; cases h
    refine drF_sound (P := P) (r := r) (Q := lift n (.region id ops true) st.s st.d Q) hk ?_ ?_ ops.size t [] [] [] _ [] _ _ hck hInv hw (by
     unfold left
     exact Nat.le_trans (List.length_filter_le _ _) (by simp))
    ·intro E w' hK
     refine ⟨_, st.d, rfl, ?_, fun _ => rfl, hK⟩
     intro i hi hm
     refine finS_no fun k hk' => hm ?_
     obtain ⟨o, ho, hd⟩ := mem_of_dsOf hk'
     exact List.mem_filterMap.2 ⟨o, List.mem_of_getElem? ho, hd⟩
    ·intro c a w' hc hd hsz hno
     obtain ⟨tm, df⟩ := a
     simp only at hd hsz hno
     subst hd
     refine ⟨(List.range n).map (fun i => (i, tm.getD i undef)), st.d, ?_, ?_, fun _ => rfl, hp c st _ w' rfl hc⟩
     ·congr 1
      apply Array.ext_getElem?
      intro x
      rw [toA_get?]
      by_cases hx : x < n
      ·rw [if_pos hx]
       have := gt_dead (List.range n) (fun i => tm.getD i undef) [] x
       simp only [List.append_nil] at this
       rw [this]
       simp only [List.mem_range, hx, if_true, Array.getD_eq_getD_getElem?]
       have h2 : x < tm.size := by omega
       simp [h2]
      ·rw [if_neg hx, Array.getElem?_eq_none (by omega)]
     ·intro i hi hm
      have := gt_dead (List.range n) (fun i => tm.getD i undef) [] i
      simp only [List.append_nil] at this
      rw [this]
      simp only [List.mem_range, hi, if_true]
      have h3 := hno i hi (by
       intro q hq
       obtain ⟨o, ho, hd⟩ := mem_of_dsOf hq
       exact hm (List.mem_filterMap.2 ⟨o, List.mem_of_getElem? ho, hd⟩))
      rw [Array.getD_eq_getD_getElem?, h3]
      rfl
   ·exact hw.elim
 | seq a b iha ihb =>
  intro rb r hr h Q st w hp hw
  cases h
  case sq ha hb =>
   have hw : wpA P n rb a ha (thenQ (fun st w => wpA P n rb b hb Q st w) Q) st w := by cases rb <;> exact hw
   refine wpIn_seq (wpIn_mono (iha rb r hr ha _ st w hp.then hw) ?_)
   rintro e act w' ⟨s, d', rfl, hsame, hd, hq⟩
   cases e with
   | normal =>
    refine wpIn_mono (ihb rb r hr hb Q ⟨s, d'⟩ w' hp hq) ?_
    rintro e act w'' ⟨s', d'', rfl, hsame', hd', hq'⟩
    refine ⟨s', d'', rfl, (hsame.mono (by simp [mods]; exact fun i h => .inl h)).trans (hsame'.mono (by simp [mods]; exact fun i h => .inr h)), ?_, hq'⟩
    intro hn
    simp only [norf, Bool.and_eq_true] at hn
    exact (hd' hn.2).trans (hd hn.1)
   | _ => exact ⟨s, d', rfl, hsame.mono (by simp [mods]; exact fun i h => .inl h), fun hn => hd (by simp only [norf, Bool.and_eq_true] at hn; exact hn.1), hq⟩
  case jn live dead ha hb =>
   have hw : (match nsub (mods a) live dead && norf a with
    | true => JnN live.length (fun k => wpA P n rb a ha (thenQ (fun st' w => k (live.map (gt st'.s)) w) Q) st w)
     (fun vs w => ∀ u : Nat → Value, wpA P n rb b hb Q ⟨hv live vs dead u st.s, st.d⟩ w)
    | false => False) := by cases rb <;> exact hw
   split at hw
   ·rename_i hns
    simp only [Bool.and_eq_true] at hns
    obtain ⟨hns, hnr⟩ := hns
    have hJ := hw (curN live.length (fun vs w => ∀ u : Nat → Value, wpA P n rb b hb Q ⟨hv live vs dead u st.s, st.d⟩ w))
     (AllN_intro fun l hl w hB => (appN_curN _ l hl w).2 hB)
    refine wpIn_seq (wpIn_mono (iha rb r hr ha _ st w hp.then hJ) ?_)
    rintro e act w' ⟨s, d', rfl, hsame, hd, hq⟩
    cases e with
    | normal =>
     simp only [thenQ] at hq
     have hB := (appN_curN (n := live.length) _ (live.map (gt s)) (by simp) w').1 hq (gt s)
     have heq : toA n (hv live (live.map (gt s)) dead (gt s) st.s) = toA n s := by
      refine toA_ext fun i hi => ?_
      rw [gt_hv]
      split
      ·rfl
      ·rename_i hno
       refine (hsame i hi fun hm => hno ?_).symm
       exact nsub_iff hns hm
     have := ihb rb r hr hb Q ⟨hv live (live.map (gt s)) dead (gt s) st.s, st.d⟩ w' hp hB
     simp only [heq] at this
     rw [hd hnr]
     refine wpIn_mono this ?_
     rintro e act w'' ⟨s', d'', rfl, hsame', hd', hq'⟩
     refine ⟨s', d'', rfl, ?_, fun hn => hd' (by simp only [norf, Bool.and_eq_true] at hn; exact hn.2), hq'⟩
     intro i hi hm
     simp only [mods, List.mem_append, not_or] at hm
     have h1 := hsame' i hi hm.2
     rw [h1, gt_hv]
     split
     ·exact hsame i hi hm.1
     ·rfl
    | _ => exact ⟨s, d', rfl, hsame.mono (by simp [mods]; exact fun i h => .inl h), fun hn => hd hnr, hq⟩
   ·exact hw.elim
  all_goals (cases rb <;> exact hw.elim)
 | cond c a b iha ihb =>
  intro rb r hr h Q st w hp hw
  cases h <;> first | (cases rb <;> exact hw.elim) | skip
  rename_i ha hb
  have hw : If (ev n st.s c) (wpA P n rb a ha Q st w) (wpA P n rb b hb Q st w) := by cases rb <;> exact hw
  unfold If at hw
  cases hc : ev n st.s c <;> simp only [hc] at hw
  rename_i t
  refine wpIn_cond (t := t) (by rw [eval_toA]; exact hc) ?_
  cases t with
  | true =>
   refine wpIn_mono (iha rb r hr ha Q st w hp hw) ?_
   rintro e act w' ⟨s, d', rfl, hsame, hd, hq⟩
   exact ⟨s, d', rfl, hsame.mono (by simp [mods]; exact fun i h => .inl h), fun hn => hd (by simp only [norf, Bool.and_eq_true] at hn; exact hn.1), hq⟩
  | false =>
   refine wpIn_mono (ihb rb r hr hb Q st w hp hw) ?_
   rintro e act w' ⟨s, d', rfl, hsame, hd, hq⟩
   exact ⟨s, d', rfl, hsame.mono (by simp [mods]; exact fun i h => .inr h), fun hn => hd (by simp only [norf, Bool.and_eq_true] at hn; exact hn.2), hq⟩
 | block id a iha =>
  intro rb r hr h Q st w hp hw
  cases h <;> first | (cases rb <;> exact hw.elim) | skip
  rename_i ha
  have hw : wpA P n rb a ha (inBlk id Q) st w := by cases rb <;> exact hw
  refine wpIn_block (wpIn_mono (iha rb r hr ha _ st w hp.inBlk hw) ?_)
  rintro e act w' ⟨s, d', rfl, hsame, hd, hq⟩
  cases e with
  | exit j =>
   simp only [inBlk] at hq
   simp only [Exit.inBlock]
   by_cases hj : j = id
   ·subst hj
    have : Nat.beq j j = true := by simp
    rw [this] at hq
    simp only [if_true]
    exact ⟨s, d', rfl, hsame, hd, hq⟩
   ·have : Nat.beq j id = false := by
     cases hb : Nat.beq j id with
     | false => rfl
     | true => exact absurd (Nat.eq_of_beq_eq_true hb) hj
    rw [this] at hq
    simp only [hj, if_false]
    exact ⟨s, d', rfl, hsame, hd, hq⟩
  | _ => exact ⟨s, d', rfl, hsame, hd, hq⟩
 | loop a iha =>
  intro rb r hr h Q st w hp hw
  cases h <;> first | (cases rb <;> exact hw.elim) | skip
  rename_i live dead ha
  have hw : (match nsub (mods a) live dead && norf a && live.all (fun i => Nat.blt i n) with
   | true => LpN live.length (live.map (gt st.s)) w (fun vs w next => ∀ u : Nat → Value, wpA P n rb a ha (thenQ (fun st' w => next (live.map (gt st'.s)) w) Q) ⟨hv live vs dead u st.s, st.d⟩ w)
   | false => False) := by cases rb <;> exact hw
  split at hw
  ·rename_i hns
   simp only [Bool.and_eq_true] at hns
   obtain ⟨⟨hns, hnr⟩, hln⟩ := hns
   obtain ⟨I, μ, h0, hstep⟩ := hw
   have hmap : ∀ s : Sl, live.map (fun i => (toA n s).getD i undef) = live.map (gt s) := by
    intro s
    refine List.map_congr_left fun i hi => ?_
    have : i < n := by simpa [Nat.blt_eq] using List.all_eq_true.1 hln i hi
    rw [toA_getD, sl_eq, if_pos this]
   refine wpIn_loop (fun act w => ∃ s, act = ⟨toA n s, st.d⟩ ∧ Same n (mods a) st.s s ∧ appN live.length I (live.map (gt s)) w)
    (fun act w => appM live.length μ (live.map (fun i => act.tmps.getD i undef)) w) ⟨st.s, rfl, Same.refl _ _ _, h0⟩ ?_
   rintro act w ⟨s, rfl, hsame, hI⟩
   have hB := AllN_elim hstep (live.map (gt s)) (by simp) w hI (gt s)
   have heq : toA n (hv live (live.map (gt s)) dead (gt s) st.s) = toA n s := by
    refine toA_ext fun i hi => ?_
    rw [gt_hv]
    split
    ·rfl
    ·rename_i hno
     refine (hsame i hi fun hm => hno ?_).symm
     exact nsub_iff hns hm
   have := iha rb r hr ha _ ⟨hv live (live.map (gt s)) dead (gt s) st.s, st.d⟩ w hp.then hB
   simp only [heq] at this
   refine wpIn_mono this ?_
   have hpast : ∀ s', Same n (mods a) (hv live (live.map (gt s)) dead (gt s) st.s) s' → Same n (mods a) st.s s' := by
    intro s' hsame' i hi hm
    rw [hsame' i hi hm, gt_hv]
    split
    ·exact hsame i hi hm
    ·rfl
   rintro e act w' ⟨s', d', rfl, hsame', hd, hq⟩
   cases e with
   | normal =>
    simp only [thenQ] at hq
    rw [hd hnr]
    refine ⟨⟨s', rfl, hpast s' hsame', hq.1⟩, ?_⟩
    rw [hmap, hmap]
    exact hq.2
   | _ => exact ⟨s', d', rfl, hpast s' hsame', hd, hq⟩
  ·exact hw.elim
 | rangeFunc g ps asg body iha ihb =>
  intro rb r hr h Q st w hp hw
  cases rb with
  | true => cases h <;> exact hw.elim
  | false =>
   obtain rfl := hr rfl
   cases h <;> first | exact hw.elim | skip
   rename_i hb exits
   have key := RfN_sound (P := P) (n := n) (k := ps.toList.length) (g := g) (ps := ps) (asg := asg) (body := body) (s := st.s) (d := st.d) (w := w) (Q := lift n (.rangeFunc g ps asg body) st.s st.d Q) (ids := exits) rfl
    (by
     intro l vs W next lv hvl hB
     intro W0 r r' hl hW
     have bodyOK : ∀ (s' : Sl) (hbb : H) (Wx : World), wpA P n true body hbb (rndQ exits next lv) ⟨s', []⟩ Wx → body.wpIn (Wd (some l)) 9 P (fun e _ W' => match e with
      | .normal => next W' | .ret => lv .ret W' | .exit id => id ∈ exits ∧ lv (.exit id) W' | _ => False) ⟨toA n s', []⟩ Wx := by
      intro s' hbb Wx hB
      refine wpIn_mono (ihb true (some l) (by intro h; cases h) hbb (rndQ exits next lv) ⟨s', []⟩ Wx (fun c st st' w _ h => h) hB) ?_
      rintro e act w' ⟨s2, d2, rfl, _, _, hq⟩
      cases e with
      | normal => exact hq
      | ret => exact hq
      | exit id =>
       simp only [rndQ] at hq
       cases hm : memB id exits with
       | true => simp only [hm] at hq; exact ⟨memB_iff.1 hm, hq⟩
       | false => simp only [hm] at hq
      | _ => exact hq.elim
     cases hs : asgS n asg (zipS ps.toList vs st.s) with
     | none =>
      simp only [hs] at hB
      cases hb <;> first | exact hB.elim | skip
      rename_i ha hb2
      refine wpIn_mono (iha true (some l) (by intro h; cases h) ha _ ⟨zipS ps.toList vs st.s, []⟩ W0 (fun c st st' w _ h => h) (hB W0 l r r' hl hW)) ?_
      rintro e act w' ⟨s2, d2, rfl, _, _, hq⟩
      cases e with
      | normal =>
       obtain ⟨h1, h2, h3⟩ := hq
       cases h2
       exact ⟨rfl, s2, rfl, h1, bodyOK _ _ _ h3⟩
      | _ => exact hq.elim
     | some s' =>
      simp only [hs] at hB
      subst hW
      exact asgS_sound (fun _ => trivial) asg _ s' _ W0 hs ⟨rfl, s', rfl, fun _ _ => rfl, bodyOK _ _ _ hB⟩)
    (fun D W h => ⟨st.s, mark D :: st.d, rfl, Same.refl _ _ _, fun h => (by cases h), h⟩)
    (fun D W h => ⟨st.s, mark D :: st.d, rfl, Same.refl _ _ _, fun h => (by cases h), h⟩)
    (by
     intro id hid
     exact ⟨_, List.mem_map.2 ⟨id, hid, rfl⟩, rfl, fun D W h => ⟨st.s, mark D :: st.d, rfl, Same.refl _ _ _, fun h => (by cases h), h⟩⟩)
    hw
   exact key
 | scope a iha =>
  intro rb r hr h Q st w hp hw
  revert iha hw
  match a with
  | .seq x (.seq y (.seq (.label l) z)) =>
   intro iha hw
   obtain ⟨ihx, ihy, ihz⟩ := iha x y l z rfl
   cases h <;> first | (cases rb <;> exact hw.elim) | skip
   rename_i live dead hx hy hz
   have hw : (match nsub (mods z) live dead && norf z && live.all (fun i => Nat.blt i n) && (findLabel x l).isNone && (findLabel y l).isNone with
    | true => wpA P n rb x hx (thenQ (fun st1 w => wpA P n rb y hy (thenQ (fun st2 w =>
     LpN live.length (live.map (gt st2.s)) w (fun vs w next => ∀ u : Nat → Value, wpA P n rb z hz (gtQ l (fun st' w => next (live.map (gt st'.s)) w) Q) ⟨hv live vs dead u st2.s, st2.d⟩ w))
     (gtQ l (fun _ _ => False) Q)) st1 w) (gtQ l (fun _ _ => False) Q)) st w
    | false => False) := by cases rb <;> exact hw
   split at hw
   ·rename_i hns
    simp only [Bool.and_eq_true] at hns
    obtain ⟨⟨⟨⟨hns, hnr⟩, hln⟩, hlx⟩, hly⟩ := hns
    have hf : findLabel (.seq x (.seq y (.seq (.label l) z))) l = some (.seq .skip z) := by
     rw [Option.isNone_iff_eq_none] at hlx hly
     simp [findLabel, hlx, hly]
    refine wpIn_scope hf ?_
    refine wpIn_seq (wpIn_mono (ihx rb r hr hx _ st w hp.gtQ.then hw) ?_)
    rintro e act w' ⟨s, d', rfl, hsame, hd, hq⟩
    cases e with
    | normal =>
     refine wpIn_seq (wpIn_mono (ihy rb r hr hy _ ⟨s, d'⟩ w' hp.gtQ.then hq) ?_)
     rintro e act w'' ⟨s2, d2, rfl, hsame2, hd2, hq2⟩
     have same2 : ∀ s3, Same n (mods z) s2 s3 → Same n (mods (.scope (.seq x (.seq y (.seq (.label l) z))))) st.s s3 := by
      intro s3 h3 i hi hm
      simp only [mods, List.mem_append, not_or] at hm
      rw [h3 i hi hm.2.2.2, hsame2 i hi hm.2.1, hsame i hi hm.1]
     have dd2 : norf (.scope (.seq x (.seq y (.seq (.label l) z)))) = true → d2 = st.d := by
      intro hn
      simp only [norf, Bool.and_eq_true] at hn
      exact (hd2 hn.2.1).trans (hd hn.1)
     cases e with
     | normal =>
      refine wpIn_seq (wpIn_label ?_)
      show z.wpIn _ _ _ _ _ _
      obtain ⟨I, μ, h0, hstep⟩ := hq2
      have hmap : ∀ s : Sl, live.map (fun i => (toA n s).getD i undef) = live.map (gt s) := by
       intro s
       refine List.map_congr_left fun i hi => ?_
       have : i < n := by simpa [Nat.blt_eq] using List.all_eq_true.1 hln i hi
       rw [toA_getD, sl_eq, if_pos this]
      obtain ⟨JJ, hJJ⟩ : ∃ JJ : Act → World → Prop, JJ = (fun act w => ∃ s, act = ⟨toA n s, d2⟩ ∧ Same n (mods z) s2 s ∧ appN live.length I (live.map (gt s)) w) := ⟨_, rfl⟩
      obtain ⟨MM, hMM⟩ : ∃ MM : Act → World → Nat, MM = (fun act w => appM live.length μ (live.map (fun i => act.tmps.getD i undef)) w) := ⟨_, rfl⟩
      have pass : ∀ act w, JJ act w → z.wpIn (Wd r) 9 P (jmpQ l (fun a' w' => JJ a' w' ∧ MM a' w' < MM act w) (lift n (.scope (.seq x (.seq y (.seq (.label l) z)))) st.s st.d Q)) act w := by
       intro act w hJ
       have hJ' := hJ
       rw [hJJ] at hJ'
       obtain ⟨s, rfl, hsm, hI⟩ := hJ'
       have hB := AllN_elim hstep (live.map (gt s)) (by simp) w hI (gt s)
       have heq : toA n (hv live (live.map (gt s)) dead (gt s) s2) = toA n s := by
        refine toA_ext fun i hi => ?_
        rw [gt_hv]
        split
        ·rfl
        ·rename_i hno
         refine (hsm i hi fun hm => hno ?_).symm
         exact nsub_iff hns hm
       have := ihz rb r hr hz _ ⟨hv live (live.map (gt s)) dead (gt s) s2, d2⟩ w hp.gtQ hB
       simp only [heq] at this
       refine wpIn_mono this ?_
       have hpast : ∀ s', Same n (mods z) (hv live (live.map (gt s)) dead (gt s) s2) s' → Same n (mods z) s2 s' := by
        intro s' hsame' i hi hm
        rw [hsame' i hi hm, gt_hv]
        split
        ·exact hsm i hi hm
        ·rfl
       rintro e act w' ⟨s', d3, rfl, hsame', hd3, hq3⟩
       obtain rfl := hd3 hnr
       cases e with
       | goto j =>
        simp only [gtQ] at hq3
        cases hj : Nat.beq j l with
        | false => simp only [hj] at hq3
        | true =>
         simp only [hj] at hq3
         refine ⟨Nat.eq_of_beq_eq_true hj, ?_, ?_⟩
         ·rw [hJJ]; exact ⟨s', rfl, hpast s' hsame', hq3.1⟩
         ·rw [hMM]
          simp only [hmap]
          exact hq3.2
       | _ => exact ⟨s', _, rfl, same2 s' (hpast s' hsame'), dd2, hq3⟩
      have good := good_of_loop hf JJ MM (fun a w h => wpIn_seq (wpIn_skip (pass a w h)))
      refine wpIn_mono (pass ⟨toA n s2, d2⟩ w'' (by rw [hJJ]; exact ⟨s2, rfl, Same.refl _ _ _, h0⟩)) ?_
      intro e a w h
      cases e with
      | goto l' => exact ⟨h.1, good _ _ h.2.1⟩
      | _ => exact h
     | goto j =>
      simp only [thenQ, gtQ] at hq2
      cases hj : Nat.beq j l <;> simp only [hj] at hq2
     | _ => exact ⟨s2, d2, rfl, same2 s2 (Same.refl _ _ _), dd2, hq2⟩
    | goto j =>
     simp only [thenQ, gtQ] at hq
     cases hj : Nat.beq j l <;> simp only [hj] at hq
    | _ =>
     refine ⟨s, d', rfl, hsame.mono ?_, ?_, hq⟩
     ·intro i hi; simp only [mods, List.mem_append]; exact .inl hi
     ·intro hn
      simp only [norf, Bool.and_eq_true] at hn
      exact hd hn.1
   ·exact hw.elim
  | .skip | .region .. | .cond .. | .block .. | .loop .. | .rangeFunc .. | .exit .. | .scope .. | .label .. | .goto .. | .ret | .refuse .. => intro _ hw; cases h <;> cases rb <;> exact hw.elim
  | .seq x .skip | .seq x (.region ..) | .seq x (.cond ..) | .seq x (.block ..) | .seq x (.loop ..) | .seq x (.rangeFunc ..) | .seq x (.exit ..) | .seq x (.scope ..) | .seq x (.label ..) | .seq x (.goto ..) | .seq x .ret | .seq x (.refuse ..) => intro _ hw; cases h <;> cases rb <;> exact hw.elim
  | .seq x (.seq y .skip) | .seq x (.seq y (.region ..)) | .seq x (.seq y (.cond ..)) | .seq x (.seq y (.block ..)) | .seq x (.seq y (.loop ..)) | .seq x (.seq y (.rangeFunc ..)) | .seq x (.seq y (.exit ..)) | .seq x (.seq y (.scope ..)) | .seq x (.seq y (.label ..)) | .seq x (.seq y (.goto ..)) | .seq x (.seq y .ret) | .seq x (.seq y (.refuse ..)) => intro _ hw; cases h <;> cases rb <;> exact hw.elim
  | .seq x (.seq y (.seq .skip z)) | .seq x (.seq y (.seq (.region ..) z)) | .seq x (.seq y (.seq (.cond ..) z)) | .seq x (.seq y (.seq (.block ..) z)) | .seq x (.seq y (.seq (.loop ..) z)) | .seq x (.seq y (.seq (.rangeFunc ..) z)) | .seq x (.seq y (.seq (.exit ..) z)) | .seq x (.seq y (.seq (.scope ..) z)) | .seq x (.seq y (.seq (.seq ..) z)) | .seq x (.seq y (.seq (.goto ..) z)) | .seq x (.seq y (.seq .ret z)) | .seq x (.seq y (.seq (.refuse ..) z)) => intro _ hw; cases h <;> cases rb <;> exact hw.elim
 | _ => intro rb r hr h Q st w _ hw; cases h <;> cases rb <;> exact hw.elim
def tup : List Value → Value
 | [v] => v
 | l => .tuple l.toArray
def Rc (P : Program) (t : TypeId) (a : Value) (w : World) (K : Value → Prop) : Prop := ∃ x, (do loadVar t (← asAddr a)).run P w = .ok x w ∧ K x
def resF (P : Program) (n : Nat) (s : Sl) (w : World) : List ResultVar → List Value → (List Value → Prop) → Prop
 | [], acc, K => K acc
 | .tmp t :: rs, acc, K => resF P n s w rs (acc ++ [sl n s t]) K
 | .cell a t :: rs, acc, K => Rc P t (sl n s a) w fun x => resF P n s w rs (acc ++ [x]) K
def Tk (P : Program) (D : Nat) (w : World) (K : World → Prop) (_ : Tag K := .mk) : Prop := ∃ w', (Instr.takeDeferred D).run P w = .ok [] w' ∧ K w'
def mkF (P : Program) : List Deferred → World → (World → Prop) → Prop
 | [], w, K => K w
 | d :: ds, w, K => match d.target with
  | .collected D => Tk P D w fun w => mkF P ds w K
  | _ => False
def finQ (P : Program) (n : Nat) (rs : List ResultVar) (R : Ending → World → Prop) : Exit → St → World → Prop
 | .normal, st, w => mkF P st.d w fun w => resF P n st.s w rs [] fun vs => R (.returned (tup vs)) w
 | .ret, st, w => mkF P st.d w fun w => resF P n st.s w rs [] fun vs => R (.returned (tup vs)) w
 | .panic c, st, w => mkF P st.d w fun w => R (.panicked c) w
 | _, _, _ => False
def Pk (R : Ending → World → Prop) : List PanicEntry → World → Prop := fun c w => R (.panicked c) w
def ini : Nat → List Value → Sl
 | _, [] => []
 | i, v :: l => (i, v) :: ini (i + 1) l
theorem gt_ini (l : List Value) (k i : Nat) : gt (ini k l) i = if k ≤ i then (l[i - k]?).getD undef else undef := by
 induction l generalizing k with
 | nil => simp [ini, gt]
 | cons v l ih =>
  simp only [ini]
  by_cases h : k = i
  ·subst h; simp [gt_same]
  ·rw [gt_other h, ih]
   by_cases hk : k ≤ i
   ·have h1 : k + 1 ≤ i := by omega
    rw [if_pos h1, if_pos hk, show i - k = (i - (k + 1)) + 1 from by omega, List.getElem?_cons_succ]
   ·rw [if_neg hk, if_neg (by omega)]
theorem toA_ini (l : List Value) (n : Nat) (h : l.length ≤ n) : toA n (ini 0 l) = l.toArray ++ Array.replicate (n - l.toArray.size) undef := by
 apply Array.ext_getElem?
 intro i
 rw [toA_get?, gt_ini]
 simp only [Nat.zero_le, if_true, Nat.sub_zero]
 rw [Array.getElem?_append]
 by_cases hi : i < l.length
 ·simp [hi, show i < n from by omega]
 ·simp only [List.size_toArray, hi, if_false, Array.getElem?_replicate]
  rw [List.getElem?_eq_none (by omega)]
  by_cases hn : i < n
  ·simp [hn, show i - l.length < n - l.length from by omega]
  ·simp [hn, show ¬ i - l.length < n - l.length from by omega]
def rvS (tm : Array Value) : ResultVar → Sem Value
 | .tmp t => pure (tm.getD t undef)
 | .cell a t => do loadVar t (← asAddr (tm.getD a undef))
theorem resF_results {P : Program} {n : Nat} {s : Sl} {w : World} : ∀ (rs : List ResultVar) (acc : List Value) (K : List Value → Prop), resF P n s w rs acc K →
 ∃ vs, (rs.mapM (rvS (toA n s))).run P w = .ok vs w ∧ K (acc ++ vs) := by
 intro rs
 induction rs with
 | nil => intro acc K h; exact ⟨[], rfl, by simpa [resF] using h⟩
 | cons rv rs ih =>
  intro acc K h
  cases rv with
  | tmp t =>
   obtain ⟨vs, h1, h2⟩ := ih _ _ h
   refine ⟨sl n s t :: vs, ?_, by simpa using h2⟩
   rw [List.mapM_cons]
   simp only [rvS, Sem.run_bind, Sem.run_pure, Result.andThen_ok, toA_getD]
   rw [h1]
   rfl
  | cell a t =>
   obtain ⟨x, hx, h'⟩ := h
   obtain ⟨vs, h1, h2⟩ := ih _ _ h'
   refine ⟨x :: vs, ?_, by simpa using h2⟩
   rw [List.mapM_cons]
   rw [← toA_getD] at hx
   simp only [Sem.run_bind]
   have hx' : (rvS (toA n s) (.cell a t)).run P w = .ok x w := hx
   rw [hx']
   simp only [Result.andThen_ok]
   rw [h1]
   rfl
theorem results_of {P : Program} {n : Nat} {s : Sl} {w : World} {fn : Func} {R : Value → Prop} (h : resF P n s w fn.results.toList [] fun vs => R (tup vs)) :
 ∃ v, (results fn (toA n s)).run P w = .ok v w ∧ R v := by
 obtain ⟨vs, h1, h2⟩ := resF_results _ _ _ h
 refine ⟨tup vs, ?_, by simpa using h2⟩
 have hr : results fn (toA n s) = (do let vs ← fn.results.mapM (rvS (toA n s)); pure (if h : vs.size = 1 then vs[0] else .tuple vs)) := by
  unfold results
  congr 1
 rw [hr, ← Array.toArray_toList (xs := fn.results), List.mapM_toArray]
 simp only [Sem.run_bind, Sem.run_map]
 rw [h1]
 match vs with
 | [] => rfl
 | [v] => rfl
 | a :: b :: l => simp [tup]
def Spc (fn : Func) (h : H) (P : Program) (args : List Value) (w : World) (R : Ending → World → Prop) : Prop :=
 wpA P fn.ntmps false (fn.body.getD .skip) h (finQ P fn.ntmps fn.results.toList R) ⟨ini 0 args, []⟩ w
theorem finQ_pan {P : Program} {n : Nat} {rs : List ResultVar} {R : Ending → World → Prop} : PanOK (finQ P n rs R) := fun c st st' w hd h => by simp only [finQ] at h ⊢; rw [← hd]; exact h
theorem enter {P : Program} {f : FuncId} {fn : Func} {h : H} {args : List Value} {w : World} {R : Ending → World → Prop} (hf : P.funcs[f]? = some fn) (hb : fn.body.isSome = true)
 (hn : Nat.ble args.length fn.ntmps = true) (hm : P.follows .mixedOrders = true) (hs : Spc fn h P args w R) : Calls P f args.toArray w R := by
 obtain ⟨c, hc⟩ := Option.isSome_iff_exists.1 hb
 unfold Spc at hs
 rw [hc] at hs
 simp only [Option.getD_some] at hs
 have := wpA_sound hm c false none (fun _ => rfl) h _ _ w finQ_pan hs
 refine (callsIn_wide (n := 9)).1 (callsIn_of_wp_marks hf hc trivial ?_ rfl)
 rw [← toA_ini args fn.ntmps (by simpa using hn)]
 have hmk : ∀ (u : FrameMode) (tm : Array Value) (hu : u ≠ .run) (ds : List Deferred) (w : World) (K : World → Prop), mkF P ds w K → (∀ w', K w' → LeavesIn Fence.wide 9 P fn tm R [] u w') → LeavesInM Fence.wide 9 P fn tm R ds u w := by
  intro u tm hu ds
  induction ds with
  | nil => intro w K hK h; exact h w hK
  | cons d ds ih =>
   intro w K hK h
   unfold mkF at hK
   cases hd : d.target <;> simp only [hd] at hK
   rename_i D
   obtain ⟨w', h1, h2⟩ := hK
   exact ⟨hu, .inl ⟨D, w', hd, h1, ih w' K h2 h⟩⟩
 refine wpIn_mono this ?_
 rintro e a w' ⟨s, d', rfl, _, _, hq⟩
 cases e with
 | normal =>
  refine hmk .returning _ (by simp) d' w' _ hq fun w'' h => ?_
  exact results_of (R := fun v => R (.returned v) w'') h
 | ret =>
  refine hmk .returning _ (by simp) d' w' _ hq fun w'' h => ?_
  exact results_of (R := fun v => R (.returned v) w'') h
 | panic c =>
  refine hmk (.panicking c) _ (by simp) d' w' _ hq fun w'' h => ?_
  exact h
 | _ => exact hq.elim
theorem en1 {P : Program} {f : FuncId} {fn : Func} (h : H) (args : List Value) {w : World} {R : Ending → World → Prop} {S : Prop} (hf : P.funcs[f]? = some fn) (hk : (fn.body.isSome, Nat.ble args.length fn.ntmps, P.follows .mixedOrders) = (true, true, true)) (he : S = Spc fn h P args w R) (hs : S) : Calls P f args.toArray w R := by
 simp only [Prod.mk.injEq] at hk
 exact enter hf hk.1 hk.2.1 hk.2.2 (he ▸ hs)
abbrev dL (P : Program) (t : TypeId) (a : Value) (w : World) (k : Value → Prop) : Prop := Dv P false (Instr.loadAt t a) w k
abbrev dIx (P : Program) (t : TypeId) (a i : Value) (w : World) (k : Value → Prop) : Prop := Dv P true (Instr.indexAt t a i) w k
abbrev dFl (P : Program) (t : TypeId) (a : Value) (f : Nat) (w : World) (k : Value → Prop) : Prop := Dv P true (Instr.fieldAt t a f) w k
abbrev kLd (P : Program) (t : TypeId) (a v : Value) (w : World) (r : Prop) : Prop := Ke P (Instr.loadAt t a) v w r
abbrev bn (op : BinOp) (t : TypeId) (c : Bool) (a b : Value) : Sem Value := do eqG op t c a b; binOp op t a b
def Jn0 (A : (World → Prop) → Prop) (B : World → Prop) (_ : Tag A := .mk) (_ : Tag B := .mk) : Prop :=
 ∀ K : World → Prop, (∀ (w : World), ((Nat → Value) → B w) → K w) → A K
theorem Jn0.mk {A : (World → Prop) → Prop} {B : World → Prop} (h : ∀ K : World → Prop, (∀ (w : World), B w → K w) → A K) : Jn0 A B :=
 fun K hK => h K fun w hb => hK w fun _ => hb
def Jn1 (A : (Value → World → Prop) → Prop) (B : Value → World → Prop) (_ : Tag A := .mk) (_ : Tag B := .mk) : Prop :=
 ∀ K : Value → World → Prop, (∀ (a0 : Value) (w : World), ((Nat → Value) → B a0 w) → K a0 w) → A K
theorem Jn1.mk {A : (Value → World → Prop) → Prop} {B : Value → World → Prop} (h : ∀ K : Value → World → Prop, (∀ (a0 : Value) (w : World), B a0 w → K a0 w) → A K) : Jn1 A B :=
 fun K hK => h K fun a0 w hb => hK a0 w fun _ => hb
def Lp1 (a0 : Value) (w : World) (B : Value → World → (Value → World → Prop) → Prop) (_ : Tag B := .mk) : Prop :=
 ∃ (I : Value → World → Prop) (μ : Value → World → Nat), I a0 w ∧ ∀ (a0 : Value) (w : World), I a0 w → (Nat → Value) → B a0 w (fun b0 w' => I b0 w' ∧ μ b0 w' < μ a0 w)
theorem Lp1.mk {a0 : Value} {w : World} {B : Value → World → (Value → World → Prop) → Prop} (I : Value → World → Prop) (μ : Value → World → Nat) (h0 : I a0 w)
 (h : ∀ (a0 : Value) (w : World), I a0 w → B a0 w (fun b0 w' => I b0 w' ∧ μ b0 w' < μ a0 w)) : Lp1 a0 w B :=
 ⟨I, μ, h0, fun a0 w hI _ => h a0 w hI⟩
def Jn2 (A : (Value → Value → World → Prop) → Prop) (B : Value → Value → World → Prop) (_ : Tag A := .mk) (_ : Tag B := .mk) : Prop :=
 ∀ K : Value → Value → World → Prop, (∀ (a0 a1 : Value) (w : World), ((Nat → Value) → B a0 a1 w) → K a0 a1 w) → A K
theorem Jn2.mk {A : (Value → Value → World → Prop) → Prop} {B : Value → Value → World → Prop} (h : ∀ K : Value → Value → World → Prop, (∀ (a0 a1 : Value) (w : World), B a0 a1 w → K a0 a1 w) → A K) : Jn2 A B :=
 fun K hK => h K fun a0 a1 w hb => hK a0 a1 w fun _ => hb
def Lp2 (a0 a1 : Value) (w : World) (B : Value → Value → World → (Value → Value → World → Prop) → Prop) (_ : Tag B := .mk) : Prop :=
 ∃ (I : Value → Value → World → Prop) (μ : Value → Value → World → Nat), I a0 a1 w ∧ ∀ (a0 a1 : Value) (w : World), I a0 a1 w → (Nat → Value) → B a0 a1 w (fun b0 b1 w' => I b0 b1 w' ∧ μ b0 b1 w' < μ a0 a1 w)
theorem Lp2.mk {a0 a1 : Value} {w : World} {B : Value → Value → World → (Value → Value → World → Prop) → Prop} (I : Value → Value → World → Prop) (μ : Value → Value → World → Nat) (h0 : I a0 a1 w)
 (h : ∀ (a0 a1 : Value) (w : World), I a0 a1 w → B a0 a1 w (fun b0 b1 w' => I b0 b1 w' ∧ μ b0 b1 w' < μ a0 a1 w)) : Lp2 a0 a1 w B :=
 ⟨I, μ, h0, fun a0 a1 w hI _ => h a0 a1 w hI⟩
def Jn3 (A : (Value → Value → Value → World → Prop) → Prop) (B : Value → Value → Value → World → Prop) (_ : Tag A := .mk) (_ : Tag B := .mk) : Prop :=
 ∀ K : Value → Value → Value → World → Prop, (∀ (a0 a1 a2 : Value) (w : World), ((Nat → Value) → B a0 a1 a2 w) → K a0 a1 a2 w) → A K
theorem Jn3.mk {A : (Value → Value → Value → World → Prop) → Prop} {B : Value → Value → Value → World → Prop} (h : ∀ K : Value → Value → Value → World → Prop, (∀ (a0 a1 a2 : Value) (w : World), B a0 a1 a2 w → K a0 a1 a2 w) → A K) : Jn3 A B :=
 fun K hK => h K fun a0 a1 a2 w hb => hK a0 a1 a2 w fun _ => hb
def Lp3 (a0 a1 a2 : Value) (w : World) (B : Value → Value → Value → World → (Value → Value → Value → World → Prop) → Prop) (_ : Tag B := .mk) : Prop :=
 ∃ (I : Value → Value → Value → World → Prop) (μ : Value → Value → Value → World → Nat), I a0 a1 a2 w ∧ ∀ (a0 a1 a2 : Value) (w : World), I a0 a1 a2 w → (Nat → Value) → B a0 a1 a2 w (fun b0 b1 b2 w' => I b0 b1 b2 w' ∧ μ b0 b1 b2 w' < μ a0 a1 a2 w)
theorem Lp3.mk {a0 a1 a2 : Value} {w : World} {B : Value → Value → Value → World → (Value → Value → Value → World → Prop) → Prop} (I : Value → Value → Value → World → Prop) (μ : Value → Value → Value → World → Nat) (h0 : I a0 a1 a2 w)
 (h : ∀ (a0 a1 a2 : Value) (w : World), I a0 a1 a2 w → B a0 a1 a2 w (fun b0 b1 b2 w' => I b0 b1 b2 w' ∧ μ b0 b1 b2 w' < μ a0 a1 a2 w)) : Lp3 a0 a1 a2 w B :=
 ⟨I, μ, h0, fun a0 a1 a2 w hI _ => h a0 a1 a2 w hI⟩
def Lp5 (a0 a1 a2 a3 a4 : Value) (w : World) (B : Value → Value → Value → Value → Value → World → (Value → Value → Value → Value → Value → World → Prop) → Prop) (_ : Tag B := .mk) : Prop :=
 ∃ (I : Value → Value → Value → Value → Value → World → Prop) (μ : Value → Value → Value → Value → Value → World → Nat), I a0 a1 a2 a3 a4 w ∧ ∀ (a0 a1 a2 a3 a4 : Value) (w : World), I a0 a1 a2 a3 a4 w → (Nat → Value) → B a0 a1 a2 a3 a4 w (fun b0 b1 b2 b3 b4 w' => I b0 b1 b2 b3 b4 w' ∧ μ b0 b1 b2 b3 b4 w' < μ a0 a1 a2 a3 a4 w)
theorem Lp5.mk {a0 a1 a2 a3 a4 : Value} {w : World} {B : Value → Value → Value → Value → Value → World → (Value → Value → Value → Value → Value → World → Prop) → Prop} (I : Value → Value → Value → Value → Value → World → Prop) (μ : Value → Value → Value → Value → Value → World → Nat) (h0 : I a0 a1 a2 a3 a4 w)
 (h : ∀ (a0 a1 a2 a3 a4 : Value) (w : World), I a0 a1 a2 a3 a4 w → B a0 a1 a2 a3 a4 w (fun b0 b1 b2 b3 b4 w' => I b0 b1 b2 b3 b4 w' ∧ μ b0 b1 b2 b3 b4 w' < μ a0 a1 a2 a3 a4 w)) : Lp5 a0 a1 a2 a3 a4 w B :=
 ⟨I, μ, h0, fun a0 a1 a2 a3 a4 w hI _ => h a0 a1 a2 a3 a4 w hI⟩
end Go.Eng
namespace Go.Eng
open Go Go.RowKit Go.Proofs
def VK (r : Result Value) (K : Value → World → Prop) (_ : Tag K := .mk) : Prop := match r with | .ok v w => K v w | .halt _ _ => False
def UK (r : Result Unit) (K : World → Prop) (_ : Tag K := .mk) : Prop := match r with | .ok _ w => K w | .halt _ _ => False
def DT (r : World → Result Value) (K : Value → Prop) (_ : Tag K := .mk) : Prop := ∃ v, (∀ w', r w' = .ok v w') ∧ K v
def DF (r : Result Value) (w : World) (K : Value → Prop) (_ : Tag K := .mk) : Prop := ∃ v, r = .ok v w ∧ K v
def KK (r : Result Value) (v : Value) (w : World) (rest : Prop) (_ : Tag rest := .mk) : Prop := r = .ok v w ∧ rest
section
variable {P : Program} {w : World} {K : Value → World → Prop} {KP : Value → Prop} {KW : World → Prop}
theorem V_VK {s : Sem Value} : V P s w K = VK (s.run P w) K := by
 unfold V VK
 generalize s.run P w = r
 cases r with
 | ok v w' => exact propext ⟨fun ⟨_, _, h, k⟩ => by cases h; exact k, fun k => ⟨_, _, rfl, k⟩⟩
 | halt h w' => exact propext ⟨fun ⟨_, _, h, _⟩ => (by cases h), False.elim⟩
theorem U_UK {s : Sem Unit} : U P s w KW = UK (s.run P w) KW := by
 unfold U UK
 generalize s.run P w = r
 cases r with
 | ok v w' => exact propext ⟨fun ⟨_, h, k⟩ => by cases h; exact k, fun k => ⟨_, rfl, k⟩⟩
 | halt h w' => exact propext ⟨fun ⟨_, h, _⟩ => (by cases h), False.elim⟩
@[go_sem] theorem VK_ok {v : Value} : VK (.ok v w) K = K v w := rfl
@[go_sem] theorem UK_ok {u : Unit} : UK (.ok u w) KW = KW w := rfl
@[go_sem] theorem DT_ok {v : Value} : DT (Result.ok v) KP = KP v :=
 propext ⟨fun ⟨v', h, k⟩ => by have := h default; cases this; exact k, fun k => ⟨v, fun _ => rfl, k⟩⟩
@[go_sem] theorem DF_ok {v : Value} : DF (.ok v w) w KP = KP v := propext ⟨fun ⟨v', h, k⟩ => by cases h; exact k, fun k => ⟨v, rfl, k⟩⟩
@[go_sem] theorem KK_ok {v : Value} {R : Prop} : KK (.ok v w) v w R = R := propext ⟨fun h => h.2, fun h => ⟨rfl, h⟩⟩
@[go_sem ↓] theorem Al_x {t : TypeId} : Al P t w K = VK ((Instr.alloc t true (.tuple #[])).run P w) K := V_VK
@[go_sem ↓] theorem Bx_x {t : TypeId} {v : Value} : Bx P t v w K = VK ((Instr.box t v).run P w) K := V_VK
@[go_sem ↓] theorem Bd_x {t : TypeId} {ps : List (Nat × Value)} : Bd P t ps w K = VK ((Instr.build t ps.toArray).run P w) K := V_VK
@[go_sem ↓] theorem Ld_x {t : TypeId} {a : Value} : Ld P t a w K = VK ((Instr.loadAt t a).run P w) K := V_VK
@[go_sem ↓] theorem Sto_x {t : TypeId} {a v : Value} : Sto P t a v w KW = UK ((Instr.storeAt t a v).run P w) KW := U_UK
@[go_sem ↓] theorem Bn_x {op : BinOp} {t : TypeId} {c : Bool} {a b : Value} : Bn P op t c a b w K = VK ((do eqG op t c a b; binOp op t a b : Sem Value).run P w) K := V_VK
@[go_sem ↓] theorem Un_x {op : UnOp} {a : Value} : Un P op a w K = VK ((Op.unary op a).run P w) K := V_VK
@[go_sem ↓] theorem Cv_x {s d : TypeId} {a : Value} : Cv P s d a w K = VK ((convert s d a).run P w) K := V_VK
@[go_sem ↓] theorem Mi_x {t : TypeId} {a : Value} : Mi P t a w K = VK ((Instr.makeInterface t a).run P w) K := V_VK
@[go_sem ↓] theorem Sc_x {t : TypeId} {x : Value} {lo hi mx : Option Value} : Sc P t x lo hi mx w K = VK ((Instr.sliceAt t x lo hi mx).run P w) K := V_VK
@[go_sem ↓] theorem Fa_x {t : TypeId} {x : Value} {f : Nat} : Fa P t x f w K = VK ((Instr.fieldAt t x f).run P w) K := V_VK
@[go_sem ↓] theorem Fd_x {t : TypeId} {x : Value} {f : Nat} : Fd P t x f w K = VK ((Instr.field t x f).run P w) K := V_VK
@[go_sem ↓] theorem Ia_x {t : TypeId} {x i : Value} : Ia P t x i w K = VK ((Instr.indexAt t x i).run P w) K := V_VK
@[go_sem ↓] theorem Ix_x {t : TypeId} {x i : Value} : Ix P t x i w K = VK ((Instr.index t x i).run P w) K := V_VK
@[go_sem ↓] theorem Mm_x {t : TypeId} {r : Option Value} : Mm P t r w K = VK ((Instr.makeMap t r).run P w) K := V_VK
@[go_sem ↓] theorem Lk_x {t : TypeId} {x i : Value} {ok : Bool} : Lk P t x i ok w K = VK ((Instr.lookup t x i ok).run P w) K := V_VK
@[go_sem ↓] theorem Dv_t {s : Sem Value} : Dv P true s w KP = DT (fun w' => s.run P w') KP := rfl
@[go_sem ↓] theorem Dv_f {s : Sem Value} : Dv P false s w KP = DF (s.run P w) w KP := rfl
@[go_sem ↓] theorem Ke_x {s : Sem Value} {v : Value} {R : Prop} : Ke P s v w R = KK (s.run P w) v w R := rfl
@[go_sem ↓] theorem Rc_x {t : TypeId} {a : Value} : Rc P t a w KP = DF ((do loadVar t (← asAddr a) : Sem Value).run P w) w KP := rfl
@[go_sem ↓] theorem Bt_len {ats : Array TypeId} {T : TypeId} {args : Array Value} : Bt P .len ats T args w K = VK ((Builtin.len_ ats T args).run P w) K := V_VK
@[go_sem ↓] theorem Bt_max {ats : Array TypeId} {T : TypeId} {args : Array Value} : Bt P .max ats T args w K = VK ((Builtin.max_ ats T args).run P w) K := V_VK
@[go_sem ↓] theorem Bt_min {ats : Array TypeId} {T : TypeId} {args : Array Value} : Bt P .min ats T args w K = VK ((Builtin.min_ ats T args).run P w) K := V_VK
@[go_sem] theorem bV_len {ats : Array TypeId} {T : TypeId} {args : Array Value} : bV .len ats T args = Builtin.len_ ats T args := rfl
@[go_sem] theorem bV_min {ats : Array TypeId} {T : TypeId} {args : Array Value} : bV .min ats T args = Builtin.min_ ats T args := rfl
@[go_sem] theorem bV_max {ats : Array TypeId} {T : TypeId} {args : Array Value} : bV .max ats T args = Builtin.max_ ats T args := rfl
@[go_sem] theorem eqG_add {t : TypeId} {c : Bool} {a b : Value} (op : BinOp) (h : (op matches .eql | .neq) = false) : eqG op t c a b = pure () := by
 cases op <;> simp_all [eqG, eqGuard]
@[go_sem] theorem eqG_int {op : BinOp} {t : TypeId} {c : Bool} {k k' : IntKind} {a b : Int} : eqG op t c (.int k a) (.int k' b) = pure () := by cases op <;> rfl
@[go_sem] theorem eqG_bool {op : BinOp} {t : TypeId} {c : Bool} {a b : Bool} : eqG op t c (.bool a) (.bool b) = pure () := by cases op <;> rfl
@[go_sem] theorem eqG_str {op : BinOp} {t : TypeId} {c : Bool} {a b : ByteArray} : eqG op t c (.string a) (.string b) = pure () := by cases op <;> rfl
@[go_sem] theorem Pick_b {t : Bool} {a b : Value} : Pick (.bool t) a b w K = K (bif t then a else b) w := rfl
@[go_sem] theorem PickP_b {t : Bool} {a b : Value} : PickP (.bool t) a b KP = KP (bif t then a else b) := rfl
@[go_sem] theorem Ex_t {vs : Array Value} {i : Nat} : Ex (.tuple vs) i w K = (match vs[i]? with | some x => K x w | none => False) := rfl
@[go_sem] theorem ExP_t {vs : Array Value} {i : Nat} : ExP (.tuple vs) i KP = (match vs[i]? with | some x => KP x | none => False) := rfl
@[go_sem] theorem If_t {A B : Prop} : If (.bool true) A B = A := rfl
@[go_sem] theorem If_f {A B : Prop} : If (.bool false) A B = B := rfl
@[go_sem] theorem Gd_tt {A : (Value → World → Prop) → Prop} : Gd (.bool true) true A w K = A K := rfl
@[go_sem] theorem Gd_ff {A : (Value → World → Prop) → Prop} : Gd (.bool false) false A w K = A K := rfl
@[go_sem] theorem Gd_tf {A : (Value → World → Prop) → Prop} : Gd (.bool true) false A w K = K undef w := rfl
@[go_sem] theorem Gd_ft {A : (Value → World → Prop) → Prop} : Gd (.bool false) true A w K = K undef w := rfl
@[go_sem] theorem Gd_u {b : Bool} {A : (Value → World → Prop) → Prop} : Gd undef b A w K = K undef w := rfl
@[go_sem] theorem GdP_tt {A : (Value → Prop) → Prop} : GdP (.bool true) true A KP = A KP := rfl
@[go_sem] theorem GdP_ff {A : (Value → Prop) → Prop} : GdP (.bool false) false A KP = A KP := rfl
@[go_sem] theorem GdP_tf {A : (Value → Prop) → Prop} : GdP (.bool true) false A KP = KP undef := rfl
@[go_sem] theorem GdP_ft {A : (Value → Prop) → Prop} : GdP (.bool false) true A KP = KP undef := rfl
@[go_sem] theorem GdP_u {b : Bool} {A : (Value → Prop) → Prop} : GdP undef b A KP = KP undef := rfl
@[go_sem] theorem Nc_p {a : Addr} : Nc (.pointer (some a)) w K = K (.pointer (some a)) w := rfl
@[go_sem] theorem NcP_p {a : Addr} : NcP (.pointer (some a)) KP = KP (.pointer (some a)) := rfl
end
abbrev Ext (w w' : World) : Prop := Below w.heap.size w w'
theorem Ext.refl (w : World) : Ext w w := Below.refl _ _
theorem Ext.tr {a b c : World} (h : Ext a b) (k : Ext b c) : Ext a c := h.trans (k.mono h.size)
theorem Ext.al {a w : World} (h : Ext a w) (o : Obj) : Ext a (w.alloc o) := Below.alloc h h.size o
theorem Ext.dr {a w : World} (h : Ext a w) : Ext a w.drew := Below.drew h
theorem Ext.st {a w : World} (h : Ext a w) {p : Addr} (hp : a.heap.size ≤ p.block) (u : Value) : Ext a (w.setCell p u) := Below.setCell h hp u
theorem Ext.cell' {w w' : World} (h : Ext w w') {a : Addr} {v : Value} (hc : w.cell? a = some v) : w'.cell? a = some v :=
 (h.cell (World.block_lt_of_cell? w a hc)).trans hc
theorem Ext.frz {w w' : World} (h : Ext w w') {a : Addr} (hb : a.block < w.heap.size) : w'.frozen? a = w.frozen? a := h.frozen hb
def Ret (S : Value → World → Prop) : Ending → World → Prop := fun e w => ∃ v, e = .returned v ∧ S v w
theorem Ret.mk {S : Value → World → Prop} {v : Value} {w : World} (h : S v w) : Ret S (.returned v) w := ⟨v, rfl, h⟩
theorem Ret.imp {S S' : Value → World → Prop} (h : ∀ v w, S v w → S' v w) : ∀ e w, Ret S e w → Ret S' e w := fun _ _ ⟨v, he, hs⟩ => ⟨v, he, h v _ hs⟩
section
variable {P : Program} {f : FuncId} {args : Array Value} {w : World} {pan : List PanicEntry → World → Prop} {K : Value → World → Prop} {S : Value → World → Prop}
theorem Cl_i (hn : Enters P f) (h : Calls P f args w (Ret S)) (hk : ∀ v w', S v w' → K v w') : Cl P f args w pan K := by
 unfold Cl N
 rw [hn]
 exact h.mono fun e w' ⟨v, he, hs⟩ => by subst he; exact hk v w' hs
theorem Cw_i {first cap : Array Value} (hn : Enters P f) (h : Calls P f (first ++ args ++ cap) w (Ret S)) (hk : ∀ v w', S v w' → K v w') : Cw P (.func (.func f) first cap) args w pan K := by
 unfold Cw N
 simp only [Deferred.ofValue, Sem.run_bind, Sem.run_pure, Result.andThen_ok, invoke]
 rw [hn]
 exact h.mono fun e w' ⟨v, he, hs⟩ => by subst he; exact hk v w' hs
end
structure Sli (P : Program) (t e : TypeId) (z : Value) (nb : Nat) : Prop where
 und : P.underlying t = some (.slice e)
 info : ∃ i, P.info? e = some i ∧ i.zero = some z ∧ i.size = 1 ∧ i.bytes = nb
 one : z.cells = #[z]
theorem World.grownBy.below {w w' : World} {row : Option Nat} {B : Nat} (h : w.grownBy w' row) (hB : B ≤ w.heap.size) (hr : ∀ k, row = some k → B ≤ k) : Below B w w' :=
 ⟨h.os, h.tape, h.output, h.size, fun k hk => h.block k (by omega) fun hc => by have := hr k hc.symm; omega⟩
theorem World.grownBy.ext {w w' : World} (h : w.grownBy w' none) : Ext w w' := World.grownBy.below h (Nat.le_refl _) (by simp)
def CellsAt (w : World) (b o : Nat) (xs : List Value) : Prop := ∀ i x, xs[i]? = some x → w.cell? ⟨b, o + i, none⟩ = some x
theorem CellsAt.ext {w w' : World} {b o : Nat} {xs : List Value} (h : CellsAt w b o xs) (he : Ext w w') : CellsAt w' b o xs := fun i x hx => he.cell' (h i x hx)
theorem add_none (b o j : Nat) : (⟨b, o, none⟩ : Addr).add j = ⟨b, o + j, none⟩ := by unfold Addr.add; split <;> simp_all
section
variable {P : Program} {t e : TypeId} {z : Value} {nb : Nat} {w : World} {K : Value → World → Prop} {base : Nat}
end
theorem w64 {x : Int} (h1 : -9223372036854775808 ≤ x) (h2 : x ≤ 9223372036854775807) : IntKind.i64.wrap x = x := by
 rw [IntKind.wrap_i64]; omega
theorem wu64 {x : Int} (h1 : 0 ≤ x) (h2 : x < 18446744073709551616) : IntKind.u64.wrap x = x := by
 rw [IntKind.wrap_u64]; omega
section
variable {a b : Int} {m n : Nat}
theorem dlt_t (h : a < b) : decide (a < b) = true := by simp [h]
theorem dlt_f (h : b ≤ a) : decide (a < b) = false := by simp; omega
theorem dle_t (h : a ≤ b) : decide (a ≤ b) = true := by simp [h]
theorem dle_f (h : b < a) : decide (a ≤ b) = false := by simp; omega
theorem deq_t (h : a = b) : decide (a = b) = true := by simp [h]
theorem deq_f (h : a < b ∨ b < a) : decide (a = b) = false := by simp; omega
theorem beq_t (h : a = b) : (a == b) = true := by simp [h]
theorem beq_f (h : a < b ∨ b < a) : (a == b) = false := by simp; omega
theorem bne_t (h : a < b ∨ b < a) : (a != b) = true := by simp; omega
theorem bne_f (h : a = b) : (a != b) = false := by simp [h]
theorem nlt_t (h : m < n) : decide (m < n) = true := by simp [h]
theorem nlt_f (h : n ≤ m) : decide (m < n) = false := by simp; omega
theorem nle_t (h : m ≤ n) : decide (m ≤ n) = true := by simp [h]
theorem nle_f (h : n < m) : decide (m ≤ n) = false := by simp; omega
theorem neq_t (h : m = n) : decide (m = n) = true := by simp [h]
theorem neq_f (h : m < n ∨ n < m) : decide (m = n) = false := by simp; omega
theorem nbeq_t (h : m = n) : (m == n) = true := by simp [h]
theorem nbeq_f (h : m < n ∨ n < m) : (m == n) = false := by simp; omega
theorem nbne_t (h : m < n ∨ n < m) : (m != n) = true := by simp; omega
theorem nbne_f (h : m = n) : (m != n) = false := by simp [h]
theorem it_t {α : Sort _} {c : Prop} [Decidable c] {x y : α} (h : c) : (if c then x else y) = x := if_pos h
theorem it_f {α : Sort _} {c : Prop} [Decidable c] {x y : α} (h : ¬ c) : (if c then x else y) = y := if_neg h
theorem dit_t {α : Sort _} {c : Prop} [Decidable c] {x : c → α} {y : ¬ c → α} (h : c) : dite c x y = x h := dif_pos h
theorem dit_f {α : Sort _} {c : Prop} [Decidable c] {x : c → α} {y : ¬ c → α} (h : ¬ c) : dite c x y = y h := dif_neg h
theorem gL : (∀ {x : Int}, -9223372036854775808 ≤ x → x ≤ 9223372036854775807 → IntKind.i64.wrap x = x) ∧
 (∀ {x : Int}, 0 ≤ x → x < 18446744073709551616 → IntKind.u64.wrap x = x) ∧
 (∀ {a b : Int}, a < b → decide (a < b) = true) ∧
 (∀ {a b : Int}, b ≤ a → decide (a < b) = false) ∧
 (∀ {a b : Int}, a ≤ b → decide (a ≤ b) = true) ∧
 (∀ {a b : Int}, b < a → decide (a ≤ b) = false) ∧
 (∀ {a b : Int}, a = b → decide (a = b) = true) ∧
 (∀ {a b : Int}, (a < b ∨ b < a) → decide (a = b) = false) ∧
 (∀ {a b : Int}, a = b → (a == b) = true) ∧
 (∀ {a b : Int}, (a < b ∨ b < a) → (a == b) = false) ∧
 (∀ {a b : Int}, (a < b ∨ b < a) → (a != b) = true) ∧
 (∀ {a b : Int}, a = b → (a != b) = false) ∧
 (∀ {m n : Nat}, m < n → decide (m < n) = true) ∧
 (∀ {m n : Nat}, n ≤ m → decide (m < n) = false) ∧
 (∀ {m n : Nat}, m ≤ n → decide (m ≤ n) = true) ∧
 (∀ {m n : Nat}, n < m → decide (m ≤ n) = false) ∧
 (∀ {m n : Nat}, m = n → decide (m = n) = true) ∧
 (∀ {m n : Nat}, (m < n ∨ n < m) → decide (m = n) = false) ∧
 (∀ {m n : Nat}, m = n → (m == n) = true) ∧
 (∀ {m n : Nat}, (m < n ∨ n < m) → (m == n) = false) ∧
 (∀ {m n : Nat}, (m < n ∨ n < m) → (m != n) = true) ∧
 (∀ {m n : Nat}, m = n → (m != n) = false) :=
 ⟨@w64, @wu64, @dlt_t, @dlt_f, @dle_t, @dle_f, @deq_t, @deq_f, @beq_t, @beq_f, @bne_t, @bne_f, @nlt_t, @nlt_f, @nle_t, @nle_f, @neq_t, @neq_f, @nbeq_t, @nbeq_f, @nbne_t, @nbne_f⟩
theorem gI.{u} : (∀ {α : Sort u} {c : Prop} [Decidable c] {x y : α}, c → (if c then x else y) = x) ∧ (∀ {α : Sort u} {c : Prop} [Decidable c] {x y : α}, ¬ c → (if c then x else y) = y) ∧
 (∀ {α : Sort u} {c : Prop} [Decidable c] {x : c → α} {y : ¬ c → α} (h : c), dite c x y = x h) ∧ (∀ {α : Sort u} {c : Prop} [Decidable c] {x : c → α} {y : ¬ c → α} (h : ¬ c), dite c x y = y h) :=
 ⟨@it_t, @it_f, @dit_t, @dit_f⟩
end
@[go_sem] theorem eqG_pp {op : BinOp} {t : TypeId} {c : Bool} {a b : Option Addr} : eqG op t c (.pointer a) (.pointer b) = pure () := by cases op <;> rfl
@[go_sem] theorem eqG_ss {op : BinOp} {t : TypeId} {c : Bool} {a b : Option Addr} {l m n k : Nat} : eqG op t c (.slice a l m) (.slice b n k) = pure () := by cases op <;> rfl
@[go_sem] theorem eqG_mm {op : BinOp} {t : TypeId} {c : Bool} {a b : Option Nat} : eqG op t c (.map a) (.map b) = pure () := by cases op <;> rfl
@[go_sem] theorem eqG_in {op : BinOp} {t u : TypeId} {c : Bool} {v : Value} : eqG op t c (.iface u v) .nilIface = pure () := by cases op <;> rfl
@[go_sem] theorem eqG_ni {op : BinOp} {t u : TypeId} {c : Bool} {v : Value} : eqG op t c .nilIface (.iface u v) = pure () := by cases op <;> rfl
@[go_sem] theorem eqG_ii {op : BinOp} {t u u' : TypeId} {c : Bool} {v v' : Value} : eqG op t c (.iface u' v') (.iface u v) = pure () := by cases op <;> rfl
@[go_sem] theorem eqG_nn {op : BinOp} {t : TypeId} : eqG op t true .nilIface .nilIface = pure () := by cases op <;> rfl
@[go_sem] theorem put_one (cs : Array Value) (v : Value) (k : Nat) : Array.foldl (fun (cs : Array Value) (x : Value × Nat) => cs.setIfInBounds x.snd x.fst) cs (#[v].zipIdx k) 0 1 = cs.setIfInBounds k v := rfl
@[go_sem] theorem put_bool {k : Nat} {cs : Array Value} {b : Bool} : Array.foldl (fun (cs : Array Value) (x : Value × Nat) => cs.setIfInBounds x.snd x.fst) cs ((Value.bool b).cells.zipIdx k) 0 1 = cs.setIfInBounds k (Value.bool b) := rfl
@[go_sem] theorem puto_bool {k o : Nat} {cs : Array Value} {b : Bool} : Array.foldl (fun (cs : Array Value) (x : Value × Nat) => cs.setIfInBounds (o + x.snd) x.fst) cs ((Value.bool b).cells.zipIdx k) 0 1 = cs.setIfInBounds (o + k) (Value.bool b) := rfl
@[go_sem] theorem put_int {k : Nat} {cs : Array Value} {i : IntKind} {b : Int} : Array.foldl (fun (cs : Array Value) (x : Value × Nat) => cs.setIfInBounds x.snd x.fst) cs ((Value.int i b).cells.zipIdx k) 0 1 = cs.setIfInBounds k (Value.int i b) := rfl
@[go_sem] theorem puto_int {k o : Nat} {cs : Array Value} {i : IntKind} {b : Int} : Array.foldl (fun (cs : Array Value) (x : Value × Nat) => cs.setIfInBounds (o + x.snd) x.fst) cs ((Value.int i b).cells.zipIdx k) 0 1 = cs.setIfInBounds (o + k) (Value.int i b) := rfl
@[go_sem] theorem put_slice {k : Nat} {cs : Array Value} {a : Option Addr} {m n : Nat} : Array.foldl (fun (cs : Array Value) (x : Value × Nat) => cs.setIfInBounds x.snd x.fst) cs ((Value.slice a m n).cells.zipIdx k) 0 1 = cs.setIfInBounds k (Value.slice a m n) := rfl
@[go_sem] theorem puto_slice {k o : Nat} {cs : Array Value} {a : Option Addr} {m n : Nat} : Array.foldl (fun (cs : Array Value) (x : Value × Nat) => cs.setIfInBounds (o + x.snd) x.fst) cs ((Value.slice a m n).cells.zipIdx k) 0 1 = cs.setIfInBounds (o + k) (Value.slice a m n) := rfl
@[go_sem] theorem put_string {k : Nat} {cs : Array Value} {s : ByteArray} : Array.foldl (fun (cs : Array Value) (x : Value × Nat) => cs.setIfInBounds x.snd x.fst) cs ((Value.string s).cells.zipIdx k) 0 1 = cs.setIfInBounds k (Value.string s) := rfl
@[go_sem] theorem puto_string {k o : Nat} {cs : Array Value} {s : ByteArray} : Array.foldl (fun (cs : Array Value) (x : Value × Nat) => cs.setIfInBounds (o + x.snd) x.fst) cs ((Value.string s).cells.zipIdx k) 0 1 = cs.setIfInBounds (o + k) (Value.string s) := rfl
@[go_sem] theorem put_pointer {k : Nat} {cs : Array Value} {a : Option Addr} : Array.foldl (fun (cs : Array Value) (x : Value × Nat) => cs.setIfInBounds x.snd x.fst) cs ((Value.pointer a).cells.zipIdx k) 0 1 = cs.setIfInBounds k (Value.pointer a) := rfl
@[go_sem] theorem puto_pointer {k o : Nat} {cs : Array Value} {a : Option Addr} : Array.foldl (fun (cs : Array Value) (x : Value × Nat) => cs.setIfInBounds (o + x.snd) x.fst) cs ((Value.pointer a).cells.zipIdx k) 0 1 = cs.setIfInBounds (o + k) (Value.pointer a) := rfl
@[go_sem] theorem put_map {k : Nat} {cs : Array Value} {a : Option Nat} : Array.foldl (fun (cs : Array Value) (x : Value × Nat) => cs.setIfInBounds x.snd x.fst) cs ((Value.map a).cells.zipIdx k) 0 1 = cs.setIfInBounds k (Value.map a) := rfl
@[go_sem] theorem puto_map {k o : Nat} {cs : Array Value} {a : Option Nat} : Array.foldl (fun (cs : Array Value) (x : Value × Nat) => cs.setIfInBounds (o + x.snd) x.fst) cs ((Value.map a).cells.zipIdx k) 0 1 = cs.setIfInBounds (o + k) (Value.map a) := rfl
@[go_sem] theorem put_nilIface {k : Nat} {cs : Array Value}  : Array.foldl (fun (cs : Array Value) (x : Value × Nat) => cs.setIfInBounds x.snd x.fst) cs (Value.nilIface.cells.zipIdx k) 0 1 = cs.setIfInBounds k Value.nilIface := rfl
@[go_sem] theorem puto_nilIface {k o : Nat} {cs : Array Value}  : Array.foldl (fun (cs : Array Value) (x : Value × Nat) => cs.setIfInBounds (o + x.snd) x.fst) cs (Value.nilIface.cells.zipIdx k) 0 1 = cs.setIfInBounds (o + k) Value.nilIface := rfl
@[go_sem] theorem put_nilFunc {k : Nat} {cs : Array Value}  : Array.foldl (fun (cs : Array Value) (x : Value × Nat) => cs.setIfInBounds x.snd x.fst) cs (Value.nilFunc.cells.zipIdx k) 0 1 = cs.setIfInBounds k Value.nilFunc := rfl
@[go_sem] theorem puto_nilFunc {k o : Nat} {cs : Array Value}  : Array.foldl (fun (cs : Array Value) (x : Value × Nat) => cs.setIfInBounds (o + x.snd) x.fst) cs (Value.nilFunc.cells.zipIdx k) 0 1 = cs.setIfInBounds (o + k) Value.nilFunc := rfl
@[go_sem] theorem put_iface {k : Nat} {cs : Array Value} {t : TypeId} {v : Value} : Array.foldl (fun (cs : Array Value) (x : Value × Nat) => cs.setIfInBounds x.snd x.fst) cs ((Value.iface t v).cells.zipIdx k) 0 1 = cs.setIfInBounds k (Value.iface t v) := rfl
@[go_sem] theorem puto_iface {k o : Nat} {cs : Array Value} {t : TypeId} {v : Value} : Array.foldl (fun (cs : Array Value) (x : Value × Nat) => cs.setIfInBounds (o + x.snd) x.fst) cs ((Value.iface t v).cells.zipIdx k) 0 1 = cs.setIfInBounds (o + k) (Value.iface t v) := rfl
@[go_sem] theorem put_func {k : Nat} {cs : Array Value} {f : Fn} {x y : Array Value} : Array.foldl (fun (cs : Array Value) (x : Value × Nat) => cs.setIfInBounds x.snd x.fst) cs ((Value.func f x y).cells.zipIdx k) 0 1 = cs.setIfInBounds k (Value.func f x y) := rfl
@[go_sem] theorem puto_func {k o : Nat} {cs : Array Value} {f : Fn} {x y : Array Value} : Array.foldl (fun (cs : Array Value) (x : Value × Nat) => cs.setIfInBounds (o + x.snd) x.fst) cs ((Value.func f x y).cells.zipIdx k) 0 1 = cs.setIfInBounds (o + k) (Value.func f x y) := rfl
theorem Kf.refl (B : Nat) (W : World) : Kf B W W := ⟨Nat.le_refl _, fun _ _ _ _ => rfl⟩
theorem Kf.ext {B : Nat} {W W' : World} (h : Ext W W') : Kf B W W' := ⟨h.size, fun k _ hk _ => h.block k hk⟩
theorem Kf.low {B : Nat} {W W' : World} (hs : W.heap.size ≤ W'.heap.size) (h : ∀ k, B ≤ k → k < W.heap.size → W'.heap[k]? = W.heap[k]?) : Kf B W W' := ⟨hs, fun k hB hk _ => h k hB hk⟩
theorem Kf.trans {B : Nat} {a b c : World} (h : Kf B a b) (k : Kf B b c) : Kf B a c := by
 refine ⟨Nat.le_trans h.size k.size, fun i hB hi ho => ?_⟩
 have h1 := h.block i hB hi ho
 rw [← h1]
 refine k.block i hB (Nat.lt_of_lt_of_le hi h.size) ?_
 rw [h1]; exact ho
theorem cell_of_block {W W' : World} {a : Addr} (h : W'.heap[a.block]? = W.heap[a.block]?) : W'.cell? a = W.cell? a := by
 unfold World.cell?; rw [h]
theorem Bk.cell {B : Nat} {W W' : World} (h : Bk B W W') {a : Addr} {v : Value} (hc : W.cell? a = some v) : W'.cell? a = some v := by
 rcases h.block a.block (World.block_lt_of_cell? W a hc) with h1 | ⟨_, r, r', h1, _⟩
 ·rw [cell_of_block h1]; exact hc
 ·simp [World.cell?, h1] at hc
theorem Bk.low {B B0 : Nat} {a W W' : World} (h : Bk B W W') (hb : Below B0 a W) (hB : B0 ≤ B) (hs : B0 ≤ a.heap.size) : Below B0 a W' := by
 refine ⟨h.os.trans hb.os, h.tape.trans hb.tape, h.output.trans hb.output, Nat.le_trans hb.size h.size, fun k hk => ?_⟩
 have := hb.size
 rcases h.block k (by omega) with h1 | ⟨h2, _⟩
 ·exact h1.trans (hb.block k hk)
 ·omega
theorem Tk.mk {P : Program} {D : Nat} {w : World} {K : World → Prop} (hD : w.heap[D]? = some (.deferred (some []))) (hk : ∀ w', Below D w w' → (∀ k, k ≠ D → w'.heap[k]? = w.heap[k]?) → K w') : Tk P D w K :=
 ⟨_, run_takeDeferred hD, hk _ ⟨rfl, rfl, rfl, by simp, fun k hk => World.putObj_heap_other (by omega)⟩ fun k hk => World.putObj_heap_other hk⟩
theorem Tk.cell {w w' : World} {D : Nat} (hD : w.heap[D]? = some (.deferred (some []))) (h : ∀ k, k ≠ D → w'.heap[k]? = w.heap[k]?) {a : Addr} {v : Value} (hc : w.cell? a = some v) : w'.cell? a = some v := by
 by_cases he : a.block = D
 ·subst he; simp [World.cell?, hD] at hc
 ·rw [cell_of_block (h _ he)]; exact hc
def Blk (W : World) (b : Nat) (ty : TypeId) (cs : List Value) : Prop := W.heap[b]? = some (.cells cs.toArray ty (0, 0))
theorem Blk.lt {W : World} {b : Nat} {ty : TypeId} {cs : List Value} (h : Blk W b ty cs) : b < W.heap.size := (Array.getElem?_eq_some_iff.1 h).1
theorem Blk.below {W W' : World} {b : Nat} {ty : TypeId} {cs : List Value} (h : Blk W b ty cs) {B : Nat} (hb : Below B W W') (hB : b < B) : Blk W' b ty cs := (hb.block b hB).trans h
theorem Blk.ext {W W' : World} {b : Nat} {ty : TypeId} {cs : List Value} (h : Blk W b ty cs) (hb : Ext W W') : Blk W' b ty cs := h.below hb h.lt
theorem Blk.bk {W W' : World} {b : Nat} {ty : TypeId} {cs : List Value} (h : Blk W b ty cs) {B : Nat} (hb : Bk B W W') : Blk W' b ty cs := by
 rcases hb.block b h.lt with h1 | ⟨_, r, r', h1, _⟩
 ·exact h1.trans h
 ·unfold Blk at h; rw [h1] at h; simp at h
theorem Blk.cell {W : World} {b : Nat} {ty : TypeId} {cs : List Value} (h : Blk W b ty cs) {i : Nat} {v : Value} (hi : cs[i]? = some v) : W.cell? ⟨b, i, none⟩ = some v := by
 unfold Blk at h
 simp [World.cell?, h, hi]
theorem Blk.frz {W : World} {b : Nat} {ty : TypeId} {cs : List Value} (h : Blk W b ty cs) (i : Nat) : W.frozen? ⟨b, i, none⟩ = false := by
 unfold Blk at h
 simp [World.frozen?, h]
theorem Blk.set {W : World} {b : Nat} {ty : TypeId} {cs : List Value} (h : Blk W b ty cs) (i : Nat) (u : Value) : Blk (W.setCell ⟨b, i, none⟩ u) b ty (cs.set i u) := by
 have := heap_setCell_same W b i cs.toArray ty u h
 unfold Blk
 rw [this]
 simp
theorem Blk.set1 {W : World} {b : Nat} {ty : TypeId} {v : Value} (h : Blk W b ty [v]) (u : Value) : Blk (W.setCell ⟨b, 0, none⟩ u) b ty [u] := h.set 0 u
theorem Blk.al (w : World) (cs : List Value) (ty : TypeId) : Blk (w.alloc (.cells cs.toArray ty)) w.heap.size ty cs := heap_alloc_new w _
section
variable {P : Program} {f : FuncId} {args : Array Value} {w : World} {pan : List PanicEntry → World → Prop}
theorem Ex2 {a b : Value} {B : Value → Value → World → Prop} (h : B a b w) : Ex (.tuple #[a, b]) 0 w fun t1 w => Ex (.tuple #[a, b]) 1 w fun t2 w => B t1 t2 w := h
theorem Ex3 {a b c : Value} {B : Value → Value → Value → World → Prop} (h : B a b c w) : Ex (.tuple #[a, b, c]) 0 w fun t1 w => Ex (.tuple #[a, b, c]) 1 w fun t2 w => Ex (.tuple #[a, b, c]) 2 w fun t3 w => B t1 t2 t3 w := h
end
section
variable {P : Program} {w : World} {K : Value → World → Prop} {KP : Value → Prop} {t : TypeId} {c : Bool} {k : IntKind}
theorem Gd_T {A : (Value → World → Prop) → Prop} (h : A K) : Gd (.bool true) true A w K := h
theorem Gd_F {A : (Value → World → Prop) → Prop} (h : A K) : Gd (.bool false) false A w K := h
theorem Gd_TF {A : (Value → World → Prop) → Prop} (h : K undef w) : Gd (.bool true) false A w K := h
theorem Gd_FT {A : (Value → World → Prop) → Prop} (h : K undef w) : Gd (.bool false) true A w K := h
theorem Gd_U {b : Bool} {A : (Value → World → Prop) → Prop} (h : K undef w) : Gd undef b A w K := h
theorem Pick_T {a b : Value} (h : K a w) : Pick (.bool true) a b w K := h
theorem Pick_F {a b : Value} (h : K b w) : Pick (.bool false) a b w K := h
theorem If_T {A B : Prop} (h : A) : If (.bool true) A B := h
theorem If_F {A B : Prop} (h : B) : If (.bool false) A B := h
variable {x y : Int}
theorem Bn_ltT (h : x < y) (hk : K (.bool true) w) : Bn P .lss t c (.int k x) (.int k y) w K := by ((try simp -dsimp [go_sem]); repeat (simp -dsimp (disch := omega) only [gL, gI]; try simp -dsimp [go_sem])); exact hk
theorem Bn_ltF (h : y ≤ x) (hk : K (.bool false) w) : Bn P .lss t c (.int k x) (.int k y) w K := by ((try simp -dsimp [go_sem]); repeat (simp -dsimp (disch := omega) only [gL, gI]; try simp -dsimp [go_sem])); exact hk
theorem Bn_gtT (h : y < x) (hk : K (.bool true) w) : Bn P .gtr t c (.int k x) (.int k y) w K := by ((try simp -dsimp [go_sem]); repeat (simp -dsimp (disch := omega) only [gL, gI]; try simp -dsimp [go_sem])); exact hk
theorem Bn_gtF (h : x ≤ y) (hk : K (.bool false) w) : Bn P .gtr t c (.int k x) (.int k y) w K := by ((try simp -dsimp [go_sem]); repeat (simp -dsimp (disch := omega) only [gL, gI]; try simp -dsimp [go_sem])); exact hk
theorem Bn_leT (h : x ≤ y) (hk : K (.bool true) w) : Bn P .leq t c (.int k x) (.int k y) w K := by ((try simp -dsimp [go_sem]); repeat (simp -dsimp (disch := omega) only [gL, gI]; try simp -dsimp [go_sem])); exact hk
theorem Bn_leF (h : y < x) (hk : K (.bool false) w) : Bn P .leq t c (.int k x) (.int k y) w K := by ((try simp -dsimp [go_sem]); repeat (simp -dsimp (disch := omega) only [gL, gI]; try simp -dsimp [go_sem])); exact hk
theorem Bn_geT (h : y ≤ x) (hk : K (.bool true) w) : Bn P .geq t c (.int k x) (.int k y) w K := by ((try simp -dsimp [go_sem]); repeat (simp -dsimp (disch := omega) only [gL, gI]; try simp -dsimp [go_sem])); exact hk
theorem Bn_geF (h : x < y) (hk : K (.bool false) w) : Bn P .geq t c (.int k x) (.int k y) w K := by ((try simp -dsimp [go_sem]); repeat (simp -dsimp (disch := omega) only [gL, gI]; try simp -dsimp [go_sem])); exact hk
theorem Bn_eqT (h : x = y) (hk : K (.bool true) w) : Bn P .eql t c (.int k x) (.int k y) w K := by ((try simp -dsimp [go_sem]); repeat (simp -dsimp (disch := omega) only [gL, gI]; try simp -dsimp [go_sem])); exact hk
theorem Bn_eqF (h : x < y ∨ y < x) (hk : K (.bool false) w) : Bn P .eql t c (.int k x) (.int k y) w K := by ((try simp -dsimp [go_sem]); repeat (simp -dsimp (disch := omega) only [gL, gI]; try simp -dsimp [go_sem])); exact hk
theorem Bn_neT (h : x < y ∨ y < x) (hk : K (.bool true) w) : Bn P .neq t c (.int k x) (.int k y) w K := by ((try simp -dsimp [go_sem]); repeat (simp -dsimp (disch := omega) only [gL, gI]; try simp -dsimp [go_sem])); exact hk
theorem Bn_neF (h : x = y) (hk : K (.bool false) w) : Bn P .neq t c (.int k x) (.int k y) w K := by ((try simp -dsimp [go_sem]); repeat (simp -dsimp (disch := omega) only [gL, gI]; try simp -dsimp [go_sem])); exact hk
theorem Bn_eqB {a b d : Bool} (ht : P.underlying t = some .bool) (h : (a == b) = d) (hk : K (.bool d) w) : Bn P .eql t c (.bool a) (.bool b) w K := by subst h; cases a <;> cases b <;> ((try simp -dsimp [go_sem, ht]); repeat (simp -dsimp (disch := omega) only [gL, gI]; try simp -dsimp [go_sem, ht])) <;> exact hk
theorem Bn_eqBF {a b : Bool} (ht : P.underlying t = some .bool) (h : (a == b) = false) (hk : K (.bool false) w) : Bn P .eql t c (.bool a) (.bool b) w K := Bn_eqB ht h hk
theorem Un_T (hk : K (.bool false) w) : Un P .not (.bool true) w K := by ((try simp -dsimp [go_sem]); repeat (simp -dsimp (disch := omega) only [gL, gI]; try simp -dsimp [go_sem])); exact hk
theorem Un_F (hk : K (.bool true) w) : Un P .not (.bool false) w K := by ((try simp -dsimp [go_sem]); repeat (simp -dsimp (disch := omega) only [gL, gI]; try simp -dsimp [go_sem])); exact hk
theorem Bn_ad (h1 : -9223372036854775808 ≤ x + y) (h2 : x + y ≤ 9223372036854775807) (hk : K (.int .i64 (x + y)) w) : Bn P .add t c (.int .i64 x) (.int .i64 y) w K := by ((try simp -dsimp [go_sem]); repeat (simp -dsimp (disch := omega) only [gL, gI]; try simp -dsimp [go_sem])); exact hk
theorem Bn_su (h1 : -9223372036854775808 ≤ x - y) (h2 : x - y ≤ 9223372036854775807) (hk : K (.int .i64 (x - y)) w) : Bn P .sub t c (.int .i64 x) (.int .i64 y) w K := by ((try simp -dsimp [go_sem]); repeat (simp -dsimp (disch := omega) only [gL, gI]; try simp -dsimp [go_sem])); exact hk
end
section
variable {P : Program} {w : World} {K : Value → World → Prop} {t u T : TypeId} {c : Bool} {x y : Int}
theorem Bt_lenL {a : Option Addr} {n cap : Nat} (hs : ∃ e, P.underlying u = some (.slice e)) (hk : K (.int .i64 n) w) : Bt P .len #[u] T #[.slice a n cap] w K := by
 obtain ⟨e, hs⟩ := hs
 ((try simp -dsimp [go_sem, hs]); repeat (simp -dsimp (disch := omega) only [gL, gI]; try simp -dsimp [go_sem, hs])); exact hk
theorem Bn_rm (h0 : 0 ≤ x) (hy : 0 < y) (hk : K (.int .i64 (x % y)) w) : Bn P .rem t c (.int .i64 x) (.int .i64 y) w K := by
 have e := Int.tmod_eq_emod_of_nonneg (b := y) h0
 ((try simp -dsimp [go_sem, e]); repeat (simp -dsimp (disch := omega) only [gL, gI]; try simp -dsimp [go_sem, e])); exact hk
theorem Bn_qu (h0 : 0 ≤ x) (h1 : x ≤ 9223372036854775807) (hy : 0 < y) (hk : K (.int .i64 (x / y)) w) : Bn P .quo t c (.int .i64 x) (.int .i64 y) w K := by
 have e := Int.tdiv_eq_ediv_of_nonneg (b := y) h0
 have b0 : 0 ≤ x / y := Int.ediv_nonneg h0 (by omega)
 have b1 : x / y ≤ x := Int.ediv_le_self y h0
 ((try simp -dsimp [go_sem, e]); repeat (simp -dsimp (disch := omega) only [gL, gI]; try simp -dsimp [go_sem, e])); exact hk
end
section
variable {P : Program} {w : World} {K : Value → Prop} {t : TypeId} {c wi : Bool} {k : IntKind}
theorem GdP_T {A : (Value → Prop) → Prop} (h : A K) : GdP (.bool true) true A K := h
theorem GdP_F {A : (Value → Prop) → Prop} (h : A K) : GdP (.bool false) false A K := h
theorem GdP_TF {A : (Value → Prop) → Prop} (h : K undef) : GdP (.bool true) false A K := h
theorem GdP_FT {A : (Value → Prop) → Prop} (h : K undef) : GdP (.bool false) true A K := h
theorem PickP_T {a b : Value} (h : K a) : PickP (.bool true) a b K := h
theorem PickP_F {a b : Value} (h : K b) : PickP (.bool false) a b K := h
theorem ExP2 {a b : Value} {B : Value → Value → Prop} (h : B a b) : ExP (.tuple #[a, b]) 0 fun t1 => ExP (.tuple #[a, b]) 1 fun t2 => B t1 t2 := h
theorem Kg_T {s : Sem Value} {v : Value} {rest : Prop} (h : Ke P s v w rest) : Kg (.bool true) true P s v w rest := ⟨fun _ => h.1, h.2⟩
theorem Kg_FT {s : Sem Value} {v : Value} {rest : Prop} (h : rest) : Kg (.bool false) true P s v w rest := ⟨fun hc => absurd hc (by decide), h⟩
variable {x y : Int}
theorem Dv_eqT (h : x = y) (hk : K (.bool true)) : Dv P wi (bn .eql t c (.int k x) (.int k y)) w K := by cases wi <;> ((try simp -dsimp [go_sem]); repeat (simp -dsimp (disch := omega) only [gL, gI]; try simp -dsimp [go_sem])) <;> exact hk
theorem Dv_eqF (h : x < y ∨ y < x) (hk : K (.bool false)) : Dv P wi (bn .eql t c (.int k x) (.int k y)) w K := by cases wi <;> ((try simp -dsimp [go_sem]); repeat (simp -dsimp (disch := omega) only [gL, gI]; try simp -dsimp [go_sem])) <;> exact hk
theorem Dv_neT (h : x < y ∨ y < x) (hk : K (.bool true)) : Dv P wi (bn .neq t c (.int k x) (.int k y)) w K := by cases wi <;> ((try simp -dsimp [go_sem]); repeat (simp -dsimp (disch := omega) only [gL, gI]; try simp -dsimp [go_sem])) <;> exact hk
theorem Dv_neF (h : x = y) (hk : K (.bool false)) : Dv P wi (bn .neq t c (.int k x) (.int k y)) w K := by cases wi <;> ((try simp -dsimp [go_sem]); repeat (simp -dsimp (disch := omega) only [gL, gI]; try simp -dsimp [go_sem])) <;> exact hk
theorem Dv_ltT (h : x < y) (hk : K (.bool true)) : Dv P wi (bn .lss t c (.int k x) (.int k y)) w K := by cases wi <;> ((try simp -dsimp [go_sem]); repeat (simp -dsimp (disch := omega) only [gL, gI]; try simp -dsimp [go_sem])) <;> exact hk
theorem Dv_ltF (h : y ≤ x) (hk : K (.bool false)) : Dv P wi (bn .lss t c (.int k x) (.int k y)) w K := by cases wi <;> ((try simp -dsimp [go_sem]); repeat (simp -dsimp (disch := omega) only [gL, gI]; try simp -dsimp [go_sem])) <;> exact hk
theorem Dv_gtT (h : y < x) (hk : K (.bool true)) : Dv P wi (bn .gtr t c (.int k x) (.int k y)) w K := by cases wi <;> ((try simp -dsimp [go_sem]); repeat (simp -dsimp (disch := omega) only [gL, gI]; try simp -dsimp [go_sem])) <;> exact hk
theorem Dv_gtF (h : x ≤ y) (hk : K (.bool false)) : Dv P wi (bn .gtr t c (.int k x) (.int k y)) w K := by cases wi <;> ((try simp -dsimp [go_sem]); repeat (simp -dsimp (disch := omega) only [gL, gI]; try simp -dsimp [go_sem])) <;> exact hk
theorem Dv_leT (h : x ≤ y) (hk : K (.bool true)) : Dv P wi (bn .leq t c (.int k x) (.int k y)) w K := by cases wi <;> ((try simp -dsimp [go_sem]); repeat (simp -dsimp (disch := omega) only [gL, gI]; try simp -dsimp [go_sem])) <;> exact hk
theorem Dv_leF (h : y < x) (hk : K (.bool false)) : Dv P wi (bn .leq t c (.int k x) (.int k y)) w K := by cases wi <;> ((try simp -dsimp [go_sem]); repeat (simp -dsimp (disch := omega) only [gL, gI]; try simp -dsimp [go_sem])) <;> exact hk
theorem Dv_nT (hk : K (.bool false)) : Dv P wi (Op.unary .not (.bool true)) w K := by cases wi <;> ((try simp -dsimp [go_sem]); repeat (simp -dsimp (disch := omega) only [gL, gI]; try simp -dsimp [go_sem])) <;> exact hk
theorem Dv_nF (hk : K (.bool true)) : Dv P wi (Op.unary .not (.bool false)) w K := by cases wi <;> ((try simp -dsimp [go_sem]); repeat (simp -dsimp (disch := omega) only [gL, gI]; try simp -dsimp [go_sem])) <;> exact hk
theorem Dv_ad (h1 : -9223372036854775808 ≤ x + y) (h2 : x + y ≤ 9223372036854775807) (hk : K (.int .i64 (x + y))) : Dv P wi (bn .add t c (.int .i64 x) (.int .i64 y)) w K := by cases wi <;> ((try simp -dsimp [go_sem]); repeat (simp -dsimp (disch := omega) only [gL, gI]; try simp -dsimp [go_sem])) <;> exact hk
theorem Dv_su (h1 : -9223372036854775808 ≤ x - y) (h2 : x - y ≤ 9223372036854775807) (hk : K (.int .i64 (x - y))) : Dv P wi (bn .sub t c (.int .i64 x) (.int .i64 y)) w K := by cases wi <;> ((try simp -dsimp [go_sem]); repeat (simp -dsimp (disch := omega) only [gL, gI]; try simp -dsimp [go_sem])) <;> exact hk
theorem Un_ng {K : Value → World → Prop} (h1 : -9223372036854775808 ≤ -x) (h2 : -x ≤ 9223372036854775807) (hk : K (.int .i64 (-x)) w) : Un P .neg (.int .i64 x) w K := by
 have e := w64 (x := -x) h1 h2
 ((try simp -dsimp [go_sem, e]); repeat (simp -dsimp (disch := omega) only [gL, gI]; try simp -dsimp [go_sem, e]))
 exact hk
theorem eqG_agg {op : BinOp} {xs ys : Array Value} (h : P.eqGuardType P.depth t = false) : (eqG op t c (.agg xs) (.agg ys)).run P w = .ok () w := by
 unfold eqG eqGuard
 cases op <;> simp [h]
end
end Go.Eng
