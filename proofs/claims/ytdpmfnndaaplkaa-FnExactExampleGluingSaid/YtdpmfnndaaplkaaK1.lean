/- A library of the author's own and walks of the program's functions, laid together by program. -/
import Derived.Tactics
import Derived.Orders
import Derived.Below
import Derived.Deep.MidRow
import Derived.Laws.CopyRow
import Derived.WideLaws
import Derived.WalkSpells
set_option linter.unusedVariables false
set_option linter.unusedSimpArgs false
/- The reified states of a walk, and what each operation makes of them. No memory and no machine here. -/
namespace Go.Dm
open Go

/-- Types of what stands in slices. -/
inductive Ty where
  | int (k : IntKind) | bool | str
  | sl (e : TypeId) (t : Ty)
  | unit | pair (a b : Ty)
  deriving DecidableEq, Inhabited

@[reducible] def Ty.T : Ty → Type
  | .int _ => Int
  | .bool => Bool
  | .str => List UInt8
  | .sl _ t => List t.T
  | .unit => Unit
  | .pair a b => a.T × b.T

/-- How many cells a value takes. -/
def Ty.size : Ty → Nat
  | .int _ | .bool | .str | .sl _ _ => 1
  | .unit => 0
  | .pair a b => a.size + b.size

/-- No slice within. -/
def Ty.flat : Ty → Bool
  | .int _ | .bool | .str | .unit => true
  | .sl _ _ => false
  | .pair a b => a.flat && b.flat

def Ty.dflt : (t : Ty) → t.T
  | .int _ => (0 : Int)
  | .bool => false
  | .str => []
  | .sl _ _ => []
  | .unit => ()
  | .pair a b => (a.dflt, b.dflt)

/-- What a slot, or a cell of a box, holds. -/
inductive SV where
  | dead
  | int (k : IntKind) (n : Int)
  | bool (b : Bool)
  | str (s : List UInt8)
  | nilsl
  | fs (t : Ty) (e : TypeId) (xs : List t.T)
  | view (id off len : Nat)
  | row (id j off len : Nat)
  | ptr (id off : Nat)
  | aaddr (id off : Nat)
  | eaddr (id j sub : Nat)
  | raddr (id j i : Nat)
  | faddr (t : Ty) (x : t.T) (sub : Nat)
  | nilptr
  | fn (f : FuncId)
  | clo (f : FuncId) (caps : List SV)
  | agg (cs : List SV)
  | tup (vs : List SV)
  deriving Inhabited

/-- The walk's own memory: a box of cells; a slice's row (d: how deep the rows within it are its own; hole: an index whose element is spoilt); an array. -/
inductive Ob where
  | gone
  | box (e : TypeId) (cs : List SV)
  | lst (t : Ty) (e : TypeId) (d : Nat) (xs : List t.T) (hole : Option Nat)
  | arr (t : Ty) (e : TypeId) (xs : List t.T)
  deriving Inhabited

/-- n: how many slots; fix: so many objects came in; wr: int arithmetic wraps (else it must not). -/
structure St where
  n : Nat
  fix : Nat
  wr : Bool
  env : List (Nat × SV)
  objs : List Ob

inductive Ex where
  | normal | exit (id : Nat) | ret
  deriving DecidableEq

/-- What the walk knows of a type. -/
structure TI where
  ok : Bool
  sz : Nat
  agg : Bool
  bytes : Nat
  ty : Option Ty
  zv : List Value
  sl : Option TypeId
  flds : List (Nat × TypeId)
  arr : Option (Nat × TypeId × Nat)
  av : Option Ty
  deriving Inhabited

/-- The leaves' own words: a walk is reduced while these are a variable. -/
structure W where
  inR : IntKind → Int → Prop
  add : Int → Int → Int
  sub : Int → Int → Int
  mul : Int → Int → Int
  neg : Int → Int
  quo : Int → Int → Int
  rem : Int → Int → Int
  bit : BinOp → IntKind → Int → Int → Int
  shl : IntKind → Int → Int → Int
  shr : IntKind → Int → Int → Int
  max : Int → Int → Int
  min : Int → Int → Int
  ne0 : Int → Prop
  ge0 : Int → Prop
  wrap : IntKind → Int → Int
  lt : Int → Int → Bool
  le : Int → Int → Bool
  eq : Int → Int → Bool
  eqS : List UInt8 → List UInt8 → Bool
  eqB : Bool → Bool → Bool
  not : Bool → Bool
  and : Bool → Bool → Bool
  len : {α : Type} → List α → Nat
  int : Nat → Int
  inB : Int → Nat → Prop
  ltN : Nat → Nat → Prop
  cut : Int → Int → Nat → Prop
  nat : Int → Nat
  addN : Nat → Nat → Nat
  subN : Nat → Nat → Nat
  mulN : Nat → Nat → Nat
  minN : Nat → Nat → Nat
  eqN : Nat → Nat → Prop
  neN : Nat → Nat → Prop
  room : Nat → Nat → Prop
  get : (t : Ty) → List t.T → Nat → t.T
  set : {α : Type} → List α → Nat → α → List α
  app : {α : Type} → List α → List α → List α
  ext : {α : Type} → List α → Nat → Nat → List α
  rep : {α : Type} → Nat → α → List α
  byteAt : List UInt8 → Nat → Int
  bytes : List Int → List UInt8
  ints : List UInt8 → List Int
  splice : {α : Type} → List α → Nat → List α → List α
  shift : {α : Type} → List α → Nat → List α
  loop : (St → (Ex → St → Prop) → Prop) → St → (Ex → St → Prop) → Prop
  call : FuncId → List SV → St → (St → SV → Prop) → Prop
  qcall : FuncId → List SV → St → (SV → Prop) → Prop
  acall : FuncId → List SV → St → (St → SV → Prop) → Prop
  lex : (TypeId → TI) → List Oper → Prop
  draw : (St → (St → Prop) → Prop) → St → (St → Prop) → Prop
  eqT : TypeId → Nat → Prop

structure Ctx where
  w : W
  ti : TypeId → TI
  own : Bool

def lkp : List (Nat × SV) → Nat → SV
  | [], _ => .dead
  | (k, v) :: r, q => if k = q then v else lkp r q
def drp : List (Nat × SV) → Nat → List (Nat × SV)
  | [], _ => []
  | (k, v) :: r, q => if k = q then drp r q else (k, v) :: drp r q
def St.put (Γ : St) (d : Option Nat) (v : SV) : St := match d with
  | none => Γ
  | some d => ⟨Γ.n, Γ.fix, Γ.wr, (d, v) :: drp Γ.env d, Γ.objs⟩
def St.setO (Γ : St) (os : List Ob) : St := ⟨Γ.n, Γ.fix, Γ.wr, Γ.env, os⟩
def St.setE (Γ : St) (env : List (Nat × SV)) : St := ⟨Γ.n, Γ.fix, Γ.wr, env, Γ.objs⟩
def ogt : List Ob → Nat → Ob
  | [], _ => .gone
  | o :: _, 0 => o
  | _ :: r, n + 1 => ogt r n
def ost : List Ob → Nat → Ob → List Ob
  | [], _, _ => []
  | _ :: r, 0, o => o :: r
  | p :: r, n + 1, o => p :: ost r n o
def sgt : List SV → Nat → SV
  | [], _ => .dead
  | s :: _, 0 => s
  | _ :: r, n + 1 => sgt r n
def ssub : List SV → Nat → Nat → List SV
  | _, _, 0 => []
  | cs, off, n + 1 => sgt cs off :: ssub cs (off + 1) n
/-- overwrite cells from an offset on; none if they do not fit -/
def sput : List SV → Nat → List SV → Option (List SV)
  | cs, _, [] => some cs
  | [], _, _ :: _ => none
  | c :: cs, n + 1, vs => match sput cs n vs with | some r => some (c :: r) | none => none
  | _ :: cs, 0, v :: vs => match sput cs 0 vs with | some r => some (v :: r) | none => none

def svOf : Value → SV
  | .int k n => .int k n
  | .bool b => .bool b
  | .string s => .str s.data.toList
  | .slice none 0 0 => .nilsl
  | .pointer none => .nilptr
  | _ => .dead

def svOfs : List Value → List SV
  | [] => []
  | v :: r => svOf v :: svOfs r

def rd (Γ : St) : Operand → SV
  | .tmp t => lkp Γ.env t
  | .const v => svOf v
  | .func f => .fn f
  | .global _ => .dead

mutual
/-- Rows and their elements' addresses go stale. -/
def kr (id : Nat) : SV → SV
  | .row i j o l => if i = id then .dead else .row i j o l
  | .raddr i j k => if i = id then .dead else .raddr i j k
  | .clo f cs => .clo f (krs id cs)
  | .agg cs => .agg (krs id cs)
  | .tup cs => .tup (krs id cs)
  | v => v
def krs (id : Nat) : List SV → List SV
  | [] => []
  | v :: r => kr id v :: krs id r
end
def krE (id : Nat) : List (Nat × SV) → List (Nat × SV)
  | [] => []
  | (k, v) :: r => (k, kr id v) :: krE id r
def krO (id : Nat) : List Ob → List Ob
  | [] => []
  | .box e cs :: r => .box e (krs id cs) :: krO id r
  | o :: r => o :: krO id r
def St.killRows (Γ : St) (id : Nat) : St := ⟨Γ.n, Γ.fix, Γ.wr, krE id Γ.env, krO id Γ.objs⟩

section ops
variable (C : Ctx)

def arith (op : BinOp) (a b : Int) : Option Int := match op with
  | .add => some (C.w.add a b) | .sub => some (C.w.sub a b) | .mul => some (C.w.mul a b) | _ => none

/-- A whole number that an operation made: within its kind, or wrapped. -/
def made (Γ : St) (d : Option Nat) (k : IntKind) (n : Int) (K : St → Prop) : Prop :=
  match Γ.wr with
  | true => K (Γ.put d (.int k (C.w.wrap k n)))
  | false => C.w.inR k n ∧ K (Γ.put d (.int k n))

def eqCells : List SV → List SV → Option Bool
  | [], [] => some true
  | .int .i64 a :: r, .int .i64 b :: s => (match eqCells r s with
    | some true => some (C.w.eq a b) | some c => some (C.w.and (C.w.eq a b) c) | none => none)
  | _, _ => none

def viewOk (Γ : St) (id : Nat) : Prop := match ogt Γ.objs id with
  | .lst _ _ _ _ _ => True
  | _ => False

/-- A comparison's outcome is a variable from then on. -/
def boo (Γ : St) (d : Option Nat) (b : Bool) (K : St → Prop) : Prop := ∀ c, b = c → K (Γ.put d (.bool c))

def opBin (Γ : St) (d : Option Nat) (op : BinOp) (T : TypeId) (x y : SV) (K : St → Prop) : Prop := match x, y with
  | .int k a, .int k' b => (match op with
    | .shl => C.w.ge0 b ∧ K (Γ.put d (.int k (C.w.shl k a b)))
    | .shr => C.w.ge0 b ∧ K (Γ.put d (.int k (C.w.shr k a b)))
    | op => if k = k' then (match op with
      | .add => made C Γ d k (C.w.add a b) K
      | .sub => made C Γ d k (C.w.sub a b) K
      | .mul => made C Γ d k (C.w.mul a b) K
      | .quo => C.w.ne0 b ∧ made C Γ d k (C.w.quo a b) K
      | .rem => C.w.ne0 b ∧ K (Γ.put d (.int k (C.w.rem a b)))
      | .eql => boo Γ d (C.w.eq a b) K
      | .neq => boo Γ d (C.w.not (C.w.eq a b)) K
      | .lss => boo Γ d (C.w.lt a b) K
      | .leq => boo Γ d (C.w.le a b) K
      | .gtr => boo Γ d (C.w.lt b a) K
      | .geq => boo Γ d (C.w.le b a) K
      | .and => K (Γ.put d (.int k (C.w.bit .and k a b)))
      | .or => K (Γ.put d (.int k (C.w.bit .or k a b)))
      | .xor => K (Γ.put d (.int k (C.w.bit .xor k a b)))
      | _ => False) else False)
  | .bool a, .bool b => (match op with
    | .eql => (C.ti T).ty = some .bool ∧ boo Γ d (C.w.eqB a b) K
    | .neq => (C.ti T).ty = some .bool ∧ boo Γ d (C.w.not (C.w.eqB a b)) K
    | _ => False)
  | .str a, .str b => (match op with
    | .eql => boo Γ d (C.w.eqS a b) K
    | .neq => boo Γ d (C.w.not (C.w.eqS a b)) K
    | .add => C.w.room (C.w.addN (C.w.len a) (C.w.len b)) 1 ∧ K (Γ.put d (.str (C.w.app a b)))
    | _ => False)
  | .agg xs, .agg ys => (match op, eqCells C xs ys with
    | .eql, some b => C.w.eqT T xs.length ∧ boo Γ d b K
    | .neq, some b => C.w.eqT T xs.length ∧ boo Γ d (C.w.not b) K
    | _, _ => False)
  | .nilsl, .nilsl => (match op with
    | .eql => (C.ti T).sl ≠ none ∧ K (Γ.put d (.bool true)) | .neq => (C.ti T).sl ≠ none ∧ K (Γ.put d (.bool false)) | _ => False)
  | .view id _ _, .nilsl => (match op with
    | .eql => viewOk Γ id ∧ (C.ti T).sl ≠ none ∧ K (Γ.put d (.bool false)) | .neq => viewOk Γ id ∧ (C.ti T).sl ≠ none ∧ K (Γ.put d (.bool true)) | _ => False)
  | _, _ => False

def opUn (Γ : St) (d : Option Nat) (op : UnOp) (x : SV) (K : St → Prop) : Prop := match op, x with
  | .neg, .int k a => made C Γ d k (C.w.neg a) K
  | .not, .bool b => (match b with | true => K (Γ.put d (.bool false)) | false => K (Γ.put d (.bool true)))
  | _, _ => False

/-- An element's cells; rows that are the list's own are not told so. -/
def Ty.cells : (t : Ty) → t.T → List SV
  | .int k, x => [.int k x]
  | .bool, x => [.bool x]
  | .str, x => [.str x]
  | .sl e t, xs => [.fs t e xs]
  | .unit, _ => []
  | .pair a b, p => Ty.cells a p.1 ++ Ty.cells b p.2

/-- Of one type: nothing is changed. -/
def cast : (a b : Ty) → (F : Type → Type) → F a.T → Option (F b.T)
  | .int k, .int k', _, x => if k = k' then some x else none
  | .bool, .bool, _, x => some x
  | .str, .str, _, x => some x
  | .unit, .unit, _, x => some x
  | .sl e a, .sl e' b, F, x => if e = e' then cast a b (fun α => F (List α)) x else none
  | .pair a1 a2, .pair b1 b2, F, x => match cast a1 b1 (fun α => F (α × a2.T)) x with
    | some y => cast a2 b2 (fun α => F (b1.T × α)) y
    | none => none
  | _, _, _, _ => none

def ofCells : (t : Ty) → List SV → Option (t.T × List SV)
  | .int k, .int k' n :: r => if k = k' then some (n, r) else none
  | .bool, .bool b :: r => some (b, r)
  | .str, .str s :: r => some (s, r)
  | .sl _ _, .nilsl :: r => some ([], r)
  | .sl e t, .fs t' e' xs :: r => if e = e' then (match cast t' t List xs with | some ys => some (ys, r) | none => none) else none
  | .unit, r => some ((), r)
  | .pair a b, cs => match ofCells a cs with
    | some (x, r) => (match ofCells b r with | some (y, r) => some ((x, y), r) | none => none)
    | none => none
  | _, _ => none

def cellsV : SV → List SV
  | .agg cs => cs
  | v => [v]

/-- One cell's value. -/
def cellOk : SV → Bool
  | .dead | .agg _ | .tup _ => false
  | _ => true
def cellsOk : List SV → Bool
  | [] => true
  | v :: r => match cellOk v with | true => cellsOk r | false => false

def ofV (t : Ty) (v : SV) : Option t.T := match cellsOk (cellsV v), ofCells t (cellsV v) with
  | true, some (x, []) => some x
  | _, _ => none

def noHole (hole : Option Nat) (j : Nat) : Prop := match hole with
  | none => True
  | some h => C.w.neN h j

/-- What a slice holds, for reading (type, element type, elements). -/
def seq (Γ : St) : SV → Option ((t : Ty) × TypeId × List t.T)
  | .fs t e xs => some ⟨t, e, xs⟩
  | .view id off len => (match ogt Γ.objs id with
    | .lst t e _ xs none => some ⟨t, e, C.w.ext xs off len⟩
    | _ => none)
  | .row id j off len => (match ogt Γ.objs id with
    | .lst (.sl e t) _ (_ + 1) xs none => some ⟨t, e, C.w.ext (C.w.get (.sl e t) xs j) off len⟩
    | _ => none)
  | _ => none

/-- A slice handed on for reading alone: what it holds. -/
def snap (Γ : St) (v : SV) : SV := match v with
  | .view _ _ _ | .row _ _ _ _ => (match seq C Γ v with | some ⟨t, e, xs⟩ => .fs t e xs | none => .dead)
  | v => v

def slen (Γ : St) : SV → Option Int
  | .fs _ _ xs => some (C.w.int (C.w.len xs))
  | .view _ _ len => some (C.w.int len)
  | .row _ _ _ len => some (C.w.int len)
  | .nilsl => some 0
  | .str s => some (C.w.int (C.w.len s))
  | _ => none

/-- T: a slice type whose elements are as great as t's values. -/
def slOk (T : TypeId) (t : Ty) : Prop := match (C.ti T).sl with
  | some e => (C.ti e).sz = t.size
  | none => False
def tyOf (Γ : St) (id : Nat) (p : Ty → Prop) : Prop := match ogt Γ.objs id with
  | .lst t _ _ _ _ => p t
  | _ => False
def rowOf (Γ : St) (id : Nat) (p : Ty → Prop) : Prop := match ogt Γ.objs id with
  | .lst (.sl _ t) _ (_ + 1) _ _ => p t
  | _ => False

def opIndexAddr (Γ : St) (d : Option Nat) (T : TypeId) (x i : SV) (K : St → Prop) : Prop := match x, i with
  | .fs t _ xs, .int _ i => slOk C T t ∧ C.w.inB i (C.w.len xs) ∧ K (Γ.put d (.faddr t (C.w.get t xs (C.w.nat i)) 0))
  | .view id off len, .int _ i => tyOf Γ id (slOk C T) ∧ C.w.inB i len ∧ K (Γ.put d (.eaddr id (C.w.addN off (C.w.nat i)) 0))
  | .row id j off len, .int _ i => rowOf Γ id (slOk C T) ∧ C.w.inB i len ∧ K (Γ.put d (.raddr id j (C.w.addN off (C.w.nat i))))
  | .ptr id off, .int _ i => (match ogt Γ.objs id, (C.ti T).arr with
    | .arr _ _ _, some (n, _, sz) => C.w.inB i n ∧ K (Γ.put d (.aaddr id (C.w.addN off (C.w.mulN (C.w.nat i) sz))))
    | .box _ _, some (n, _, sz) => (0 ≤ i ∧ i < n) ∧ K (Γ.put d (.ptr id (off + i.toNat * sz)))
    | _, _ => False)
  | .aaddr id off, .int _ i => (match ogt Γ.objs id, (C.ti T).arr with
    | .arr _ _ _, some (n, _, sz) => C.w.inB i n ∧ K (Γ.put d (.aaddr id (C.w.addN off (C.w.mulN (C.w.nat i) sz))))
    | _, _ => False)
  | .eaddr id j sub, .int _ i => (match (C.ti T).arr with
    | some (n, _, sz) => viewOk Γ id ∧ (0 ≤ i ∧ i < n) ∧ K (Γ.put d (.eaddr id j (sub + i.toNat * sz)))
    | _ => False)
  | .faddr t x sub, .int _ i => (match (C.ti T).arr with
    | some (n, _, sz) => (0 ≤ i ∧ i < n) ∧ K (Γ.put d (.faddr t x (sub + i.toNat * sz)))
    | _ => False)
  | _, _ => False

def opFieldAddr (Γ : St) (d : Option Nat) (T : TypeId) (x : SV) (f : Nat) (K : St → Prop) : Prop :=
  match x, ((C.ti T).flds)[f]? with
  | .ptr id off, some (o, _) => (match ogt Γ.objs id with
    | .box _ _ => K (Γ.put d (.ptr id (off + o)))
    | _ => False)
  | .eaddr id j sub, some (o, _) => viewOk Γ id ∧ K (Γ.put d (.eaddr id j (sub + o)))
  | .faddr t x sub, some (o, _) => K (Γ.put d (.faddr t x (sub + o)))
  | _, _ => False

/-- A variable's value out of its cells. -/
def ofVar (i : TI) (cs : List SV) (off : Nat) : SV := match i.agg with
  | true => .agg (ssub cs off i.sz)
  | false => sgt cs off

def opLoad (Γ : St) (d : Option Nat) (T : TypeId) (a : SV) (K : St → Prop) : Prop := match a with
  | .ptr id off => (match ogt Γ.objs id with
    | .box _ cs => off + (C.ti T).sz ≤ cs.length ∧ K (Γ.put d (ofVar (C.ti T) cs off))
    | _ => False)
  | .faddr t x sub => sub + (C.ti T).sz ≤ t.size ∧ K (Γ.put d (ofVar (C.ti T) (t.cells x) sub))
  | .aaddr id off => (match ogt Γ.objs id, (C.ti T).agg with
    | .arr t _ xs, false => (t.size = 1 ∧ t.flat = true) ∧ C.w.ltN off (C.w.len xs) ∧ K (Γ.put d (sgt (t.cells (C.w.get t xs off)) 0))
    | _, _ => False)
  | .eaddr id j sub => (match ogt Γ.objs id with
    | .lst (.sl e t) _ (_ + 1) xs hole => (sub = 0 ∧ (C.ti T).agg = false) ∧ C.w.ltN j (C.w.len xs) ∧ noHole C hole j ∧
        K (Γ.put d (.row id j 0 (C.w.len (C.w.get (.sl e t) xs j))))
    | .lst t _ d' xs hole => (sub + (C.ti T).sz ≤ t.size ∧ (t.flat = true ∨ d' = 0)) ∧ C.w.ltN j (C.w.len xs) ∧ noHole C hole j ∧
        K (Γ.put d (ofVar (C.ti T) (t.cells (C.w.get t xs j)) sub))
    | _ => False)
  | .raddr id j i => (match ogt Γ.objs id with
    | .lst (.sl e t) _ (d' + 1) xs hole => (0 + (C.ti T).sz ≤ t.size ∧ (t.flat = true ∨ d' = 0)) ∧ noHole C hole j ∧ C.w.ltN i (C.w.len (C.w.get (.sl e t) xs j)) ∧
        K (Γ.put d (ofVar (C.ti T) (t.cells (C.w.get t (C.w.get (.sl e t) xs j) i)) 0))
    | _ => False)
  | _ => False

/-- A slice that is laid into a list whose rows are frozen: the walk's own row is frozen with it. -/
def frz (Γ : St) (v : SV) : SV × St := match v with
  | .view id _ _ => (snap C Γ v, Γ.setO (ost Γ.objs id .gone))
  | v => (v, Γ)

/-- A slice that is laid into a list whose rows are its own: its elements, and the walk without it. -/
def mov (Γ : St) (e : TypeId) (t : Ty) (d : Nat) (v : SV) : Option (List t.T × St) := match v with
  | .nilsl => some ([], Γ)
  | .view id off len => (match ogt Γ.objs id with
    | .lst t' e' d' xs none => if e = e' ∧ d = d' then (match cast t' t List xs with
        | some ys => some (C.w.ext ys off len, Γ.setO (ost Γ.objs id .gone))
        | none => none) else none
    | _ => none)
  | _ => none

/-- An element for a list: of flat type, a frozen row, or a row of its own. -/
def elt (Γ : St) (t : Ty) (d : Nat) (v : SV) : Option (t.T × St) := match t, d with
  | .sl e t, d + 1 => mov C Γ e t d v
  | t, d => if t.flat = true ∨ d = 0 then (match ofV t (frz C Γ v).1 with | some x => some (x, (frz C Γ v).2) | none => none) else none

def opStore (Γ : St) (T : TypeId) (a v : SV) (K : St → Prop) : Prop := match a with
  | .ptr id off => (match ogt Γ.objs id with
    | .box e cs => (match sput cs off (cellsV v) with
      | some cs' => ((cellsV v).length = (C.ti T).sz ∧ off + (C.ti T).sz ≤ cs.length) ∧ cellsOk (cellsV v) = true ∧ K (Γ.setO (ost Γ.objs id (.box e cs')))
      | none => False)
    | _ => False)
  | .aaddr id off => (match ogt Γ.objs id with
    | .arr t e xs => (match ofV t v with
      | some x => (t.size = 1 ∧ t.flat = true ∧ (C.ti T).sz = 1) ∧ C.w.ltN off (C.w.len xs) ∧ K (Γ.setO (ost Γ.objs id (.arr t e (C.w.set xs off x))))
      | none => False)
    | _ => False)
  | .eaddr id j 0 => (match ogt Γ.objs id with
    | .lst t e d xs hole => (match elt C Γ t d v with
      | some (x, Γ') => (match ogt Γ'.objs id with
        | .lst _ _ _ _ _ => ((C.ti T).sz = t.size) ∧ C.w.ltN j (C.w.len xs) ∧ (match hole with | none => True | some h => C.w.eqN h j) ∧
            K ((Γ'.setO (ost Γ'.objs id (.lst t e d (C.w.set xs j x) none))).killRows id)
        | _ => False)
      | none => False)
    | _ => False)
  | .raddr id j i => (match ogt Γ.objs id with
    | .lst (.sl e t) e' (d + 1) xs hole => (match ofV t v with
      | some x => (t.flat = true ∧ (C.ti T).sz = t.size) ∧ noHole C hole j ∧ C.w.ltN i (C.w.len (C.w.get (.sl e t) xs j)) ∧
          K (Γ.setO (ost Γ.objs id (.lst (.sl e t) e' (d + 1) (C.w.set xs j (C.w.set (C.w.get (.sl e t) xs j) i x)) hole)))
      | none => False)
    | _ => False)
  | _ => False

/-- How deep the rows of a new list are its own. -/
def Ty.depth : Ty → Nat
  | .sl _ t => t.depth + 1
  | _ => 0
def newD (t : Ty) : Nat := match C.own with | true => t.depth | false => 0

def opMake (Γ : St) (d : Option Nat) (T : TypeId) (l c : SV) (K : St → Prop) : Prop := match (C.ti T).sl, l, c with
  | some e, .int .i64 l, .int .i64 c => (match (C.ti e).ty with
     | some t => C.w.inR .i64 l ∧ C.w.ge0 l ∧ C.w.eqN (C.w.nat l) (C.w.nat c) ∧ C.w.ge0 c ∧ C.w.room (C.w.nat l) (C.ti e).bytes ∧
        K ((Γ.setO (Γ.objs ++ [.lst t e (newD C t) (C.w.rep (C.w.nat l) t.dflt) none])).put d (.view Γ.objs.length 0 (C.w.nat l)))
     | none => False)
  | _, _, _ => False

def elts (t : Ty) (dd : Nat) : St → Nat → List (Nat × SV) → Option (List t.T × St)
  | Γ, _, [] => some ([], Γ)
  | Γ, k, (i, v) :: r => if i = k then (match elt C Γ t dd v with
    | some (x, Γ') => (match elts t dd Γ' (k + 1) r with | some (xs, Γ'') => some (x :: xs, Γ'') | none => none)
    | none => none) else none

def opBuildSlice (Γ : St) (d : Option Nat) (T : TypeId) (n : Nat) (parts : List (Nat × SV)) (K : St → Prop) : Prop := match (C.ti T).sl with
  | some e => (match (C.ti e).ty with
    | some t => (match elts C t (newD C t) Γ 0 parts with
      | some (xs, Γ') => (parts.length = n ∧ n * t.size ≤ 16777216) ∧
          K ((Γ'.setO (Γ'.objs ++ [.lst t e (newD C t) xs none])).put d (.view Γ'.objs.length 0 n))
      | none => False)
    | none => False)
  | none => False

def fillV : List SV → List (Nat × Nat × SV) → Option (List SV)
  | cs, [] => some cs
  | cs, (off, sz, v) :: r => if (cellsV v).length = sz ∧ cellsOk (cellsV v) = true then (match sput cs off (cellsV v) with | some cs' => fillV cs' r | none => none) else none

def opBuild (Γ : St) (d : Option Nat) (T : TypeId) (parts : List (Nat × SV)) (K : St → Prop) : Prop :=
  match (C.ti T).arr with
  | some (_, _, sz) => (match fillV (svOfs (C.ti T).zv) (parts.map fun p => (p.1 * sz, sz, p.2)) with
    | some cs => sz ≠ 0 ∧ K (Γ.put d (.agg cs)) | none => False)
  | none => (match fillV (svOfs (C.ti T).zv) (parts.map fun p => (((C.ti T).flds.getD p.1 (0, 0)).1, (C.ti ((C.ti T).flds.getD p.1 (0, 0)).2).sz, p.2)) with
    | some cs => (C.ti T).flds ≠ [] ∧ (parts.all (fun p => decide (p.1 < (C.ti T).flds.length)) = true) ∧ K (Γ.put d (.agg cs)) | none => False)

def opAlloc (Γ : St) (d : Option Nat) (T : TypeId) (K : St → Prop) : Prop :=
  match (C.ti T).av with
  | some t => K ((Γ.setO (Γ.objs ++ [.arr t T (C.w.rep (C.ti T).sz t.dflt)])).put d (.ptr Γ.objs.length 0))
  | none => K ((Γ.setO (Γ.objs ++ [.box T (svOfs (C.ti T).zv)])).put d (.ptr Γ.objs.length 0))

def opBox (Γ : St) (d : Option Nat) (T : TypeId) (v : SV) (K : St → Prop) : Prop :=
  cellsOk (cellsV v) = true ∧ K ((Γ.setO (Γ.objs ++ [.box T (cellsV v)])).put d (.ptr Γ.objs.length 0))

def opField (Γ : St) (d : Option Nat) (T : TypeId) (x : SV) (f : Nat) (K : St → Prop) : Prop :=
  match x, ((C.ti T).flds)[f]? with
  | .agg cs, some (o, R) => o + (C.ti R).sz ≤ cs.length ∧ K (Γ.put d (ofVar (C.ti R) cs o))
  | _, _ => False

def opIndex (Γ : St) (d : Option Nat) (T : TypeId) (x i : SV) (K : St → Prop) : Prop := match x, i with
  | .str s, .int _ i => (C.ti T).ty = some .str ∧ C.w.inB i (C.w.len s) ∧ K (Γ.put d (.int .u8 (C.w.byteAt s (C.w.nat i))))
  | _, _ => False

def bnd (Γ : St) : Option Operand → Int → Option Int
  | none, n => some n
  | some o, _ => match rd Γ o with | .int _ n => some n | _ => none

def opSlice (Γ : St) (d : Option Nat) (T : TypeId) (x : SV) (lo hi : Option Operand) (K : St → Prop) : Prop :=
  match slen C Γ x with
  | some n => (match bnd Γ lo 0, bnd Γ hi n with
    | some l, some h => (match x with
      | .str s => (C.ti T).ty = some .str ∧ C.w.cut l h (C.w.len s) ∧ K (Γ.put d (.str (C.w.ext s (C.w.nat l) (C.w.nat (C.w.sub h l)))))
      | .fs t e xs => slOk C T t ∧ C.w.cut l h (C.w.len xs) ∧ K (Γ.put d (.fs t e (C.w.ext xs (C.w.nat l) (C.w.nat (C.w.sub h l)))))
      | .view id off len => tyOf Γ id (slOk C T) ∧ C.w.cut l h len ∧ K (Γ.put d (.view id (C.w.addN off (C.w.nat l)) (C.w.nat (C.w.sub h l))))
      | .row id j off len => rowOf Γ id (slOk C T) ∧ C.w.cut l h len ∧ K (Γ.put d (.row id j (C.w.addN off (C.w.nat l)) (C.w.nat (C.w.sub h l))))
      | _ => False)
    | _, _ => False)
  | none => False

def Ty.isSl : Ty → Bool
  | .sl _ _ => true
  | _ => false

/-- What is appended: elements of a type, and the walk without what has been moved. -/
def src (Γ : St) (e : TypeId) (t : Ty) (d : Nat) (v : SV) : Option (List t.T × St) := match v with
  | .nilsl => some ([], Γ)
  | .str s => (match cast (.int .u8) t List (C.w.ints s) with | some ys => some (ys, Γ) | none => none)
  | .fs t' e' xs => if e = e' ∧ (t.flat = true ∨ d = 0) then (match cast t' t List xs with | some ys => some (ys, Γ) | none => none) else none
  | .view id off len => (match ogt Γ.objs id with
    | .lst t' e' d' xs none => if e = e' then (match cast t' t List xs with
        | some ys => if t.flat = true ∨ (d = 0 ∧ d' = 0) then some (C.w.ext ys off len, Γ)
          else if d = 0 ∨ (d = d' ∧ t.isSl = true) then some (C.w.ext ys off len, Γ.setO (ost Γ.objs id .gone)) else none
        | none => none) else none
    | _ => none)
  | .row id j off len => (match ogt Γ.objs id with
    | .lst (.sl e' t') _ (_ + 1) xs none => if e = e' ∧ t.flat = true then (match cast t' t List (C.w.get (.sl e' t') xs j) with
        | some ys => some (C.w.ext ys off len, Γ)
        | none => none) else none
    | _ => none)
  | _ => none

def okD (t : Ty) (dd : Nat) : Bool := t.flat || (dd == 0 || t.isSl)

def opAppend (Γ : St) (d : Option Nat) (T : TypeId) (s x : SV) (K : St → Prop) : Prop := match (C.ti T).sl with
  | some e => (match s with
    | .view id off len => (match ogt Γ.objs id with
      | .lst t e' dd xs none => (match okD t dd, src C (Γ.setO (ost Γ.objs id .gone)) e' t dd x with
        | true, some (ys, Γ') => (C.ti e).sz = t.size ∧ C.w.room (C.w.addN len (C.w.len ys)) (C.ti e).bytes ∧
            K ((Γ'.setO (Γ'.objs ++ [.lst t e' dd (C.w.app (C.w.ext xs off len) ys) none])).put d (.view Γ'.objs.length 0 (C.w.addN len (C.w.len ys))))
        | _, _ => False)
      | _ => False)
    | .nilsl => (match (C.ti e).ty with
      | some t => (match src C Γ e t (newD C t) x with
        | some (ys, Γ') => C.w.ltN 0 (C.w.len ys) ∧ C.w.room (C.w.len ys) (C.ti e).bytes ∧
            K ((Γ'.setO (Γ'.objs ++ [.lst t e (newD C t) ys none])).put d (.view Γ'.objs.length 0 (C.w.len ys)))
        | none => False)
      | none => False)
    | _ => False)
  | none => False

def opCopy (Γ : St) (d : Option Nat) (T : TypeId) (dst s : SV) (K : St → Prop) : Prop := match dst with
  | .view id off len => (match ogt Γ.objs id with
    | .lst t e dd xs none => slOk C T t ∧ (match t.flat || dd == 0 with
      | true => (match src C Γ e t dd s with
        | some (ys, Γ') => (match ogt Γ'.objs id with
          | .lst _ _ _ _ _ => K ((((Γ'.setO (ost Γ'.objs id (.lst t e dd (C.w.splice xs off (C.w.ext ys 0 (C.w.minN (C.w.len ys) len))) none))).killRows id)).put d (.int .i64 (C.w.int (C.w.minN (C.w.len ys) len))))
          | _ => False)
        | none => False)
      | false => (match s with
        | .view id' off' len' => (match t.isSl with
          | true => id' = id ∧ C.w.eqN off (C.w.addN off' 1) ∧ C.w.eqN len' (C.w.addN len 1) ∧ C.w.eqN (C.w.addN off len) (C.w.len xs) ∧
              K ((((Γ.setO (ost Γ.objs id (.lst t e dd (C.w.shift xs off') (some off')))).killRows id)).put d (.int .i64 (C.w.int len)))
          | false => False)
        | _ => False))
    | _ => False)
  | _ => False

def opConvert (Γ : St) (d : Option Nat) (S D : TypeId) (x : SV) (K : St → Prop) : Prop := match x, (C.ti D).ty, (C.ti D).sl with
  | .int _ n, some (.int k), _ => made C Γ d k n K
  | .str s, some .str, _ => K (Γ.put d (.str s))
  | .str s, none, some e => (match (C.ti e).ty with
    | some (.int .u8) => (C.ti S).ty = some .str ∧ K (Γ.put d (.fs (.int .u8) e (C.w.ints s)))
    | _ => False)
  | v, some .str, _ => (match (C.ti S).sl, seq C Γ v with
    | some e, some ⟨.int .u8, _, xs⟩ => (C.ti e).ty = some (.int .u8) ∧ K (Γ.put d (.str (C.w.bytes xs)))
    | _, _ => False)
  | _, _, _ => False

def maxs (w : W) (mx : Bool) : Int → List SV → Option Int
  | a, [] => some a
  | a, .int .i64 b :: r => maxs w mx (match mx with | true => w.max a b | false => w.min a b) r
  | _, _ => none

def lenOk (Γ : St) (T : TypeId) : SV → Prop
  | .str _ => (C.ti T).ty = some .str
  | .view id _ _ => viewOk Γ id ∧ (C.ti T).sl ≠ none
  | .row id _ _ _ => rowOf Γ id (fun _ => True) ∧ (C.ti T).sl ≠ none
  | _ => (C.ti T).sl ≠ none
def opLen (Γ : St) (d : Option Nat) (T : TypeId) (x : SV) (K : St → Prop) : Prop := match (C.ti T).arr with
  | some (n, _, _) => K (Γ.put d (.int .i64 (n : Int)))
  | none => (match slen C Γ x with | some n => lenOk C Γ T x ∧ K (Γ.put d (.int .i64 n)) | none => False)
def opMax (Γ : St) (d : Option Nat) (mx : Bool) (a : Int) (r : List SV) (K : St → Prop) : Prop :=
  match maxs C.w mx a r with | some n => K (Γ.put d (.int .i64 n)) | none => False
def opBuiltin (Γ : St) (d : Option Nat) (b : Builtin) (ats : List TypeId) (args : List SV) (K : St → Prop) : Prop := match b, ats, args with
  | .len, [T], [x] => (C.ti T).ok = true ∧ opLen C Γ d T x K
  | .append, [T, T2], [s, x] => ((C.ti T).ok = true ∧ (C.ti T2).ok = true ∧ ((C.ti T2).sl ≠ none ∨ (C.ti T2).ty = some .str)) ∧ opAppend C Γ d T s x K
  | .copy, [T, _], [dst, s] => (C.ti T).ok = true ∧ opCopy C Γ d T dst s K
  | .max, _, .int .i64 a :: r => opMax C Γ d true a r K
  | .min, _, .int .i64 a :: r => opMax C Γ d false a r K
  | _, _, _ => False

def opStep (o : Oper) (Γ : St) (K : St → Prop) : Prop := match o.op with
  | .move x | .assign x => K (Γ.put o.dst (rd Γ x))
  | .pick c a b => (match rd Γ c with
    | .bool c => (match c with | true => K (Γ.put o.dst (rd Γ a)) | false => K (Γ.put o.dst (rd Γ b)))
    | _ => False)
  | .binOp op t x y _ => (match (C.ti t).ok with | true => opBin C Γ o.dst op t (rd Γ x) (rd Γ y) K | false => False)
  | .unOp op _ x => opUn C Γ o.dst op (rd Γ x) K
  | .convert s t x => (match (C.ti s).ok, (C.ti t).ok with | true, true => opConvert C Γ o.dst s t (rd Γ x) K | _, _ => False)
  | .indexAddr t x i => (match (C.ti t).ok with | true => opIndexAddr C Γ o.dst t (rd Γ x) (rd Γ i) K | false => False)
  | .index t x i => (match (C.ti t).ok with | true => opIndex C Γ o.dst t (rd Γ x) (rd Γ i) K | false => False)
  | .fieldAddr t x f => (match (C.ti t).ok with | true => opFieldAddr C Γ o.dst t (rd Γ x) f K | false => False)
  | .field t x f => (match (C.ti t).ok with | true => opField C Γ o.dst t (rd Γ x) f K | false => False)
  | .load t x => (match (C.ti t).ok with | true => opLoad C Γ o.dst t (rd Γ x) K | false => False)
  | .store t a v => (match (C.ti t).ok, o.dst with | true, none => opStore C Γ t (rd Γ a) (rd Γ v) K | _, _ => False)
  | .alloc t => (match (C.ti t).ok with | true => opAlloc C Γ o.dst t K | false => False)
  | .box t v => opBox Γ o.dst t (rd Γ v) K
  | .build t ps => (match (C.ti t).ok with | true => opBuild C Γ o.dst t (ps.toList.map fun p => (p.1, rd Γ p.2)) K | false => False)
  | .buildSlice t n ps => (match (C.ti t).ok with | true => opBuildSlice C Γ o.dst t n (ps.toList.map fun p => (p.1, rd Γ p.2)) K | false => False)
  | .makeSlice t l c => (match (C.ti t).ok with | true => opMake C Γ o.dst t (rd Γ l) (rd Γ c) K | false => False)
  | .slice t x lo hi none => (match (C.ti t).ok with | true => opSlice C Γ o.dst t (rd Γ x) lo hi K | false => False)
  | .extract x i => (match rd Γ x with | .tup vs => i < vs.length ∧ K (Γ.put o.dst (sgt vs i)) | _ => False)
  | .nilCheck x => (match rd Γ x with
    | .ptr id off => (match ogt Γ.objs id with
      | .box _ _ | .arr _ _ _ => K (Γ.put o.dst (.ptr id off))
      | _ => False)
    | .fn f => K (Γ.put o.dst (.fn f))
    | .clo f c => K (Γ.put o.dst (.clo f c))
    | _ => False)
  | .makeFunc (.func f) first caps => first.size = 0 ∧ K (Γ.put o.dst (.clo f (caps.toList.map (rd Γ))))
  | .call c => (match c.callee with
     | .builtin b => opBuiltin C Γ o.dst b c.argTypes.toList (c.args.toList.map (rd Γ)) K
     | .value f => (match rd Γ f with
       | .fn f => C.w.call f (c.args.toList.map (rd Γ)) Γ (fun Γ' r => K (Γ'.put o.dst r))
       | .clo f caps => C.w.call f (c.args.toList.map (rd Γ) ++ caps) Γ (fun Γ' r => K (Γ'.put o.dst r))
       | _ => False)
     | _ => False)
  | _ => False

def dstOf : List Oper → Nat → Option Nat
  | [], _ => none
  | o :: _, 0 => o.dst
  | _ :: r, n + 1 => dstOf r n

/-- Each operation writes a slot that there is. -/
def dstOk (n : Nat) (o : Oper) : Bool := match o.dst with | none => true | some d => decide (d < n)

def wpOs (all : List Oper) : List Oper → St → (St → Prop) → Prop
  | [], Γ, K => K Γ
  | o :: r, Γ, K => match dstOk Γ.n o with
    | false => False
    | true => match o.guard with
      | none => opStep C o Γ (fun Γ' => wpOs all r Γ' K)
      | some (j, want) => match dstOf all j with
        | some s => (match lkp Γ.env s with
          | .bool b => (match b with
            | true => (match want with | true => opStep C o Γ (fun Γ' => wpOs all r Γ' K) | false => wpOs all r (Γ.put o.dst (.tup [])) K)
            | false => (match want with | false => opStep C o Γ (fun Γ' => wpOs all r Γ' K) | true => wpOs all r (Γ.put o.dst (.tup [])) K))
          | .tup [] => wpOs all r (Γ.put o.dst (.tup [])) K
          | _ => False)
        | none => False

/-! Regions that draw their order. -/
def scalarT (ti : TypeId → TI) (T : TypeId) : Bool := match (ti T).ty with
  | some (.int _) | some .bool | some .str => true
  | _ => false
/-- g: makes no object and changes none; a: makes objects alone; s: all else. -/
inductive Cl where
  | g | a | s
  deriving DecidableEq
def cls (ti : TypeId → TI) (o : Oper) : Cl := match o.op with
  | .move _ | .assign _ | .pick _ _ _ | .binOp _ _ _ _ _ | .unOp _ _ _ | .convert _ _ _ | .indexAddr _ _ _ | .index _ _ _ | .fieldAddr _ _ _ | .field _ _ _ | .load _ _ | .extract _ _ | .nilCheck _ => .g
  | .slice _ _ _ _ none => .g
  | .alloc _ | .makeSlice _ _ _ => .a
  | .buildSlice t _ _ => (match (ti t).sl with
    | some e => (match (ti e).ty with | some y => (match y.flat with | true => .a | false => .s) | none => .s)
    | none => .s)
  | .call c => (match c.callee with
    | .builtin b => (match b with | .len | .max | .min => .g | _ => .s)
    | .value (.func _) => (match scalarT ti o.type with | true => .g | false => .a)
    | _ => .s)
  | _ => .s
/-- One operation whose place in the order is open. -/
def dStep (o : Oper) (Γ : St) (K : St → Prop) : Prop := match o.op with
  | .call c => (match c.callee with
    | .value (.func f) => (match scalarT C.ti o.type with
      | true => C.w.qcall f (c.args.toList.map (rd Γ)) Γ (fun v => K (Γ.put o.dst v))
      | false => C.w.acall f (c.args.toList.map (rd Γ)) Γ (fun Γ' r => K (Γ'.put o.dst r)))
    | _ => opStep C o Γ K)
  | _ => opStep C o Γ K
/-- The same, under its guard. -/
def dAt (all : List Oper) (o : Oper) (Γ : St) (K : St → Prop) : Prop := match dstOk Γ.n o with
  | false => False
  | true => match o.guard with
    | none => dStep C o Γ K
    | some (j, want) => match dstOf all j with
      | some s => (match lkp Γ.env s with
        | .bool b => (match b with
          | true => (match want with | true => dStep C o Γ K | false => K (Γ.put o.dst (.tup [])))
          | false => (match want with | false => dStep C o Γ K | true => K (Γ.put o.dst (.tup []))))
        | .tup [] => K (Γ.put o.dst (.tup []))
        | _ => False)
      | none => False
/-- Operations in the text's order, ahead of those that wait for all. -/
def wpD (all : List Oper) : List Oper → St → (St → Prop) → Prop
  | [], Γ, K => K Γ
  | o :: r, Γ, K => match cls C.ti o with
    | .s => wpOs C all (o :: r) Γ K
    | _ => dAt C all o Γ (fun Γ' => wpD all r Γ' K)
def waitsOn (o : Oper) (i : Nat) : Bool := o.after.toList.any fun e => Region.binds .any e && e.on == i
/-- How many stand ahead of the first that waits for all. -/
def headLen (ti : TypeId → TI) : List Oper → Nat
  | [] => 0
  | o :: r => match cls ti o with | .s => 0 | _ => headLen ti r + 1
def isG (ti : TypeId → TI) (o : Oper) : Bool := match cls ti o with | .g => true | _ => false
/-- Two operations of the head: one waits for the other, or they are apart, or both make objects. -/
def pairOk (ti : TypeId → TI) (ops : Array Oper) (i j : Nat) (x y : Oper) : Bool :=
  waitsOn y i || (waitsOn x j || (x.apart ops y || (!isG ti x && !isG ti y)))
def pairsFrom (ti : TypeId → TI) (ops : Array Oper) (i : Nat) (x : Oper) : Nat → List Oper → Bool
  | _, [] => true
  | j, y :: r => pairOk ti ops i j x y && pairsFrom ti ops i x (j + 1) r
def headPairs (ti : TypeId → TI) (ops : Array Oper) : Nat → List Oper → Bool
  | _, [] => true
  | i, x :: r => pairsFrom ti ops i x (i + 1) r && headPairs ti ops (i + 1) r
def allBack : Nat → List Oper → Bool
  | _, [] => true
  | i, o :: r => o.after.toList.all (fun e => !Region.binds .any e || decide (e.on < i)) && allBack (i + 1) r
def tailOk : Nat → List Oper → Bool
  | _, [] => true
  | i, o :: r => (List.range i).all (waitsOn o) && tailOk (i + 1) r
/-- The orders of a region differ in nothing that counts. -/
def drawOk (ti : TypeId → TI) (ops : List Oper) : Bool :=
  allBack 0 ops && (headPairs ti ops.toArray 0 (ops.take (headLen ti ops)) && tailOk (headLen ti ops) (ops.drop (headLen ti ops)))
def anyA (ti : TypeId → TI) : List Oper → Bool
  | [] => false
  | o :: r => match cls ti o with | .a => true | .s => false | .g => anyA ti r
def okE (L : List Bool) (e : Edge) : Bool := match Region.binds .any e with | false => true | true => L.getD e.on false
def okEs (L : List Bool) : List Edge → Bool
  | [] => true
  | e :: r => match okE L e with | true => okEs L r | false => false
/-- Those of the head that may come now: their numbers. -/
def rdyL (L : List Bool) (np : Nat) : Nat → List Oper → List Nat
  | _, [] => []
  | i, o :: r => match decide (i < np), L.getD i true with
    | true, false => (match okEs L o.after.toList with | true => i :: rdyL L np (i + 1) r | false => rdyL L np (i + 1) r)
    | _, _ => rdyL L np (i + 1) r
def firstG (ti : TypeId → TI) (ops : List Oper) : List Nat → Option Nat
  | [] => none
  | i :: r => match ops[i]? with
    | some o => (match isG ti o with | true => some i | false => firstG ti ops r)
    | none => firstG ti ops r
def pickD (ti : TypeId → TI) (ops : List Oper) (L : List Bool) : List Nat := match firstG ti ops (rdyL L (headLen ti ops) 0 ops) with
  | some i => [i]
  | none => rdyL L (headLen ti ops) 0 ops
def allOf (p : Nat → Prop) : List Nat → Prop
  | [] => True
  | [i] => p i
  | i :: r => p i ∧ allOf p r
def anyR (ops : List Oper) : Nat → List Bool → St → (St → Prop) → Prop
  | 0, _, _, _ => False
  | fuel + 1, L, Γ, K => match pickD C.ti ops L with
    | [] => wpOs C ops (ops.drop (headLen C.ti ops)) Γ K
    | is => allOf (fun i => match ops[i]? with
      | some o => dAt C ops o Γ (fun Γ' => anyR ops fuel (L.set i true) Γ' K)
      | none => False) is
def wpRegion (ops : List Oper) (Γ : St) (K : St → Prop) : Prop := match anyA C.ti ops with
  | false => C.w.lex C.ti ops ∧ wpD C ops ops Γ K
  | true => C.w.lex C.ti ops ∧ C.w.draw (fun Γ K => anyR C ops (headLen C.ti ops + 1) (List.replicate ops.length false) Γ K) Γ K

def seqK (k : St → Prop) (Q : Ex → St → Prop) : Ex → St → Prop
  | .normal, Γ => k Γ
  | e, Γ => Q e Γ
def blkK (id : Nat) (Q : Ex → St → Prop) : Ex → St → Prop
  | .exit i, Γ => if i = id then Q .normal Γ else Q (.exit i) Γ
  | e, Γ => Q e Γ

def wpC : Code → St → (Ex → St → Prop) → Prop
  | .skip, Γ, Q => Q .normal Γ
  | .seq a b, Γ, Q => wpC a Γ (seqK (fun Γ' => wpC b Γ' Q) Q)
  | .cond c x y, Γ, Q => (match rd Γ c with
    | .bool b => (match b with | true => wpC x Γ Q | false => wpC y Γ Q)
    | _ => False)
  | .block id c, Γ, Q => wpC c Γ (blkK id Q)
  | .loop c, Γ, Q => C.w.loop (wpC c) Γ Q
  | .exit id, Γ, Q => Q (.exit id) Γ
  | .ret, Γ, Q => Q .ret Γ
  | .region _ ops false, Γ, Q => wpOs C ops.toList ops.toList Γ (Q .normal)
  | .region _ ops true, Γ, Q => wpRegion C ops.toList Γ (Q .normal)
  | _, _, _ => False

end ops

/-- The results out of the slots. -/
def resV (C : Ctx) (Γ : St) : ResultVar → SV
  | .tmp t => lkp Γ.env t
  | .cell a t => match lkp Γ.env a with
    | .ptr id off => (match ogt Γ.objs id with | .box _ cs => ofVar (C.ti t) cs off | _ => .dead)
    | _ => .dead
def resVs (C : Ctx) (Γ : St) : List ResultVar → List SV
  | [] => []
  | r :: rs => resV C Γ r :: resVs C Γ rs
def resOf (C : Ctx) (Γ : St) (rs : List ResultVar) : SV := match resVs C Γ rs with
  | [v] => v
  | vs => .tup vs

/-! Dropping and renumbering. -/
def idx : List Nat → Nat → Nat → Option Nat
  | [], _, _ => none
  | i :: r, k, q => if i = q then some k else idx r (k + 1) q
def ngt : List Nat → Nat → Option Nat
  | [], _ => none
  | i :: _, 0 => some i
  | _ :: r, n + 1 => ngt r n

mutual
def ren (σ : Nat → Option Nat) : SV → SV
  | .view id o l => (match σ id with | some i => .view i o l | none => .dead)
  | .row id j o l => (match σ id with | some i => .row i j o l | none => .dead)
  | .ptr id o => (match σ id with | some i => .ptr i o | none => .dead)
  | .aaddr id o => (match σ id with | some i => .aaddr i o | none => .dead)
  | .eaddr id j s => (match σ id with | some i => .eaddr i j s | none => .dead)
  | .raddr id j k => (match σ id with | some i => .raddr i j k | none => .dead)
  | .clo f cs => .clo f (rens σ cs)
  | .agg cs => .agg (rens σ cs)
  | .tup cs => .tup (rens σ cs)
  | v => v
def rens (σ : Nat → Option Nat) : List SV → List SV
  | [] => []
  | v :: r => ren σ v :: rens σ r
end
def renO (σ : Nat → Option Nat) : Ob → Ob
  | .box e cs => .box e (rens σ cs)
  | o => o
def pickO (os : List Ob) (σ : Nat → Option Nat) : List Nat → List Ob
  | [] => []
  | i :: r => renO σ (ogt os i) :: pickO os σ r

mutual
def ids : SV → List Nat → List Nat
  | .view id _ _, l | .row id _ _ _, l | .ptr id _, l | .aaddr id _, l | .eaddr id _ _, l | .raddr id _ _, l => if id ∈ l then l else l ++ [id]
  | .clo _ cs, l | .agg cs, l | .tup cs, l => idss cs l
  | _, l => l
def idss : List SV → List Nat → List Nat
  | [], l => l
  | v :: r, l => idss r (ids v l)
end
/-- What the objects of a list lead to, so many rounds long. -/
def reach (os : List Ob) : Nat → Nat → List Nat → List Nat
  | 0, _, l => l
  | n + 1, k, l => match l[k]? with
    | none => l
    | some i => reach os n (k + 1) (match ogt os i with | .box _ cs => idss cs l | _ => l)
def envOf (env : List (Nat × SV)) (σ : Nat → Option Nat) : List Nat → List (Nat × SV)
  | [] => []
  | s :: r => (s, ren σ (lkp env s)) :: envOf env σ r
def vals (env : List (Nat × SV)) : List Nat → List SV
  | [] => []
  | s :: r => lkp env s :: vals env r
def St.sig (Γ : St) (roots : List SV) : List Nat := reach Γ.objs 64 0 (idss roots (List.range Γ.fix))
def gcW (l : List Nat) (keep : List Nat) (Γ : St) : St := ⟨Γ.n, Γ.fix, Γ.wr, envOf Γ.env (idx l 0) keep, pickO Γ.objs (idx l 0) l⟩
/-- The slots that are kept, and the objects that they lead to, renumbered. -/
def gc (keep : List Nat) (Γ : St) : St :=
  gcW (Γ.sig (vals Γ.env keep)) keep Γ

def finW (l : List Nat) (r : SV) (Γ : St) (Q : SV → List Ob → Prop) : Prop := Q (ren (idx l 0) r) (pickO Γ.objs (idx l 0) l)
/-- The end of a function: its result, and the objects that came in or that the result leads to. -/
def fin (C : Ctx) (rs : List ResultVar) (Q : SV → List Ob → Prop) : Ex → St → Prop
  | .exit _, _ => False
  | _, Γ => finW (Γ.sig [resOf C Γ rs]) (resOf C Γ rs) Γ Q

def loopK {S : Type} (keep : List Nat) (enc : S → St) (I : S → Prop) (μ : S → Nat) (s : S) (Q : Ex → St → Prop) : Ex → St → Prop
  | .normal, Γ => ∃ s', gc keep Γ = enc s' ∧ I s' ∧ μ s' < μ s
  | e, Γ => Q e Γ

end Go.Dm

/- What a reified state says of the machine's memory. -/
namespace Go.Dm
open Go

structure OR where
  b : Nat
  o : Nat
  deriving Inhabited

def mg (m : List OR) (i : Nat) : OR := m.getD i ⟨0, 0⟩

theorem cell_eq (w : World) (b o : Nat) : w.cell? ⟨b, o, none⟩ = (match w.heap[b]? with | some (.cells c _ _) => c[o]? | _ => none) := by
  unfold World.cell?; rfl

theorem cell_of {w : World} {b : Nat} {arr : Array Value} {e : TypeId} {f : Nat × Nat} (h : w.heap[b]? = some (.cells arr e f)) (o : Nat) :
    w.cell? ⟨b, o, none⟩ = arr[o]? := by rw [cell_eq, h]

theorem cell_same {w w' : World} {b : Nat} (h : w'.heap[b]? = w.heap[b]?) (o : Nat) : w'.cell? ⟨b, o, none⟩ = w.cell? ⟨b, o, none⟩ := by
  rw [cell_eq, cell_eq, h]

def CellsAt (w : World) (b o : Nat) (cs : List Value) : Prop := ∀ j v, cs[j]? = some v → w.cell? ⟨b, o + j, none⟩ = some v

theorem CellsAt.same {w w' : World} {b o : Nat} {cs : List Value} (h : CellsAt w b o cs) (hs : w'.heap[b]? = w.heap[b]?) : CellsAt w' b o cs :=
  fun j v hj => by rw [cell_same hs]; exact h j v hj

theorem CellsAt.append {w : World} {b o : Nat} {c1 c2 : List Value} : CellsAt w b o (c1 ++ c2) ↔ CellsAt w b o c1 ∧ CellsAt w b (o + c1.length) c2 := by
  constructor
  · intro h
    refine ⟨fun j v hj => h j v ?_, fun j v hj => ?_⟩
    · rw [List.getElem?_append_left]; exact hj; exact (List.getElem?_eq_some_iff.1 hj).1
    · have := h (c1.length + j) v (by rw [List.getElem?_append_right (by omega)]; simpa using hj)
      rwa [Nat.add_assoc]
  · rintro ⟨h1, h2⟩ j v hj
    by_cases hlt : j < c1.length
    · rw [List.getElem?_append_left hlt] at hj; exact h1 j v hj
    · rw [List.getElem?_append_right (by omega)] at hj
      have := h2 _ v hj
      rwa [show o + c1.length + (j - c1.length) = o + j by omega] at this

/-- 'x' reads in the cells 'cs'; d: how deep its slices are its own; fp: the blocks that are its own. Frozen slices lie in blocks of Z. -/
def Rep (w : World) (Z : Nat → Prop) : (t : Ty) → (d : Nat) → t.T → List Value → List Nat → Prop
  | .int k, _, x, cs, fp => cs = [.int k x] ∧ fp = []
  | .bool, _, x, cs, fp => cs = [.bool x] ∧ fp = []
  | .str, _, x, cs, fp => cs = [.string ⟨x.toArray⟩] ∧ fp = []
  | .unit, _, _, cs, fp => cs = [] ∧ fp = []
  | .pair a b, d, p, cs, fp => ∃ c1 c2 f1 f2, cs = c1 ++ c2 ∧ fp = f1 ++ f2 ∧ Rep w Z a d p.1 c1 f1 ∧ Rep w Z b d p.2 c2 f2
  | .sl _ t, 0, xs, cs, fp => fp = [] ∧ ∃ A c, cs = [.slice A xs.length c] ∧ xs.length ≤ c ∧
      (xs = [] ∨ ∃ b o, A = some ⟨b, o, none⟩ ∧ Z b ∧ ∀ i (h : i < xs.length), ∃ ces, CellsAt w b (o + i * t.size) ces ∧ Rep w Z t 0 xs[i] ces [])
  | .sl _ t, d + 1, xs, cs, fp => (xs = [] ∧ fp = [] ∧ ∃ A, cs = [.slice A 0 0]) ∨
      ∃ (b o c : Nat) (fps : List (List Nat)), cs = [.slice (some ⟨b, o, none⟩) xs.length c] ∧ xs.length ≤ c ∧ fp = b :: fps.flatten ∧ fps.length = xs.length ∧
        (∃ arr e', w.heap[b]? = some (.cells arr e' (0, 0)) ∧ o + c * t.size ≤ arr.size) ∧
        ∀ i (h : i < xs.length), ∃ ces, CellsAt w b (o + i * t.size) ces ∧ Rep w Z t d xs[i] ces (fps.getD i [])

theorem Rep.len {w : World} {Z : Nat → Prop} : ∀ {t : Ty} {d : Nat} {x : t.T} {cs : List Value} {fp : List Nat}, Rep w Z t d x cs fp → cs.length = t.size
  | .int _, _, _, _, _, h => by obtain ⟨rfl, _⟩ := h; rfl
  | .bool, _, _, _, _, h => by obtain ⟨rfl, _⟩ := h; rfl
  | .str, _, _, _, _, h => by obtain ⟨rfl, _⟩ := h; rfl
  | .unit, _, _, _, _, h => by obtain ⟨rfl, _⟩ := h; rfl
  | .pair a b, _, _, _, _, h => by
    obtain ⟨c1, c2, f1, f2, rfl, _, h1, h2⟩ := h
    simp [Ty.size, h1.len, h2.len]
  | .sl _ _, 0, _, _, _, h => by obtain ⟨_, _, _, rfl, _⟩ := h; rfl
  | .sl _ _, _ + 1, _, _, _, h => by
    rcases h with ⟨_, _, _, rfl⟩ | ⟨_, _, _, _, rfl, _⟩ <;> rfl

theorem flat_mem {fps : List (List Nat)} {i b : Nat} (h : b ∈ fps.getD i []) : b ∈ fps.flatten := by
  rw [List.getD_eq_getElem?_getD] at h
  cases hi : fps[i]? with
  | none => rw [hi] at h; simp at h
  | some l => rw [hi] at h; exact List.mem_flatten.2 ⟨l, List.mem_of_getElem? hi, by simpa using h⟩

/-- The reading stays where its blocks stay. -/
theorem Rep.mono {w w' : World} {Z Z' : Nat → Prop} (hz : ∀ b, Z b → Z' b) (hs : ∀ b, Z b → w'.heap[b]? = w.heap[b]?) :
    ∀ {t : Ty} {d : Nat} {x : t.T} {cs : List Value} {fp : List Nat}, Rep w Z t d x cs fp → (∀ b ∈ fp, w'.heap[b]? = w.heap[b]?) → Rep w' Z' t d x cs fp
  | .int _, _, _, _, _, h, _ => h
  | .bool, _, _, _, _, h, _ => h
  | .str, _, _, _, _, h, _ => h
  | .unit, _, _, _, _, h, _ => h
  | .pair a b, _, _, _, _, h, hf => by
    obtain ⟨c1, c2, f1, f2, rfl, rfl, h1, h2⟩ := h
    exact ⟨c1, c2, f1, f2, rfl, rfl, h1.mono hz hs (fun b hb => hf b (by simp [hb])), h2.mono hz hs (fun b hb => hf b (by simp [hb]))⟩
  | .sl _ t, 0, xs, _, _, h, _ => by
    obtain ⟨rfl, A, c, rfl, hc, h⟩ := h
    refine ⟨rfl, A, c, rfl, hc, ?_⟩
    rcases h with h | ⟨b, o, rfl, hb, h⟩
    · exact .inl h
    · refine .inr ⟨b, o, rfl, hz b hb, fun i hi => ?_⟩
      obtain ⟨ces, h1, h2⟩ := h i hi
      exact ⟨ces, h1.same (hs b hb), h2.mono hz hs (by simp)⟩
  | .sl _ t, d + 1, xs, _, _, h, hf => by
    rcases h with h | ⟨b, o, c, fps, rfl, hc, rfl, hl, ⟨arr, e', ha, hr⟩, h⟩
    · exact .inl h
    · have hb := hf b (by simp)
      refine .inr ⟨b, o, c, fps, rfl, hc, rfl, hl, ⟨arr, e', by rw [hb]; exact ha, hr⟩, fun i hi => ?_⟩
      obtain ⟨ces, h1, h2⟩ := h i hi
      exact ⟨ces, h1.same hb, h2.mono hz hs (fun b' hb' => hf b' (by simp only [List.mem_cons]; exact .inr (flat_mem hb')))⟩

/-- What is its own can be taken for frozen. -/
theorem Rep.freeze {w : World} {Z Z' : Nat → Prop} (hz : ∀ b, Z b → Z' b) :
    ∀ {t : Ty} {d : Nat} {x : t.T} {cs : List Value} {fp : List Nat}, Rep w Z t d x cs fp → (∀ b ∈ fp, Z' b) → Rep w Z' t 0 x cs []
  | .int _, _, _, _, _, h, _ => ⟨h.1, rfl⟩
  | .bool, _, _, _, _, h, _ => ⟨h.1, rfl⟩
  | .str, _, _, _, _, h, _ => ⟨h.1, rfl⟩
  | .unit, _, _, _, _, h, _ => ⟨h.1, rfl⟩
  | .pair a b, _, _, _, _, h, hf => by
    obtain ⟨c1, c2, f1, f2, rfl, rfl, h1, h2⟩ := h
    exact ⟨c1, c2, [], [], rfl, rfl, h1.freeze hz (fun b hb => hf b (by simp [hb])), h2.freeze hz (fun b hb => hf b (by simp [hb]))⟩
  | .sl _ t, 0, xs, _, _, h, _ => by
    have hr := Rep.mono (w' := w) hz (fun _ _ => rfl) h (fun _ _ => rfl)
    obtain ⟨rfl, h'⟩ := hr
    exact ⟨rfl, h'⟩
  | .sl _ t, d + 1, xs, _, _, h, hf => by
    rcases h with ⟨rfl, rfl, A, rfl⟩ | ⟨b, o, c, fps, rfl, hc, rfl, hl, _, h⟩
    · exact ⟨rfl, A, 0, rfl, Nat.le_refl _, .inl rfl⟩
    · refine ⟨rfl, _, c, rfl, hc, .inr ⟨b, o, rfl, hf b (by simp), fun i hi => ?_⟩⟩
      obtain ⟨ces, h1, h2⟩ := h i hi
      exact ⟨ces, h1, h2.freeze hz (fun b' hb' => hf b' (by simp only [List.mem_cons]; exact .inr (flat_mem hb')))⟩

theorem Rep.flat_fp {w : World} {Z : Nat → Prop} : ∀ {t : Ty} {d : Nat} {x : t.T} {cs : List Value} {fp : List Nat}, t.flat = true → Rep w Z t d x cs fp → fp = []
  | .int _, _, _, _, _, _, h => h.2
  | .bool, _, _, _, _, _, h => h.2
  | .str, _, _, _, _, _, h => h.2
  | .unit, _, _, _, _, _, h => h.2
  | .pair a b, _, _, _, _, hf, h => by
    obtain ⟨c1, c2, f1, f2, rfl, rfl, h1, h2⟩ := h
    simp only [Ty.flat, Bool.and_eq_true] at hf
    rw [h1.flat_fp hf.1, h2.flat_fp hf.2]; rfl
  | .sl _ _, _, _, _, _, hf, _ => by simp [Ty.flat] at hf

theorem Rep.flat_any {w w' : World} {Z Z' : Nat → Prop} : ∀ {t : Ty} {d d' : Nat} {x : t.T} {cs : List Value} {fp : List Nat}, t.flat = true → Rep w Z t d x cs fp → Rep w' Z' t d' x cs fp
  | .int _, _, _, _, _, _, _, h => h
  | .bool, _, _, _, _, _, _, h => h
  | .str, _, _, _, _, _, _, h => h
  | .unit, _, _, _, _, _, _, h => h
  | .pair a b, _, _, _, _, _, hf, h => by
    obtain ⟨c1, c2, f1, f2, rfl, rfl, h1, h2⟩ := h
    simp only [Ty.flat, Bool.and_eq_true] at hf
    exact ⟨c1, c2, f1, f2, rfl, rfl, h1.flat_any hf.1, h2.flat_any hf.2⟩
  | .sl _ _, _, _, _, _, _, hf, _ => by simp [Ty.flat] at hf

theorem Rep.zero_fp {w : World} {Z : Nat → Prop} : ∀ {t : Ty} {x : t.T} {cs : List Value} {fp : List Nat}, Rep w Z t 0 x cs fp → fp = []
  | .int _, _, _, _, h => h.2
  | .bool, _, _, _, h => h.2
  | .str, _, _, _, h => h.2
  | .unit, _, _, _, h => h.2
  | .pair a b, _, _, _, h => by
    obtain ⟨c1, c2, f1, f2, rfl, rfl, h1, h2⟩ := h
    rw [h1.zero_fp, h2.zero_fp]; rfl
  | .sl _ _, _, _, _, h => h.1

section
variable (w : World) (Z : Nat → Prop) (m : List OR) (objs : List Ob)

mutual
/-- What a slot holds, in the machine. -/
def SVr : SV → Value → Prop
  | .dead, _ => True
  | .int k n, v => v = .int k n
  | .bool b, v => v = .bool b
  | .str s, v => v = .string ⟨s.toArray⟩
  | .nilsl, v => v = .slice none 0 0
  | .fs t e xs, v => Rep w Z (.sl e t) 0 xs [v] []
  | .view id off len, v => id < objs.length ∧ v.oneCell' = true ∧ match ogt objs id with
    | .lst t _ _ xs _ => ∃ cap b' o', v = .slice (some ⟨b', o', none⟩) len cap ∧ (cap ≠ 0 → b' = (mg m id).b ∧ o' = (mg m id).o + off * t.size) ∧ len ≤ cap ∧ off + len ≤ xs.length ∧
        ∃ arr e', w.heap[(mg m id).b]? = some (.cells arr e' (0, 0)) ∧ (mg m id).o + (off + cap) * t.size ≤ arr.size
    | _ => True
  | .row id j off len, v => id < objs.length ∧ v.oneCell' = true ∧ match ogt objs id with
    | .lst (.sl _ t) _ (_ + 1) xs _ => j < xs.length ∧ ∃ A n c, w.cell? ⟨(mg m id).b, (mg m id).o + j, none⟩ = some (.slice A n c) ∧ off + len ≤ n ∧
        ((n = 0 ∧ c = 0 ∧ v = .slice A 0 0) ∨ ∃ br or' cap b' o', A = some ⟨br, or', none⟩ ∧ v = .slice (some ⟨b', o', none⟩) len cap ∧ (cap ≠ 0 → b' = br ∧ o' = or' + off * t.size) ∧ len ≤ cap ∧ off + cap ≤ c)
    | _ => True
  | .ptr id off, v => id < objs.length ∧ v.oneCell' = true ∧ match ogt objs id with
    | .box _ _ | .arr _ _ _ => v = .pointer (some ⟨(mg m id).b, off, none⟩)
    | _ => True
  | .aaddr id off, v => id < objs.length ∧ v.oneCell' = true ∧ match ogt objs id with
    | .arr _ _ _ => v = .pointer (some ⟨(mg m id).b, off, none⟩)
    | _ => True
  | .eaddr id j sub, v => id < objs.length ∧ v.oneCell' = true ∧ match ogt objs id with
    | .lst t _ _ _ _ => v = .pointer (some ⟨(mg m id).b, (mg m id).o + j * t.size + sub, none⟩)
    | _ => True
  | .raddr id j i, v => id < objs.length ∧ v.oneCell' = true ∧ match ogt objs id with
    | .lst (.sl _ t) _ (_ + 1) _ _ => ∃ br or' n c, w.cell? ⟨(mg m id).b, (mg m id).o + j, none⟩ = some (.slice (some ⟨br, or', none⟩) n c) ∧ v = .pointer (some ⟨br, or' + i * t.size, none⟩)
    | _ => True
  | .faddr t x sub, v => ∃ b o ces, v = .pointer (some ⟨b, o + sub, none⟩) ∧ Z b ∧ CellsAt w b o ces ∧ Rep w Z t 0 x ces []
  | .nilptr, v => v = .pointer none
  | .fn f, v => v = .func (.func f) #[] #[]
  | .clo f caps, v => ∃ vs : List Value, v = .func (.func f) #[] vs.toArray ∧ SVrs caps vs
  | .agg cs, v => ∃ vs : List Value, v = .agg vs.toArray ∧ SVrs cs vs
  | .tup cs, v => ∃ vs : List Value, v = .tuple vs.toArray ∧ SVrs cs vs
def SVrs : List SV → List Value → Prop
  | [], vs => vs = []
  | s :: ss, vs => ∃ v vs', vs = v :: vs' ∧ SVr s v ∧ SVrs ss vs'
end

/-- An object, in the machine; fp: its blocks. -/
def obR (i : Nat) (fp : List Nat) : Prop := match ogt objs i with
  | .gone => True
  | .box _ cs => fp = [(mg m i).b] ∧ ∃ arr e', w.heap[(mg m i).b]? = some (.cells arr e' (0, 0)) ∧ SVrs w Z m objs cs arr.toList
  | .lst t _ d xs hole => ∃ (arr : Array Value) (e' : TypeId) (fps : List (List Nat)), w.heap[(mg m i).b]? = some (.cells arr e' (0, 0)) ∧ (mg m i).o + xs.length * t.size ≤ arr.size ∧
      fps.length = xs.length ∧ fp = (mg m i).b :: fps.flatten ∧
      ∀ j (h : j < xs.length), (hole = some j ∧ fps.getD j [] = []) ∨ (hole ≠ some j ∧ ∃ ces, CellsAt w (mg m i).b ((mg m i).o + j * t.size) ces ∧ Rep w Z t d xs[j] ces (fps.getD j []))
  | .arr t _ xs => fp = [(mg m i).b] ∧ t.size = 1 ∧ t.flat = true ∧ ∃ arr e', w.heap[(mg m i).b]? = some (.cells arr e' (0, 0)) ∧ arr.size = xs.length ∧
      ∀ j (h : j < xs.length), ∃ v, arr[j]? = some v ∧ Rep w Z t 0 xs[j] [v] []
end

theorem SVrs.length {w : World} {Z : Nat → Prop} {m : List OR} {objs : List Ob} : ∀ {ss : List SV} {vs : List Value}, SVrs w Z m objs ss vs → vs.length = ss.length
  | [], _, h => by simp only [SVrs] at h; subst h; rfl
  | _ :: _, _, h => by
    simp only [SVrs] at h
    obtain ⟨v, vs', rfl, _, h⟩ := h
    simp [h.length]

/-- Old memory but for some blocks stays. -/
structure Keep (O : List Nat) (w w' : World) : Prop where
  shape : ∀ (b : Nat) (arr : Array Value) (e : TypeId) (f : Nat × Nat), w.heap[b]? = some (.cells arr e f) → ∃ arr' : Array Value, w'.heap[b]? = some (.cells arr' e f) ∧ arr'.size = arr.size
  os : w'.os = w.os
  tape : w'.tape = w.tape
  output : w'.output = w.output
  size : w.heap.size ≤ w'.heap.size
  block : ∀ b, b < w.heap.size → b ∉ O → w'.heap[b]? = w.heap[b]?

theorem Keep.refl (O : List Nat) (w : World) : Keep O w w := ⟨fun _ arr _ _ h => ⟨arr, h, rfl⟩, rfl, rfl, rfl, Nat.le_refl _, fun _ _ _ => rfl⟩

/-- The blocks in which frozen values lie. -/
def Zn (w0 : World) (O0 : List Nat) (Z0 : Nat → Prop) (w : World) (fpl : List (List Nat)) (b : Nat) : Prop :=
  (Z0 b ∨ b ∈ O0 ∨ w0.heap.size ≤ b) ∧ b < w.heap.size ∧ b ∉ fpl.flatten

/-- The objects, in the machine. -/
structure ObsR (w0 : World) (O0 : List Nat) (Z0 : Nat → Prop) (m : List OR) (fpl : List (List Nat)) (objs : List Ob) (w : World) : Prop where
  ml : m.length = objs.length
  fl : objs.length ≤ fpl.length
  ob : ∀ i, i < objs.length → obR w (Zn w0 O0 Z0 w fpl) m objs i (fpl.getD i [])
  nodup : fpl.flatten.Nodup
  own : ∀ b ∈ fpl.flatten, b < w.heap.size ∧ (b ∈ O0 ∨ w0.heap.size ≤ b)
  keep : Keep O0 w0 w

/-- What may become of an object that is known from before. -/
def ObLe : Ob → Ob → Prop
  | .gone, .gone => True
  | .box e cs, o => o = .gone ∨ ∃ cs', o = .box e cs' ∧ cs'.length = cs.length
  | .lst t e d xs _, o => o = .gone ∨ ∃ (xs' : List t.T) (hole : Option Nat), o = .lst t e d xs' hole ∧ xs'.length = xs.length
  | .arr t e xs, o => o = .gone ∨ ∃ xs' : List t.T, o = .arr t e xs' ∧ xs'.length = xs.length
  | _, _ => False

theorem ObLe.refl : ∀ o : Ob, ObLe o o
  | .gone => trivial
  | .box _ cs => .inr ⟨cs, rfl, rfl⟩
  | .lst _ _ _ xs h => .inr ⟨xs, h, rfl, rfl⟩
  | .arr _ _ xs => .inr ⟨xs, rfl, rfl⟩
theorem ObLe.gone (o : Ob) : ObLe o .gone := by cases o <;> first | trivial | exact .inl rfl
theorem ObLe.of_gone {o : Ob} (h : ObLe .gone o) : o = .gone := by cases o <;> first | rfl | exact h.elim
theorem ObLe.trans {a b c : Ob} (h : ObLe a b) (k : ObLe b c) : ObLe a c := by
  cases a with
  | gone => rw [h.of_gone] at k; exact k
  | box e cs =>
    rcases h with rfl | ⟨cs', rfl, h⟩
    · exact .inl k.of_gone
    · rcases k with rfl | ⟨cs2, rfl, k⟩
      · exact .inl rfl
      · exact .inr ⟨cs2, rfl, k.trans h⟩
  | lst t e d xs hole =>
    rcases h with rfl | ⟨cs', _, rfl, h⟩
    · exact .inl k.of_gone
    · rcases k with rfl | ⟨cs2, hole2, rfl, k⟩
      · exact .inl rfl
      · exact .inr ⟨cs2, hole2, rfl, k.trans h⟩
  | arr t e xs =>
    rcases h with rfl | ⟨cs', rfl, h⟩
    · exact .inl k.of_gone
    · rcases k with rfl | ⟨cs2, rfl, k⟩
      · exact .inl rfl
      · exact .inr ⟨cs2, rfl, k.trans h⟩

/-- A walk's state, in the machine. -/
structure SR (w0 : World) (O0 : List Nat) (Z0 : Nat → Prop) (m0 : List OR) (os0 : List Ob) (m : List OR) (fpl : List (List Nat)) (Γ : St) (a : Act) (w : World) : Prop where
  ob : ObsR w0 O0 Z0 m fpl Γ.objs w
  m0 : m.take Γ.fix = m0
  o0 : os0.length = Γ.fix
  fx : Γ.fix ≤ Γ.objs.length
  le : ∀ i, i < Γ.fix → ObLe (ogt os0 i) (ogt Γ.objs i)
  tm : a.tmps.size = Γ.n
  df : a.defers = []
  env : ∀ s sv, (s, sv) ∈ Γ.env → SVr w (Zn w0 O0 Z0 w fpl) m Γ.objs sv (a.tmps.getD s undef)

def StR (w0 : World) (O0 : List Nat) (Z0 : Nat → Prop) (m0 : List OR) (os0 : List Ob) (Γ : St) (a : Act) (w : World) : Prop :=
  ∃ m fpl, SR w0 O0 Z0 m0 os0 m fpl Γ a w

/-- A call, told by what it makes of its arguments and of the objects that come with them. -/
def DC (P : Program) (f : FuncId) (args : List SV) (objs : List Ob) (Q : SV → List Ob → Prop) : Prop :=
  ∀ (w : World) (vs : List Value) (Z : Nat → Prop) (m : List OR) (fpl : List (List Nat)),
    (∀ b, Z b → b < w.heap.size ∧ b ∉ fpl.flatten) → ObsR w fpl.flatten Z m fpl objs w → SVrs w (Zn w fpl.flatten Z w fpl) m objs args vs →
    Calls P f vs.toArray w fun e w' => ∃ v r objs' m' fpl', e = .returned v ∧ Q r objs' ∧ ObsR w fpl.flatten Z m' fpl' objs' w' ∧ m'.take objs.length = m ∧
      objs.length ≤ objs'.length ∧ (∀ i, i < objs.length → ObLe (ogt objs i) (ogt objs' i)) ∧ SVr w' (Zn w fpl.flatten Z w' fpl') m' objs' r v

end Go.Dm

/- What a state says stays true where its blocks stay. -/
namespace Go.Dm
open Go

mutual
/-- No row, and no address within a row, of the objects R. -/
def nr (R : Nat → Prop) : SV → Prop
  | .row i _ _ _ => ¬ R i
  | .raddr i _ _ => ¬ R i
  | .clo _ cs | .agg cs | .tup cs => nrs R cs
  | _ => True
def nrs (R : Nat → Prop) : List SV → Prop
  | [] => True
  | v :: r => nr R v ∧ nrs R r
end

mutual
theorem nr_kr (id : Nat) (R : Nat → Prop) : ∀ sv : SV, nr R sv → nr (fun i => R i ∨ i = id) (kr id sv)
  | .row i j o l, h => by simp only [kr]; split <;> simp_all [nr]
  | .raddr i j k, h => by simp only [kr]; split <;> simp_all [nr]
  | .clo f cs, h => by simp only [kr, nr] at *; exact nrs_krs id R cs h
  | .agg cs, h => by simp only [kr, nr] at *; exact nrs_krs id R cs h
  | .tup cs, h => by simp only [kr, nr] at *; exact nrs_krs id R cs h
  | .dead, _ | .int _ _, _ | .bool _, _ | .str _, _ | .nilsl, _ | .fs _ _ _, _ | .view _ _ _, _ | .ptr _ _, _ | .aaddr _ _, _ | .eaddr _ _ _, _ | .faddr _ _ _, _ | .nilptr, _ | .fn _, _ => trivial
theorem nrs_krs (id : Nat) (R : Nat → Prop) : ∀ sv : List SV, nrs R sv → nrs (fun i => R i ∨ i = id) (krs id sv)
  | [], _ => trivial
  | v :: r, h => ⟨nr_kr id R v h.1, nrs_krs id R r h.2⟩
end

mutual
theorem nr_false : ∀ sv : SV, nr (fun _ => False) sv
  | .row i j o l => fun h => h
  | .raddr i j k => fun h => h
  | .clo f cs => by simp only [nr]; exact nrs_false cs
  | .agg cs => by simp only [nr]; exact nrs_false cs
  | .tup cs => by simp only [nr]; exact nrs_false cs
  | .dead | .int _ _ | .bool _ | .str _ | .nilsl | .fs _ _ _ | .view _ _ _ | .ptr _ _ | .aaddr _ _ | .eaddr _ _ _ | .faddr _ _ _ | .nilptr | .fn _ => trivial
theorem nrs_false : ∀ sv : List SV, nrs (fun _ => False) sv
  | [] => trivial
  | v :: r => ⟨nr_false v, nrs_false r⟩
end

section
variable {w : World} {Z : Nat → Prop} {m : List OR} {objs : List Ob}
mutual
theorem SVr_kr (id : Nat) : ∀ (sv : SV) (v : Value), SVr w Z m objs sv v → SVr w Z m objs (kr id sv) v
  | .row i j o l, v, h => by simp only [kr]; split; trivial; exact h
  | .raddr i j k, v, h => by simp only [kr]; split; trivial; exact h
  | .clo f cs, v, h => by simp only [kr, SVr] at *; obtain ⟨vs, rfl, h⟩ := h; exact ⟨vs, rfl, SVrs_krs id cs vs h⟩
  | .agg cs, v, h => by simp only [kr, SVr] at *; obtain ⟨vs, rfl, h⟩ := h; exact ⟨vs, rfl, SVrs_krs id cs vs h⟩
  | .tup cs, v, h => by simp only [kr, SVr] at *; obtain ⟨vs, rfl, h⟩ := h; exact ⟨vs, rfl, SVrs_krs id cs vs h⟩
  | .dead, _, h | .int _ _, _, h | .bool _, _, h | .str _, _, h | .nilsl, _, h | .fs _ _ _, _, h | .view _ _ _, _, h | .ptr _ _, _, h | .aaddr _ _, _, h | .eaddr _ _ _, _, h
  | .faddr _ _ _, _, h | .nilptr, _, h | .fn _, _, h => h
theorem SVrs_krs (id : Nat) : ∀ (sv : List SV) (vs : List Value), SVrs w Z m objs sv vs → SVrs w Z m objs (krs id sv) vs
  | [], _, h => h
  | v :: r, vs, h => by
    simp only [krs, SVrs] at *
    obtain ⟨v', vs', rfl, h1, h2⟩ := h
    exact ⟨v', vs', rfl, SVr_kr id v v' h1, SVrs_krs id r vs' h2⟩
end
end

/-- From one world and its objects to a later one. R: the objects whose rows may have changed. -/
structure Stp (R : Nat → Prop) (w w' : World) (Z Z' : Nat → Prop) (m m' : List OR) (objs objs' : List Ob) : Prop where
  z : ∀ b, Z b → Z' b
  zs : ∀ b, Z b → w'.heap[b]? = w.heap[b]?
  sh : ∀ (b : Nat) (arr : Array Value) (e : TypeId) (f : Nat × Nat), w.heap[b]? = some (.cells arr e f) → ∃ arr' : Array Value, w'.heap[b]? = some (.cells arr' e f) ∧ arr'.size = arr.size
  mm : ∀ id, id < objs.length → mg m' id = mg m id
  len : objs.length ≤ objs'.length
  ob : ∀ id, id < objs.length → ObLe (ogt objs id) (ogt objs' id)
  rows : ∀ id, id < objs.length → ¬ R id → (∃ (e : TypeId) (t : Ty) (e' : TypeId) (d : Nat) (xs : List (List t.T)) (hole : Option Nat), ogt objs' id = .lst (.sl e t) e' (d + 1) xs hole) →
    w'.heap[(mg m id).b]? = w.heap[(mg m id).b]?

theorem ObLe.not_lst {o o' : Ob} (h : ObLe o o') (ho : ∀ t e d xs hole, o ≠ .lst t e d xs hole) : ∀ t e d xs hole, o' ≠ .lst t e d xs hole := by
  intro t e d xs hole he
  subst he
  cases o with
  | gone => exact h.elim
  | box => rcases h with h | ⟨_, h, _⟩ <;> cases h
  | lst t e d xs hole => exact ho _ _ _ _ _ rfl
  | arr => rcases h with h | ⟨_, h, _⟩ <;> cases h

section
variable {R : Nat → Prop} {w w' : World} {Z Z' : Nat → Prop} {m m' : List OR} {objs objs' : List Ob} (S : Stp R w w' Z Z' m m' objs objs')
include S
mutual
theorem SVr.step : ∀ {sv : SV} {v : Value}, nr R sv → SVr w Z m objs sv v → SVr w' Z' m' objs' sv v
  | .dead, _, _, _ => trivial
  | .int _ _, _, _, h => h
  | .bool _, _, _, h => h
  | .str _, _, _, h => h
  | .nilsl, _, _, h => h
  | .nilptr, _, _, h => h
  | .fn _, _, _, h => h
  | .fs t e xs, v, _, h => by simp only [SVr] at *; exact h.mono S.z S.zs (by simp)
  | .faddr t x sub, v, _, h => by
    simp only [SVr] at *
    obtain ⟨b, o, ces, rfl, hb, h1, h2⟩ := h
    exact ⟨b, o, ces, rfl, S.z b hb, h1.same (S.zs b hb), h2.mono S.z S.zs (by simp)⟩
  | .clo f cs, v, hn, h => by simp only [SVr, nr] at *; obtain ⟨vs, rfl, h⟩ := h; exact ⟨vs, rfl, SVrs.step hn h⟩
  | .agg cs, v, hn, h => by simp only [SVr, nr] at *; obtain ⟨vs, rfl, h⟩ := h; exact ⟨vs, rfl, SVrs.step hn h⟩
  | .tup cs, v, hn, h => by simp only [SVr, nr] at *; obtain ⟨vs, rfl, h⟩ := h; exact ⟨vs, rfl, SVrs.step hn h⟩
  | .view id off len, v, _, h => by
    simp only [SVr] at *
    obtain ⟨hi, h1c, h⟩ := h
    refine ⟨Nat.lt_of_lt_of_le hi S.len, h1c, ?_⟩
    have hob := S.ob id hi
    cases ho : ogt objs id with
    | lst t e d xs hole =>
      rw [ho] at h hob
      rcases hob with hg | ⟨xs', hole', he, hl⟩
      · rw [hg]; trivial
      · rw [he]
        obtain ⟨cap, b', o', rfl, h0, h1, h2, arr, e', h3, h4⟩ := h
        obtain ⟨arr', h5, h6⟩ := S.sh _ _ _ _ h3
        refine ⟨cap, b', o', rfl, by rw [S.mm id hi]; exact h0, h1, by omega, arr', e', by rw [S.mm id hi]; exact h5, by rw [S.mm id hi, h6]; exact h4⟩
    | gone => rw [ho] at hob; have := hob.not_lst (by simp); split <;> first | trivial | exact absurd (by assumption) (this _ _ _ _ _)
    | box => rw [ho] at hob; have := hob.not_lst (by simp); split <;> first | trivial | exact absurd (by assumption) (this _ _ _ _ _)
    | arr => rw [ho] at hob; have := hob.not_lst (by simp); split <;> first | trivial | exact absurd (by assumption) (this _ _ _ _ _)
  | .eaddr id j sub, v, _, h => by
    simp only [SVr] at *
    obtain ⟨hi, h1c, h⟩ := h
    refine ⟨Nat.lt_of_lt_of_le hi S.len, h1c, ?_⟩
    have hob := S.ob id hi
    cases ho : ogt objs id with
    | lst t e d xs hole =>
      rw [ho] at h hob
      rcases hob with hg | ⟨xs', hole', he, hl⟩
      · rw [hg]; trivial
      · rw [he]
        simp only [S.mm id hi]
        exact h
    | gone => rw [ho] at hob; have := hob.not_lst (by simp); split <;> first | trivial | exact absurd (by assumption) (this _ _ _ _ _)
    | box => rw [ho] at hob; have := hob.not_lst (by simp); split <;> first | trivial | exact absurd (by assumption) (this _ _ _ _ _)
    | arr => rw [ho] at hob; have := hob.not_lst (by simp); split <;> first | trivial | exact absurd (by assumption) (this _ _ _ _ _)
  | .ptr id off, v, _, h => by
    simp only [SVr] at *
    obtain ⟨hi, h1c, h⟩ := h
    refine ⟨Nat.lt_of_lt_of_le hi S.len, h1c, ?_⟩
    have hob := S.ob id hi
    cases ho : ogt objs id with
    | lst t e d xs hole => rw [ho] at hob; rcases hob with hg | ⟨_, _, he, _⟩ <;> simp_all
    | gone => rw [ho] at hob; rw [hob.of_gone]; trivial
    | box => rw [ho] at h hob; rcases hob with hg | ⟨_, he, _⟩ <;> simp_all [S.mm id hi]
    | arr => rw [ho] at h hob; rcases hob with hg | ⟨_, he, _⟩ <;> simp_all [S.mm id hi]
  | .aaddr id off, v, _, h => by
    simp only [SVr] at *
    obtain ⟨hi, h1c, h⟩ := h
    refine ⟨Nat.lt_of_lt_of_le hi S.len, h1c, ?_⟩
    have hob := S.ob id hi
    cases ho : ogt objs id with
    | lst t e d xs hole => rw [ho] at hob; rcases hob with hg | ⟨_, _, he, _⟩ <;> simp_all
    | gone => rw [ho] at hob; rw [hob.of_gone]; trivial
    | box => rw [ho] at h hob; rcases hob with hg | ⟨_, he, _⟩ <;> simp_all
    | arr => rw [ho] at h hob; rcases hob with hg | ⟨_, he, _⟩ <;> simp_all [S.mm id hi]
  | .row id j off len, v, hn, h => by
    simp only [SVr, nr] at *
    obtain ⟨hi, h1c, h⟩ := h
    refine ⟨Nat.lt_of_lt_of_le hi S.len, h1c, ?_⟩
    have hob := S.ob id hi
    have hr := S.rows id hi hn
    cases ho : ogt objs id with
    | lst t e d xs hole =>
      rw [ho] at h hob
      rcases hob with hg | ⟨xs', hole', he, hl⟩
      · rw [hg]; trivial
      · rw [he] at hr ⊢
        cases t with
        | sl e1 t1 =>
          cases d with
          | zero => trivial
          | succ d =>
            have hs := hr ⟨_, _, _, _, _, _, rfl⟩
            simp only [S.mm id hi, cell_same hs]
            exact ⟨by rw [hl]; exact h.1, h.2⟩
        | _ => trivial
    | gone => rw [ho] at hob; have := hob.not_lst (by simp); split <;> first | trivial | exact absurd (by assumption) (this _ _ _ _ _)
    | box => rw [ho] at hob; have := hob.not_lst (by simp); split <;> first | trivial | exact absurd (by assumption) (this _ _ _ _ _)
    | arr => rw [ho] at hob; have := hob.not_lst (by simp); split <;> first | trivial | exact absurd (by assumption) (this _ _ _ _ _)
  | .raddr id j i, v, hn, h => by
    simp only [SVr, nr] at *
    obtain ⟨hi, h1c, h⟩ := h
    refine ⟨Nat.lt_of_lt_of_le hi S.len, h1c, ?_⟩
    have hob := S.ob id hi
    have hr := S.rows id hi hn
    cases ho : ogt objs id with
    | lst t e d xs hole =>
      rw [ho] at h hob
      rcases hob with hg | ⟨xs', hole', he, hl⟩
      · rw [hg]; trivial
      · rw [he] at hr ⊢
        cases t with
        | sl e1 t1 =>
          cases d with
          | zero => trivial
          | succ d =>
            have hs := hr ⟨_, _, _, _, _, _, rfl⟩
            simp only [S.mm id hi, cell_same hs]
            exact h
        | _ => trivial
    | gone => rw [ho] at hob; have := hob.not_lst (by simp); split <;> first | trivial | exact absurd (by assumption) (this _ _ _ _ _)
    | box => rw [ho] at hob; have := hob.not_lst (by simp); split <;> first | trivial | exact absurd (by assumption) (this _ _ _ _ _)
    | arr => rw [ho] at hob; have := hob.not_lst (by simp); split <;> first | trivial | exact absurd (by assumption) (this _ _ _ _ _)
theorem SVrs.step : ∀ {ss : List SV} {vs : List Value}, nrs R ss → SVrs w Z m objs ss vs → SVrs w' Z' m' objs' ss vs
  | [], _, _, h => h
  | s :: ss, _, hn, h => by
    have _hS := S
    simp only [SVrs, nrs] at *
    obtain ⟨v, vs', rfl, h1, h2⟩ := h
    exact ⟨v, vs', rfl, SVr.step hn.1 h1, SVrs.step hn.2 h2⟩
end
end

end Go.Dm

/- How a state is carried on: a slot is written, a block is made, a block of its own is written. -/
namespace Go.Dm
open Go

section
variable {w0 : World} {O0 : List Nat} {Z0 : Nat → Prop} {m0 : List OR} {os0 : List Ob} {m : List OR} {fpl : List (List Nat)} {Γ : St} {a : Act} {w : World}

theorem lkp_mem {env : List (Nat × SV)} {s : Nat} : lkp env s = .dead ∨ (s, lkp env s) ∈ env := by
  induction env with
  | nil => exact .inl rfl
  | cons p r ih =>
    obtain ⟨k, v⟩ := p
    simp only [lkp]
    split
    · rename_i h; subst h; exact .inr (by simp)
    · rcases ih with h | h
      · exact .inl h
      · exact .inr (by simp [h])

theorem drp_mem {env : List (Nat × SV)} {d s : Nat} {sv : SV} : (s, sv) ∈ drp env d → (s, sv) ∈ env ∧ s ≠ d := by
  induction env with
  | nil => intro h; simp [drp] at h
  | cons p r ih =>
    obtain ⟨k, v⟩ := p
    simp only [drp]
    split
    · intro h; have := ih h; exact ⟨by simp [this.1], this.2⟩
    · rename_i hk
      intro h
      rcases List.mem_cons.1 h with h | h
      · cases h; exact ⟨by simp, hk⟩
      · have := ih h; exact ⟨by simp [this.1], this.2⟩

theorem svOf_r (w : World) (Z : Nat → Prop) (m : List OR) (objs : List Ob) (v : Value) : SVr w Z m objs (svOf v) v := by
  unfold svOf
  split <;> simp [SVr]

theorem SR.eval (h : SR w0 O0 Z0 m0 os0 m fpl Γ a w) (x : Operand) : SVr w (Zn w0 O0 Z0 w fpl) m Γ.objs (rd Γ x) (a.eval x) := by
  cases x with
  | tmp t =>
    simp only [rd]
    rcases lkp_mem (env := Γ.env) (s := t) with hl | hl
    · rw [hl]; trivial
    · exact h.env _ _ hl
  | const v => exact svOf_r _ _ _ _ v
  | global g => trivial
  | func f => simp [rd, SVr, Act.eval]

theorem getD_set {tm : Array Value} {d s : Nat} {v : Value} : (tm.setIfInBounds d v).getD s undef = if s = d ∧ d < tm.size then v else tm.getD s undef := by
  simp only [Array.getD_eq_getD_getElem?, Array.getElem?_setIfInBounds]
  by_cases h : d = s
  · subst h
    by_cases hd : d < tm.size <;> simp [hd]
  · have : ¬ s = d := fun e => h e.symm
    simp [h, this]

theorem SR.put (h : SR w0 O0 Z0 m0 os0 m fpl Γ a w) {d : Option Nat} (hd : ∀ k, d = some k → k < Γ.n) {sv : SV} {v : Value}
    (hv : SVr w (Zn w0 O0 Z0 w fpl) m Γ.objs sv v) : SR w0 O0 Z0 m0 os0 m fpl (Γ.put d sv) (a.put d v) w := by
  cases d with
  | none => exact h
  | some k =>
    have hk := hd k rfl
    refine ⟨h.ob, h.m0, h.o0, h.fx, h.le, by simpa [Act.put, St.put] using h.tm, h.df, ?_⟩
    intro s sv' hs
    simp only [St.put, Act.put, List.mem_cons] at hs ⊢
    rw [getD_set]
    rcases hs with hs | hs
    · cases hs
      rw [if_pos ⟨rfl, by rw [h.tm]; exact hk⟩]; exact hv
    · have := drp_mem hs
      rw [if_neg (by intro hh; exact this.2 hh.1)]
      exact h.env _ _ this.1

theorem Keep.trans {O : List Nat} {a b c : World} (h : Keep O a b) (k : Keep O b c) : Keep O a c :=
  ⟨fun b1 arr e f hb => by
      obtain ⟨arr', h1, h2⟩ := h.shape b1 arr e f hb
      obtain ⟨arr'', h3, h4⟩ := k.shape _ _ _ _ h1
      exact ⟨arr'', h3, h4.trans h2⟩,
    k.os.trans h.os, k.tape.trans h.tape, k.output.trans h.output, Nat.le_trans h.size k.size,
    fun i hi ho => (k.block i (Nat.lt_of_lt_of_le hi h.size) ho).trans (h.block i hi ho)⟩

/-- What is kept but for the walk's own blocks is kept but for those that came in. -/
theorem Keep.up {O : List Nat} {a b c : World} {own : List Nat} (h : Keep O a b) (k : Keep own b c) (ho : ∀ x ∈ own, x ∈ O ∨ a.heap.size ≤ x) : Keep O a c :=
  ⟨fun b1 arr e f hb => by
      obtain ⟨arr', h1, h2⟩ := h.shape b1 arr e f hb
      obtain ⟨arr'', h3, h4⟩ := k.shape _ _ _ _ h1
      exact ⟨arr'', h3, h4.trans h2⟩,
    k.os.trans h.os, k.tape.trans h.tape, k.output.trans h.output, Nat.le_trans h.size k.size,
    fun i hi hn => by
      rw [← h.block i hi hn]
      refine k.block i (Nat.lt_of_lt_of_le hi h.size) fun hm => ?_
      rcases ho i hm with h1 | h1
      · exact hn h1
      · omega⟩

theorem obR.step {R : Nat → Prop} {w w' : World} {Z Z' : Nat → Prop} {m m' : List OR} {objs objs' : List Ob} (S : Stp R w w' Z Z' m m' objs objs')
    {i : Nat} {fp : List Nat} (hi : i < objs.length) (he : ogt objs' i = ogt objs i) (hn : ∀ e cs, ogt objs i = .box e cs → nrs R cs)
    (hf : ∀ b ∈ fp, w'.heap[b]? = w.heap[b]?) (h : obR w Z m objs i fp) : obR w' Z' m' objs' i fp := by
  unfold obR at *
  rw [he, S.mm i hi]
  cases ho : ogt objs i with
  | gone => trivial
  | box e cs =>
    rw [ho] at h
    obtain ⟨rfl, arr, e', h1, h2⟩ := h
    exact ⟨rfl, arr, e', by rw [hf _ (by simp)]; exact h1, h2.step S (hn e cs ho)⟩
  | lst t e d xs hole =>
    rw [ho] at h
    obtain ⟨arr, e', fps, h1, h2, h3, rfl, h4⟩ := h
    have hb := hf (mg m i).b (by simp)
    refine ⟨arr, e', fps, by rw [hb]; exact h1, h2, h3, rfl, fun j hj => ?_⟩
    rcases h4 j hj with h5 | ⟨h5, ces, h6, h7⟩
    · exact .inl h5
    · exact .inr ⟨h5, ces, h6.same hb, h7.mono S.z S.zs (fun b' hb' => hf b' (by simp only [List.mem_cons]; exact .inr (flat_mem hb')))⟩
  | arr t e xs =>
    rw [ho] at h
    obtain ⟨rfl, h1, h2, arr, e', h3, h4, h5⟩ := h
    refine ⟨rfl, h1, h2, arr, e', by rw [hf _ (by simp)]; exact h3, h4, fun j hj => ?_⟩
    obtain ⟨v, h6, h7⟩ := h5 j hj
    exact ⟨v, h6, h7.mono S.z S.zs (by simp)⟩

theorem mg_append {m m2 : List OR} {i : Nat} (h : i < m.length) : mg (m ++ m2) i = mg m i := by
  unfold mg
  simp [List.getD_eq_getElem?_getD, List.getElem?_append_left h]

/-- The general step. -/
theorem SR.next (h : SR w0 O0 Z0 m0 os0 m fpl Γ a w) {w' : World} {m2 : List OR} {fpl' : List (List Nat)} {objs' : List Ob} (R : Nat → Prop)
    (hml : (m ++ m2).length = objs'.length) (hfl : objs'.length ≤ fpl'.length)
    (hsub : ∀ b ∈ fpl'.flatten, (b ∈ fpl.flatten ∨ w.heap.size ≤ b) ∧ b < w'.heap.size) (hnd : fpl'.flatten.Nodup)
    (hkeep : Keep fpl.flatten w w')
    (hle : ∀ i, i < Γ.objs.length → ObLe (ogt Γ.objs i) (ogt objs' i))
    (hrows : ∀ id, id < Γ.objs.length → ¬ R id → (∃ (e : TypeId) (t : Ty) (e' : TypeId) (d : Nat) (xs : List (List t.T)) (hole : Option Nat), ogt objs' id = .lst (.sl e t) e' (d + 1) xs hole) →
      w'.heap[(mg m id).b]? = w.heap[(mg m id).b]?)
    (hnr : ∀ s sv, (s, sv) ∈ Γ.env → nr R sv) (hnb : ∀ i e cs, ogt Γ.objs i = .box e cs → nrs R cs)
    (hob : Stp R w w' (Zn w0 O0 Z0 w fpl) (Zn w0 O0 Z0 w' fpl') m (m ++ m2) Γ.objs objs' → ∀ i, i < objs'.length →
      (i < Γ.objs.length ∧ ogt objs' i = ogt Γ.objs i ∧ fpl'.getD i [] = fpl.getD i [] ∧ ∀ b ∈ fpl.getD i [], w'.heap[b]? = w.heap[b]?) ∨
      obR w' (Zn w0 O0 Z0 w' fpl') (m ++ m2) objs' i (fpl'.getD i [])) :
    Stp R w w' (Zn w0 O0 Z0 w fpl) (Zn w0 O0 Z0 w' fpl') m (m ++ m2) Γ.objs objs' ∧
    SR w0 O0 Z0 m0 os0 (m ++ m2) fpl' (Γ.setO objs') a w' := by
  have hlen : Γ.objs.length ≤ objs'.length := by rw [← hml, ← h.ob.ml]; simp
  have S : Stp R w w' (Zn w0 O0 Z0 w fpl) (Zn w0 O0 Z0 w' fpl') m (m ++ m2) Γ.objs objs' := {
    z := fun b hb => ⟨hb.1, Nat.lt_of_lt_of_le hb.2.1 hkeep.size, fun hm => by
      rcases (hsub b hm).1 with h1 | h1
      · exact hb.2.2 h1
      · have := hb.2.1; omega⟩
    zs := fun b hb => hkeep.block b hb.2.1 hb.2.2
    sh := hkeep.shape
    mm := fun id hi => mg_append (by rw [h.ob.ml]; exact hi)
    len := hlen
    ob := hle
    rows := hrows }
  refine ⟨S, ⟨⟨hml, hfl, ?_, hnd, ?_, h.ob.keep.up hkeep fun x hx => (h.ob.own x hx).2⟩, ?_, h.o0, Nat.le_trans h.fx hlen, ?_, h.tm, h.df, ?_⟩⟩
  · intro i hi
    rcases hob S i hi with ⟨h1, h2, h3, h4⟩ | h1
    · rw [h3]
      exact obR.step S h1 h2 (hnb i) h4 (h.ob.ob i h1)
    · exact h1
  · intro b hb
    refine ⟨(hsub b hb).2, ?_⟩
    rcases (hsub b hb).1 with h1 | h1
    · exact (h.ob.own b h1).2
    · exact .inr (Nat.le_trans h.ob.keep.size h1)
  · show (m ++ m2).take Γ.fix = m0
    rw [List.take_append_of_le_length (by rw [h.ob.ml]; exact h.fx)]
    exact h.m0
  · intro i hi
    exact (h.le i hi).trans (hle i (Nat.lt_of_lt_of_le hi h.fx))
  · intro s sv hs
    exact (h.env s sv hs).step S (hnr s sv hs)

end
end Go.Dm

/- Values and their cells. -/
namespace Go.Dm
open Go

theorem cast_eq : ∀ {a b : Ty} {F : Type → Type} {x : F a.T} {y : F b.T}, cast a b F x = some y → a = b ∧ HEq x y := by
  intro a
  induction a with
  | int k =>
    intro b F x y h
    cases b <;> simp only [cast] at h <;> try cases h
    split at h
    · rename_i hk; subst hk; cases h; exact ⟨rfl, HEq.rfl⟩
    · cases h
  | bool => intro b F x y h; cases b <;> simp only [cast] at h <;> cases h; exact ⟨rfl, HEq.rfl⟩
  | str => intro b F x y h; cases b <;> simp only [cast] at h <;> cases h; exact ⟨rfl, HEq.rfl⟩
  | unit => intro b F x y h; cases b <;> simp only [cast] at h <;> cases h; exact ⟨rfl, HEq.rfl⟩
  | sl e a ih =>
    intro b F x y h
    cases b <;> simp only [cast] at h <;> try cases h
    split at h
    · rename_i hk; subst hk
      obtain ⟨rfl, h2⟩ := ih h
      exact ⟨rfl, h2⟩
    · cases h
  | pair a1 a2 ih1 ih2 =>
    intro b F x y h
    cases b <;> simp only [cast] at h <;> try cases h
    split at h
    · rename_i z hz
      obtain ⟨rfl, h2⟩ := ih1 hz
      obtain ⟨rfl, h4⟩ := ih2 h
      exact ⟨rfl, h2.trans h4⟩
    · cases h

section
variable {w : World} {Z : Nat → Prop} {m : List OR} {objs : List Ob}

theorem SVrs.append : ∀ {xs ys : List SV} {vs : List Value}, SVrs w Z m objs (xs ++ ys) vs ↔ ∃ a b, vs = a ++ b ∧ SVrs w Z m objs xs a ∧ SVrs w Z m objs ys b
  | [], ys, vs => by
    simp only [List.nil_append, SVrs]
    exact ⟨fun h => ⟨[], vs, rfl, rfl, h⟩, fun ⟨a, b, h1, h2, h3⟩ => by subst h1; subst h2; exact h3⟩
  | x :: xs, ys, vs => by
    simp only [List.cons_append, SVrs, SVrs.append (xs := xs)]
    constructor
    · rintro ⟨v, vs', rfl, h1, a, b, rfl, h2, h3⟩
      exact ⟨v :: a, b, rfl, ⟨v, a, rfl, h1, h2⟩, h3⟩
    · rintro ⟨a, b, rfl, ⟨v, a', rfl, h1, h2⟩, h3⟩
      exact ⟨v, a' ++ b, rfl, h1, a', b, rfl, h2, h3⟩

theorem SVrs.get : ∀ {xs : List SV} {vs : List Value}, SVrs w Z m objs xs vs → ∀ i, i < xs.length → ∃ v, vs[i]? = some v ∧ SVr w Z m objs (sgt xs i) v
  | [], _, _, i, hi => by simp at hi
  | x :: xs, vs, h, i, hi => by
    simp only [SVrs] at h
    obtain ⟨v, vs', rfl, h1, h2⟩ := h
    cases i with
    | zero => exact ⟨v, rfl, h1⟩
    | succ i =>
      obtain ⟨u, h3, h4⟩ := SVrs.get h2 i (by simpa using hi)
      exact ⟨u, by simpa using h3, h4⟩

theorem ssub_len : ∀ (cs : List SV) (off n : Nat), (ssub cs off n).length = n
  | _, _, 0 => rfl
  | cs, off, n + 1 => by simp [ssub, ssub_len cs (off + 1) n]

theorem SVrs.sub {xs : List SV} {vs : List Value} (h : SVrs w Z m objs xs vs) : ∀ (n off : Nat), off + n ≤ xs.length → SVrs w Z m objs (ssub xs off n) ((vs.drop off).take n)
  | 0, off, _ => by simp [ssub, SVrs]
  | n + 1, off, hn => by
    obtain ⟨v, h1, h2⟩ := h.get off (by omega)
    have hd : vs.drop off = v :: vs.drop (off + 1) := by
      obtain ⟨hlt, he⟩ := List.getElem?_eq_some_iff.1 h1
      rw [List.drop_eq_getElem_cons hlt, he]
    rw [hd]
    simp only [ssub, SVrs, List.take_succ_cons]
    exact ⟨v, _, rfl, h2, SVrs.sub h n (off + 1) (by omega)⟩

/-- What a value of a type lays into its cells. -/
theorem Rep.cells : ∀ {t : Ty} {x : t.T} {vs : List Value}, Rep w Z t 0 x vs [] → SVrs w Z m objs (t.cells x) vs
  | .int _, _, _, h => by obtain ⟨rfl, _⟩ := h; exact ⟨_, _, rfl, rfl, rfl⟩
  | .bool, _, _, h => by obtain ⟨rfl, _⟩ := h; exact ⟨_, _, rfl, rfl, rfl⟩
  | .str, _, _, h => by obtain ⟨rfl, _⟩ := h; exact ⟨_, _, rfl, rfl, rfl⟩
  | .unit, _, _, h => by obtain ⟨rfl, _⟩ := h; exact rfl
  | .pair a b, p, _, h => by
    obtain ⟨c1, c2, f1, f2, rfl, hf, h1, h2⟩ := h
    have e1 := h1.zero_fp; have e2 := h2.zero_fp; subst e1; subst e2
    exact SVrs.append.2 ⟨c1, c2, rfl, h1.cells, h2.cells⟩
  | .sl e t, xs, _, h => by
    have h' := h
    obtain ⟨_, A, c, rfl, _⟩ := h
    exact ⟨_, _, rfl, h', rfl⟩

theorem cells_len : ∀ (t : Ty) (x : t.T), (t.cells x).length = t.size
  | .int _, _ => rfl
  | .bool, _ => rfl
  | .str, _ => rfl
  | .unit, _ => rfl
  | .sl _ _, _ => rfl
  | .pair a b, p => by simp [Ty.cells, Ty.size, cells_len a p.1, cells_len b p.2]

/-- And back. -/
theorem ofCells_rep : ∀ {t : Ty} {cs r : List SV} {x : t.T} {vs : List Value}, ofCells t cs = some (x, r) → SVrs w Z m objs cs vs →
    ∃ v1 v2, vs = v1 ++ v2 ∧ Rep w Z t 0 x v1 [] ∧ SVrs w Z m objs r v2 ∧ (∀ v ∈ v1, v.oneCell' = true) := by
  intro t
  induction t with
  | int k =>
    intro cs r x vs h hs
    cases cs with
    | nil => simp [ofCells] at h
    | cons s r0 =>
      cases s <;> first | (simp [ofCells] at h; done) | skip
      rename_i k' n
      simp only [ofCells] at h
      split at h
      · rename_i hk; cases h; subst hk
        obtain ⟨v, vs', rfl, h1, h2⟩ := hs
        cases h1
        exact ⟨[_], vs', rfl, ⟨rfl, rfl⟩, h2, by simp [Value.oneCell']⟩
      · cases h
  | bool =>
    intro cs r x vs h hs
    cases cs with
    | nil => simp [ofCells] at h
    | cons s r0 =>
      cases s <;> first | (simp [ofCells] at h; done) | skip
      simp only [ofCells] at h
      cases h
      obtain ⟨v, vs', rfl, h1, h2⟩ := hs
      cases h1
      exact ⟨[_], vs', rfl, ⟨rfl, rfl⟩, h2, by simp [Value.oneCell']⟩
  | str =>
    intro cs r x vs h hs
    cases cs with
    | nil => simp [ofCells] at h
    | cons s r0 =>
      cases s <;> first | (simp [ofCells] at h; done) | skip
      simp only [ofCells] at h
      cases h
      obtain ⟨v, vs', rfl, h1, h2⟩ := hs
      cases h1
      exact ⟨[_], vs', rfl, ⟨rfl, rfl⟩, h2, by simp [Value.oneCell']⟩
  | unit =>
    intro cs r x vs h hs
    simp only [ofCells, Option.some.injEq, Prod.mk.injEq, true_and] at h
    subst h
    exact ⟨[], vs, rfl, ⟨rfl, rfl⟩, hs, by simp⟩
  | sl e t ih =>
    intro cs r x vs h hs
    cases cs with
    | nil => simp [ofCells] at h
    | cons s r0 =>
      cases s <;> first | (simp [ofCells] at h; done) | skip
      · simp only [ofCells] at h
        cases h
        obtain ⟨v, vs', rfl, h1, h2⟩ := hs
        cases h1
        exact ⟨[_], vs', rfl, ⟨rfl, none, 0, rfl, Nat.le_refl _, .inl rfl⟩, h2, by simp [Value.oneCell']⟩
      · simp only [ofCells] at h
        split at h
        · rename_i he
          subst he
          split at h
          · rename_i ys hy
            cases h
            obtain ⟨rfl, hh⟩ := cast_eq hy
            cases hh
            obtain ⟨v, vs', rfl, h1, h2⟩ := hs
            refine ⟨[v], vs', rfl, h1, h2, ?_⟩
            obtain ⟨_, A, c, h3, _⟩ := h1
            cases h3
            simp [Value.oneCell']
          · cases h
        · cases h
  | pair a b iha ihb =>
    intro cs r x vs h hs
    simp only [ofCells] at h
    split at h
    · rename_i x1 r1 h1
      split at h
      · rename_i x2 r2 h2
        cases h
        obtain ⟨v1, v2, rfl, h3, h4, h5⟩ := iha h1 hs
        obtain ⟨v3, v4, rfl, h6, h7, h8⟩ := ihb h2 h4
        exact ⟨v1 ++ v3, v4, by simp, ⟨v1, v3, [], [], rfl, rfl, h3, h6⟩, h7, by
          intro v hv; rcases List.mem_append.1 hv with hv | hv
          · exact h5 v hv
          · exact h8 v hv⟩
      · cases h
    · cases h

theorem cellOk_one {s : SV} {v : Value} (hc : cellOk s = true) (h : SVr w Z m objs s v) : v.oneCell' = true := by
  cases s <;> simp only [cellOk, Bool.false_eq_true] at hc <;> simp only [SVr] at h
  case fs t e xs => obtain ⟨_, A, c, h3, _⟩ := h; cases h3; rfl
  case view => exact h.2.1
  case row => exact h.2.1
  case ptr => exact h.2.1
  case aaddr => exact h.2.1
  case eaddr => exact h.2.1
  case raddr => exact h.2.1
  case faddr => obtain ⟨_, _, _, rfl, _⟩ := h; rfl
  case clo => obtain ⟨_, rfl, _⟩ := h; rfl
  all_goals (subst h; rfl)

theorem cellsOk_one : ∀ {ss : List SV} {vs : List Value}, cellsOk ss = true → SVrs w Z m objs ss vs → ∀ v ∈ vs, v.oneCell' = true
  | [], _, _, h => by simp only [SVrs] at h; subst h; simp
  | s :: ss, _, hc, h => by
    simp only [SVrs] at h
    obtain ⟨v, vs', rfl, h1, h2⟩ := h
    simp only [cellsOk] at hc
    split at hc
    · rename_i hk
      intro u hu
      rcases List.mem_cons.1 hu with rfl | hu
      · exact cellOk_one hk h1
      · exact cellsOk_one hc h2 u hu
    · cases hc

theorem one_cells {v : Value} (h : v.oneCell' = true) : v.cells = #[v] := by cases v <;> first | rfl | simp [Value.oneCell'] at h

/-- The cells of a slot's value. -/
theorem cellsV_r {s : SV} {v : Value} (hc : cellsOk (cellsV s) = true) (h : SVr w Z m objs s v) :
    SVrs w Z m objs (cellsV s) v.cells.toList ∧ ∀ u ∈ v.cells.toList, u.oneCell' = true := by
  have key : SVrs w Z m objs (cellsV s) v.cells.toList := by
    cases s <;> simp only [cellsV, cellsOk, cellOk, Bool.false_eq_true] at hc ⊢
    case agg cs => obtain ⟨vs, rfl, h⟩ := h; simpa [Value.cells] using h
    all_goals
      rw [one_cells (cellOk_one rfl h)]
      exact ⟨v, [], rfl, h, rfl⟩
  exact ⟨key, cellsOk_one hc key⟩

theorem ofV_rep {t : Ty} {s : SV} {x : t.T} {v : Value} (hv : ofV t s = some x) (h : SVr w Z m objs s v) : Rep w Z t 0 x v.cells.toList [] ∧ ∀ u ∈ v.cells.toList, u.oneCell' = true := by
  unfold ofV at hv
  split at hv
  · rename_i y hc hy
    cases hv
    obtain ⟨key, _⟩ := cellsV_r hc h
    obtain ⟨v1, v2, h1, h2, h3, h4⟩ := ofCells_rep hy key
    simp only [SVrs] at h3
    subst h3
    rw [List.append_nil] at h1
    rw [h1]
    exact ⟨h2, h4⟩
  · cases hv

end
end Go.Dm

/- The leaves' words, what the type table says, and the operations that make no memory. -/
namespace Go.Dm
open Go

def Ty.zv : Ty → List Value
  | .int k => [.int k 0]
  | .bool => [.bool false]
  | .str => [.string ⟨#[]⟩]
  | .sl _ _ => [.slice none 0 0]
  | .unit => []
  | .pair a b => a.zv ++ b.zv

/-- What a row of the type table says of the program. -/
structure TIok (P : Program) (ti : TypeId → TI) (t : TypeId) : Prop where
  sz : (P.info? t).map (·.size) = some (ti t).sz
  bytes : (P.info? t).map (·.bytes) = some (ti t).bytes
  zero : ∃ i z, P.info? t = some i ∧ i.zero = some z ∧ z.cells.toList = (ti t).zv ∧ (z.oneCell' = true ∨ ∃ vs, z = .agg vs)
  zl : (ti t).zv.length = (ti t).sz
  st : ∀ fs, P.underlying t = some (.struct fs) → fs.toList.mapM (fun f => (P.info? f.type).map fun i => (f.offset, i.size)) = some ((ti t).flds.map fun p => (p.1, (ti p.2).sz))
  und : ∃ d, P.underlying t = some d ∧ (ti t).agg = (match d with | .struct _ => true | .array _ _ => true | _ => false)
  one : (ti t).agg = false → (ti t).sz = 1
  sl : ∀ e, (ti t).sl = some e → P.underlying t = some (.slice e) ∧ (ti e).ok = true
  arr : ∀ n e s, (ti t).arr = some (n, e, s) → P.underlying t = some (.array n e) ∧ (ti e).ok = true ∧ (ti e).sz = s
  flds : ∀ (f : Nat) (o : Nat) (ft : TypeId), (ti t).flds[f]? = some (o, ft) → ∃ fs fd, P.underlying t = some (.struct fs) ∧ fs[f]? = some fd ∧ fd.offset = o ∧ fd.type = ft ∧ (ti ft).ok = true ∧ (ti ft).sz ≠ 0
  ty : ∀ y, (ti t).ty = some y → (ti t).zv = y.zv ∧ (ti t).sz = y.size
  av : ∀ y, (ti t).av = some y → y.size = 1 ∧ y.flat = true ∧ ∃ v, y.zv = [v] ∧ (ti t).zv = List.replicate (ti t).sz v
  int : ∀ k, (ti t).ty = some (.int k) → P.underlying t = some (.int k)
  bool : (ti t).ty = some .bool → P.underlying t = some .bool
  str : (ti t).ty = some .str → P.underlying t = some .string

@[reducible] def inRange (k : IntKind) (n : Int) : Prop := match k with
  | .i64 => -9223372036854775808 ≤ n ∧ n ≤ 9223372036854775807
  | .u8 => 0 ≤ n ∧ n ≤ 255
  | k => k.wrap n = n

theorem wrap_inRange {k : IntKind} {n : Int} (h : inRange k n) : k.wrap n = n := by
  cases k <;> simp only [inRange] at h <;> try exact h
  · simp only [IntKind.wrap, IntKind.bits, IntKind.signed]; simp only [Bool.true_and, decide_eq_true_eq, ge_iff_le]; split <;> omega
  · simp only [IntKind.wrap, IntKind.bits, IntKind.signed]; simp only [Bool.false_and, Bool.false_eq_true, if_false]; omega

def bitsOp (op : BinOp) (k : IntKind) (x y : Int) : Int := match op with
  | .and => k.wrap (BitVec.ofInt k.bits x &&& BitVec.ofInt k.bits y).toNat
  | .or => k.wrap (BitVec.ofInt k.bits x ||| BitVec.ofInt k.bits y).toNat
  | .xor => k.wrap (BitVec.ofInt k.bits x ^^^ BitVec.ofInt k.bits y).toNat
  | _ => 0

/-- What a slice of the walk's own holds. -/
def seqP (W : W) (Γ : St) : SV → Option ((t : Ty) × TypeId × List t.T)
  | .view id off len => (match ogt Γ.objs id with
    | .lst t e _ xs none => some ⟨t, e, W.ext xs off len⟩
    | _ => none)
  | .row id j off len => (match ogt Γ.objs id with
    | .lst (.sl e t) _ (_ + 1) xs none => some ⟨t, e, W.ext (W.get (.sl e t) xs j) off len⟩
    | _ => none)
  | _ => none
def memN : List Nat → Nat → Bool
  | [], _ => false
  | i :: r, q => if i = q then true else memN r q
mutual
/-- Slices of objects that are not kept are told by what they hold. -/
def argP (W : W) (Γ : St) (kp : Nat → Bool) : SV → SV
  | .view id off len => (match kp id with
    | true => .view id off len
    | false => (match seqP W Γ (.view id off len) with | some ⟨t, e, xs⟩ => .fs t e xs | none => .dead))
  | .row id j off len => (match kp id with
    | true => .row id j off len
    | false => (match seqP W Γ (.row id j off len) with | some ⟨t, e, xs⟩ => .fs t e xs | none => .dead))
  | .clo f cs => .clo f (argPs W Γ kp cs)
  | .agg cs => .agg (argPs W Γ kp cs)
  | .tup cs => .tup (argPs W Γ kp cs)
  | v => v
def argPs (W : W) (Γ : St) (kp : Nat → Bool) : List SV → List SV
  | [] => []
  | v :: r => argP W Γ kp v :: argPs W Γ kp r
end
def idOn (kp : Nat → Bool) (i : Nat) : Option Nat := match kp i with | true => some i | false => none
/-- Objects are frozen: what led to them is told by what they hold. -/
def fzV (W : W) (Γ : St) (kp : Nat → Bool) (v : SV) : SV := ren (idOn kp) (argP W Γ kp v)
def fzVs (W : W) (Γ : St) (kp : Nat → Bool) : List SV → List SV
  | [] => []
  | v :: r => fzV W Γ kp v :: fzVs W Γ kp r
def fzE (W : W) (Γ : St) (kp : Nat → Bool) : List (Nat × SV) → List (Nat × SV)
  | [] => []
  | (k, v) :: r => (k, fzV W Γ kp v) :: fzE W Γ kp r
def fzO (W : W) (Γ : St) (kp : Nat → Bool) : Nat → List Ob → List Ob
  | _, [] => []
  | k, o :: r => (match kp k with
    | true => (match o with | .box e cs => .box e (fzVs W Γ kp cs) | o => o)
    | false => .gone) :: fzO W Γ kp (k + 1) r
def St.frz (Γ : St) (W : W) (ids : List Nat) : St := match ids with
  | [] => Γ
  | ids => ⟨Γ.n, Γ.fix, Γ.wr, fzE W Γ (fun i => !memN ids i) Γ.env, fzO W Γ (fun i => !memN ids i) 0 Γ.objs⟩
def frzArgs (Γ : St) (W : W) (ids : List Nat) (args : List SV) : List SV := match ids with
  | [] => args
  | ids => fzVs W Γ (fun i => !memN ids i) args

mutual
/-- Nothing frozen in it. -/
def full : SV → Bool
  | .fs _ _ _ | .faddr _ _ _ => false
  | .clo _ cs | .agg cs | .tup cs => fulls cs
  | _ => true
def fulls : List SV → Bool
  | [] => true
  | v :: r => match full v with | true => fulls r | false => false
end
def Ty.fullAt : Ty → Nat → Bool
  | .sl _ _, 0 => false
  | .sl _ t, d + 1 => t.fullAt d
  | t, _ => t.flat
def fullO : Ob → Bool
  | .gone => true
  | .box _ cs => fulls cs
  | .lst t _ d _ _ => t.fullAt d
  | .arr _ _ _ => true
def fullOs : List Ob → Bool
  | [] => true
  | o :: r => match fullO o with | true => fullOs r | false => false

/-- The objects behind a call: those that went with it, and new ones. -/
def setOs (os : List Ob) : List Nat → List Ob → List Ob
  | i :: r, o :: s => setOs (ost os i o) r s
  | [], s => os ++ s
  | _, [] => os
def mapO (σ : Nat → Option Nat) : List Ob → List Ob
  | [] => []
  | o :: r => renO σ o :: mapO σ r
/-- A callee's object by the caller's name. -/
def bk (sub : List Nat) (n : Nat) (i : Nat) : Option Nat := if i < sub.length then ngt sub i else some (n + (i - sub.length))
def killAll : List Nat → St → St
  | [], Γ => Γ
  | i :: r, Γ => killAll r (Γ.killRows i)
def merge (Γ : St) (sub : List Nat) (os : List Ob) : St :=
  (killAll sub Γ).setO (setOs (killAll sub Γ).objs sub (mapO (bk sub Γ.objs.length) os))

/-- A function with a body of its own. -/
def Enters (P : Program) (f : FuncId) : Prop := ∀ (args : Array Value) (w : World), (callFunc f args).run P w = .ok (.enter f args) w

def lendArgs (W : W) (Γ : St) (lend : Bool) (sub : List Nat) (args : List SV) : List SV := match lend with | true => argPs W Γ (memN sub) args | false => args

/-- A call: sub: the objects that go with it; lend: other objects may be read, then nothing frozen comes back. -/
def callQ (P : Program) (W : W) (f : FuncId) (args : List SV) (Γ : St) (K : St → SV → Prop) : Prop :=
  ∃ (lend : Bool) (sub : List Nat) (Q : SV → List Ob → Prop), Enters P f ∧ sub.Nodup ∧ (∀ i ∈ sub, i < Γ.objs.length) ∧
    DC P f (rens (idx sub 0) (lendArgs W Γ lend sub args)) (pickO Γ.objs (idx sub 0) sub) Q ∧
    ∀ r os, Q r os → (lend = true → full r = true ∧ fullOs os = true) ∧ K (merge Γ sub os) (ren (bk sub Γ.objs.length) r)

/-- The same, with objects frozen ahead of it. -/
def callR (P : Program) (W : W) (f : FuncId) (args : List SV) (Γ : St) (K : St → SV → Prop) : Prop :=
  ∃ frz : List Nat, callQ P W f (frzArgs Γ W frz args) (Γ.frz W frz) K

def callP (P : Program) (f : FuncId) (args : List SV) (Γ : St) (K : St → SV → Prop) : Prop :=
  ∃ W : W, (∀ (α : Type) (xs : List α) o n, W.ext xs o n = (xs.drop o).take n) ∧ (∀ (t : Ty) (xs : List t.T) j, W.get t xs j = xs.getD j t.dflt) ∧ callR P W f args Γ K

def unK (k : St → Prop) (Q : Ex → St → Prop) : Ex → St → Prop
  | .normal, Γ => k Γ
  | e, Γ => Q e Γ
/-- So many rounds, at most. -/
def roundsP (body : St → (Ex → St → Prop) → Prop) : Nat → St → (Ex → St → Prop) → Prop
  | 0, _, _ => False
  | n + 1, Γ, Q => body Γ (unK (fun Γ' => roundsP body n Γ' Q) Q)
def loopI (body : St → (Ex → St → Prop) → Prop) (Γ : St) (Q : Ex → St → Prop) : Prop :=
  ∃ (S : Type) (keep : List Nat) (enc : S → St) (I : S → Prop) (μ : S → Nat) (s0 : S), gc keep Γ = enc s0 ∧ I s0 ∧ ∀ s, I s → body (enc s) (loopK keep enc I μ s Q)
def loopP (body : St → (Ex → St → Prop) → Prop) (Γ : St) (Q : Ex → St → Prop) : Prop :=
  loopI body Γ Q ∨ ∃ n, roundsP body n Γ Q

mutual
/-- It names no object. -/
def okA : SV → Bool
  | .dead | .view _ _ _ | .row _ _ _ _ | .ptr _ _ | .aaddr _ _ | .eaddr _ _ _ | .raddr _ _ _ => false
  | .clo _ cs | .agg cs | .tup cs => okAs cs
  | _ => true
def okAs : List SV → Bool
  | [] => true
  | v :: r => match okA v with | true => okAs r | false => false
end
def scalV : SV → Bool
  | .int _ _ | .bool _ | .str _ => true
  | _ => false

/-- A call that yields one plain value, whatever else is carried out ahead of it. -/
def qcallP (P : Program) (f : FuncId) (args : List SV) (Γ : St) (A : SV → Prop) : Prop :=
  ∃ W : W, (∀ (α : Type) (xs : List α) o n, W.ext xs o n = (xs.drop o).take n) ∧ (∀ (t : Ty) (xs : List t.T) j, W.get t xs j = xs.getD j t.dflt) ∧
    ∃ sv : SV, Enters P f ∧ okAs (lendArgs W Γ true [] args) = true ∧ DC P f (lendArgs W Γ true [] args) [] (fun r os => r = sv ∧ os = []) ∧ scalV sv = true ∧ A sv

/-- A call that makes objects alone. -/
def acallP (P : Program) (f : FuncId) (args : List SV) (Γ : St) (K : St → SV → Prop) : Prop :=
  ∃ W : W, (∀ (α : Type) (xs : List α) o n, W.ext xs o n = (xs.drop o).take n) ∧ (∀ (t : Ty) (xs : List t.T) j, W.get t xs j = xs.getD j t.dflt) ∧
    ∃ (lend : Bool) (Q : SV → List Ob → Prop), Enters P f ∧ okAs (lendArgs W Γ lend [] args) = true ∧ DC P f (lendArgs W Γ lend [] args) [] Q ∧
      ∀ r os, Q r os → (lend = true → full r = true ∧ fullOs os = true) ∧ K (Γ.setO (Γ.objs ++ mapO (bk [] Γ.objs.length) os)) (ren (bk [] Γ.objs.length) r)

/-- The leaves' words, as they are. -/
def stdW (P : Program) : W where
  inR := inRange
  add := (· + ·)
  sub := (· - ·)
  mul := (· * ·)
  neg := fun a => 0 - a
  quo := Int.tdiv
  rem := Int.tmod
  bit := bitsOp
  shl := fun k a b => k.wrap (a * 2 ^ (min b.toNat k.bits))
  shr := fun k a b => a.fdiv (2 ^ (min b.toNat k.bits))
  max := fun a b => if b > a then b else a
  min := fun a b => if b < a then b else a
  ne0 := fun a => a ≠ 0
  ge0 := fun a => 0 ≤ a
  wrap := fun k n => k.wrap n
  lt := fun a b => decide (a < b)
  le := fun a b => decide (a ≤ b)
  eq := fun a b => a == b
  eqS := fun a b => a == b
  eqB := fun a b => a == b
  not := fun b => !b
  and := fun a b => a && b
  len := fun xs => xs.length
  int := fun n => (n : Int)
  inB := fun i n => 0 ≤ i ∧ i < n
  ltN := fun a b => a < b
  cut := fun l h n => 0 ≤ l ∧ l ≤ h ∧ h ≤ n
  nat := Int.toNat
  addN := (· + ·)
  subN := (· - ·)
  mulN := (· * ·)
  minN := fun a b => Nat.min b a
  eqN := (· = ·)
  neN := (· ≠ ·)
  room := fun n b => b ≠ 0 ∧ n * b ≤ 140737488355328
  get := fun t xs j => xs.getD j t.dflt
  set := fun xs j x => xs.set j x
  app := (· ++ ·)
  ext := fun xs o n => (xs.drop o).take n
  rep := List.replicate
  byteAt := fun s j => ((s.getD j 0).toNat : Int)
  bytes := fun xs => xs.map fun n => UInt8.ofNat n.toNat
  ints := fun s => s.map fun b => (b.toNat : Int)
  splice := fun xs o ys => xs.take o ++ ys ++ xs.drop (o + ys.length)
  shift := fun xs k => xs.take (k + 1) ++ (xs.drop k).take (xs.length - k - 1)
  loop := loopP
  call := callP P
  qcall := qcallP P
  acall := acallP P
  lex := fun ti ops => drawOk ti ops = true
  draw := fun run Γ K => ∃ (keep : List Nat) (Γs : St), run Γ (fun Γ' => gc keep Γ' = Γs) ∧ K Γs
  eqT := fun T n => ∀ (w : World) (x y : List Int), x.length = n → y.length = n →
    (∀ op o1 o2, (eqGuard op T o1 o2 (.agg (x.map (Value.int .i64)).toArray) (.agg (y.map (Value.int .i64)).toArray)).run P w = .ok () w) ∧
    (Op.equal T (.agg (x.map (Value.int .i64)).toArray) (.agg (y.map (Value.int .i64)).toArray)).run P w = .ok (decide (x = y)) w

/-- An operation that yields a value, told: the state goes on. -/
def Good (w0 : World) (O0 : List Nat) (Z0 : Nat → Prop) (m0 : List OR) (os0 : List Ob) (K : St → Prop) (d : Option Nat) (a : Act) (r : Result Value) : Prop :=
  ∃ v w' Γ', r = .ok v w' ∧ K Γ' ∧ StR w0 O0 Z0 m0 os0 Γ' (a.put d v) w'

abbrev sC (P : Program) (ti : TypeId → TI) (own : Bool) : Ctx := ⟨stdW P, ti, own⟩

section
variable {P : Program} {ti : TypeId → TI} {own : Bool}
variable {w0 : World} {O0 : List Nat} {Z0 : Nat → Prop} {m0 : List OR} {os0 : List Ob} {m : List OR} {fpl : List (List Nat)} {Γ : St} {a : Act} {w : World} {K : St → Prop} {d : Option Nat}
variable (h : SR w0 O0 Z0 m0 os0 m fpl Γ a w) (hd : ∀ k, d = some k → k < Γ.n)

include h hd in
theorem good_put {sv : SV} {v : Value} {r : Result Value} (hk : K (Γ.put d sv)) (hr : r = .ok v w) (hv : SVr w (Zn w0 O0 Z0 w fpl) m Γ.objs sv v) :
    Good w0 O0 Z0 m0 os0 K d a r := ⟨v, w, _, hr, hk, m, fpl, h.put hd hv⟩

include h hd in
theorem good_made {k : IntKind} {n : Int} {r : Result Value} (hk : made (sC P ti own) Γ d k n K) (hr : r = .ok (.int k (k.wrap n)) w) : Good w0 O0 Z0 m0 os0 K d a r := by
  unfold made at hk
  split at hk
  · exact good_put h hd hk hr rfl
  · obtain ⟨h1, h2⟩ := hk
    have h1' : inRange k n := h1
    refine good_put h hd h2 hr ?_
    simp only [SVr, wrap_inRange h1']

theorem svr_int {w : World} {Z : Nat → Prop} {m : List OR} {objs : List Ob} {k : IntKind} {n : Int} : SVr w Z m objs (.int k n) (.int k n) := rfl
theorem svr_bool {w : World} {Z : Nat → Prop} {m : List OR} {objs : List Ob} {b : Bool} : SVr w Z m objs (.bool b) (.bool b) := rfl
theorem svr_str {w : World} {Z : Nat → Prop} {m : List OR} {objs : List Ob} {s : List UInt8} : SVr w Z m objs (.str s) (.string ⟨s.toArray⟩) := rfl

end
end Go.Dm

/- The operations that make no memory. -/
namespace Go.Dm
open Go

section
variable {P : Program} {ti : TypeId → TI} {own : Bool} (hti : ∀ t, (ti t).ok = true → TIok P ti t)
variable {w0 : World} {O0 : List Nat} {Z0 : Nat → Prop} {m0 : List OR} {os0 : List Ob} {m : List OR} {fpl : List (List Nat)} {Γ : St} {a : Act} {w : World} {K : St → Prop} {d : Option Nat}
variable (h : SR w0 O0 Z0 m0 os0 m fpl Γ a w) (hd : ∀ k, d = some k → k < Γ.n)

theorem eqGuard_int (op : BinOp) (T : TypeId) (o1 o2 : Operand) (k k' : IntKind) (x y : Int) : (eqGuard op T o1 o2 (.int k x) (.int k' y)).run P w = .ok () w := by
  cases op <;> simp [eqGuard]
theorem eqGuard_str (op : BinOp) (T : TypeId) (o1 o2 : Operand) (x y : ByteArray) : (eqGuard op T o1 o2 (.string x) (.string y)).run P w = .ok () w := by
  cases op <;> simp [eqGuard]
theorem eqGuard_bool (op : BinOp) (T : TypeId) (o1 o2 : Operand) (x y : Bool) : (eqGuard op T o1 o2 (.bool x) (.bool y)).run P w = .ok () w := by
  cases op <;> simp [eqGuard]
theorem eqGuard_slice (op : BinOp) (T : TypeId) (o1 o2 : Operand) (A B : Option Addr) (n c n' c' : Nat) : (eqGuard op T o1 o2 (.slice A n c) (.slice B n' c')).run P w = .ok () w := by
  cases op <;> simp [eqGuard]

theorem ba_toList (s : List UInt8) : (⟨s.toArray⟩ : ByteArray).toList = s := by rw [ByteArray.toList_eq]

theorem run_equalIn_bool (w : World) (n : Nat) (t : TypeId) (x y : Bool) (h : P.underlying t = some .bool) : (Op.equalIn (n + 1) t (.bool x) (.bool y)).run P w = .ok (x == y) w := by
  simp [Op.equalIn, run_underlying h]
theorem run_eql_bool (w : World) (t : TypeId) (x y : Bool) (h : P.underlying t = some .bool) : (binOp .eql t (.bool x) (.bool y)).run P w = .ok (.bool (x == y)) w := by
  simp only [binOp]
  simp [Op.equal, Op.maxDepth, run_equalIn_bool w 9999 t x y h]
theorem run_neq_bool (w : World) (t : TypeId) (x y : Bool) (h : P.underlying t = some .bool) : (binOp .neq t (.bool x) (.bool y)).run P w = .ok (.bool (!(x == y))) w := by
  simp only [binOp]
  simp [Op.equal, Op.maxDepth, run_equalIn_bool w 9999 t x y h]
theorem run_eql_slice_nil (w : World) (t e : TypeId) (a : Option Addr) (n c n' c' : Nat) (h : P.underlying t = some (.slice e)) :
    (binOp .eql t (.slice a n c) (.slice none n' c')).run P w = .ok (.bool a.isNone) w := by
  simp only [binOp]
  simp [Op.equal, Op.maxDepth, Lib.run_equalIn_slice_nil w 9999 t e a n c n' c' h]

/-- Cells that are ints: what '==' of two structs comes to. -/
theorem eqCells_ints {Z : Nat → Prop} {objs : List Ob} : ∀ {xs ys : List SV} {b : Bool} {vx vy : List Value}, eqCells (sC P ti own) xs ys = some b → SVrs w Z m objs xs vx → SVrs w Z m objs ys vy →
    ∃ x y : List Int, vx = x.map (Value.int .i64) ∧ vy = y.map (Value.int .i64) ∧ x.length = xs.length ∧ y.length = xs.length ∧ b = decide (x = y) := by
  intro xs
  induction xs with
  | nil =>
    intro ys b vx vy he h1 h2
    cases ys with
    | nil => simp only [eqCells, Option.some.injEq] at he; simp only [SVrs] at h1 h2; subst h1; subst h2; subst he; exact ⟨[], [], rfl, rfl, rfl, rfl, rfl⟩
    | cons s r => simp [eqCells] at he
  | cons s r ih =>
    intro ys b vx vy he h1 h2
    cases ys with
    | nil => simp [eqCells] at he
    | cons u s1 =>
      cases s <;> first | (simp [eqCells] at he; done) | skip
      rename_i k a
      cases u <;> first | (simp [eqCells] at he; done) | skip
      rename_i k' c
      cases k <;> first | (simp [eqCells] at he; done) | skip
      cases k' <;> first | (simp [eqCells] at he; done) | skip
      simp only [eqCells] at he
      obtain ⟨v, vs, rfl, h3, h4⟩ := h1
      obtain ⟨u, us, rfl, h5, h6⟩ := h2
      cases h3; cases h5
      have key : ∃ b', eqCells (sC P ti own) r s1 = some b' ∧ b = ((a == c) && b') := by
        split at he
        · rename_i h; cases he; exact ⟨true, h, (Bool.and_true _).symm⟩
        · rename_i b' h _; cases he; exact ⟨_, by assumption, rfl⟩
        · cases he
      obtain ⟨b', h7, h8⟩ := key
      obtain ⟨x, y, rfl, rfl, h10, h11, h12⟩ := ih h7 h4 h6
      refine ⟨a :: x, c :: y, rfl, rfl, by simp [h10], by simp [h11], ?_⟩
      rw [h8, h12, Bool.eq_iff_iff]
      simp

theorem ba_append (s t : List UInt8) : (⟨s.toArray⟩ : ByteArray) ++ ⟨t.toArray⟩ = ⟨(s ++ t).toArray⟩ := by
  apply ByteArray.ext
  simp

theorem ba_size (s : List UInt8) : (⟨s.toArray⟩ : ByteArray).size = s.length := rfl

include h hd hti in
theorem opBin_good {op : BinOp} {T : TypeId} {x y : SV} {o1 o2 : Operand} {vx vy : Value} (hT : (ti T).ok = true) (hs : opBin (sC P ti own) Γ d op T x y K)
    (hx : SVr w (Zn w0 O0 Z0 w fpl) m Γ.objs x vx) (hy : SVr w (Zn w0 O0 Z0 w fpl) m Γ.objs y vy) :
    Good w0 O0 Z0 m0 os0 K d a ((do eqGuard op T o1 o2 vx vy; binOp op T vx vy : Sem Value).run P w) := by
  unfold opBin at hs
  split at hs
  · -- ints
    rename_i k x k' y
    simp only [SVr] at hx hy
    subst hx; subst hy
    simp only [Sem.run_bind, eqGuard_int, Result.andThen_ok]
    split at hs
    · obtain ⟨h1, h2⟩ := hs
      have h1' : 0 ≤ y := h1
      exact good_put h hd h2 (by simp [binOp, Op.shift, show ¬ y < 0 by omega]; rfl) svr_int
    · obtain ⟨h1, h2⟩ := hs
      have h1' : 0 ≤ y := h1
      exact good_put h hd h2 (by simp [binOp, Op.shift, show ¬ y < 0 by omega]; rfl) svr_int
    · split at hs
      · rename_i hk
        subst hk
        split at hs
        all_goals first
          | exact hs.elim
          | exact good_made h hd hs (by simp [binOp, Op.intArith]; rfl)
          | (obtain ⟨h1, h2⟩ := hs
             have h1' : y ≠ 0 := h1
             exact good_made h hd h2 (by simp [binOp, Op.intDiv, h1']; rfl))
          | (obtain ⟨h1, h2⟩ := hs
             have h1' : y ≠ 0 := h1
             exact good_put h hd h2 (by simp [binOp, Op.intDiv, h1']; rfl) svr_int)
          | exact good_put h hd (hs _ rfl) (by simp [binOp, Op.intCmp]; rfl) svr_bool
          | exact good_put h hd hs (by simp [binOp, Op.intBits]; rfl) svr_int
      · exact hs.elim
  · -- bools
    rename_i x y
    simp only [SVr] at hx hy
    subst hx; subst hy
    simp only [Sem.run_bind, eqGuard_bool, Result.andThen_ok]
    split at hs
    · obtain ⟨h1, h2⟩ := hs
      exact good_put h hd (h2 _ rfl) (by rw [run_eql_bool _ _ _ _ ((hti T hT).bool h1)]; rfl) svr_bool
    · obtain ⟨h1, h2⟩ := hs
      exact good_put h hd (h2 _ rfl) (by rw [run_neq_bool _ _ _ _ ((hti T hT).bool h1)]; rfl) svr_bool
    · exact hs.elim
  · -- strings
    rename_i x y
    simp only [SVr] at hx hy
    subst hx; subst hy
    simp only [Sem.run_bind, eqGuard_str, Result.andThen_ok]
    split at hs
    · exact good_put h hd (hs _ rfl) (by simp only [binOp, Op.stringOp, ba_toList]; rfl) svr_bool
    · exact good_put h hd (hs _ rfl) (by simp only [binOp, Op.stringOp, ba_toList]; rfl) svr_bool
    · obtain ⟨h1, h2⟩ := hs
      have h1' : (x.length + y.length) * 1 ≤ 140737488355328 := h1.2
      exact good_put h hd h2 (by simp [binOp, Op.stringOp, ba_append, ba_size, IntKind.max, IntKind.bits, IntKind.signed, show ¬ (9223372036854775807 : Int) < x.length + y.length by omega]; rfl) svr_str
    · exact hs.elim
  · -- structs
    rename_i xs ys
    simp only [SVr] at hx hy
    obtain ⟨vx, rfl, hx⟩ := hx
    obtain ⟨vy, rfl, hy⟩ := hy
    split at hs
    · rename_i b hb
      obtain ⟨h1, h2⟩ := hs
      obtain ⟨x, y, rfl, rfl, h3, h4, rfl⟩ := eqCells_ints hb hx hy
      obtain ⟨h5, h6⟩ := h1 w x y h3 h4
      exact good_put h hd (h2 _ rfl) (by simp only [Sem.run_bind, h5, Result.andThen_ok, binOp, h6]; rfl) svr_bool
    · rename_i b hb
      obtain ⟨h1, h2⟩ := hs
      obtain ⟨x, y, rfl, rfl, h3, h4, rfl⟩ := eqCells_ints hb hx hy
      obtain ⟨h5, h6⟩ := h1 w x y h3 h4
      exact good_put h hd (h2 _ rfl) (by simp only [Sem.run_bind, h5, Result.andThen_ok, binOp, h6]; rfl) svr_bool
    · exact hs.elim
  · simp only [SVr] at hx hy
    subst hx; subst hy
    simp only [Sem.run_bind, eqGuard_slice, Result.andThen_ok]
    split at hs
    · obtain ⟨h1, h2⟩ := hs
      obtain ⟨e, he⟩ := Option.ne_none_iff_exists'.1 h1
      exact good_put h hd h2 (by rw [run_eql_slice_nil _ _ e _ _ _ _ _ ((hti T hT).sl e he).1]; rfl) svr_bool
    · obtain ⟨h1, h2⟩ := hs
      obtain ⟨e, he⟩ := Option.ne_none_iff_exists'.1 h1
      exact good_put h hd h2 (by rw [run_neq_slice_nil_any _ _ e _ _ _ _ _ ((hti T hT).sl e he).1]; rfl) svr_bool
    · exact hs.elim
  · rename_i id off len
    simp only [SVr] at hx hy
    subst hy
    obtain ⟨_, _, hx⟩ := hx
    have key : viewOk Γ id → ∃ ad n c, vx = .slice (some ad) n c := by
      intro hv
      unfold viewOk at hv
      split at hv
      · rename_i ho; rw [ho] at hx; obtain ⟨cap, b', o', rfl, _⟩ := hx; exact ⟨_, _, _, rfl⟩
      · exact hv.elim
    split at hs
    · obtain ⟨h0, h1, h2⟩ := hs
      obtain ⟨e, he⟩ := Option.ne_none_iff_exists'.1 h1
      obtain ⟨ad, n, c, rfl⟩ := key h0
      simp only [Sem.run_bind, eqGuard_slice, Result.andThen_ok]
      exact good_put h hd h2 (by rw [run_eql_slice_nil _ _ e _ _ _ _ _ ((hti T hT).sl e he).1]; rfl) svr_bool
    · obtain ⟨h0, h1, h2⟩ := hs
      obtain ⟨e, he⟩ := Option.ne_none_iff_exists'.1 h1
      obtain ⟨ad, n, c, rfl⟩ := key h0
      simp only [Sem.run_bind, eqGuard_slice, Result.andThen_ok]
      exact good_put h hd h2 (by rw [run_neq_slice_nil_any _ _ e _ _ _ _ _ ((hti T hT).sl e he).1]; rfl) svr_bool
    · exact hs.elim
  · exact hs.elim

end
end Go.Dm

/- Addresses, loads, and what else makes no memory. -/
namespace Go.Dm
open Go

section
variable {P : Program} {ti : TypeId → TI} {own : Bool} (hti : ∀ t, (ti t).ok = true → TIok P ti t)
variable {w0 : World} {O0 : List Nat} {Z0 : Nat → Prop} {m0 : List OR} {os0 : List Ob} {m : List OR} {fpl : List (List Nat)} {Γ : St} {a : Act} {w : World} {K : St → Prop} {d : Option Nat}
variable (h : SR w0 O0 Z0 m0 os0 m fpl Γ a w) (hd : ∀ k, d = some k → k < Γ.n)

include h hd in
theorem opUn_good {op : UnOp} {x : SV} {vx : Value} (hs : opUn (sC P ti own) Γ d op x K) (hx : SVr w (Zn w0 O0 Z0 w fpl) m Γ.objs x vx) :
    Good w0 O0 Z0 m0 os0 K d a ((Op.unary op vx).run P w) := by
  unfold opUn at hs
  split at hs
  · simp only [SVr] at hx; subst hx
    exact good_made h hd hs (by simp only [Op.unary, Op.intArith, Sem.run_pure]; rfl)
  · rename_i b
    simp only [SVr] at hx; subst hx
    cases b <;> exact good_put h hd hs (by simp only [Op.unary, Sem.run_pure]; rfl) svr_bool
  · exact hs.elim

include hti in
theorem run_sizeOf_ti {t : TypeId} (ht : (ti t).ok = true) : (sizeOf t).run P w = .ok (ti t).sz w := by
  obtain ⟨i, hi, hs⟩ := Option.map_eq_some_iff.1 (hti t ht).sz
  simp [sizeOf, typeInfo, hi, hs]

include hti in
theorem slOk_und {T : TypeId} {t : Ty} (hT : (ti T).ok = true) (hs : slOk (sC P ti own) T t) : ∃ e, P.underlying T = some (.slice e) ∧ (sizeOf e).run P w = .ok t.size w ∧ (ti T).sl = some e ∧ (ti e).ok = true := by
  unfold slOk at hs
  split at hs
  · rename_i e he
    obtain ⟨h1, h2⟩ := (hti T hT).sl e he
    refine ⟨e, h1, ?_, he, h2⟩
    rw [run_sizeOf_ti hti h2]
    have : (ti e).sz = t.size := hs
    rw [this]
  · exact hs.elim

include hti in
theorem run_indexAt_ti {T : TypeId} {t : Ty} (hT : (ti T).ok = true) (hs : slOk (sC P ti own) T t) {b o n c : Nat} {k : IntKind} {i : Int} (hi : 0 ≤ i ∧ i < n) :
    (Instr.indexAt T (.slice (some ⟨b, o, none⟩) n c) (.int k i)).run P w = .ok (.pointer (some ⟨b, o + i.toNat * t.size, none⟩)) w := by
  obtain ⟨e, h1, h2, _⟩ := slOk_und (w := w) hti hT hs
  have : P.underlying T = some (.slice (P.elem T)) := by simp [Program.elem, h1]
  rw [run_indexAt_slice w T _ n c k i this, if_pos hi]
  simp only [Program.elem, h1, h2, Result.andThen_ok]
  congr 3
  unfold Addr.add
  split <;> simp_all

include hti in
theorem run_indexAt_arr {T : TypeId} (hT : (ti T).ok = true) {n : Nat} {e : TypeId} {s : Nat} (ha : (ti T).arr = some (n, e, s)) {b o : Nat} {k : IntKind} {i : Int} (hi : 0 ≤ i ∧ i < n) :
    (Instr.indexAt T (.pointer (some ⟨b, o, none⟩)) (.int k i)).run P w = .ok (.pointer (some ⟨b, o + i.toNat * s, none⟩)) w := by
  obtain ⟨h1, h2, h3⟩ := (hti T hT).arr n e s ha
  have : P.underlying T = some (.array (P.arrayLen T) (P.elem T)) := by simp [Program.elem, Program.arrayLen, h1]
  rw [run_indexAt_array w T _ k i this, if_pos (by simpa [Program.arrayLen, h1] using hi)]
  simp only [Program.elem, h1, run_sizeOf_ti hti h2, Result.andThen_ok, h3]
  congr 3
  unfold Addr.add
  split <;> simp_all

include h hd hti in
theorem opIndexAddr_good {T : TypeId} {x i : SV} {vx vi : Value} (hT : (ti T).ok = true) (hs : opIndexAddr (sC P ti own) Γ d T x i K)
    (hx : SVr w (Zn w0 O0 Z0 w fpl) m Γ.objs x vx) (hi : SVr w (Zn w0 O0 Z0 w fpl) m Γ.objs i vi) :
    Good w0 O0 Z0 m0 os0 K d a ((Instr.indexAt T vx vi).run P w) := by
  unfold opIndexAddr at hs
  split at hs
  · -- a frozen slice
    rename_i t e xs k i
    obtain ⟨h1, h2, h3⟩ := hs
    simp only [SVr] at hx hi
    subst hi
    obtain ⟨_, A, c, hv, hc, h4⟩ := hx
    cases hv
    have h2' : 0 ≤ i ∧ i < (xs.length : Int) := h2
    have hlt : i.toNat < xs.length := by omega
    rcases h4 with h4 | ⟨b, o, rfl, hz, h5⟩
    · subst h4; simp at hlt
    · obtain ⟨ces, h6, h7⟩ := h5 i.toNat hlt
      refine good_put h hd h3 (run_indexAt_ti (own := own) hti hT h1 h2') ?_
      refine ⟨b, o + i.toNat * t.size, ces, rfl, hz, h6, ?_⟩
      have : (sC P ti own).w.get t xs ((sC P ti own).w.nat i) = xs[i.toNat] := by
        show xs.getD i.toNat t.dflt = _
        simp [List.getD_eq_getElem?_getD, List.getElem?_eq_getElem hlt]
      rw [this]; exact h7
  · -- a slice of its own
    rename_i id off len k i
    obtain ⟨h1, h2, h3⟩ := hs
    simp only [SVr] at hx hi
    subst hi
    obtain ⟨hid, _, hx⟩ := hx
    unfold tyOf at h1
    split at h1
    · rename_i t e dd xs hole ho
      rw [ho] at hx
      obtain ⟨cap, b', o', rfl, h40, h4, h5, arr, e', h6, h7⟩ := hx
      have h2' : 0 ≤ i ∧ i < (len : Int) := h2
      obtain ⟨rfl, rfl⟩ := h40 (by omega)
      refine good_put h hd h3 (run_indexAt_ti (own := own) hti hT h1 h2') ?_
      simp only [SVr, ho]
      refine ⟨hid, rfl, ?_⟩
      show Value.pointer _ = Value.pointer (some ⟨(mg m id).b, (mg m id).o + (off + i.toNat) * t.size + 0, none⟩)
      rw [Nat.add_mul, Nat.add_zero, Nat.add_assoc]
    · exact h1.elim
  · -- a row
    rename_i id j off len k i
    obtain ⟨h1, h2, h3⟩ := hs
    simp only [SVr] at hx hi
    subst hi
    obtain ⟨hid, _, hx⟩ := hx
    unfold rowOf at h1
    split at h1
    · rename_i e t e' dd xs hole ho
      rw [ho] at hx
      obtain ⟨_, A, n, c, h4, h5, h6⟩ := hx
      have h2' : 0 ≤ i ∧ i < (len : Int) := h2
      rcases h6 with ⟨rfl, _⟩ | ⟨br, or', cap, b', o', rfl, rfl, h70, h7, h8⟩
      · omega
      · obtain ⟨rfl, rfl⟩ := h70 (by omega)
        refine good_put h hd h3 (run_indexAt_ti (own := own) hti hT h1 h2') ?_
        simp only [SVr, ho]
        refine ⟨hid, rfl, _, or', n, c, h4, ?_⟩
        show Value.pointer _ = Value.pointer (some ⟨_, or' + (off + i.toNat) * t.size, none⟩)
        rw [Nat.add_mul, Nat.add_assoc]
    · exact h1.elim
  · -- an array variable, or a box of an array
    rename_i id off k i
    simp only [SVr] at hx hi
    subst hi
    obtain ⟨hid, _, hx⟩ := hx
    split at hs
    · rename_i ho ha
      rw [ho] at hx
      subst hx
      obtain ⟨h1, h2⟩ := hs
      have h1' : 0 ≤ i ∧ i < _ := h1
      refine good_put h hd h2 (run_indexAt_arr hti hT ha h1') ?_
      simp only [SVr, ho]
      exact ⟨hid, rfl, rfl⟩
    · rename_i ho ha
      rw [ho] at hx
      subst hx
      obtain ⟨h1, h2⟩ := hs
      refine good_put h hd h2 (run_indexAt_arr hti hT ha h1) ?_
      simp only [SVr, ho]
      exact ⟨hid, rfl, trivial⟩
    · exact hs.elim
  · rename_i id off k i
    simp only [SVr] at hx hi
    subst hi
    obtain ⟨hid, _, hx⟩ := hx
    split at hs
    · rename_i ho ha
      rw [ho] at hx
      subst hx
      obtain ⟨h1, h2⟩ := hs
      have h1' : 0 ≤ i ∧ i < _ := h1
      refine good_put h hd h2 (run_indexAt_arr hti hT ha h1') ?_
      simp only [SVr, ho]
      exact ⟨hid, rfl, rfl⟩
    · exact hs.elim
  · rename_i id j sub k i
    simp only [SVr] at hx hi
    subst hi
    obtain ⟨hid, h1c, hx⟩ := hx
    split at hs
    · rename_i ha
      obtain ⟨h0, h1, h2⟩ := hs
      unfold viewOk at h0
      split at h0
      · rename_i ho
        rw [ho] at hx
        subst hx
        refine good_put h hd h2 (run_indexAt_arr hti hT ha h1) ?_
        simp only [SVr, ho]
        exact ⟨hid, rfl, by rw [Nat.add_assoc]⟩
      · exact h0.elim
    · exact hs.elim
  · rename_i t x sub k i
    simp only [SVr] at hx hi
    subst hi
    obtain ⟨b, o, ces, rfl, hz, h4, h5⟩ := hx
    split at hs
    · rename_i ha
      obtain ⟨h1, h2⟩ := hs
      refine good_put h hd h2 (run_indexAt_arr hti hT ha h1) ?_
      exact ⟨b, o, ces, by rw [Nat.add_assoc], hz, h4, h5⟩
    · exact hs.elim
  · exact hs.elim


include hti in
theorem run_fieldAt_ti {T : TypeId} (hT : (ti T).ok = true) {f o : Nat} {ft : TypeId} (hf : (ti T).flds[f]? = some (o, ft)) {b q : Nat} :
    (Instr.fieldAt T (.pointer (some ⟨b, q, none⟩)) f).run P w = .ok (.pointer (some ⟨b, q + o, none⟩)) w := by
  obtain ⟨fs, fd, h1, h2, rfl, rfl, h3, h4⟩ := (hti T hT).flds f o ft hf
  have hz : ((sizeOf fd.type).run P w) = .ok (ti fd.type).sz w := run_sizeOf_ti hti h3
  simp only [Instr.fieldAt, Sem.run_bind, run_underlying h1, Result.andThen_ok, h2, Instr.sureAddr, Sem.run_pure, fieldPlace, hz, h4, if_false]
  congr 3
  unfold Addr.add
  split <;> simp_all

include h hd hti in
theorem opFieldAddr_good {T : TypeId} {x : SV} {vx : Value} {f : Nat} (hT : (ti T).ok = true) (hs : opFieldAddr (sC P ti own) Γ d T x f K)
    (hx : SVr w (Zn w0 O0 Z0 w fpl) m Γ.objs x vx) : Good w0 O0 Z0 m0 os0 K d a ((Instr.fieldAt T vx f).run P w) := by
  unfold opFieldAddr at hs
  split at hs
  · rename_i id off o ft hf
    simp only [SVr] at hx
    obtain ⟨hid, _, hx⟩ := hx
    split at hs
    · rename_i ho
      rw [ho] at hx; subst hx
      refine good_put h hd hs (run_fieldAt_ti hti hT hf) ?_
      simp only [SVr, ho]; exact ⟨hid, rfl, trivial⟩
    · exact hs.elim
  · rename_i id j sub o ft hf
    obtain ⟨h0, h1⟩ := hs
    simp only [SVr] at hx
    obtain ⟨hid, _, hx⟩ := hx
    unfold viewOk at h0
    split at h0
    · rename_i ho
      rw [ho] at hx; subst hx
      refine good_put h hd h1 (run_fieldAt_ti hti hT hf) ?_
      simp only [SVr, ho]; exact ⟨hid, rfl, by rw [Nat.add_assoc]⟩
    · exact h0.elim
  · rename_i t x sub o ft hf
    simp only [SVr] at hx
    obtain ⟨b, q, ces, rfl, hz, h4, h5⟩ := hx
    refine good_put h hd hs (run_fieldAt_ti hti hT hf) ?_
    exact ⟨b, q, ces, by rw [Nat.add_assoc], hz, h4, h5⟩
  · exact hs.elim

include hti in
/-- A variable out of its cells. -/
theorem run_loadAt_ti {T : TypeId} (hT : (ti T).ok = true) {Z : Nat → Prop} {objs : List Ob} {b o off : Nat} {cs : List SV} {vs : List Value}
    (hc : CellsAt w b o vs) (hs : SVrs w Z m objs cs vs) (hl : off + (ti T).sz ≤ cs.length) :
    ∃ v, (Instr.loadAt T (.pointer (some ⟨b, o + off, none⟩))).run P w = .ok v w ∧ SVr w Z m objs (ofVar (ti T) cs off) v := by
  obtain ⟨D, hu, hg⟩ := (hti T hT).und
  obtain ⟨i, hi, hz⟩ := Option.map_eq_some_iff.1 (hti T hT).sz
  have hvl := hs.length
  have hadd : ∀ j, (⟨b, o + off, none⟩ : Addr).add j = ⟨b, o + off + j, none⟩ := by intro j; unfold Addr.add; split <;> simp_all
  have hcell : ∀ j v, ((vs.drop off).take (ti T).sz)[j]? = some v → w.cell? ((⟨b, o + off, none⟩ : Addr).add j) = some v := by
    intro j v hj
    rw [hadd]
    have hjl : j < (ti T).sz := by
      have := (List.getElem?_eq_some_iff.1 hj).1
      simp at this; omega
    rw [List.getElem?_take, if_pos hjl, List.getElem?_drop] at hj
    have := hc (off + j) v hj
    rwa [← Nat.add_assoc] at this
  have hlen : ((vs.drop off).take (ti T).sz).length = (ti T).sz := by simp; omega
  cases hag : (ti T).agg with
  | true =>
    rw [hag] at hg
    have hagg : (isAgg T).run P w = .ok true w := by
      simp only [isAgg, Sem.run_bind, run_underlying hu, Result.andThen_ok]
      split at hg <;> simp_all
    refine ⟨.agg ((vs.drop off).take (ti T).sz).toArray, ?_, ?_⟩
    · have hl := run_loadCells_list (P := P) w ⟨b, o + off, none⟩ ((vs.drop off).take (ti T).sz) hcell
      rw [hlen] at hl
      simp only [Instr.loadAt, Instr.sureAddr, Sem.run_bind, Sem.run_pure, Result.andThen_ok, loadVar, hagg, if_true, run_sizeOf_ti hti hT, hl]
    · simp only [ofVar, hag, SVr]
      exact ⟨_, rfl, hs.sub _ _ hl⟩
  | false =>
    rw [hag] at hg
    have hagg : (isAgg T).run P w = .ok false w := by
      simp only [isAgg, Sem.run_bind, run_underlying hu, Result.andThen_ok]
      split at hg <;> simp_all
    have h1 := (hti T hT).one hag
    obtain ⟨v, h2, h3⟩ := hs.get off (by omega)
    have h4 := hc off v h2
    refine ⟨v, ?_, by simpa only [ofVar, hag] using h3⟩
    simp only [Instr.loadAt, Instr.sureAddr, Sem.run_bind, Sem.run_pure, Result.andThen_ok, loadVar, hagg, Bool.false_eq_true, if_false, run_load, h4]


theorem getD_lt {α : Type} {xs : List α} {j : Nat} {x : α} (hj : j < xs.length) : xs.getD j x = xs[j] := by
  simp [List.getD_eq_getElem?_getD, List.getElem?_eq_getElem hj]

theorem noHole_ne {own : Bool} {hole : Option Nat} {j : Nat} (hn : noHole (sC P ti own) hole j) : hole ≠ some j := by
  intro he
  subst he
  exact hn rfl

include h hd hti in
theorem opLoad_good {T : TypeId} {x : SV} {vx : Value} (hT : (ti T).ok = true) (hs : opLoad (sC P ti own) Γ d T x K)
    (hx : SVr w (Zn w0 O0 Z0 w fpl) m Γ.objs x vx) : Good w0 O0 Z0 m0 os0 K d a ((Instr.loadAt T vx).run P w) := by
  unfold opLoad at hs
  split at hs
  · -- a box
    rename_i id off
    simp only [SVr] at hx
    obtain ⟨hid, _, hx⟩ := hx
    split at hs
    · rename_i e cs ho
      rw [ho] at hx; subst hx
      obtain ⟨h1, h2⟩ := hs
      have hb := h.ob.ob id hid
      unfold obR at hb
      rw [ho] at hb
      obtain ⟨_, arr, e', h3, h4⟩ := hb
      have hc : CellsAt w (mg m id).b 0 arr.toList := fun j v hj => by rw [Nat.zero_add, cell_of h3]; simpa using hj
      obtain ⟨v, h5, h6⟩ := run_loadAt_ti hti hT hc h4 h1
      rw [Nat.zero_add] at h5
      exact good_put h hd h2 h5 h6
    · exact hs.elim
  · -- a frozen element
    rename_i t x sub
    simp only [SVr] at hx
    obtain ⟨b, o, ces, rfl, hz, h4, h5⟩ := hx
    obtain ⟨h1, h2⟩ := hs
    obtain ⟨v, h6, h7⟩ := run_loadAt_ti hti hT h4 (h5.cells (m := m) (objs := Γ.objs)) (by rw [cells_len]; exact h1)
    exact good_put h hd h2 h6 h7
  · -- an array's element
    rename_i id off
    simp only [SVr] at hx
    obtain ⟨hid, _, hx⟩ := hx
    split at hs
    · rename_i t e xs ho hag
      rw [ho] at hx; subst hx
      obtain ⟨⟨h1, h1'⟩, h2, h3⟩ := hs
      have hb := h.ob.ob id hid
      unfold obR at hb
      rw [ho] at hb
      obtain ⟨_, _, _, arr, e', h4, h5, h6⟩ := hb
      have h2' : off < xs.length := h2
      obtain ⟨v, h7, h8⟩ := h6 off h2'
      have hc : CellsAt w (mg m id).b off [v] := fun j u hj => by
        cases j with
        | zero => cases hj; rw [Nat.add_zero, cell_of h4]; exact h7
        | succ j => simp at hj
      obtain ⟨v', h9, h10⟩ := run_loadAt_ti (o := off) (off := 0) hti hT hc (h8.cells (m := m) (objs := Γ.objs)) (by rw [cells_len, (hti T hT).one hag]; omega)
      refine good_put h hd h3 h9 ?_
      have : (sC P ti own).w.get t xs off = xs[off] := getD_lt h2'
      rw [this]
      have hag' : (ti T).agg = false := hag
      simpa only [ofVar, hag'] using h10
    · exact hs.elim
  · -- an element of a slice of its own
    rename_i id j sub
    simp only [SVr] at hx
    obtain ⟨hid, _, hx⟩ := hx
    have hb := h.ob.ob id hid
    unfold obR at hb
    split at hs
    · rename_i e t e' dd xs hole ho
      rw [ho] at hx hb; subst hx
      obtain ⟨⟨rfl, hag⟩, h1, h2, h3⟩ := hs
      obtain ⟨arr, e1, fps, h4, h5, h6, h7, h8⟩ := hb
      have h1' : j < xs.length := h1
      rcases h8 j h1' with ⟨h9, _⟩ | ⟨_, ces, h10, h11⟩
      · exact absurd h9 (noHole_ne h2)
      · have hget : (sC P ti own).w.get (.sl e t) xs j = xs[j] := getD_lt h1'
        rw [hget] at h3
        have hsz : (Ty.sl e t).size = 1 := rfl
        have hc1 : ∀ v, ces = [v] → w.cell? ⟨(mg m id).b, (mg m id).o + j, none⟩ = some v := by
          intro v hv
          have := h10 0 v (by rw [hv]; rfl)
          rwa [hsz, Nat.mul_one, Nat.add_zero] at this
        have hone := (hti T hT).one hag
        obtain ⟨D, hu, hg⟩ := (hti T hT).und
        have hagg : (isAgg T).run P w = .ok false w := by
          simp only [isAgg, Sem.run_bind, run_underlying hu, Result.andThen_ok]
          rw [hag] at hg
          split at hg <;> simp_all
        have hrun : ∀ v, ces = [v] → (Instr.loadAt T (.pointer (some ⟨(mg m id).b, (mg m id).o + j * (Ty.sl e t).size + 0, none⟩))).run P w = .ok v w := by
          intro v hv
          rw [hsz, Nat.mul_one, Nat.add_zero]
          simp only [Instr.loadAt, Instr.sureAddr, Sem.run_bind, Sem.run_pure, Result.andThen_ok, loadVar, hagg, Bool.false_eq_true, if_false, run_load, hc1 v hv]
        rcases h11 with ⟨h12, h13, A, h14⟩ | ⟨b, o, c, fps', h14, h15, h16, h17, ⟨arr', e2, h18, h19⟩, h20⟩
        · refine good_put h hd h3 (hrun _ h14) ?_
          simp only [SVr, ho]
          refine ⟨hid, rfl, h1', A, 0, 0, hc1 _ h14, ?_, .inl ⟨rfl, rfl, rfl⟩⟩
          show 0 + (xs[j]).length ≤ 0
          rw [h12]; exact Nat.le_refl _
        · refine good_put h hd h3 (hrun _ h14) ?_
          simp only [SVr, ho]
          refine ⟨hid, rfl, h1', _, _, c, hc1 _ h14, ?_, .inr ⟨b, o, c, b, o, rfl, rfl, fun _ => ⟨rfl, by rw [Nat.zero_mul, Nat.add_zero]⟩, h15, by omega⟩⟩
          show 0 + (xs[j]).length ≤ _
          omega
    · rename_i t e' dd xs hole hno ho
      rw [ho] at hx hb; subst hx
      obtain ⟨⟨h1, h1'⟩, h2, h3, h4⟩ := hs
      obtain ⟨arr, e1, fps, h5, h6, h7, h8, h9⟩ := hb
      have h2' : j < xs.length := h2
      rcases h9 j h2' with ⟨h10, _⟩ | ⟨_, ces, h10, h11⟩
      · exact absurd h10 (noHole_ne h3)
      · have hget : (sC P ti own).w.get t xs j = xs[j] := getD_lt h2'
        rw [hget] at h4
        have hr : Rep w (Zn w0 O0 Z0 w fpl) t 0 xs[j] ces [] := by
          rcases h1' with hf | hd0
          · have hff := h11.flat_fp hf
            rw [hff] at h11
            exact h11.flat_any hf
          · subst hd0
            have hff := h11.zero_fp
            rw [hff] at h11
            exact h11
        obtain ⟨v, h12, h13⟩ := run_loadAt_ti (off := sub) hti hT h10 (hr.cells (m := m) (objs := Γ.objs)) (by rw [cells_len]; exact h1)
        exact good_put h hd h4 h12 h13
    · exact hs.elim
  · -- an element of a row
    rename_i id j i
    simp only [SVr] at hx
    obtain ⟨hid, _, hx⟩ := hx
    have hb := h.ob.ob id hid
    unfold obR at hb
    split at hs
    · rename_i e t e' dd xs hole ho
      rw [ho] at hx hb
      obtain ⟨⟨h1, h1'⟩, h2, h3, h4⟩ := hs
      obtain ⟨br, or', n, c, hx1, rfl⟩ := hx
      obtain ⟨arr, e1, fps, h5, h6, h7, h8, h9⟩ := hb
      by_cases hj : j < xs.length
      · rcases h9 j hj with ⟨h10, _⟩ | ⟨_, ces, h10, h11⟩
        · exact absurd h10 (noHole_ne h2)
        · have hget : (sC P ti own).w.get (.sl e t) xs j = xs[j] := getD_lt hj
          rw [hget] at h3 h4
          have h3' : i < (xs[j]).length := h3
          have hsz : (Ty.sl e t).size = 1 := rfl
          rcases h11 with ⟨h12, _⟩ | ⟨b, o, c', fps', h14, h15, h16, h17, ⟨arr', e2, h18, h19⟩, h20⟩
          · rw [h12] at h3'; simp at h3'
          · have hcell := h10 0 _ (by rw [h14]; rfl)
            rw [hsz, Nat.mul_one, Nat.add_zero, hx1] at hcell
            cases hcell
            obtain ⟨ces', h21, h22⟩ := h20 i h3'
            have hr : Rep w (Zn w0 O0 Z0 w fpl) t 0 (xs[j])[i] ces' [] := by
              rcases h1' with hf | hd0
              · have hff := h22.flat_fp hf
                rw [hff] at h22
                exact h22.flat_any hf
              · subst hd0
                have hff := h22.zero_fp
                rw [hff] at h22
                exact h22
            have hget2 : (sC P ti own).w.get t xs[j] i = (xs[j])[i] := getD_lt h3'
            rw [hget2] at h4
            obtain ⟨v, h23, h24⟩ := run_loadAt_ti (off := 0) hti hT h21 (hr.cells (m := m) (objs := Γ.objs)) (by rw [cells_len]; exact h1)
            exact good_put h hd h4 h23 h24
      · exfalso
        have hget : (sC P ti own).w.get (.sl e t) xs j = [] := by
          show xs.getD j _ = _
          simp [List.getD_eq_getElem?_getD, List.getElem?_eq_none (Nat.le_of_not_lt hj), Ty.dflt]
        rw [hget] at h3
        have h3' : i < ([] : List t.T).length := h3
        simp at h3'
    · exact hs.elim
  · exact hs.elim

end
end Go.Dm

/- Parts of values, slicing, strings. -/
namespace Go.Dm
open Go

section
variable {P : Program} {ti : TypeId → TI} {own : Bool} (hti : ∀ t, (ti t).ok = true → TIok P ti t)
variable {w0 : World} {O0 : List Nat} {Z0 : Nat → Prop} {m0 : List OR} {os0 : List Ob} {m : List OR} {fpl : List (List Nat)} {Γ : St} {a : Act} {w : World} {K : St → Prop} {d : Option Nat}
variable (h : SR w0 O0 Z0 m0 os0 m fpl Γ a w) (hd : ∀ k, d = some k → k < Γ.n)

include hti in
theorem run_isAgg_ti {T : TypeId} (hT : (ti T).ok = true) : (isAgg T).run P w = .ok (ti T).agg w := by
  obtain ⟨D, hu, hg⟩ := (hti T hT).und
  simp only [isAgg, Sem.run_bind, run_underlying hu, Result.andThen_ok]
  rw [hg]
  split <;> simp_all

include hti in
theorem run_part_ti {T : TypeId} (hT : (ti T).ok = true) {Z : Nat → Prop} {objs : List Ob} {off : Nat} {cs : List SV} {vs : List Value}
    (hs : SVrs w Z m objs cs vs) (hl : off + (ti T).sz ≤ cs.length) :
    ∃ v, (part T vs.toArray off).run P w = .ok v w ∧ SVr w Z m objs (ofVar (ti T) cs off) v := by
  have hvl := hs.length
  cases hag : (ti T).agg with
  | true =>
    refine ⟨.agg ((vs.drop off).take (ti T).sz).toArray, ?_, ?_⟩
    · simp only [part, Sem.run_bind, run_isAgg_ti hti hT, hag, Result.andThen_ok, if_true, run_sizeOf_ti hti hT, Sem.run_pure]
      congr 2
      apply Array.ext'
      simp
    · simp only [ofVar, hag, SVr]
      exact ⟨_, rfl, hs.sub _ _ hl⟩
  | false =>
    have h1 := (hti T hT).one hag
    obtain ⟨v, h2, h3⟩ := hs.get off (by omega)
    refine ⟨v, ?_, by simpa only [ofVar, hag] using h3⟩
    simp only [part, Sem.run_bind, run_isAgg_ti hti hT, hag, Result.andThen_ok, Bool.false_eq_true, if_false]
    simp [h2]

include h hd hti in
theorem opField_good {T : TypeId} {x : SV} {vx : Value} {f : Nat} (hT : (ti T).ok = true) (hs : opField (sC P ti own) Γ d T x f K)
    (hx : SVr w (Zn w0 O0 Z0 w fpl) m Γ.objs x vx) : Good w0 O0 Z0 m0 os0 K d a ((Instr.field T vx f).run P w) := by
  unfold opField at hs
  split at hs
  · rename_i cs o R hf
    obtain ⟨h1, h2⟩ := hs
    simp only [SVr] at hx
    obtain ⟨vs, rfl, hx⟩ := hx
    obtain ⟨fs, fd, h3, h4, rfl, rfl, h5, h6⟩ := (hti T hT).flds f o R hf
    obtain ⟨v, h7, h8⟩ := run_part_ti hti h5 hx h1
    exact good_put h hd h2 (by simp only [Instr.field, Sem.run_bind, run_underlying h3, Result.andThen_ok, h4, asAgg, Sem.run_pure, h7]) h8
  · exact hs.elim

include h hd hti in
theorem opIndex_good {T : TypeId} {x i : SV} {vx vi : Value} (hT : (ti T).ok = true) (hs : opIndex (sC P ti own) Γ d T x i K)
    (hx : SVr w (Zn w0 O0 Z0 w fpl) m Γ.objs x vx) (hi : SVr w (Zn w0 O0 Z0 w fpl) m Γ.objs i vi) : Good w0 O0 Z0 m0 os0 K d a ((Instr.index T vx vi).run P w) := by
  unfold opIndex at hs
  split at hs
  · rename_i s k i
    obtain ⟨h0, h1, h2⟩ := hs
    simp only [SVr] at hx hi
    subst hx; subst hi
    have hu := (hti T hT).str h0
    have h1' : 0 ≤ i ∧ i < (s.length : Int) := h1
    have hlt : i.toNat < s.length := by omega
    have hget : (⟨s.toArray⟩ : ByteArray)[i.toNat]? = some s[i.toNat] := by
      rw [getElem?_pos (⟨s.toArray⟩ : ByteArray) i.toNat hlt]
      rfl
    refine good_put h hd h2 (v := .int .u8 ((s.getD i.toNat 0).toNat : Int)) ?_ rfl
    simp only [Instr.index, Sem.run_bind, asIntOf, Sem.run_pure, Result.andThen_ok, run_underlying hu, h1'.1, if_true, hget]
    rw [getD_lt hlt]
  · exact hs.elim

theorem ba_extract (s : List UInt8) (l n : Nat) : (⟨s.toArray⟩ : ByteArray).extract l n = ⟨((s.drop l).take (n - l)).toArray⟩ := by
  apply ByteArray.ext
  apply Array.ext'
  simp

theorem bnd_r (h : SR w0 O0 Z0 m0 os0 m fpl Γ a w) {o : Option Operand} {n l : Int} (hb : bnd Γ o n = some l) :
    (o = none ∧ l = n) ∨ ∃ x k, o = some x ∧ a.eval x = .int k l := by
  unfold bnd at hb
  split at hb
  · cases hb; exact .inl ⟨rfl, rfl⟩
  · rename_i x
    have he := h.eval x
    split at hb
    · rename_i k n heq
      cases hb
      rw [heq] at he
      exact .inr ⟨x, k, rfl, he⟩
    · cases hb

/-- The bounds of a slice expression. -/
theorem run_bounds {isSlice : Bool} {len cap : Nat} {lo hi : Option Operand} {l u : Int} (h : SR w0 O0 Z0 m0 os0 m fpl Γ a w)
    (hl : bnd Γ lo 0 = some l) (hu : bnd Γ hi (len : Int) = some u) (hc : 0 ≤ l ∧ l ≤ u ∧ u ≤ len) (hcap : len ≤ cap) :
    (Instr.sliceBounds isSlice len cap (lo.map a.eval) (hi.map a.eval) none).run P w = .ok (l.toNat, u.toNat, cap) w := by
  have hbu : ∀ code, 0 ≤ u ∧ u ≤ (cap : Int) := fun _ => by omega
  rcases bnd_r h hu with ⟨rfl, rfl⟩ | ⟨x, k, rfl, hx⟩
  · rcases bnd_r h hl with ⟨rfl, rfl⟩ | ⟨y, k', rfl, hy⟩
    · simp [Instr.sliceBounds]
    · simp only [Instr.sliceBounds, Option.map_none, Option.map_some, hy, Instr.sliceBound, Sem.run_bind, Sem.run_pure, Result.andThen_ok, asIntOf]
      rw [if_pos ⟨hc.1, by omega⟩]
      simp
  · rcases bnd_r h hl with ⟨rfl, rfl⟩ | ⟨y, k', rfl, hy⟩
    · simp only [Instr.sliceBounds, Option.map_none, Option.map_some, hx, Instr.sliceBound, Sem.run_bind, Sem.run_pure, Result.andThen_ok, asIntOf]
      rw [if_pos ⟨by omega, by omega⟩]
      simp
    · simp only [Instr.sliceBounds, Option.map_some, hx, hy, Instr.sliceBound, Sem.run_bind, Sem.run_pure, Result.andThen_ok, asIntOf]
      rw [if_pos ⟨by omega, by omega⟩]
      simp only [Sem.run_pure, Result.andThen_ok]
      rw [if_pos ⟨hc.1, by omega⟩]
      simp


theorem slice_addr {b o l s : Nat} (n m' : Nat) : (if m' = l then (some (⟨b, o, none⟩ : Addr)) else (some (⟨b, o, none⟩ : Addr)).map (·.add (l * s))) =
    some ⟨b, o + (if m' = l then 0 else l * s), none⟩ := by
  split
  · simp
  · simp only [Option.map_some]
    congr 1
    unfold Addr.add
    split <;> simp_all

include h hd hti in
theorem opSlice_good {T : TypeId} {x : Operand} {lo hi : Option Operand} (hT : (ti T).ok = true) (hs : opSlice (sC P ti own) Γ d T (rd Γ x) lo hi K) :
    Good w0 O0 Z0 m0 os0 K d a ((Instr.sliceAt T (a.eval x) (lo.map a.eval) (hi.map a.eval) none).run P w) := by
  have hx := h.eval x
  unfold opSlice at hs
  split at hs
  · rename_i n hn
    split at hs
    · rename_i l u hl hu
      split at hs
      · -- a string
        rename_i s hrd
        obtain ⟨h0, h1, h2⟩ := hs
        have h0' : (ti T).ty = some .str := h0
        rw [hrd] at hx hn
        simp only [slen, Option.some.injEq] at hn
        simp only [SVr] at hx
        rw [hx]
        have hund := (hti T hT).str h0'
        have h1' : 0 ≤ l ∧ l ≤ u ∧ u ≤ (s.length : Int) := h1
        subst hn
        have hb := run_bounds (P := P) (isSlice := false) (len := s.length) (cap := s.length) h hl hu h1' (Nat.le_refl _)
        refine good_put h hd h2 (v := .string (ByteArray.extract ⟨s.toArray⟩ l.toNat u.toNat)) ?_ ?_
        · simp only [Instr.sliceAt, Sem.run_bind, run_underlying hund, Result.andThen_ok, Instr.slice, ba_size, Option.isSome_none, Bool.false_eq_true, if_false, Sem.run_bind, hb, Sem.run_pure]
        · rw [ba_extract]
          show Value.string _ = Value.string ⟨((s.drop l.toNat).take (u - l).toNat).toArray⟩
          rw [show (u - l).toNat = u.toNat - l.toNat by omega]
      · -- a frozen slice
        rename_i t e xs hrd
        obtain ⟨h0, h1, h2⟩ := hs
        rw [hrd] at hx hn
        simp only [slen, Option.some.injEq] at hn
        subst hn
        simp only [SVr] at hx
        obtain ⟨_, A, c, hv, hc, h3⟩ := hx
        rw [List.cons.injEq] at hv
        rw [hv.1]
        obtain ⟨e', hund, hsz, _⟩ := slOk_und (w := w) hti hT h0
        have h1' : 0 ≤ l ∧ l ≤ u ∧ u ≤ (xs.length : Int) := h1
        have hb := run_bounds (P := P) (isSlice := true) (len := xs.length) (cap := c) h hl hu h1' hc
        refine good_put h hd h2 (v := .slice (if c = l.toNat then A else A.map (·.add (l.toNat * t.size))) (u.toNat - l.toNat) (c - l.toNat)) ?_ ?_
        · simp only [Instr.sliceAt, Sem.run_bind, run_underlying hund, Result.andThen_ok, Instr.slice, hb, hsz, Sem.run_pure]
        · have hlen : ((xs.drop l.toNat).take (u - l).toNat).length = u.toNat - l.toNat := by simp; omega
          simp only [SVr]
          refine ⟨rfl, _, _, by rw [show (sC P ti own).w.ext xs ((sC P ti own).w.nat l) ((sC P ti own).w.nat ((sC P ti own).w.sub u l)) = (xs.drop l.toNat).take (u - l).toNat from rfl, hlen], ?_, ?_⟩
          · show ((xs.drop l.toNat).take (u - l).toNat).length ≤ _
            rw [hlen]; omega
          · show (xs.drop l.toNat).take (u - l).toNat = [] ∨ _
            rcases h3 with rfl | ⟨b, o, rfl, hz, h4⟩
            · left; simp
            · by_cases hemp : (xs.drop l.toNat).take (u - l).toNat = []
              · exact .inl hemp
              · right
                have hpos : 0 < u.toNat - l.toNat := by
                  rw [← hlen]; exact List.length_pos_iff.2 hemp
                refine ⟨b, o + l.toNat * t.size, ?_, hz, ?_⟩
                · rw [slice_addr (c - l.toNat), if_neg (by omega)]
                · intro i hi
                  have hi' : i < ((xs.drop l.toNat).take (u - l).toNat).length := hi
                  rw [hlen] at hi'
                  obtain ⟨ces, h5, h6⟩ := h4 (l.toNat + i) (by omega)
                  refine ⟨ces, by rw [Nat.add_mul, ← Nat.add_assoc] at h5; exact h5, ?_⟩
                  have : ((xs.drop l.toNat).take (u - l).toNat)[i]'(by rw [hlen]; exact hi') = xs[l.toNat + i]'(by omega) := by simp
                  exact this ▸ h6
      · -- a slice of its own
        rename_i id off len hrd
        obtain ⟨h0, h1, h2⟩ := hs
        rw [hrd] at hx hn
        simp only [slen, Option.some.injEq] at hn
        subst hn
        simp only [SVr] at hx
        obtain ⟨hid, _, hx⟩ := hx
        unfold tyOf at h0
        split at h0
        · rename_i t e dd xs hole ho
          rw [ho] at hx
          obtain ⟨cap, b', o', hv, h30, h3, h4, arr, e', h5, h6⟩ := hx
          rw [hv]
          obtain ⟨e1, hund, hsz, _⟩ := slOk_und (w := w) hti hT h0
          have h1' : 0 ≤ l ∧ l ≤ u ∧ u ≤ (len : Int) := h1
          have hb := run_bounds (P := P) (isSlice := true) (len := len) (cap := cap) h hl hu h1' h3
          refine good_put h hd h2 (v := .slice (if cap = l.toNat then some ⟨b', o', none⟩ else (some ⟨b', o', none⟩ : Option Addr).map (·.add (l.toNat * t.size))) (u.toNat - l.toNat) (cap - l.toNat)) ?_ ?_
          · simp only [Instr.sliceAt, Sem.run_bind, run_underlying hund, Result.andThen_ok, Instr.slice, hb, hsz, Sem.run_pure]
          · simp only [SVr, ho]
            rw [slice_addr (cap - l.toNat)]
            refine ⟨hid, rfl, cap - l.toNat, b', o' + (if cap = l.toNat then 0 else l.toNat * t.size), by show Value.slice _ _ _ = Value.slice _ (u - l).toNat _; rw [show (u - l).toNat = u.toNat - l.toNat by omega], ?_, by show (u - l).toNat ≤ _; omega, by show off + l.toNat + (u - l).toNat ≤ _; omega, arr, e', h5, ?_⟩
            · intro hc
              obtain ⟨rfl, rfl⟩ := h30 (by omega)
              refine ⟨rfl, ?_⟩
              rw [if_neg (by omega)]
              show _ = (mg m id).o + (off + l.toNat) * t.size
              rw [Nat.add_mul, Nat.add_assoc]
            · show (mg m id).o + (off + l.toNat + (cap - l.toNat)) * t.size ≤ arr.size
              rwa [show off + l.toNat + (cap - l.toNat) = off + cap by omega]
        · exact h0.elim
      · -- a row
        rename_i id j off len hrd
        obtain ⟨h0, h1, h2⟩ := hs
        rw [hrd] at hx hn
        simp only [slen, Option.some.injEq] at hn
        subst hn
        simp only [SVr] at hx
        obtain ⟨hid, _, hx⟩ := hx
        unfold rowOf at h0
        split at h0
        · rename_i e t e'' dd xs hole ho
          rw [ho] at hx
          obtain ⟨hjl, A, n, c, h3, h4, h5⟩ := hx
          obtain ⟨e1, hund, hsz, _⟩ := slOk_und (w := w) hti hT h0
          have h1' : 0 ≤ l ∧ l ≤ u ∧ u ≤ (len : Int) := h1
          rcases h5 with ⟨rfl, rfl, hv⟩ | ⟨br, or', cap, b', o', rfl, hv, h60, h6, h7⟩
          · have hlen0 : len = 0 := by omega
            subst hlen0
            rw [hv]
            have hb := run_bounds (P := P) (isSlice := true) (len := 0) (cap := 0) h hl hu h1' (Nat.le_refl _)
            have hl0 : l.toNat = 0 := by omega
            have hu0 : u.toNat = 0 := by omega
            refine good_put h hd h2 (v := .slice A 0 0) ?_ ?_
            · simp only [Instr.sliceAt, Sem.run_bind, run_underlying hund, Result.andThen_ok, Instr.slice, hb, hsz, Sem.run_pure, hl0, hu0, if_true]
            · simp only [SVr, ho]
              exact ⟨hid, rfl, hjl, A, 0, 0, h3, by show off + l.toNat + (u - l).toNat ≤ 0; omega, .inl ⟨rfl, rfl, rfl⟩⟩
          · rw [hv]
            have hb := run_bounds (P := P) (isSlice := true) (len := len) (cap := cap) h hl hu h1' h6
            refine good_put h hd h2 (v := .slice (if cap = l.toNat then some ⟨b', o', none⟩ else (some ⟨b', o', none⟩ : Option Addr).map (·.add (l.toNat * t.size))) (u.toNat - l.toNat) (cap - l.toNat)) ?_ ?_
            · simp only [Instr.sliceAt, Sem.run_bind, run_underlying hund, Result.andThen_ok, Instr.slice, hb, hsz, Sem.run_pure]
            · simp only [SVr, ho]
              rw [slice_addr (cap - l.toNat)]
              refine ⟨hid, rfl, hjl, _, n, c, h3, by show off + l.toNat + (u - l).toNat ≤ _; omega, .inr ⟨br, or', cap - l.toNat, b', o' + (if cap = l.toNat then 0 else l.toNat * t.size), rfl, by show Value.slice _ _ _ = Value.slice _ (u - l).toNat _; rw [show (u - l).toNat = u.toNat - l.toNat by omega], ?_, by show (u - l).toNat ≤ _; omega, ?_⟩⟩
              · intro hc
                obtain ⟨rfl, rfl⟩ := h60 (by omega)
                refine ⟨rfl, ?_⟩
                rw [if_neg (by omega)]
                show _ = or' + (off + l.toNat) * t.size
                rw [Nat.add_mul, Nat.add_assoc]
              · show off + l.toNat + (cap - l.toNat) ≤ c
                omega
        · exact h0.elim
      · exact hs.elim
    · exact hs.elim
  · exact hs.elim


theorem ext_getElem {α : Type} {xs : List α} {off len i : Nat} (hi : i < ((xs.drop off).take len).length) (h2 : off + i < xs.length) : ((xs.drop off).take len)[i] = xs[off + i] := by simp

/-- What a slice holds, for reading. -/
theorem seq_rep (h : SR w0 O0 Z0 m0 os0 m fpl Γ a w) {x : SV} {vx : Value} {t : Ty} {e : TypeId} {xs : List t.T} (hq : seq (sC P ti own) Γ x = some ⟨t, e, xs⟩)
    (hx : SVr w (Zn w0 O0 Z0 w fpl) m Γ.objs x vx) :
    ∃ A c, vx = .slice A xs.length c ∧ xs.length ≤ c ∧ (xs = [] ∨ ∃ b o, A = some ⟨b, o, none⟩ ∧ (Zn w0 O0 Z0 w fpl b ∨ b ∈ fpl.flatten) ∧
      ∀ i (hi : i < xs.length), ∃ ces, CellsAt w b (o + i * t.size) ces ∧ Rep w (fun b => Zn w0 O0 Z0 w fpl b ∨ b ∈ fpl.flatten) t 0 xs[i] ces []) := by
  unfold seq at hq
  split at hq
  · cases hq
    simp only [SVr] at hx
    obtain ⟨_, A, c, hv, hc, h1⟩ := hx
    cases hv
    refine ⟨A, c, rfl, hc, ?_⟩
    rcases h1 with h1 | ⟨b, o, rfl, hz, h2⟩
    · exact .inl h1
    · refine .inr ⟨b, o, rfl, .inl hz, fun i hi => ?_⟩
      obtain ⟨ces, h3, h4⟩ := h2 i hi
      exact ⟨ces, h3, h4.freeze (fun b hb => .inl hb) (by simp)⟩
  · rename_i id off len
    simp only [SVr] at hx
    obtain ⟨hid, _, hx⟩ := hx
    split at hq
    · rename_i t' e' dd xs' ho
      rw [ho] at hx
      obtain ⟨cap, b', o', rfl, h0, h1, h2, arr, e1, h3, h4⟩ := hx
      have hb := h.ob.ob id hid
      unfold obR at hb
      rw [ho] at hb
      obtain ⟨arr', e2, fps, h5, h6, h7, h8, h9⟩ := hb
      simp only [Option.some.injEq] at hq
      cases hq
      have hlen : ((sC P ti own).w.ext xs' off len).length = len := by
        show ((xs'.drop off).take len).length = len
        simp; omega
      refine ⟨_, cap, by rw [hlen], by rw [hlen]; exact h1, ?_⟩
      by_cases hl0 : len = 0
      · left
        exact List.length_eq_zero_iff.1 (hlen.trans hl0)
      · right
        obtain ⟨rfl, rfl⟩ := h0 (by omega)
        have hmem : (mg m id).b ∈ fpl.flatten := flat_mem (i := id) (by rw [h8]; simp)
        refine ⟨_, _, rfl, .inr hmem, fun i hi => ?_⟩
        rw [hlen] at hi
        rcases h9 (off + i) (by omega) with ⟨h10, _⟩ | ⟨_, ces, h11, h12⟩
        · cases h10
        · refine ⟨ces, by rw [Nat.add_mul, ← Nat.add_assoc] at h11; exact h11, ?_⟩
          have hx : ((sC P ti own).w.ext xs' off len)[i]'(by rw [hlen]; exact hi) = xs'[off + i]'(by omega) := ext_getElem _ _
          rw [hx]
          exact h12.freeze (fun b hb => .inl hb) (fun b hb => .inr (flat_mem (i := id) (by rw [h8]; simp only [List.mem_cons]; exact .inr (flat_mem hb))))
    · cases hq
  · rename_i id j off len
    simp only [SVr] at hx
    obtain ⟨hid, _, hx⟩ := hx
    split at hq
    · rename_i e5 t5 e'' dd xs' ho
      rw [ho] at hx
      obtain ⟨hj, A, n, c, h1, h2, h3⟩ := hx
      have hb := h.ob.ob id hid
      unfold obR at hb
      rw [ho] at hb
      obtain ⟨arr', e2, fps, h5, h6, h7, h8, h9⟩ := hb
      simp only [Option.some.injEq] at hq
      cases hq
      · rcases h9 j hj with ⟨h10, _⟩ | ⟨_, ces, h11, h12⟩
        · cases h10
        · have hget : (sC P ti own).w.get (.sl _ _) xs' j = xs'[j] := getD_lt hj
          rw [hget]
          have hsz : (Ty.sl e t).size = 1 := rfl
          have hcell : ∀ v, ces = [v] → v = .slice A n c := by
            intro v hv
            have := h11 0 v (by rw [hv]; rfl)
            rw [hsz, Nat.mul_one, Nat.add_zero, h1] at this
            exact (Option.some.inj this).symm
          rcases h12 with ⟨h13, h14, A', h15⟩ | ⟨b, o, c', fps', h15, h16, h17, h18, ⟨arr2, e3, h19, h20⟩, h21⟩
          · have := hcell _ h15
            cases this
            have hl0 : len = 0 := by omega
            have hemp : (sC P ti own).w.ext xs'[j] off len = [] := by show (List.drop off xs'[j]).take len = []; rw [hl0]; simp
            rcases h3 with ⟨_, _, rfl⟩ | ⟨br, or', cap, b', o', _, rfl, _, h4, _⟩
            · exact ⟨_, 0, by rw [hemp]; rfl, by rw [hemp]; exact Nat.le_refl _, .inl hemp⟩
            · exact ⟨_, cap, by rw [hemp, hl0]; rfl, by rw [hemp]; exact Nat.zero_le _, .inl hemp⟩
          · have := hcell _ h15
            cases this
            have hlen : ((sC P ti own).w.ext xs'[j] off len).length = len := by
              show ((List.drop off xs'[j]).take len).length = len
              simp; omega
            rcases h3 with ⟨h22, h23, rfl⟩ | ⟨br, or', cap, b', o', hA, rfl, h24, h25, h26⟩
            · have hl0 : len = 0 := by omega
              have hemp : (sC P ti own).w.ext xs'[j] off len = [] := List.length_eq_zero_iff.1 (hlen.trans hl0)
              exact ⟨_, 0, by rw [hemp]; rfl, by rw [hemp]; exact Nat.le_refl _, .inl hemp⟩
            · refine ⟨_, cap, by rw [hlen], by rw [hlen]; exact h25, ?_⟩
              by_cases hl0 : len = 0
              · exact .inl (List.length_eq_zero_iff.1 (hlen.trans hl0))
              · right
                obtain ⟨rfl, rfl⟩ := h24 (by omega)
                cases hA
                have hrow : ∀ b ∈ fps.getD j [], b ∈ fpl.flatten := fun b hb => flat_mem (i := id) (by rw [h8]; simp only [List.mem_cons]; exact .inr (flat_mem hb))
                refine ⟨_, _, rfl, .inr (hrow _ (by rw [h17]; simp)), fun i hi => ?_⟩
                rw [hlen] at hi
                obtain ⟨ces', h27, h28⟩ := h21 (off + i) (by omega)
                refine ⟨ces', by rw [Nat.add_mul, ← Nat.add_assoc] at h27; exact h27, ?_⟩
                have hx : ((sC P ti own).w.ext xs'[j] off len)[i]'(by rw [hlen]; exact hi) = (xs'[j])[off + i]'(by omega) := ext_getElem _ _
                rw [hx]
                exact h28.freeze (fun b hb => .inl hb) (fun b hb => .inr (hrow b (by rw [h17]; simp only [List.mem_cons]; exact .inr (flat_mem hb))))
    · cases hq
  · cases hq

end
end Go.Dm

/- New blocks. -/
namespace Go.Dm
open Go

theorem ogt_append {os : List Ob} {o : Ob} {i : Nat} : ogt (os ++ [o]) i = if i < os.length then ogt os i else if i = os.length then o else .gone := by
  induction os generalizing i with
  | nil => cases i with
    | zero => rfl
    | succ i => simp [ogt]
  | cons p r ih =>
    cases i with
    | zero => simp [ogt]
    | succ i => simp only [List.cons_append, ogt, ih, List.length_cons]; simp

theorem ogt_out {os : List Ob} {i : Nat} (h : os.length ≤ i) : ogt os i = .gone := by
  induction os generalizing i with
  | nil => cases i <;> rfl
  | cons p r ih => cases i with
    | zero => simp at h
    | succ i => exact ih (by simpa using h)

theorem ogt_ost {os : List Ob} {o : Ob} {i j : Nat} : ogt (ost os i o) j = if i = j ∧ j < os.length then o else ogt os j := by
  induction os generalizing i j with
  | nil => simp [ost]
  | cons p r ih =>
    cases i with
    | zero => cases j with
      | zero => simp [ost, ogt]
      | succ j => simp [ost, ogt]
    | succ i => cases j with
      | zero => simp [ost, ogt]
      | succ j => simp only [ost, ogt, ih, List.length_cons]; simp

theorem ost_len {os : List Ob} {o : Ob} {i : Nat} : (ost os i o).length = os.length := by
  induction os generalizing i with
  | nil => rfl
  | cons p r ih => cases i with
    | zero => rfl
    | succ i => simp [ost, ih]

section
variable {P : Program} {ti : TypeId → TI} {own : Bool} (hti : ∀ t, (ti t).ok = true → TIok P ti t)
variable {w0 : World} {O0 : List Nat} {Z0 : Nat → Prop} {m0 : List OR} {os0 : List Ob} {m : List OR} {fpl : List (List Nat)} {Γ : St} {a : Act} {w : World} {K : St → Prop} {d : Option Nat}
variable (h : SR w0 O0 Z0 m0 os0 m fpl Γ a w) (hd : ∀ k, d = some k → k < Γ.n)

theorem push_heap {w : World} {o : Obj} {b : Nat} : (w.alloc o).heap[b]? = if b < w.heap.size then w.heap[b]? else if b = w.heap.size then some o else none := by
  show (w.heap.push o)[b]? = _
  rw [Array.getElem?_push]
  by_cases h1 : b < w.heap.size
  · rw [if_pos h1, if_neg (by omega)]
  · by_cases h2 : b = w.heap.size
    · subst h2; rw [if_pos rfl, if_neg h1, if_pos rfl]
    · rw [if_neg h2, if_neg h1, if_neg h2]; simp; omega

theorem Keep.alloc (O : List Nat) (w : World) (o : Obj) : Keep O w (w.alloc o) where
  shape := fun b arr e f hb => by
    have hlt : b < w.heap.size := by
      rcases Nat.lt_or_ge b w.heap.size with h | h
      · exact h
      · rw [Array.getElem?_eq_none h] at hb; cases hb
    exact ⟨arr, by rw [push_heap, if_pos hlt]; exact hb, rfl⟩
  os := rfl
  tape := rfl
  output := rfl
  size := by show _ ≤ (w.heap.push o).size; simp
  block := fun b hb _ => by rw [push_heap, if_pos hb]

theorem mg_new {m : List OR} {r : OR} : mg (m ++ [r]) m.length = r := by
  unfold mg
  simp [List.getD_eq_getElem?_getD]

theorem getD_take {fps : List (List Nat)} {n i : Nat} (h : i < n) : (fps.take n).getD i [] = fps.getD i [] := by
  simp only [List.getD_eq_getElem?_getD, List.getElem?_take, if_pos h]

/-- A new object; mv: the blocks of gone objects that it takes over; fpl1: what is left to the others. -/
theorem SR.alloc (h : SR w0 O0 Z0 m0 os0 m fpl Γ a w) (arr : Array Value) (e' : TypeId) (o : Ob) (mv : List Nat) (fpl1 : List (List Nat))
    (hfl : fpl1.length = Γ.objs.length) (hlive : ∀ i, i < Γ.objs.length → ogt Γ.objs i = .gone ∨ fpl1.getD i [] = fpl.getD i [])
    (hnd : (fpl1.flatten ++ mv).Nodup) (hsub : ∀ b ∈ fpl1.flatten ++ mv, b ∈ fpl.flatten)
    (hnew : ∀ Z', (∀ b, Zn w0 O0 Z0 w fpl b → Z' b) → (∀ b ∈ fpl.flatten, b ∉ fpl1.flatten → b ∉ mv → (b ∈ O0 ∨ w0.heap.size ≤ b) → Z' b) →
      Stp (fun _ => False) w (w.alloc (.cells arr e')) (Zn w0 O0 Z0 w fpl) Z' m (m ++ [⟨w.heap.size, 0⟩]) Γ.objs (Γ.objs ++ [o]) →
      obR (w.alloc (.cells arr e')) Z' (m ++ [⟨w.heap.size, 0⟩]) (Γ.objs ++ [o]) Γ.objs.length (w.heap.size :: mv)) :
    SR w0 O0 Z0 m0 os0 (m ++ [⟨w.heap.size, 0⟩]) (fpl1 ++ [w.heap.size :: mv]) (Γ.setO (Γ.objs ++ [o])) a (w.alloc (.cells arr e')) := by
  have hsz : (w.alloc (.cells arr e')).heap.size = w.heap.size + 1 := by show (w.heap.push _).size = _; simp
  have hflat : (fpl1 ++ [w.heap.size :: mv]).flatten = fpl1.flatten ++ w.heap.size :: mv := by simp
  have hownlt : ∀ b ∈ fpl.flatten, b < w.heap.size := fun b hb => (h.ob.own b hb).1
  have hmem : ∀ b ∈ fpl1.flatten ++ w.heap.size :: mv, b = w.heap.size ∨ b ∈ fpl.flatten := by
    intro b hb
    rcases List.mem_append.1 hb with hb | hb
    · exact .inr (hsub b (by simp [hb]))
    · rcases List.mem_cons.1 hb with hb | hb
      · exact .inl hb
      · exact .inr (hsub b (by simp [hb]))
  refine (SR.next h (w' := w.alloc (.cells arr e')) (m2 := [⟨w.heap.size, 0⟩]) (fpl' := fpl1 ++ [w.heap.size :: mv]) (objs' := Γ.objs ++ [o]) (fun _ => False)
    (by simp [h.ob.ml]) (by simp [hfl]) ?_ ?_ (Keep.alloc _ _ _) ?_ ?_ (fun _ sv _ => nr_false sv) (fun _ _ cs _ => nrs_false cs) ?_).2
  · intro b hb
    rw [hflat] at hb
    rcases hmem b hb with rfl | hb
    · exact ⟨.inr (Nat.le_refl _), by rw [hsz]; omega⟩
    · exact ⟨.inl hb, by rw [hsz]; have := hownlt b hb; omega⟩
  · rw [hflat]
    have hn := List.nodup_append.1 hnd
    refine List.nodup_append.2 ⟨hn.1, List.nodup_cons.2 ⟨fun hm => ?_, hn.2.1⟩, ?_⟩
    · have := hownlt _ (hsub w.heap.size (by simp [hm])); omega
    · intro x hx y hy hxy
      subst hxy
      rcases List.mem_cons.1 hy with hy | hy
      · subst hy
        have := hownlt _ (hsub w.heap.size (by simp [hx])); omega
      · exact hn.2.2 x hx x hy rfl
  · intro i hi
    rw [ogt_append, if_pos hi]; exact ObLe.refl _
  · intro id hid _ _
    have hlt : (mg m id).b < w.heap.size ∨ (w.alloc (.cells arr e')).heap[(mg m id).b]? = w.heap[(mg m id).b]? := by
      by_cases hb : (mg m id).b < w.heap.size
      · exact .inl hb
      · rename_i hx
        obtain ⟨e1, t1, e2, d1, xs1, hole1, ho⟩ := hx
        rw [ogt_append, if_pos hid] at ho
        have := h.ob.ob id hid
        unfold obR at this
        rw [ho] at this
        obtain ⟨arr', _, _, h1, _⟩ := this
        rw [Array.getElem?_eq_none (by omega)] at h1; cases h1
    rcases hlt with hlt | hlt
    · rw [push_heap, if_pos hlt]
    · exact hlt
  · intro S i hi
    by_cases hlt : i < Γ.objs.length
    · have hget : (fpl1 ++ [w.heap.size :: mv]).getD i [] = fpl1.getD i [] := by
        simp only [List.getD_eq_getElem?_getD, List.getElem?_append_left (show i < fpl1.length by omega)]
      rcases hlive i hlt with hg | hl
      · right
        unfold obR
        rw [ogt_append, if_pos hlt, hg]; trivial
      · left
        refine ⟨hlt, by rw [ogt_append, if_pos hlt], by rw [hget, hl], fun b hb => ?_⟩
        rw [push_heap, if_pos (hownlt b (flat_mem hb))]
    · right
      have hi' : i = Γ.objs.length := by simp at hi; omega
      subst hi'
      have hget : (fpl1 ++ [w.heap.size :: mv]).getD Γ.objs.length [] = w.heap.size :: mv := by
        simp [List.getD_eq_getElem?_getD, ← hfl]
      rw [hget]
      refine hnew _ S.z ?_ S
      intro b hb h1 h2 h3
      refine ⟨by rcases h3 with h3 | h3; exact .inr (.inl h3); exact .inr (.inr h3), by rw [hsz]; have := hownlt b hb; omega, ?_⟩
      rw [hflat]
      intro hm
      rcases List.mem_append.1 hm with hm | hm
      · exact h1 hm
      · rcases List.mem_cons.1 hm with hm | hm
        · subst hm; have := hownlt _ hb; omega
        · exact h2 hm

theorem take_sub (h : SR w0 O0 Z0 m0 os0 m fpl Γ a w) : ((fpl.take Γ.objs.length).flatten ++ []).Nodup ∧ ∀ b ∈ (fpl.take Γ.objs.length).flatten ++ [], b ∈ fpl.flatten := by
  rw [List.append_nil]
  have hs : (fpl.take Γ.objs.length).flatten.Sublist fpl.flatten := by
    conv => rhs; rw [← List.take_append_drop Γ.objs.length fpl, List.flatten_append]
    exact List.sublist_append_left _ _
  exact ⟨h.ob.nodup.sublist hs, fun b hb => hs.subset hb⟩

/-- A new object that takes nothing over. -/
theorem SR.alloc0 (h : SR w0 O0 Z0 m0 os0 m fpl Γ a w) (arr : Array Value) (e' : TypeId) (o : Ob)
    (hnew : ∀ Z', Stp (fun _ => False) w (w.alloc (.cells arr e')) (Zn w0 O0 Z0 w fpl) Z' m (m ++ [⟨w.heap.size, 0⟩]) Γ.objs (Γ.objs ++ [o]) →
      obR (w.alloc (.cells arr e')) Z' (m ++ [⟨w.heap.size, 0⟩]) (Γ.objs ++ [o]) Γ.objs.length [w.heap.size]) :
    SR w0 O0 Z0 m0 os0 (m ++ [⟨w.heap.size, 0⟩]) (fpl.take Γ.objs.length ++ [[w.heap.size]]) (Γ.setO (Γ.objs ++ [o])) a (w.alloc (.cells arr e')) :=
  SR.alloc h arr e' o [] (fpl.take Γ.objs.length) (by have := h.ob.fl; simp; omega) (fun i hi => .inr (getD_take hi)) (take_sub h).1 (take_sub h).2 (fun Z' _ _ S => hnew Z' S)


theorem zv_rep {w : World} {Z : Nat → Prop} : ∀ (t : Ty) (d : Nat), Rep w Z t d t.dflt t.zv []
  | .int _, _ => ⟨rfl, rfl⟩
  | .bool, _ => ⟨rfl, rfl⟩
  | .str, _ => ⟨rfl, rfl⟩
  | .unit, _ => ⟨rfl, rfl⟩
  | .sl _ _, 0 => ⟨rfl, none, 0, rfl, Nat.le_refl _, .inl rfl⟩
  | .sl _ _, _ + 1 => .inl ⟨rfl, rfl, none, rfl⟩
  | .pair a b, d => ⟨_, _, [], [], rfl, rfl, zv_rep a d, zv_rep b d⟩

theorem svOfs_r {w : World} {Z : Nat → Prop} {m : List OR} {objs : List Ob} : ∀ vs : List Value, SVrs w Z m objs (svOfs vs) vs
  | [] => rfl
  | v :: r => ⟨v, r, rfl, svOf_r _ _ _ _ v, svOfs_r r⟩

theorem alloc_new {w : World} {o : Obj} : (w.alloc o).heap[w.heap.size]? = some o := by rw [push_heap, if_neg (by omega), if_pos rfl]

include h hd hti in
theorem opAlloc_good {T : TypeId} (hT : (ti T).ok = true) (hs : opAlloc (sC P ti own) Γ d T K) : Good w0 O0 Z0 m0 os0 K d a ((Instr.alloc T true (.tuple #[])).run P w) := by
  obtain ⟨i, z, hi, hz, hzc, _⟩ := (hti T hT).zero
  have hrun : (Instr.alloc T true (.tuple #[])).run P w = .ok (.pointer (some ⟨w.heap.size, 0, none⟩)) (w.alloc (.cells z.cells T)) := by
    simp [Instr.alloc, zeroValue, typeInfo, hi, hz, newVar, newRow]
  have hmo := h.ob.ml
  unfold opAlloc at hs
  split at hs
  · rename_i t hav
    obtain ⟨h1, h2, v, h3, h4⟩ := (hti T hT).av t hav
    have hsz : (ti T).sz = z.cells.size := by rw [← Array.length_toList, hzc, h4]; simp
    refine ⟨_, _, _, hrun, hs, _, _, ((SR.alloc0 h z.cells T (.arr t T (List.replicate (ti T).sz t.dflt)) ?_).put hd ?_)⟩
    · intro Z' S
      unfold obR
      rw [ogt_append, if_neg (by omega), if_pos rfl, ← hmo, mg_new]
      refine ⟨rfl, h1, h2, z.cells, T, alloc_new, by simp [hsz], fun j hj => ⟨v, ?_, ?_⟩⟩
      · rw [List.length_replicate] at hj
        rw [← Array.getElem?_toList, hzc, h4, List.getElem?_replicate, if_pos hj]
      · have := zv_rep (w := w.alloc (.cells z.cells T)) (Z := Z') t 0
        rw [h3] at this
        simpa using this
    · simp only [SVr]
      have : ogt (Γ.setO (Γ.objs ++ [Ob.arr t T (List.replicate (ti T).sz t.dflt)])).objs Γ.objs.length = .arr t T (List.replicate (ti T).sz t.dflt) := by
        show ogt (Γ.objs ++ _) _ = _; rw [ogt_append, if_neg (by omega), if_pos rfl]
      rw [this]
      refine ⟨by show _ < (Γ.objs ++ _).length; simp, rfl, ?_⟩
      rw [← hmo, mg_new]
  · refine ⟨_, _, _, hrun, hs, _, _, ((SR.alloc0 h z.cells T (.box T (svOfs (ti T).zv)) ?_).put hd ?_)⟩
    · intro Z' S
      unfold obR
      rw [ogt_append, if_neg (by omega), if_pos rfl, ← hmo, mg_new]
      exact ⟨rfl, z.cells, T, alloc_new, by rw [hzc]; exact svOfs_r _⟩
    · simp only [SVr]
      have : ogt (Γ.setO (Γ.objs ++ [Ob.box T (svOfs (ti T).zv)])).objs Γ.objs.length = .box T (svOfs (ti T).zv) := by
        show ogt (Γ.objs ++ _) _ = _; rw [ogt_append, if_neg (by omega), if_pos rfl]
      rw [this]
      refine ⟨by show _ < (Γ.objs ++ _).length; simp, rfl, ?_⟩
      rw [← hmo, mg_new]

include h hd in
theorem opBox_good {T : TypeId} {x : SV} {vx : Value} (hs : opBox Γ d T x K) (hx : SVr w (Zn w0 O0 Z0 w fpl) m Γ.objs x vx) :
    Good w0 O0 Z0 m0 os0 K d a ((Instr.box T vx).run P w) := by
  obtain ⟨h1, h2⟩ := hs
  have hrun : (Instr.box T vx).run P w = .ok (.pointer (some ⟨w.heap.size, 0, none⟩)) (w.alloc (.cells vx.cells T)) := by
    simp [Instr.box, newVar, newRow]
  have hmo := h.ob.ml
  refine ⟨_, _, _, hrun, h2, _, _, ((SR.alloc0 h vx.cells T (.box T (cellsV x)) ?_).put hd ?_)⟩
  · intro Z' S
    unfold obR
    rw [ogt_append, if_neg (by omega), if_pos rfl, ← hmo, mg_new]
    exact ⟨rfl, vx.cells, T, alloc_new, (cellsV_r h1 hx).1.step S (nrs_false _)⟩
  · simp only [SVr]
    have : ogt (Γ.setO (Γ.objs ++ [Ob.box T (cellsV x)])).objs Γ.objs.length = .box T (cellsV x) := by
      show ogt (Γ.objs ++ _) _ = _; rw [ogt_append, if_neg (by omega), if_pos rfl]
    rw [this]
    refine ⟨by show _ < (Γ.objs ++ _).length; simp, rfl, ?_⟩
    rw [← hmo, mg_new]

include hti in
theorem zero_cells {e : TypeId} {t : Ty} (he : (ti e).ok = true) (ht : (ti e).ty = some t) : ∃ z, (zeroValue e).run P w = .ok z w ∧ z.cells.toList = t.zv ∧ z.cells.size = t.size ∧ (ti e).sz = t.size := by
  obtain ⟨i, z, hi, hz, hzc, _⟩ := (hti e he).zero
  obtain ⟨h1, h2⟩ := (hti e he).ty t ht
  have hl : t.zv.length = t.size := (zv_rep (w := w) (Z := fun _ => False) t 0).len
  refine ⟨z, by simp [zeroValue, typeInfo, hi, hz], hzc.trans h1, ?_, h2⟩
  rw [← Array.length_toList, hzc, h1, hl]

/-- n zero values in a row: the i-th lies at its place. -/
theorem zeros_at {z : Array Value} {n s i j : Nat} (hz : z.size = s) (hi : i < n) (hj : j < s) :
    ((Array.range (n * s)).map fun k => z[k % s]!)[i * s + j]? = z[j]? := by
  have hlt : i * s + j < n * s := by
    have : (i + 1) * s ≤ n * s := Nat.mul_le_mul_right _ hi
    rw [Nat.add_mul] at this; omega
  simp only [Array.getElem?_map, Array.getElem?_range, if_pos hlt, Option.map_some]
  have : (i * s + j) % s = j := by rw [Nat.add_comm, Nat.add_mul_mod_self_right, Nat.mod_eq_of_lt hj]
  rw [this, getElem!_pos z j (by omega), getElem?_pos z j (by omega)]

end
end Go.Dm

/- Slices that are laid into lists: frozen, or moved. -/
namespace Go.Dm
open Go

def isGone : Ob → Bool
  | .gone => true
  | _ => false
theorem isGone_eq {o : Ob} : isGone o = true ↔ o = .gone := by cases o <;> simp [isGone]

/-- What is left to the objects that still are. -/
def live (fpl : List (List Nat)) (os : List Ob) : List (List Nat) := (List.range os.length).map fun i => if isGone (ogt os i) then [] else fpl.getD i []

theorem live_len {fpl : List (List Nat)} {os : List Ob} : (live fpl os).length = os.length := by simp [live]

theorem live_get {fpl : List (List Nat)} {os : List Ob} {i : Nat} (h : i < os.length) : (live fpl os).getD i [] = if isGone (ogt os i) then [] else fpl.getD i [] := by
  simp [live, List.getD_eq_getElem?_getD, h]

theorem flatten_pair {fpl : List (List Nat)} (hn : fpl.flatten.Nodup) {i j b : Nat} (hi : b ∈ fpl.getD i []) (hj : b ∈ fpl.getD j []) : i = j := by
  induction fpl generalizing i j with
  | nil => simp at hi
  | cons l r ih =>
    simp only [List.flatten_cons] at hn
    have hn' := List.nodup_append.1 hn
    cases i with
    | zero => cases j with
      | zero => rfl
      | succ j =>
        exfalso
        simp only [List.getD_cons_zero, List.getD_cons_succ] at hi hj
        exact hn'.2.2 b hi b (flat_mem hj) rfl
    | succ i => cases j with
      | zero =>
        exfalso
        simp only [List.getD_cons_zero, List.getD_cons_succ] at hi hj
        exact hn'.2.2 b hj b (flat_mem hi) rfl
      | succ j =>
        simp only [List.getD_cons_succ] at hi hj
        rw [ih hn'.2.1 hi hj]

theorem getD_nodup {fpl : List (List Nat)} (hn : fpl.flatten.Nodup) (i : Nat) : (fpl.getD i []).Nodup := by
  rw [List.getD_eq_getElem?_getD]
  cases hi : fpl[i]? with
  | none => simp
  | some l => exact (List.pairwise_flatten.1 hn).1 l (List.mem_of_getElem? hi)

theorem mem_live {fpl : List (List Nat)} {os : List Ob} {b : Nat} : b ∈ (live fpl os).flatten ↔ ∃ i, i < os.length ∧ isGone (ogt os i) = false ∧ b ∈ fpl.getD i [] := by
  simp only [live, List.mem_flatten, List.mem_map, List.mem_range]
  constructor
  · rintro ⟨l, ⟨i, hi, rfl⟩, hb⟩
    split at hb
    · simp at hb
    · rename_i hg; exact ⟨i, hi, by simpa using hg, hb⟩
  · rintro ⟨i, hi, hg, hb⟩
    exact ⟨_, ⟨i, hi, rfl⟩, by rw [if_neg (by simp [hg])]; exact hb⟩

theorem live_nodup {fpl : List (List Nat)} {os : List Ob} (hn : fpl.flatten.Nodup) : (live fpl os).flatten.Nodup := by
  refine List.pairwise_flatten.2 ⟨fun l hl => ?_, ?_⟩
  · simp only [live, List.mem_map, List.mem_range] at hl
    obtain ⟨i, _, rfl⟩ := hl
    split
    · exact List.Pairwise.nil
    · exact getD_nodup hn i
  · refine List.pairwise_map.2 (List.Pairwise.imp_of_mem (fun {i j} _ _ hij => ?_) (List.nodup_range (n := os.length)))
    intro b h1 b' h2 hbb
    subst hbb
    split at h1
    · simp at h1
    · split at h2
      · simp at h2
      · exact hij (flatten_pair hn h1 h2)

section
variable {P : Program} {ti : TypeId → TI} {own : Bool} (hti : ∀ t, (ti t).ok = true → TIok P ti t)
variable {w0 : World} {O0 : List Nat} {Z0 : Nat → Prop} {m0 : List OR} {os0 : List Ob} {m : List OR} {fpl : List (List Nat)} {Γ Γ' : St} {a : Act} {w : World} {K : St → Prop} {d : Option Nat}

/-- Some objects are gone. -/
structure Less (Γ Γ' : St) : Prop where
  n : Γ'.n = Γ.n
  fix : Γ'.fix = Γ.fix
  env : Γ'.env = Γ.env
  len : Γ'.objs.length = Γ.objs.length
  ob : ∀ i, ogt Γ'.objs i = ogt Γ.objs i ∨ ogt Γ'.objs i = .gone

theorem Less.refl (Γ : St) : Less Γ Γ := ⟨rfl, rfl, rfl, rfl, fun _ => .inl rfl⟩
theorem Less.trans {A B C : St} (h : Less A B) (k : Less B C) : Less A C :=
  ⟨k.n.trans h.n, k.fix.trans h.fix, k.env.trans h.env, k.len.trans h.len, fun i => by
    rcases k.ob i with h1 | h1
    · rw [h1]; exact h.ob i
    · exact .inr h1⟩
theorem Less.drop (Γ : St) (id : Nat) : Less Γ (Γ.setO (ost Γ.objs id .gone)) :=
  ⟨rfl, rfl, rfl, ost_len, fun i => by
    by_cases hh : id = i ∧ i < Γ.objs.length
    · right; show ogt (ost Γ.objs id .gone) i = _; rw [ogt_ost, if_pos hh]
    · left; show ogt (ost Γ.objs id .gone) i = _; rw [ogt_ost, if_neg hh]⟩

theorem Less.le {A B : St} (h : Less A B) (i : Nat) : ObLe (ogt A.objs i) (ogt B.objs i) := by
  rcases h.ob i with h1 | h1
  · rw [h1]; exact ObLe.refl _
  · rw [h1]; exact ObLe.gone _

theorem Less.stp (h : SR w0 O0 Z0 m0 os0 m fpl Γ a w) (hl : Less Γ Γ') : Stp (fun _ => False) w w (Zn w0 O0 Z0 w fpl) (Zn w0 O0 Z0 w fpl) m m Γ.objs Γ'.objs where
  z := fun _ hb => hb
  zs := fun _ _ => rfl
  sh := fun _ arr _ _ hb => ⟨arr, hb, rfl⟩
  mm := fun _ _ => rfl
  len := by rw [hl.len]; exact Nat.le_refl _
  ob := fun i _ => hl.le i
  rows := fun _ _ _ _ => rfl

/-- The same world with less objects. -/
theorem SR.less (h : SR w0 O0 Z0 m0 os0 m fpl Γ a w) (hl : Less Γ Γ') : SR w0 O0 Z0 m0 os0 m fpl Γ' a w := by
  have S := hl.stp h
  refine ⟨⟨by rw [hl.len]; exact h.ob.ml, by rw [hl.len]; exact h.ob.fl, fun i hi => ?_, h.ob.nodup, h.ob.own, h.ob.keep⟩, by rw [hl.fix]; exact h.m0, by rw [hl.fix]; exact h.o0, by rw [hl.fix, hl.len]; exact h.fx,
    fun i hi => by rw [hl.fix] at hi; exact (h.le i hi).trans (hl.le i), by rw [hl.n]; exact h.tm, h.df, fun s sv hs => ?_⟩
  · rw [hl.len] at hi
    rcases hl.ob i with h1 | h1
    · exact obR.step S hi h1 (fun _ cs _ => nrs_false cs) (fun _ _ => rfl) (h.ob.ob i hi)
    · unfold obR; rw [h1]; trivial
  · rw [hl.env] at hs
    exact (h.env s sv hs).step S (nr_false sv)

/-- Where frozen values lie while objects are taken away. -/
def Zg (w0 : World) (O0 : List Nat) (Z0 : Nat → Prop) (w : World) (fpl : List (List Nat)) (Γ Γ' : St) (b : Nat) : Prop :=
  Zn w0 O0 Z0 w fpl b ∨ ∃ i, i < Γ.objs.length ∧ isGone (ogt Γ.objs i) = false ∧ isGone (ogt Γ'.objs i) = true ∧ b ∈ fpl.getD i []

theorem Zg.mono {A B C : St} (h : Less B C) {b : Nat} (hb : Zg w0 O0 Z0 w fpl A B b) : Zg w0 O0 Z0 w fpl A C b := by
  rcases hb with hb | ⟨i, h1, h2, h3, h4⟩
  · exact .inl hb
  · refine .inr ⟨i, h1, h2, ?_, h4⟩
    rcases h.ob i with h5 | h5
    · rw [h5]; exact h3
    · rw [h5]; rfl
theorem Zg.mono' {A B C : St} (h : Less A B) {b : Nat} (hb : Zg w0 O0 Z0 w fpl B C b) : Zg w0 O0 Z0 w fpl A C b := by
  rcases hb with hb | ⟨i, h1, h2, h3, h4⟩
  · exact .inl hb
  · refine .inr ⟨i, by rw [← h.len]; exact h1, ?_, h3, h4⟩
    rcases h.ob i with h5 | h5
    · rw [← h5]; exact h2
    · rw [h5] at h2; simp [isGone] at h2

/-- A slice's value, once it is frozen. -/
theorem frz_good (h : SR w0 O0 Z0 m0 os0 m fpl Γ a w) {x : SV} {vx : Value} (hx : SVr w (Zn w0 O0 Z0 w fpl) m Γ.objs x vx) :
    Less Γ (frz (sC P ti own) Γ x).2 ∧ SVr w (Zg w0 O0 Z0 w fpl Γ (frz (sC P ti own) Γ x).2) m Γ.objs (frz (sC P ti own) Γ x).1 vx := by
  have hz : ∀ Γ2 : St, Stp (fun _ => False) w w (Zn w0 O0 Z0 w fpl) (Zg w0 O0 Z0 w fpl Γ Γ2) m m Γ.objs Γ.objs := fun _ =>
    ⟨fun _ hb => .inl hb, fun _ _ => rfl, fun _ arr _ _ hb => ⟨arr, hb, rfl⟩, fun _ _ => rfl, Nat.le_refl _, fun _ _ => ObLe.refl _, fun _ _ _ _ => rfl⟩
  unfold frz
  split
  · rename_i id off len
    refine ⟨Less.drop Γ id, ?_⟩
    show SVr w _ m Γ.objs (snap (sC P ti own) Γ (.view id off len)) vx
    unfold snap
    split <;> rename_i heq <;> try cases heq
    · split
      · rename_i t e xs hq
        have hq' := hq
        unfold seq at hq'
        simp only at hq'
        split at hq'
        · rename_i t' e' dd xs' ho
          simp only [SVr] at hx
          obtain ⟨hid, h1c, hx⟩ := hx
          rw [ho] at hx
          obtain ⟨cap, b', o', rfl, h0, h1, h2, arr, e1, h3, h4⟩ := hx
          have hb := h.ob.ob id hid
          unfold obR at hb
          rw [ho] at hb
          obtain ⟨arr', e2, fps, h5, h6, h7, h8, h9⟩ := hb
          simp only [Option.some.injEq] at hq'
          cases hq'
          have hlen : ((sC P ti own).w.ext xs' off len).length = len := by
            show ((xs'.drop off).take len).length = len
            simp; omega
          have hzg : ∀ b ∈ fpl.getD id [], Zg w0 O0 Z0 w fpl Γ (Γ.setO (ost Γ.objs id .gone)) b := by
            intro b hb
            refine .inr ⟨id, hid, by rw [ho]; rfl, ?_, hb⟩
            show isGone (ogt (ost Γ.objs id .gone) id) = true
            rw [ogt_ost, if_pos ⟨rfl, hid⟩]; rfl
          refine ⟨rfl, _, cap, by rw [hlen], by rw [hlen]; exact h1, ?_⟩
          by_cases hl0 : len = 0
          · left
            exact List.length_eq_zero_iff.1 (hlen.trans hl0)
          · right
            obtain ⟨rfl, rfl⟩ := h0 (by omega)
            refine ⟨_, _, rfl, hzg _ (by rw [h8]; simp), fun i hi => ?_⟩
            rw [hlen] at hi
            rcases h9 (off + i) (by omega) with ⟨h10, _⟩ | ⟨_, ces, h11, h12⟩
            · cases h10
            · refine ⟨ces, by rw [Nat.add_mul, ← Nat.add_assoc] at h11; exact h11, ?_⟩
              have hx : ((sC P ti own).w.ext xs' off len)[i]'(by rw [hlen]; exact hi) = xs'[off + i]'(by omega) := ext_getElem _ _
              rw [hx]
              exact h12.freeze (fun b hb => .inl hb) (fun b hb => hzg b (by rw [h8]; simp only [List.mem_cons]; exact .inr (flat_mem hb)))
        · cases hq'
      · trivial
    · rename_i hne
      exact absurd rfl (hne id off len)
  · exact ⟨Less.refl Γ, hx.step (hz Γ) (nr_false x)⟩


theorem dt_sub (fps : List (List Nat)) (off len : Nat) : ((fps.drop off).take len).flatten.Sublist fps.flatten := by
  have h1 : fps.flatten = (fps.take off).flatten ++ (((fps.drop off).take len).flatten ++ ((fps.drop off).drop len).flatten) := by
    rw [← List.flatten_append, ← List.flatten_append, List.take_append_drop, List.take_append_drop]
  rw [h1]
  exact (List.sublist_append_left _ _).trans (List.sublist_append_right _ _)

/-- Blocks that are moved out of objects that are gone now. -/
structure Mv (fpl : List (List Nat)) (Γ Γ' : St) (mv : List Nat) : Prop where
  nodup : mv.Nodup
  mem : ∀ b ∈ mv, ∃ i, i < Γ.objs.length ∧ isGone (ogt Γ.objs i) = false ∧ isGone (ogt Γ'.objs i) = true ∧ b ∈ fpl.getD i []

theorem Mv.nil (fpl : List (List Nat)) (Γ Γ' : St) : Mv fpl Γ Γ' [] := ⟨List.nodup_nil, by simp⟩

theorem Mv.append {A B C : St} {m1 m2 : List Nat} (hn : fpl.flatten.Nodup) (h1 : Mv fpl A B m1) (h2 : Mv fpl B C m2) (hab : Less A B) (hbc : Less B C) : Mv fpl A C (m1 ++ m2) := by
  refine ⟨List.nodup_append.2 ⟨h1.nodup, h2.nodup, fun x hx y hy hxy => ?_⟩, fun b hb => ?_⟩
  · subst hxy
    obtain ⟨i, _, _, hg, hi⟩ := h1.mem x hx
    obtain ⟨j, _, hl, _, hj⟩ := h2.mem x hy
    have := flatten_pair hn hi hj
    subst this
    rw [hg] at hl; cases hl
  · rcases List.mem_append.1 hb with hb | hb
    · obtain ⟨i, h3, h4, h5, h6⟩ := h1.mem b hb
      refine ⟨i, h3, h4, ?_, h6⟩
      rcases hbc.ob i with h7 | h7
      · rw [h7]; exact h5
      · rw [h7]; rfl
    · obtain ⟨i, h3, h4, h5, h6⟩ := h2.mem b hb
      refine ⟨i, by rw [← hab.len]; exact h3, ?_, h5, h6⟩
      rcases hab.ob i with h7 | h7
      · rw [← h7]; exact h4
      · rw [h7] at h4; simp [isGone] at h4

/-- What is moved, beside what is left. -/
theorem Mv.alloc {mv : List Nat} (h : SR w0 O0 Z0 m0 os0 m fpl Γ a w) (hl : Less Γ Γ') (hm : Mv fpl Γ Γ' mv) :
    ((live fpl Γ'.objs).flatten ++ mv).Nodup ∧ ∀ b ∈ (live fpl Γ'.objs).flatten ++ mv, b ∈ fpl.flatten := by
  refine ⟨List.nodup_append.2 ⟨live_nodup h.ob.nodup, hm.nodup, fun x hx y hy hxy => ?_⟩, fun b hb => ?_⟩
  · subst hxy
    obtain ⟨i, _, hg, hi⟩ := mem_live.1 hx
    obtain ⟨j, _, _, hg', hj⟩ := hm.mem x hy
    have := flatten_pair h.ob.nodup hi hj
    subst this
    rw [hg'] at hg; cases hg
  · rcases List.mem_append.1 hb with hb | hb
    · obtain ⟨i, _, _, hi⟩ := mem_live.1 hb; exact flat_mem hi
    · obtain ⟨j, _, _, _, hj⟩ := hm.mem b hb; exact flat_mem hj

/-- A slice that is moved. -/
theorem mov_good (h : SR w0 O0 Z0 m0 os0 m fpl Γ a w) {e : TypeId} {t : Ty} {dd : Nat} {x : SV} {vx : Value} {xs : List t.T} (hm : mov (sC P ti own) Γ e t dd x = some (xs, Γ'))
    (hx : SVr w (Zn w0 O0 Z0 w fpl) m Γ.objs x vx) :
    Less Γ Γ' ∧ ∃ mv, Mv fpl Γ Γ' mv ∧ Rep w (Zn w0 O0 Z0 w fpl) (.sl e t) (dd + 1) xs [vx] mv ∧ vx.oneCell' = true := by
  unfold mov at hm
  split at hm
  · cases hm
    simp only [SVr] at hx
    subst hx
    exact ⟨Less.refl _, [], Mv.nil _ _ _, .inl ⟨rfl, rfl, none, rfl⟩, rfl⟩
  · rename_i id off len
    simp only [SVr] at hx
    obtain ⟨hid, h1c, hx⟩ := hx
    split at hm
    · rename_i t' e' d' xs' ho
      rw [ho] at hx
      split at hm
      · rename_i he
        obtain ⟨rfl, rfl⟩ := he
        split at hm
        · rename_i ys hy
          obtain ⟨rfl, hh⟩ := cast_eq hy
          cases hh
          cases hm
          refine ⟨Less.drop Γ id, ?_⟩
          obtain ⟨cap, b', o', rfl, h0, h1, h2, arr, e1, h3, h4⟩ := hx
          have hb := h.ob.ob id hid
          unfold obR at hb
          rw [ho] at hb
          obtain ⟨arr', e2, fps, h5, h6, h7, h8, h9⟩ := hb
          have hlen : ((sC P ti own).w.ext xs' off len).length = len := by
            show ((xs'.drop off).take len).length = len
            simp; omega
          by_cases hc0 : cap = 0
          · subst hc0
            have hl0 : len = 0 := by omega
            subst hl0
            refine ⟨[], Mv.nil _ _ _, .inl ⟨List.length_eq_zero_iff.1 hlen, rfl, _, rfl⟩, h1c⟩
          · obtain ⟨rfl, rfl⟩ := h0 hc0
            have hsub : ((fps.drop off).take len).flatten.Sublist fps.flatten := by
              exact dt_sub fps off len
            refine ⟨(mg m id).b :: ((fps.drop off).take len).flatten, ⟨?_, ?_⟩, .inr ⟨_, _, cap, (fps.drop off).take len, by rw [hlen], by rw [hlen]; exact h1, rfl, ?_, ⟨arr, e1, h3, ?_⟩, ?_⟩, h1c⟩
            · have hnd := getD_nodup h.ob.nodup id
              rw [h8] at hnd
              exact List.Nodup.sublist (List.Sublist.cons_cons _ hsub) hnd
            · intro b hb
              refine ⟨id, hid, by rw [ho]; rfl, ?_, ?_⟩
              · show isGone (ogt (ost Γ.objs id .gone) id) = true
                rw [ogt_ost, if_pos ⟨rfl, hid⟩]; rfl
              · rw [h8]
                rcases List.mem_cons.1 hb with hb | hb
                · subst hb; simp
                · exact List.mem_cons_of_mem _ (hsub.subset hb)
            · rw [hlen]
              simp; omega
            · rwa [Nat.add_mul, ← Nat.add_assoc] at h4
            · intro i hi
              rw [hlen] at hi
              rcases h9 (off + i) (by omega) with ⟨h10, _⟩ | ⟨_, ces, h11, h12⟩
              · cases h10
              · refine ⟨ces, by rw [Nat.add_mul, ← Nat.add_assoc] at h11; exact h11, ?_⟩
                have hx : ((sC P ti own).w.ext xs' off len)[i]'(by rw [hlen]; exact hi) = xs'[off + i]'(by omega) := ext_getElem _ _
                rw [hx]
                have hf : ((fps.drop off).take len).getD i [] = fps.getD (off + i) [] := by
                  simp only [List.getD_eq_getElem?_getD, List.getElem?_take, if_pos hi, List.getElem?_drop]
                rw [hf]
                exact h12
        · cases hm
      · cases hm
    · cases hm
  · cases hm

end
end Go.Dm

/- Elements; lists that are built, made, written. -/
namespace Go.Dm
open Go

def rowsOwn : Ty → Nat → Bool
  | .sl _ _, _ + 1 => true
  | _, _ => false

section
variable {P : Program} {ti : TypeId → TI} {own : Bool} (hti : ∀ t, (ti t).ok = true → TIok P ti t)
variable {w0 : World} {O0 : List Nat} {Z0 : Nat → Prop} {m0 : List OR} {os0 : List Ob} {m : List OR} {fpl : List (List Nat)} {Γ Γ' : St} {a : Act} {w : World} {K : St → Prop} {d : Option Nat}

/-- Where what is frozen in new elements lies. -/
def ZE (w0 : World) (O0 : List Nat) (Z0 : Nat → Prop) (w : World) (fpl : List (List Nat)) (t : Ty) (dd : Nat) (Γ Γ' : St) (b : Nat) : Prop :=
  Zn w0 O0 Z0 w fpl b ∨ (rowsOwn t dd = false ∧ Zg w0 O0 Z0 w fpl Γ Γ' b)

theorem elt_good (h : SR w0 O0 Z0 m0 os0 m fpl Γ a w) {t : Ty} {dd : Nat} {x : SV} {vx : Value} {y : t.T} (he : elt (sC P ti own) Γ t dd x = some (y, Γ'))
    (hx : SVr w (Zn w0 O0 Z0 w fpl) m Γ.objs x vx) :
    Less Γ Γ' ∧ ∃ mv, Mv fpl Γ Γ' mv ∧ (rowsOwn t dd = false → mv = []) ∧ Rep w (ZE w0 O0 Z0 w fpl t dd Γ Γ') t dd y vx.cells.toList mv ∧ ∀ u ∈ vx.cells.toList, u.oneCell' = true := by
  have key : ∀ (hf : t.flat = true ∨ dd = 0), (match ofV t (frz (sC P ti own) Γ x).1 with | some x' => some (x', (frz (sC P ti own) Γ x).2) | none => none) = some (y, Γ') →
      Less Γ Γ' ∧ ∃ mv, Mv fpl Γ Γ' mv ∧ (rowsOwn t dd = false → mv = []) ∧ Rep w (ZE w0 O0 Z0 w fpl t dd Γ Γ') t dd y vx.cells.toList mv ∧ ∀ u ∈ vx.cells.toList, u.oneCell' = true := by
    intro hf he
    obtain ⟨h1, h2⟩ := frz_good (ti := ti) (P := P) (own := own) h hx
    split at he
    · rename_i x' hx'
      cases he
      obtain ⟨h3, h4⟩ := ofV_rep hx' h2
      refine ⟨h1, [], Mv.nil _ _ _, fun _ => rfl, ?_, h4⟩
      have hro : rowsOwn t dd = false := by
        rcases hf with hf | hf
        · cases t <;> simp_all [rowsOwn, Ty.flat]
        · subst hf; cases t <;> rfl
      rcases hf with hf | rfl
      · exact h3.flat_any hf
      · exact h3.freeze (fun b hb => .inr ⟨hro, hb⟩) (by simp)
    · cases he
  unfold elt at he
  split at he
  · rename_i e t' d'
    obtain ⟨h1, mv, h2, h3, h4⟩ := mov_good h he hx
    refine ⟨h1, mv, h2, fun hc => by simp [rowsOwn] at hc, ?_, ?_⟩
    · rw [one_cells h4]
      exact h3.mono (fun b hb => .inl hb) (fun _ _ => rfl) (fun _ _ => rfl)
    · rw [one_cells h4]; simpa using h4
  · split at he
    · rename_i hf
      exact key hf he
    · cases he

theorem ZE.mono {t : Ty} {dd : Nat} {A B C : St} (h : Less B C) {b : Nat} (hb : ZE w0 O0 Z0 w fpl t dd A B b) : ZE w0 O0 Z0 w fpl t dd A C b := by
  rcases hb with hb | ⟨h1, h2⟩
  · exact .inl hb
  · exact .inr ⟨h1, h2.mono h⟩
theorem ZE.mono' {t : Ty} {dd : Nat} {A B C : St} (h : Less A B) {b : Nat} (hb : ZE w0 O0 Z0 w fpl t dd B C b) : ZE w0 O0 Z0 w fpl t dd A C b := by
  rcases hb with hb | ⟨h1, h2⟩
  · exact .inl hb
  · exact .inr ⟨h1, h2.mono' h⟩

theorem SVr.less {A B : St} {x : SV} {v : Value} (h : SR w0 O0 Z0 m0 os0 m fpl A a w) (hl : Less A B) (hx : SVr w (Zn w0 O0 Z0 w fpl) m A.objs x v) : SVr w (Zn w0 O0 Z0 w fpl) m B.objs x v :=
  hx.step (hl.stp h) (nr_false x)

/-- Elements, one behind the other. -/
theorem elts_good {t : Ty} {dd : Nat} : ∀ {parts : List (Nat × SV)} {Γ Γ' : St} {k : Nat} {ys : List t.T} {vs : List Value}, SR w0 O0 Z0 m0 os0 m fpl Γ a w →
    elts (sC P ti own) t dd Γ k parts = some (ys, Γ') → vs.length = parts.length → (∀ i (h1 : i < parts.length) (h2 : i < vs.length), SVr w (Zn w0 O0 Z0 w fpl) m Γ.objs (parts[i]).2 vs[i]) →
    Less Γ Γ' ∧ ys.length = parts.length ∧ (∀ i (h1 : i < parts.length), (parts[i]).1 = k + i) ∧ ∃ mvs : List (List Nat), mvs.length = ys.length ∧ Mv fpl Γ Γ' mvs.flatten ∧ (rowsOwn t dd = false → mvs.flatten = []) ∧
      ∀ i (h1 : i < ys.length) (h2 : i < vs.length), Rep w (ZE w0 O0 Z0 w fpl t dd Γ Γ') t dd ys[i] (vs[i]).cells.toList (mvs.getD i []) ∧ ∀ u ∈ (vs[i]).cells.toList, u.oneCell' = true
  | [], Γ, Γ', k, ys, vs, h, he, hl, hv => by
    simp only [elts, Option.some.injEq, Prod.mk.injEq] at he
    obtain ⟨rfl, rfl⟩ := he
    exact ⟨Less.refl _, rfl, by simp, [], rfl, Mv.nil _ _ _, fun _ => rfl, by simp⟩
  | (i0, x) :: r, Γ, Γ', k, ys, vs, h, he, hl, hv => by
    cases vs with
    | nil => simp at hl
    | cons v vs =>
      simp only [elts] at he
      split at he
      · rename_i hik
        split at he
        · rename_i y Γ1 h1
          split at he
          · rename_i ys1 Γ2 h2
            cases he
            have hv0 := hv 0 (by simp) (by simp)
            obtain ⟨l1, mv, h3, h4, h5, h6⟩ := elt_good h h1 hv0
            have hs1 := h.less l1
            obtain ⟨l2, h7, h8, mvs, h9, h10, h11, h12⟩ := elts_good (vs := vs) hs1 h2 (by simpa using hl) (fun i h13 h14 => (hv (i + 1) (by simpa using h13) (by simpa using h14)).less h l1)
            refine ⟨l1.trans l2, by simp [h7], ?_, mv :: mvs, by simp [h9], ?_, ?_, ?_⟩
            · intro i hi
              cases i with
              | zero => simpa using hik
              | succ i => have := h8 i (by simpa using hi); simp only [List.getElem_cons_succ]; omega
            · rw [List.flatten_cons]; exact Mv.append h.ob.nodup h3 h10 l1 l2
            · intro hr; rw [List.flatten_cons, h4 hr, h11 hr]; rfl
            · intro i h13 h14
              cases i with
              | zero => exact ⟨h5.mono (fun b hb => hb.mono l2) (fun _ _ => rfl) (fun _ _ => rfl), h6⟩
              | succ i =>
                obtain ⟨h15, h16⟩ := h12 i (by simpa using h13) (by simpa using h14)
                exact ⟨h15.mono (fun b hb => hb.mono' l1) (fun _ _ => rfl) (fun _ _ => rfl), h16⟩
          · cases he
        · cases he
      · cases he

theorem foldl_set : ∀ (cs : List Value) (off k : Nat) (arr : Array Value), off + k + cs.length ≤ arr.size →
    ((cs.zipIdx k).foldl (fun (acc : Array Value) (p : Value × Nat) => acc.setIfInBounds (off + p.2) p.1) arr).size = arr.size ∧
    ∀ p, ((cs.zipIdx k).foldl (fun (acc : Array Value) (p : Value × Nat) => acc.setIfInBounds (off + p.2) p.1) arr)[p]? =
      if off + k ≤ p ∧ p < off + k + cs.length then cs[p - (off + k)]? else arr[p]?
  | [], off, k, arr, _ => by simp; intros; omega
  | c :: cs, off, k, arr, h => by
    simp only [List.zipIdx_cons, List.foldl_cons, List.length_cons] at h ⊢
    obtain ⟨h1, h2⟩ := foldl_set cs off (k + 1) (arr.setIfInBounds (off + k) c) (by simp; omega)
    refine ⟨by rw [h1]; simp, fun p => ?_⟩
    rw [h2, Array.getElem?_setIfInBounds]
    by_cases h3 : p = off + k
    · subst h3
      rw [if_neg (by omega), if_pos rfl, if_pos (by omega), if_pos (by omega)]; simp
    · by_cases h4 : off + (k + 1) ≤ p ∧ p < off + (k + 1) + cs.length
      · rw [if_pos h4, if_pos (by omega)]
        rw [show p - (off + k) = (p - (off + (k + 1))) + 1 by omega, List.getElem?_cons_succ]
      · rw [if_neg h4, if_neg (by omega), if_neg (by omega)]

theorem fill_seq (s n : Nat) : ∀ (vs : List Value) (ps : List (Nat × Value)) (k : Nat) (arr : Array Value), arr.size = n * s → k + vs.length ≤ n → (∀ v ∈ vs, v.cells.size = s) →
    ps.length = vs.length → (∀ i (h1 : i < ps.length) (h2 : i < vs.length), ps[i] = (k + i, vs[i])) →
    ∃ arr', Instr.fill (fun i => some (i * s, s)) arr ps = some arr' ∧ arr'.size = n * s ∧ (∀ p, p < k * s → arr'[p]? = arr[p]?) ∧
      ∀ i (h : i < vs.length) j, j < s → arr'[(k + i) * s + j]? = (vs[i]).cells[j]?
  | [], ps, k, arr, h1, _, _, hl, _ => by
    cases ps with
    | nil => exact ⟨arr, rfl, h1, fun _ _ => rfl, by simp⟩
    | cons => simp at hl
  | v :: vs, ps, k, arr, h1, h2, h3, hl, h4 => by
    cases ps with
    | nil => simp at hl
    | cons p ps =>
      have hp := h4 0 (by simp) (by simp)
      simp only [List.getElem_cons_zero, Nat.add_zero] at hp
      subst hp
      have hv := h3 v (by simp)
      have hle : k * s + s ≤ n * s := by
        have : (k + 1) * s ≤ n * s := Nat.mul_le_mul_right _ (by simp at h2; omega)
        rwa [Nat.add_mul, Nat.one_mul] at this
      have hbase := foldl_set v.cells.toList (k * s) 0 arr (by simp [hv]; omega)
      have heq : v.cells.zipIdx.foldl (fun cs x => match x with | (c, j) => cs.setIfInBounds (k * s + j) c) arr =
          (v.cells.toList.zipIdx 0).foldl (fun (acc : Array Value) (p : Value × Nat) => acc.setIfInBounds (k * s + p.2) p.1) arr := by
        rw [← Array.foldl_toList, Array.toList_zipIdx]
      obtain ⟨arr', h5, h6, h7, h8⟩ := fill_seq s n vs ps (k + 1) ((v.cells.toList.zipIdx 0).foldl (fun (acc : Array Value) (p : Value × Nat) => acc.setIfInBounds (k * s + p.2) p.1) arr)
        (by rw [hbase.1]; exact h1) (by simp at h2; omega) (fun u hu => h3 u (by simp [hu])) (by simpa using hl)
        (fun i h9 h10 => by have := h4 (i + 1) (by simpa using h9) (by simpa using h10); simp only [List.getElem_cons_succ] at this; rw [this]; simp; omega)
      refine ⟨arr', ?_, h6, ?_, ?_⟩
      · simp only [Instr.fill]
        rw [if_neg (by simp [h1, hv]; omega), heq]
        exact h5
      · intro p hp
        rw [h7 p (by rw [Nat.add_mul]; omega), hbase.2, if_neg (by omega)]
      · intro i hi j hj
        cases i with
        | zero =>
          rw [h7 _ (by rw [Nat.add_zero, Nat.add_mul]; omega), hbase.2, if_pos (by simp [hv]; omega)]
          simp
        | succ i =>
          have := h8 i (by simpa using hi) j hj
          rw [show k + (i + 1) = k + 1 + i by omega]
          simpa using this


/-- A list in a new block. -/
theorem new_lst (h : SR w0 O0 Z0 m0 os0 m fpl Γ a w) (hd : ∀ k, d = some k → k < Γ.n) (hl : Less Γ Γ') {mvs : List (List Nat)} {arr : Array Value} {e e' : TypeId} {t : Ty} {dd : Nat} {ys : List t.T} {cap : Nat}
    (hmv : Mv fpl Γ Γ' mvs.flatten) (hro : rowsOwn t dd = false → mvs.flatten = []) (hml : mvs.length = ys.length) (hsz : ys.length * t.size ≤ arr.size)
    (hels : ∀ i (h1 : i < ys.length), ∃ ces : List Value, (∀ j v, ces[j]? = some v → arr[i * t.size + j]? = some v) ∧ Rep w (ZE w0 O0 Z0 w fpl t dd Γ Γ') t dd ys[i] ces (mvs.getD i []))
    (hcap : cap * t.size ≤ arr.size) (hcl : ys.length ≤ cap) {len : Nat} (hlen : len = ys.length) :
    StR w0 O0 Z0 m0 os0 ((Γ'.setO (Γ'.objs ++ [.lst t e dd ys none])).put d (.view Γ'.objs.length 0 len)) (a.put d (.slice (some ⟨w.heap.size, 0, none⟩) len cap)) (w.alloc (.cells arr e')) := by
  subst hlen
  have h' := h.less hl
  have hmo := h'.ob.ml
  obtain ⟨hnd, hsub⟩ := Mv.alloc h hl hmv
  refine ⟨_, _, ((SR.alloc h' arr e' (.lst t e dd ys none) mvs.flatten (live fpl Γ'.objs) live_len (fun i hi => ?_) hnd hsub ?_).put (by rw [show (Γ'.setO (Γ'.objs ++ [Ob.lst t e dd ys none])).n = Γ'.n from rfl, hl.n]; exact hd) ?_)⟩
  · rw [live_get hi]
    cases hg : isGone (ogt Γ'.objs i) with
    | true => exact .inl (isGone_eq.1 hg)
    | false => exact .inr rfl
  · intro Z' hz1 hz2 S
    unfold obR
    rw [ogt_append, if_neg (by omega), if_pos rfl, ← hmo, mg_new]
    refine ⟨arr, e', mvs, alloc_new, by simpa using hsz, hml, rfl, fun j hj => .inr ⟨by simp, ?_⟩⟩
    obtain ⟨ces, h1, h2⟩ := hels j hj
    refine ⟨ces, fun i v hi => ?_, ?_⟩
    · rw [Nat.zero_add, cell_of alloc_new]; exact h1 i v hi
    · refine h2.mono (fun b hb => ?_) (fun b hb => ?_) (fun b hb => ?_)
      · rcases hb with hb | ⟨hr, hb | ⟨i, h3, h4, h5, h6⟩⟩
        · exact hz1 b hb
        · exact hz1 b hb
        · refine hz2 b (flat_mem h6) (fun hm => ?_) (by rw [hro hr]; simp) ?_
          · obtain ⟨i', _, hg, h7⟩ := mem_live.1 hm
            have := flatten_pair h.ob.nodup h6 h7
            subst this
            rw [h5] at hg; cases hg
          · rcases (h.ob.own b (flat_mem h6)).2 with h7 | h7
            · exact .inl h7
            · exact .inr h7
      · have hlt : b < w.heap.size := by
          rcases hb with hb | ⟨_, hb | ⟨i, _, _, _, h6⟩⟩
          · exact hb.2.1
          · exact hb.2.1
          · exact (h.ob.own b (flat_mem h6)).1
        rw [push_heap, if_pos hlt]
      · have hm : b ∈ mvs.flatten := flat_mem hb
        rw [push_heap, if_pos (h.ob.own b (hsub b (by simp [hm]))).1]
  · simp only [SVr]
    have : ogt (Γ'.setO (Γ'.objs ++ [Ob.lst t e dd ys none])).objs Γ'.objs.length = .lst t e dd ys none := by
      show ogt (Γ'.objs ++ _) _ = _; rw [ogt_append, if_neg (by omega), if_pos rfl]
    rw [this]
    refine ⟨by show _ < (Γ'.objs ++ _).length; simp, rfl, cap, w.heap.size, 0, rfl, fun _ => ?_, hcl, by omega, arr, e', ?_, ?_⟩
    · rw [← hmo, mg_new]; simp
    · rw [← hmo, mg_new]; exact alloc_new
    · rw [← hmo, mg_new]; simpa using hcap

include hti in
theorem opMake_good (h : SR w0 O0 Z0 m0 os0 m fpl Γ a w) (hd : ∀ k, d = some k → k < Γ.n) {T : TypeId} {l c : SV} {vl vc : Value} (hT : (ti T).ok = true) (hs : opMake (sC P ti own) Γ d T l c K)
    (hl : SVr w (Zn w0 O0 Z0 w fpl) m Γ.objs l vl) (hc : SVr w (Zn w0 O0 Z0 w fpl) m Γ.objs c vc) : Good w0 O0 Z0 m0 os0 K d a ((Instr.makeSlice T vl vc).run P w) := by
  unfold opMake at hs
  split at hs
  · rename_i e l c hsl
    simp only [SVr] at hl hc
    subst hl; subst hc
    obtain ⟨hu, he⟩ := (hti T hT).sl e hsl
    split at hs
    · rename_i t ht
      obtain ⟨h0, h1, h2, h3, h4, h5⟩ := hs
      have h0' : inRange .i64 l := h0
      have h1' : 0 ≤ l := h1
      have h2' : l.toNat = c.toNat := h2
      have h3' : 0 ≤ c := h3
      have h4' : l.toNat * (ti e).bytes ≤ 140737488355328 := h4.2
      have hlc : l = c := by omega
      subst hlc
      obtain ⟨i, hi, hb⟩ := Option.map_eq_some_iff.1 (hti e he).bytes
      obtain ⟨z, hz1, hz2, hz3, hz4⟩ := zero_cells (P := P) (w := w) hti he ht
      have hbl : ((ti e).bytes : Int) * l ≤ 140737488355328 := by
        have hq : ((l.toNat * (ti e).bytes : Nat) : Int) = ((ti e).bytes : Int) * l := by rw [Int.natCast_mul, Int.toNat_of_nonneg h1', Int.mul_comm]
        omega
      have hnl : ¬ (ti e).bytes * l > 281474976710656 := by omega
      have hask : ∀ n, (askRoom n).run P w = .ok () w := by intro n; unfold askRoom; split <;> rfl
      have hrun : (Instr.makeSlice T (.int .i64 l) (.int .i64 l)).run P w = .ok (.slice (some ⟨w.heap.size, 0, none⟩) l.toNat l.toNat)
          (w.alloc (.cells ((Array.range (l.toNat * t.size)).map fun k => z.cells[k % t.size]!) e)) := by
        have hsz : (sizeOf e).run P w = .ok t.size w := by rw [run_sizeOf_ti hti he, hz4]
        simp only [Instr.makeSlice, Sem.run_bind, run_underlying hu, Result.andThen_ok, asInt, asIntOf, Sem.run_pure, typeInfo, run_program, hi, wrap_inRange h0', hb]
        have hl0 : ¬ l < 0 := by omega
        by_cases hn : l.toNat * t.size = 0
        · simp [hn, newRow, hnl, hl0, hask, hsz, show Array.range 0 = #[] from rfl]
        · simp [hn, hz1, newRow, hz3, hnl, hl0, hask, hsz]
      refine ⟨_, _, _, hrun, h5, ?_⟩
      have harr : ((Array.range (l.toNat * t.size)).map fun k => z.cells[k % t.size]!).size = l.toNat * t.size := by simp
      refine new_lst h hd (Less.refl Γ) (mvs := List.replicate l.toNat []) (by simp; exact Mv.nil _ _ _) (fun _ => by simp) (by simp [stdW]) ?_ ?_ ?_ ?_ ?_
      · show (List.replicate l.toNat t.dflt).length * t.size ≤ _
        rw [List.length_replicate, harr]; exact Nat.le_refl _
      · intro j hj
        have hj' : j < l.toNat := by simpa [stdW] using hj
        refine ⟨t.zv, fun k v hk => ?_, ?_⟩
        · have hkl : k < t.size := by
            have := (List.getElem?_eq_some_iff.1 hk).1
            rwa [(zv_rep (w := w) (Z := fun _ => False) t 0).len] at this
          rw [zeros_at hz3 hj' hkl, ← Array.getElem?_toList, hz2]
          exact hk
        · have : (List.replicate l.toNat ([] : List Nat)).getD j [] = [] := by simp [List.getD_eq_getElem?_getD, hj']
          rw [this]
          have h6 : (((sC P ti own).w.rep ((sC P ti own).w.nat l) t.dflt))[j] = t.dflt := by
            exact List.getElem_replicate _
          rw [h6]
          exact zv_rep t _
      · rw [harr]; exact Nat.le_refl _
      · show (List.replicate l.toNat t.dflt).length ≤ _
        simp
      · show l.toNat = (List.replicate l.toNat t.dflt).length
        simp
    · exact hs.elim
  · exact hs.elim

end
end Go.Dm

/- Literals; stores. -/
namespace Go.Dm
open Go

section
variable {P : Program} {ti : TypeId → TI} {own : Bool} (hti : ∀ t, (ti t).ok = true → TIok P ti t)
variable {w0 : World} {O0 : List Nat} {Z0 : Nat → Prop} {m0 : List OR} {os0 : List Ob} {m : List OR} {fpl : List (List Nat)} {Γ Γ' : St} {a : Act} {w : World} {K : St → Prop} {d : Option Nat}

include hti in
theorem opBuildSlice_good (h : SR w0 O0 Z0 m0 os0 m fpl Γ a w) (hd : ∀ k, d = some k → k < Γ.n) {T : TypeId} {n : Nat} {ps : List (Nat × Operand)} (hT : (ti T).ok = true)
    (hs : opBuildSlice (sC P ti own) Γ d T n (ps.map fun p => (p.1, rd Γ p.2)) K) :
    Good w0 O0 Z0 m0 os0 K d a ((Instr.buildSlice T n (ps.map fun p => (p.1, a.eval p.2)).toArray).run P w) := by
  unfold opBuildSlice at hs
  split at hs
  · rename_i e hsl
    obtain ⟨hu, he⟩ := (hti T hT).sl e hsl
    split at hs
    · rename_i t ht
      split at hs
      · rename_i xs Γ' hel
        obtain ⟨⟨h1, h2⟩, h3⟩ := hs
        obtain ⟨z, hz1, hz2, hz3, hz4⟩ := zero_cells (P := P) (w := w) hti he ht
        have hpl : ps.length = n := by simpa using h1
        obtain ⟨hl, h4, h5, mvs, h6, h7, h8, h9⟩ := elts_good (vs := ps.map fun p => a.eval p.2) h hel (by simp) (fun i h10 h11 => by simpa using h.eval (ps[i]'(by simpa using h10)).2)
        have hxl : xs.length = n := by rw [h4]; simpa using hpl
        have hsz : ∀ v ∈ ps.map (fun p => a.eval p.2), v.cells.size = t.size := by
          intro v hv
          obtain ⟨i, hi, rfl⟩ := List.getElem_of_mem hv
          have := (h9 i (by rw [hxl]; simpa [hpl] using hi) hi).1.len
          simpa using this
        obtain ⟨arr, h10, h11, _, h12⟩ := fill_seq t.size n (ps.map fun p => a.eval p.2) (ps.map fun p => (p.1, a.eval p.2)) 0 ((Array.range (n * t.size)).map fun k => z.cells[k % z.cells.size]!)
          (by simp) (by simp [hpl]) hsz (by simp) (fun i h13 h14 => by
            have := h5 i (by simpa using h13)
            simp only [List.getElem_map] at this ⊢
            rw [this])
        have hszr : (sizeOf e).run P w = .ok t.size w := by rw [run_sizeOf_ti hti he, hz4]
        have hrun : (Instr.buildSlice T n (ps.map fun p => (p.1, a.eval p.2)).toArray).run P w = .ok (.slice (some ⟨w.heap.size, 0, none⟩) n n) (w.alloc (.cells arr e)) := by
          simp only [Instr.buildSlice, Sem.run_bind, run_underlying hu, Result.andThen_ok, hszr]
          rw [if_neg (by omega)]
          by_cases hn : n * t.size = 0
          · have h13 : (Array.range (n * t.size)).map (fun k => (#[] : Array Value)[k % 0]!) = (Array.range (n * t.size)).map (fun k => z.cells[k % z.cells.size]!) := by
              rw [hn, show Array.range 0 = #[] from rfl]; simp
            rw [hn] at h13 h10
            have h14 : Instr.fill (fun i => some (i * t.size, t.size)) (Array.map (fun k => (#[] : Array Value)[k % (#[] : Array Value).size]!) (Array.range 0)) (ps.map fun p => (p.fst, a.eval p.snd)) = some arr := by
              rw [← h10, ← h13]; rfl
            simp only [hn, if_true, Sem.run_bind, Sem.run_pure, Result.andThen_ok, h14]
            simp [newRow]
          · simp only [hn, if_false, Sem.run_bind, hz1, Result.andThen_ok, Sem.run_pure, h10]
            simp [newRow]
        refine ⟨_, _, _, hrun, h3, ?_⟩
        refine new_lst h hd hl (mvs := mvs) h7 h8 h6 (by rw [hxl, h11]; exact Nat.le_refl _) ?_ (by rw [h11]; exact Nat.le_refl _) (by omega) hxl.symm
        intro i hi
        have hi' : i < (ps.map fun p => a.eval p.2).length := by simp [hpl]; omega
        obtain ⟨h14, _⟩ := h9 i hi hi'
        refine ⟨_, fun j v hj => ?_, h14⟩
        have hjl : j < t.size := by
          have := (List.getElem?_eq_some_iff.1 hj).1
          rwa [h14.len] at this
        have := h12 i hi' j hjl
        rw [Nat.zero_add] at this
        rw [this]
        simpa using hj
      · exact hs.elim
    · exact hs.elim
  · exact hs.elim

theorem setRow_heap' (w : World) (g b : Nat) (cs : Array Value) : (w.setRow g cs).heap[b]? = if b = g then (match w.heap[g]? with | some (.cells _ t fr) => some (.cells cs t fr) | o => o) else w.heap[b]? := by
  simp only [World.setRow, Array.getElem?_modify]
  by_cases h : b = g
  · subst h
    simp only [if_true]
    cases w.heap[b]? with
    | none => rfl
    | some o => cases o <;> rfl
  · rw [if_neg (fun e => h e.symm), if_neg h]

theorem Keep.setRow {O : List Nat} {w : World} {g : Nat} {arr arr' : Array Value} {e : TypeId} {f : Nat × Nat} (hg : w.heap[g]? = some (.cells arr e f)) (hs : arr'.size = arr.size) (ho : g ∈ O) :
    Keep O w (w.setRow g arr') where
  shape := fun b ar e1 f1 hb => by
    rw [setRow_heap']
    by_cases h : b = g
    · subst h
      rw [hg] at hb; cases hb
      exact ⟨arr', by rw [if_pos rfl, hg], hs⟩
    · exact ⟨ar, by rw [if_neg h]; exact hb, rfl⟩
  os := rfl
  tape := rfl
  output := rfl
  size := by simp
  block := fun b _ hb => by
    rw [setRow_heap', if_neg]
    intro e; subst e; exact hb ho

/-- A block of an object's own is written; fpn: the object's blocks from then on. -/
theorem SR.write (h : SR w0 O0 Z0 m0 os0 m fpl Γ a w) {id : Nat} (hid : id < Γ.objs.length) (o' : Ob) {B : Nat} {arr arr' : Array Value} {e' : TypeId} (fpn : List Nat) (R : Nat → Prop)
    (hB : w.heap[B]? = some (.cells arr e' (0, 0))) (hsz : arr'.size = arr.size) (hmem : B ∈ fpl.getD id []) (hle : ObLe (ogt Γ.objs id) o')
    (hfn : fpn.Nodup) (hfs : ∀ b ∈ fpn, b ∈ fpl.getD id [] ∨ ∃ i, i < Γ.objs.length ∧ isGone (ogt Γ.objs i) = true ∧ b ∈ fpl.getD i [])
    (hR : R id ∨ B ≠ (mg m id).b ∨ ∀ t e d xs hole, o' ≠ .lst t e d xs hole) (hnr : ∀ s sv, (s, sv) ∈ Γ.env → nr R sv) (hnb : ∀ i e cs, ogt Γ.objs i = .box e cs → nrs R cs)
    (hnew : ∀ Z', (∀ b, Zn w0 O0 Z0 w fpl b → Z' b) → (∀ b i, i < Γ.objs.length → isGone (ogt Γ.objs i) = true → b ∈ fpl.getD i [] → b ∉ fpn → Z' b) →
      Stp R w (w.setRow B arr') (Zn w0 O0 Z0 w fpl) Z' m m Γ.objs (ost Γ.objs id o') →
      obR (w.setRow B arr') Z' m (ost Γ.objs id o') id fpn) :
    SR w0 O0 Z0 m0 os0 m ((live fpl Γ.objs).set id fpn) (Γ.setO (ost Γ.objs id o')) a (w.setRow B arr') := by
  have hll : (live fpl Γ.objs).length = Γ.objs.length := live_len
  have hBm : B ∈ fpl.flatten := flat_mem hmem
  have hget : ∀ i, i < Γ.objs.length → ((live fpl Γ.objs).set id fpn).getD i [] = if i = id then fpn else if isGone (ogt Γ.objs i) then [] else fpl.getD i [] := by
    intro i hi
    by_cases h1 : i = id
    · subst h1
      simp [List.getD_eq_getElem?_getD, hll, hi]
    · rw [if_neg h1, ← live_get hi]
      simp [List.getD_eq_getElem?_getD, List.getElem?_set, Ne.symm h1]
  have hflat : ∀ b, b ∈ ((live fpl Γ.objs).set id fpn).flatten → ∃ i, i < Γ.objs.length ∧ b ∈ ((live fpl Γ.objs).set id fpn).getD i [] := by
    intro b hb
    obtain ⟨l, hl, hb⟩ := List.mem_flatten.1 hb
    obtain ⟨i, hi, rfl⟩ := List.getElem_of_mem hl
    refine ⟨i, by simpa [hll] using hi, ?_⟩
    rw [List.getD_eq_getElem?_getD, List.getElem?_eq_getElem hi]; exact hb
  have hfnm : ∀ b ∈ fpn, b ∈ fpl.flatten := fun b hb => by
    rcases hfs b hb with h1 | ⟨i, _, _, h1⟩ <;> exact flat_mem h1
  have hin : ∀ b, b ∈ ((live fpl Γ.objs).set id fpn).flatten → b ∈ fpl.flatten := by
    intro b hb
    obtain ⟨i, hi, hb⟩ := hflat b hb
    rw [hget i hi] at hb
    split at hb
    · exact hfnm b hb
    · split at hb
      · simp at hb
      · exact flat_mem hb
  have hsize : (w.setRow B arr').heap.size = w.heap.size := by simp
  have hnd : ((live fpl Γ.objs).set id fpn).flatten.Nodup := by
    refine List.pairwise_flatten.2 ⟨fun l hl => ?_, ?_⟩
    · obtain ⟨i, hi, rfl⟩ := List.getElem_of_mem hl
      have h1 := hget i (by simpa [hll] using hi)
      rw [List.getD_eq_getElem?_getD, List.getElem?_eq_getElem hi, Option.getD_some] at h1
      rw [h1]
      split
      · exact hfn
      · split
        · exact List.Pairwise.nil
        · exact getD_nodup h.ob.nodup i
    · rw [List.pairwise_iff_getElem]
      intro i j hi hj hij b h1 b' h2 hbb
      subst hbb
      have hi' : i < Γ.objs.length := by simpa [hll] using hi
      have hj' : j < Γ.objs.length := by simpa [hll] using hj
      have g1 := hget i hi'
      have g2 := hget j hj'
      rw [List.getD_eq_getElem?_getD, List.getElem?_eq_getElem hi, Option.getD_some] at g1
      rw [List.getD_eq_getElem?_getD, List.getElem?_eq_getElem hj, Option.getD_some] at g2
      rw [g1] at h1
      rw [g2] at h2
      have cross : ∀ k, k ≠ id → k < Γ.objs.length → b ∈ fpn → b ∈ (if isGone (ogt Γ.objs k) then [] else fpl.getD k []) → False := by
        intro k hk hkl hb1 hb2
        split at hb2
        · simp at hb2
        · rename_i hg
          rcases hfs b hb1 with h3 | ⟨i, _, hgi, h3⟩
          · exact hk (flatten_pair h.ob.nodup hb2 h3)
          · have := flatten_pair h.ob.nodup hb2 h3
            subst this
            exact hg hgi
      by_cases e1 : i = id
      · rw [if_pos e1] at h1
        rw [if_neg (by omega)] at h2
        exact cross j (by omega) hj' h1 h2
      · rw [if_neg e1] at h1
        by_cases e2 : j = id
        · rw [if_pos e2] at h2
          exact cross i e1 hi' h2 h1
        · rw [if_neg e2] at h2
          split at h1
          · simp at h1
          · split at h2
            · simp at h2
            · have := flatten_pair h.ob.nodup h1 h2
              omega
  have := (SR.next h (w' := w.setRow B arr') (m2 := []) (fpl' := (live fpl Γ.objs).set id fpn) (objs' := ost Γ.objs id o') R
    (by simp [h.ob.ml, ost_len]) (by simp [hll, ost_len]) (fun b hb => ⟨.inl (hin b hb), by rw [hsize]; exact (h.ob.own b (hin b hb)).1⟩) hnd (Keep.setRow hB hsz hBm) ?_ ?_ hnr hnb ?_).2
  · simpa using this
  · intro i hi
    rw [ogt_ost]
    split
    · rename_i hh; rw [← hh.1]; exact hle
    · exact ObLe.refl _
  · intro id' hid' hnR hx
    rw [setRow_heap']
    by_cases hb : (mg m id').b = B
    · exfalso
      have hne : id' ≠ id := by
        intro he
        subst he
        rcases hR with hR | hR | hR
        · exact hnR hR
        · exact hR hb.symm
        · obtain ⟨e1, t1, e2, d1, xs1, hole1, ho⟩ := hx
          rw [ogt_ost, if_pos ⟨rfl, hid'⟩] at ho
          exact hR _ _ _ _ _ ho
      obtain ⟨e1, t1, e2, d1, xs1, hole1, ho⟩ := hx
      rw [ogt_ost, if_neg (fun hh => hne hh.1.symm)] at ho
      have hb2 := h.ob.ob id' hid'
      unfold obR at hb2
      rw [ho] at hb2
      obtain ⟨_, _, fps, _, _, _, h4, _⟩ := hb2
      exact hne (flatten_pair h.ob.nodup (by rw [h4]; simp : (mg m id').b ∈ fpl.getD id' []) (by rw [hb]; exact hmem))
    · rw [if_neg hb]
  · intro S i hi
    rw [ost_len] at hi
    by_cases h1 : i = id
    · right
      subst h1
      rw [hget i hi, if_pos rfl, List.append_nil]
      rw [List.append_nil] at S
      refine hnew _ S.z ?_ S
      intro b k hk hg hb hnf
      have hb' := h.ob.own b (flat_mem hb)
      refine ⟨by rcases hb'.2 with h3 | h3; exact .inr (.inl h3); exact .inr (.inr h3), by rw [hsize]; exact hb'.1, fun hm => ?_⟩
      obtain ⟨j, hj, hjb⟩ := hflat b hm
      rw [hget j hj] at hjb
      split at hjb
      · exact hnf hjb
      · split at hjb
        · simp at hjb
        · rename_i hg'
          have := flatten_pair h.ob.nodup hb hjb
          subst this
          exact hg' hg
    · cases hg : isGone (ogt Γ.objs i) with
      | true =>
        right
        unfold obR
        rw [ogt_ost, if_neg (fun hh => h1 hh.1.symm), isGone_eq.1 hg]; trivial
      | false =>
        left
        refine ⟨hi, by rw [ogt_ost, if_neg (fun hh => h1 hh.1.symm)], by rw [hget i hi, if_neg h1, hg]; rfl, fun b hb => ?_⟩
        rw [setRow_heap', if_neg]
        intro he
        subst he
        exact h1 (flatten_pair h.ob.nodup hb hmem)

end
end Go.Dm

/- Stores. -/
namespace Go.Dm
open Go

theorem krO_len (id : Nat) : ∀ os : List Ob, (krO id os).length = os.length
  | [] => rfl
  | o :: r => by cases o <;> simp [krO, krO_len id r]

def krOb (id : Nat) : Ob → Ob
  | .box e cs => .box e (krs id cs)
  | o => o

theorem krO_cons (id : Nat) (o : Ob) (r : List Ob) : krO id (o :: r) = krOb id o :: krO id r := by cases o <;> rfl

theorem ogt_krO (id : Nat) : ∀ (os : List Ob) (i : Nat), ogt (krO id os) i = krOb id (ogt os i)
  | [], i => by cases i <;> rfl
  | o :: r, 0 => by rw [krO_cons]; rfl
  | o :: r, i + 1 => by rw [krO_cons]; exact ogt_krO id r i

theorem krO_ost (id : Nat) {t : Ty} {e : TypeId} {d : Nat} {xs : List t.T} {hole : Option Nat} : ∀ (os : List Ob) (i : Nat),
    krO id (ost os i (.lst t e d xs hole)) = ost (krO id os) i (.lst t e d xs hole)
  | [], _ => rfl
  | o :: r, 0 => by rw [ost, krO_cons, krO_cons]; rfl
  | o :: r, i + 1 => by rw [ost, krO_cons, krO_cons, ost, krO_ost id r i]

theorem krs_len (id : Nat) : ∀ cs : List SV, (krs id cs).length = cs.length
  | [] => rfl
  | _ :: r => by simp [krs, krs_len id r]

theorem krE_mem {id : Nat} {env : List (Nat × SV)} {s : Nat} {sv : SV} (h : (s, sv) ∈ krE id env) : ∃ sv0, (s, sv0) ∈ env ∧ sv = kr id sv0 := by
  induction env with
  | nil => simp [krE] at h
  | cons p r ih =>
    obtain ⟨k, v⟩ := p
    simp only [krE] at h
    rcases List.mem_cons.1 h with h | h
    · cases h; exact ⟨v, by simp, rfl⟩
    · obtain ⟨sv0, h1, h2⟩ := ih h
      exact ⟨sv0, by simp [h1], h2⟩

section
variable {P : Program} {ti : TypeId → TI} {own : Bool} (hti : ∀ t, (ti t).ok = true → TIok P ti t)
variable {w0 : World} {O0 : List Nat} {Z0 : Nat → Prop} {m0 : List OR} {os0 : List Ob} {m : List OR} {fpl : List (List Nat)} {Γ Γ' : St} {a : Act} {w : World} {K : St → Prop} {d : Option Nat}

theorem ObLe.krOb (id : Nat) (o : Ob) : ObLe o (krOb id o) := by
  cases o <;> first | exact ObLe.refl _ | exact .inr ⟨_, rfl, krs_len id _⟩

theorem SR.killRows (h : SR w0 O0 Z0 m0 os0 m fpl Γ a w) (id : Nat) :
    SR w0 O0 Z0 m0 os0 m fpl (Γ.killRows id) a w ∧ (∀ s sv, (s, sv) ∈ (Γ.killRows id).env → nr (· = id) sv) ∧ ∀ i e cs, ogt (Γ.killRows id).objs i = .box e cs → nrs (· = id) cs := by
  have S : Stp (fun _ => False) w w (Zn w0 O0 Z0 w fpl) (Zn w0 O0 Z0 w fpl) m m Γ.objs (krO id Γ.objs) :=
    ⟨fun _ hb => hb, fun _ _ => rfl, fun _ arr _ _ hb => ⟨arr, hb, rfl⟩, fun _ _ => rfl, by rw [krO_len]; exact Nat.le_refl _, fun i _ => by rw [ogt_krO]; exact ObLe.krOb id _, fun _ _ _ _ => rfl⟩
  refine ⟨⟨⟨by show _ = (krO id Γ.objs).length; rw [krO_len]; exact h.ob.ml, by show (krO id Γ.objs).length ≤ _; rw [krO_len]; exact h.ob.fl, fun i hi => ?_, h.ob.nodup, h.ob.own, h.ob.keep⟩, h.m0, h.o0,
    by show _ ≤ (krO id Γ.objs).length; rw [krO_len]; exact h.fx, fun i hi => ?_, h.tm, h.df, fun s sv hs => ?_⟩, fun s sv hs => ?_, fun i e cs ho => ?_⟩
  · have hi' : i < Γ.objs.length := by rw [← krO_len id]; exact hi
    have hb := h.ob.ob i hi'
    show obR w _ m (krO id Γ.objs) i _
    cases ho : ogt Γ.objs i with
    | box e cs =>
      unfold obR at hb ⊢
      rw [ho] at hb
      rw [ogt_krO, ho]
      obtain ⟨h1, arr, e', h2, h3⟩ := hb
      exact ⟨h1, arr, e', h2, SVrs_krs id cs _ (h3.step S (nrs_false _))⟩
    | gone => exact obR.step S hi' (by rw [ogt_krO, ho]; rfl) (fun _ cs _ => nrs_false cs) (fun _ _ => rfl) hb
    | lst => exact obR.step S hi' (by rw [ogt_krO, ho]; rfl) (fun _ cs _ => nrs_false cs) (fun _ _ => rfl) hb
    | arr => exact obR.step S hi' (by rw [ogt_krO, ho]; rfl) (fun _ cs _ => nrs_false cs) (fun _ _ => rfl) hb
  · show ObLe _ (ogt (krO id Γ.objs) i)
    rw [ogt_krO]
    exact (h.le i hi).trans (ObLe.krOb id _)
  · obtain ⟨sv0, h1, rfl⟩ := krE_mem hs
    exact SVr_kr id _ _ ((h.env s sv0 h1).step S (nr_false sv0))
  · obtain ⟨sv0, h1, rfl⟩ := krE_mem hs
    have := nr_kr id _ sv0 (nr_false sv0)
    simpa using this
  · have ho' : ogt (krO id Γ.objs) i = .box e cs := ho
    rw [ogt_krO] at ho'
    cases hx : ogt Γ.objs i with
    | box e1 cs1 =>
      rw [hx] at ho'
      cases ho'
      have := nrs_krs id _ cs1 (nrs_false cs1)
      simpa using this
    | gone => rw [hx] at ho'; cases ho'
    | lst => rw [hx] at ho'; cases ho'
    | arr => rw [hx] at ho'; cases ho'

include hti in
theorem run_storeAt_ti {T : TypeId} (hT : (ti T).ok = true) {b o : Nat} {arr : Array Value} {e' : TypeId} {v : Value} (hB : w.heap[b]? = some (.cells arr e' (0, 0))) (hsz : v.cells.size = (ti T).sz)
    (hfit : o + v.cells.size ≤ arr.size) (h1 : ∀ u ∈ v.cells.toList, u.oneCell' = true) :
    (Instr.storeAt T (.pointer (some ⟨b, o, none⟩)) v).run P w = .ok () (w.setRow b (arr.toList.take o ++ v.cells.toList ++ arr.toList.drop (o + v.cells.size)).toArray) := by
  have h2 := run_storeCells_at (P := P) b o e' v.cells.toList 0 arr w hB (by simpa using hfit) h1
  simp only [Nat.add_zero, Array.length_toList] at h2
  simp only [Instr.storeAt, Instr.sureAddr, Sem.run_bind, Sem.run_pure, Result.andThen_ok, storeVar, run_sizeOf_ti hti hT, hsz, ne_eq, not_true_eq_false, if_false]
  rw [hsz] at h2
  exact h2

theorem put_len {arr : Array Value} {o n : Nat} {vs : List Value} (hn : vs.length = n) (h : o + n ≤ arr.size) : (arr.toList.take o ++ vs ++ arr.toList.drop (o + n)).toArray.size = arr.size := by
  simp; omega

theorem put_get {arr : Array Value} {o n : Nat} {vs : List Value} (hn : vs.length = n) (h : o + n ≤ arr.size) (p : Nat) :
    (arr.toList.take o ++ vs ++ arr.toList.drop (o + n)).toArray[p]? = if o ≤ p ∧ p < o + n then vs[p - o]? else arr[p]? := by
  have ho : o ≤ arr.toList.length := by simp; omega
  rw [List.getElem?_toArray]
  by_cases h1 : p < o
  · rw [if_neg (by omega), List.append_assoc, List.getElem?_append_left (by simp; omega), List.getElem?_take, if_pos h1]; simp
  · by_cases h2 : p < o + n
    · rw [if_pos (by omega), List.append_assoc, List.getElem?_append_right (by simp; omega), List.getElem?_append_left (by simp; omega)]
      congr 1; simp; omega
    · rw [if_neg (by omega), List.getElem?_append_right (by simp; omega), List.getElem?_drop]
      rw [show o + n + (p - (arr.toList.take o ++ vs).length) = p by simp; omega]
      simp

theorem sput_r {Z : Nat → Prop} {objs : List Ob} : ∀ {cs : List SV} {off : Nat} {ns cs' : List SV} {al nl : List Value}, sput cs off ns = some cs' → SVrs w Z m objs cs al → SVrs w Z m objs ns nl →
    cs'.length = cs.length ∧ SVrs w Z m objs cs' (al.take off ++ nl ++ al.drop (off + nl.length))
  | cs, off, [], cs', al, nl, h, h1, h2 => by
    simp only [SVrs] at h2
    subst h2
    have h' : cs' = cs := by cases cs <;> simp [sput] at h <;> simp [h]
    subst h'
    exact ⟨rfl, by simpa using h1⟩
  | [], off, n :: ns, cs', al, nl, h, h1, h2 => by simp [sput] at h
  | c :: cs, 0, n :: ns, cs', al, nl, h, h1, h2 => by
    simp only [sput] at h
    split at h
    · rename_i r hr
      cases h
      simp only [SVrs] at h1 h2
      obtain ⟨v, al', rfl, h3, h4⟩ := h1
      obtain ⟨u, nl', rfl, h5, h6⟩ := h2
      obtain ⟨h8, h9⟩ := sput_r hr h4 h6
      refine ⟨by simp [h8], ?_⟩
      simp only [SVrs]
      refine ⟨u, _, ?_, h5, h9⟩
      simp
    · cases h
  | c :: cs, off + 1, n :: ns, cs', al, nl, h, h1, h2 => by
    simp only [sput] at h
    split at h
    · rename_i r hr
      cases h
      simp only [SVrs] at h1
      obtain ⟨v, al', rfl, h3, h4⟩ := h1
      obtain ⟨h8, h9⟩ := sput_r hr h4 h2
      refine ⟨by simp [h8], ?_⟩
      simp only [SVrs]
      refine ⟨v, _, ?_, h3, h9⟩
      simp [Nat.add_right_comm]
    · cases h


theorem set_flat {fps : List (List Nat)} {j : Nat} {mv : List Nat} (hj : j < fps.length) (hn : fps.flatten.Nodup) (hm : mv.Nodup) (hd : ∀ b ∈ mv, b ∉ fps.flatten) :
    (fps.set j mv).flatten.Nodup ∧ ∀ b ∈ (fps.set j mv).flatten, b ∈ fps.flatten ∨ b ∈ mv := by
  have h1 : fps.set j mv = fps.take j ++ mv :: fps.drop (j + 1) := List.set_eq_take_append_cons_drop.trans (by rw [if_pos hj])
  have h2 : fps = fps.take j ++ fps[j] :: fps.drop (j + 1) := by rw [← List.drop_eq_getElem_cons hj, List.take_append_drop]
  have h3 : fps.flatten = (fps.take j).flatten ++ (fps[j] ++ (fps.drop (j + 1)).flatten) := by
    exact (congrArg List.flatten h2).trans (by rw [List.flatten_append, List.flatten_cons])
  rw [h3] at hn hd ⊢
  rw [h1]
  simp only [List.flatten_append, List.flatten_cons]
  have n1 := List.nodup_append.1 hn
  have n2 := List.nodup_append.1 n1.2.1
  refine ⟨List.nodup_append.2 ⟨n1.1, List.nodup_append.2 ⟨hm, n2.2.1, fun x hx y hy hxy => ?_⟩, fun x hx y hy hxy => ?_⟩, fun b hb => ?_⟩
  · subst hxy; exact hd x hx (by simp [hy])
  · subst hxy
    rcases List.mem_append.1 hy with hy | hy
    · exact hd x hy (by simp [hx])
    · exact n1.2.2 x hx x (by simp [hy]) rfl
  · rcases List.mem_append.1 hb with hb | hb
    · exact .inl (by simp [hb])
    · rcases List.mem_append.1 hb with hb | hb
      · exact .inr hb
      · exact .inl (by simp [hb])

theorem setRow_same {w : World} {B b : Nat} {arr : Array Value} (h : b ≠ B) : (w.setRow B arr).heap[b]? = w.heap[b]? := by rw [setRow_heap', if_neg h]

/-- A store, told: the state goes on. -/
def GoodU (w0 : World) (O0 : List Nat) (Z0 : Nat → Prop) (m0 : List OR) (os0 : List Ob) (K : St → Prop) (a : Act) (r : Result Unit) : Prop :=
  ∃ w' Γ', r = .ok () w' ∧ K Γ' ∧ StR w0 O0 Z0 m0 os0 Γ' a w'

theorem Mv.split {mv : List Nat} {b : Nat} (hl : Less Γ Γ') (hm : Mv fpl Γ Γ' mv) (hb : b ∈ mv) : ∃ i, i < Γ'.objs.length ∧ isGone (ogt Γ'.objs i) = true ∧ b ∈ fpl.getD i [] := by
  obtain ⟨i, h1, _, h3, h4⟩ := hm.mem b hb
  exact ⟨i, by rw [hl.len]; exact h1, h3, h4⟩

include hti in
theorem opStore_good (h : SR w0 O0 Z0 m0 os0 m fpl Γ a w) {T : TypeId} {x v : SV} {vx vv : Value} (hT : (ti T).ok = true) (hs : opStore (sC P ti own) Γ T x v K)
    (hx : SVr w (Zn w0 O0 Z0 w fpl) m Γ.objs x vx) (hv : SVr w (Zn w0 O0 Z0 w fpl) m Γ.objs v vv) : GoodU w0 O0 Z0 m0 os0 K a ((Instr.storeAt T vx vv).run P w) := by
  unfold opStore at hs
  split at hs
  · -- a box
    rename_i id off
    simp only [SVr] at hx
    obtain ⟨hid, _, hx⟩ := hx
    split at hs
    · rename_i e cs ho
      rw [ho] at hx; subst hx
      split at hs
      · rename_i cs' hcs
        obtain ⟨⟨h1, h2⟩, h3, h4⟩ := hs
        obtain ⟨hc1, hc2⟩ := cellsV_r h3 hv
        have hlen : vv.cells.size = (ti T).sz := by rw [← Array.length_toList, hc1.length]; exact h1
        have hb := h.ob.ob id hid
        unfold obR at hb
        rw [ho] at hb
        obtain ⟨h5, arr, e', h6, h7⟩ := hb
        have harr : arr.size = cs.length := by rw [← Array.length_toList]; exact h7.length
        have hfit : off + vv.cells.size ≤ arr.size := by rw [hlen, harr]; exact h2
        obtain ⟨h8, h9⟩ := sput_r hcs h7 hc1
        refine ⟨_, _, run_storeAt_ti hti hT h6 hlen hfit hc2, h4, _, _, SR.write h hid (.box e cs') [(mg m id).b] (fun _ => False) h6 (put_len (by simp) hfit) (by rw [h5]; simp)
          (by rw [ho]; exact .inr ⟨cs', rfl, h8⟩) (by simp) (fun b hb => .inl (by rw [h5]; exact hb)) (.inr (.inr (by simp))) (fun _ sv _ => nr_false sv) (fun _ _ cs _ => nrs_false cs) ?_⟩
        intro Z' hz hz2 S
        unfold obR
        rw [ogt_ost, if_pos ⟨rfl, hid⟩]
        refine ⟨rfl, _, e', by rw [setRow_heap', if_pos rfl, h6], ?_⟩
        have := h9.step S (nrs_false _)
        simpa using this
      · exact hs.elim
    · exact hs.elim
  · -- an array
    rename_i id off
    simp only [SVr] at hx
    obtain ⟨hid, _, hx⟩ := hx
    split at hs
    · rename_i t e xs ho
      rw [ho] at hx; subst hx
      split at hs
      · rename_i y hy
        obtain ⟨⟨h1, h2, h3⟩, h4, h5⟩ := hs
        have h4' : off < xs.length := h4
        obtain ⟨h6, h7⟩ := ofV_rep hy hv
        have hcl : vv.cells.size = 1 := by rw [← Array.length_toList, h6.len]; exact h1
        have hlen : vv.cells.size = (ti T).sz := by rw [hcl]; exact h3.symm
        have hb := h.ob.ob id hid
        unfold obR at hb
        rw [ho] at hb
        obtain ⟨h8, _, _, arr, e', h9, h10, h11⟩ := hb
        have hfit : off + vv.cells.size ≤ arr.size := by omega
        refine ⟨_, _, run_storeAt_ti hti hT h9 hlen hfit h7, h5, _, _, SR.write h hid (.arr t e (xs.set off y)) [(mg m id).b] (fun _ => False) h9 (put_len (by simp) hfit) (by rw [h8]; simp)
          (by rw [ho]; exact .inr ⟨_, rfl, by simp⟩) (by simp) (fun b hb => .inl (by rw [h8]; exact hb)) (.inr (.inr (by simp))) (fun _ sv _ => nr_false sv) (fun _ _ cs _ => nrs_false cs) ?_⟩
        intro Z' hz hz2 S
        unfold obR
        rw [ogt_ost, if_pos ⟨rfl, hid⟩]
        refine ⟨rfl, h1, h2, _, e', by rw [setRow_heap', if_pos rfl, h9], by rw [put_len (by simp) hfit]; simpa using h10, fun j hj => ?_⟩
        rw [List.length_set] at hj
        rw [put_get (by simp) hfit, hcl]
        by_cases hjo : j = off
        · subst hjo
          obtain ⟨u, hu⟩ : ∃ u, vv.cells.toList = [u] := List.length_eq_one_iff.1 (by simpa using hcl)
          refine ⟨u, by rw [if_pos (by omega), hu]; simp, ?_⟩
          rw [List.getElem_set_self, ← hu]
          exact h6.flat_any h2
        · obtain ⟨u, h12, h13⟩ := h11 j hj
          refine ⟨u, by rw [if_neg (by omega)]; exact h12, ?_⟩
          rw [List.getElem_set_ne (by omega)]
          exact h13.flat_any h2
      · exact hs.elim
    · exact hs.elim
  · -- an element of a list
    rename_i id j
    simp only [SVr] at hx
    obtain ⟨hid, _, hx⟩ := hx
    split at hs
    · rename_i t e dd xs hole ho
      rw [ho] at hx; subst hx
      split at hs
      · rename_i y Γ' hel
        obtain ⟨hl, mv, hmv, hro, h6, h7⟩ := elt_good h hel hv
        split at hs
        · rename_i t2 e2 d2 xs2 hole2 ho2
          have ho' : ogt Γ'.objs id = .lst t e dd xs hole := by
            rcases hl.ob id with h1 | h1
            · rw [h1, ho]
            · rw [h1] at ho2; cases ho2
          obtain ⟨h1, h4, hh, h5⟩ := hs
          have h4' : j < xs.length := h4
          have hcl : vv.cells.size = t.size := by rw [← Array.length_toList, h6.len]
          have hlen : vv.cells.size = (ti T).sz := by rw [hcl]; exact h1.symm
          have h' := h.less hl
          obtain ⟨hk, hnr, hnb⟩ := h'.killRows id
          have hidk : id < (Γ'.killRows id).objs.length := by show id < (krO id Γ'.objs).length; rw [krO_len, hl.len]; exact hid
          have hok : ogt (Γ'.killRows id).objs id = .lst t e dd xs hole := by show ogt (krO id Γ'.objs) id = _; rw [ogt_krO, ho']; rfl
          have hb := hk.ob.ob id hidk
          unfold obR at hb
          rw [hok] at hb
          obtain ⟨arr, e', fps, h9, h10, h11, h12, h13⟩ := hb
          have hjs : j * t.size + t.size ≤ xs.length * t.size := by
            have : (j + 1) * t.size ≤ xs.length * t.size := Nat.mul_le_mul_right _ h4'
            rwa [Nat.add_mul, Nat.one_mul] at this
          have hfit : (mg m id).o + j * t.size + 0 + vv.cells.size ≤ arr.size := by omega
          have hgk : ∀ i, isGone (ogt (Γ'.killRows id).objs i) = isGone (ogt Γ'.objs i) := by
            intro i; show isGone (ogt (krO id Γ'.objs) i) = _; rw [ogt_krO]; cases ogt Γ'.objs i <;> rfl
          have hkl : (Γ'.killRows id).objs.length = Γ'.objs.length := krO_len _ _
          have hset : (((Γ'.setO (ost Γ'.objs id (.lst t e dd (xs.set j y) none))).killRows id) : St) = (Γ'.killRows id).setO (ost (Γ'.killRows id).objs id (.lst t e dd (xs.set j y) none)) := by
            simp only [St.killRows, St.setO, krO_ost]
          have hnid : ∀ b ∈ mv, b ∉ fpl.getD id [] := by
            intro b hb hb2
            obtain ⟨i, _, _, hg, hi⟩ := hmv.mem b hb
            have := flatten_pair h.ob.nodup hi hb2
            subst this
            rw [ho'] at hg; cases hg
          have hnd0 := getD_nodup h.ob.nodup id
          rw [h12] at hnd0
          have hnd1 := List.nodup_cons.1 hnd0
          have hfl := set_flat (by rw [h11]; exact h4') hnd1.2 hmv.nodup (fun b hb hb2 => hnid b hb (by rw [h12]; simp [hb2]))
          refine ⟨_, _, run_storeAt_ti hti hT h9 hlen hfit h7, h5, m, (live fpl (Γ'.killRows id).objs).set id ((mg m id).b :: (fps.set j mv).flatten), ?_⟩
          rw [show (sC P ti own).w.set xs j y = xs.set j y from rfl, hset]
          refine SR.write hk hidk (.lst t e dd (xs.set j y) none) ((mg m id).b :: (fps.set j mv).flatten) (· = id) h9 (put_len (by simp) hfit) (by rw [h12]; simp)
            (by rw [hok]; exact .inr ⟨_, none, rfl, by simp⟩) ?_ ?_ (.inl rfl) hnr hnb ?_
          · refine List.nodup_cons.2 ⟨fun hm => ?_, hfl.1⟩
            rcases hfl.2 _ hm with hm | hm
            · exact hnd1.1 hm
            · exact hnid _ hm (by rw [h12]; simp)
          · intro b hb
            rcases List.mem_cons.1 hb with hb | hb
            · exact .inl (by rw [h12, hb]; simp)
            · rcases hfl.2 _ hb with hb | hb
              · exact .inl (by rw [h12]; simp [hb])
              · obtain ⟨i, h14, h15, h16⟩ := hmv.split hl hb
                exact .inr ⟨i, by rw [hkl]; exact h14, by rw [hgk]; exact h15, h16⟩
          · intro Z' hz hz2 S
            have hBsame : ∀ b, b ≠ (mg m id).b → (w.setRow (mg m id).b (arr.toList.take ((mg m id).o + j * t.size + 0) ++ vv.cells.toList ++ arr.toList.drop ((mg m id).o + j * t.size + 0 + vv.cells.size)).toArray).heap[b]? = w.heap[b]? := fun b hb => setRow_same hb
            have hcell : ∀ p, (w.setRow (mg m id).b (arr.toList.take ((mg m id).o + j * t.size + 0) ++ vv.cells.toList ++ arr.toList.drop ((mg m id).o + j * t.size + 0 + vv.cells.size)).toArray).cell? ⟨(mg m id).b, p, none⟩ =
                if (mg m id).o + j * t.size ≤ p ∧ p < (mg m id).o + j * t.size + t.size then vv.cells[p - ((mg m id).o + j * t.size)]? else arr[p]? := by
              intro p
              rw [cell_of (by rw [setRow_heap', if_pos rfl, h9]), put_get (by simp) hfit, hcl, Nat.add_zero]
              simp
            unfold obR
            rw [ogt_ost, if_pos ⟨rfl, hidk⟩]
            refine ⟨_, e', fps.set j mv, by rw [setRow_heap', if_pos rfl, h9], by rw [put_len (by simp) hfit]; simpa using h10, by simpa using h11, rfl, fun i hi => .inr ⟨by simp, ?_⟩⟩
            rw [List.length_set] at hi
            by_cases hij : i = j
            · subst hij
              refine ⟨vv.cells.toList, fun k u hk => ?_, ?_⟩
              · have hkl : k < t.size := by
                  have := (List.getElem?_eq_some_iff.1 hk).1
                  simpa [hcl] using this
                rw [hcell, if_pos (by omega)]
                rw [show (mg m id).o + i * t.size + k - ((mg m id).o + i * t.size) = k by omega]
                simpa using hk
              · have hg1 : (fps.set i mv).getD i [] = mv := by simp [List.getD_eq_getElem?_getD, h11, h4']
                rw [hg1, List.getElem_set_self]
                refine h6.mono (fun b hb => ?_) (fun b hb => ?_) (fun b hb => hBsame b (fun e => hnid b hb (by rw [h12, e]; simp)))
                · rcases hb with hb | ⟨hr, hb | ⟨k, h14, h15, h16, h17⟩⟩
                  · exact hz b hb
                  · exact hz b hb
                  · refine hz2 b k (by rw [hkl, hl.len]; exact h14) (by rw [hgk]; exact h16) h17 (fun hm => ?_)
                    have hne : b ∉ fpl.getD id [] := fun hb2 => by
                      have := flatten_pair h.ob.nodup h17 hb2
                      subst this
                      rw [ho'] at h16; cases h16
                    rcases List.mem_cons.1 hm with hm | hm
                    · exact hne (by rw [h12, hm]; simp)
                    · rcases hfl.2 _ hm with hm | hm
                      · exact hne (by rw [h12]; simp [hm])
                      · rw [hro hr] at hm; simp at hm
                · rcases hb with hb | ⟨hr, hb | ⟨k, h14, h15, h16, h17⟩⟩
                  · exact S.zs b hb
                  · exact S.zs b hb
                  · refine hBsame b (fun e => ?_)
                    have := flatten_pair h.ob.nodup h17 (by rw [h12, e]; simp : b ∈ fpl.getD id [])
                    subst this
                    rw [ho'] at h16; cases h16
            · have hhole : hole ≠ some i := by
                intro hc
                subst hc
                exact hij hh
              rcases h13 i hi with ⟨h14, _⟩ | ⟨_, ces, h15, h16⟩
              · exact absurd h14 hhole
              · refine ⟨ces, fun k u hk => ?_, ?_⟩
                · have hkl : k < t.size := by
                    have := (List.getElem?_eq_some_iff.1 hk).1
                    rwa [h16.len] at this
                  have hne : ¬ ((mg m id).o + j * t.size ≤ (mg m id).o + i * t.size + k ∧ (mg m id).o + i * t.size + k < (mg m id).o + j * t.size + t.size) := by
                    rcases Nat.lt_or_gt_of_ne hij with hlt | hlt
                    · have : (i + 1) * t.size ≤ j * t.size := Nat.mul_le_mul_right _ hlt
                      rw [Nat.add_mul, Nat.one_mul] at this; omega
                    · have : (j + 1) * t.size ≤ i * t.size := Nat.mul_le_mul_right _ hlt
                      rw [Nat.add_mul, Nat.one_mul] at this; omega
                  rw [hcell, if_neg hne]
                  have := h15 k u hk
                  rwa [cell_of h9] at this
                · have hg1 : (fps.set j mv).getD i [] = fps.getD i [] := by
                    simp only [List.getD_eq_getElem?_getD, List.getElem?_set, if_neg (Ne.symm hij)]
                  rw [hg1, List.getElem_set_ne (Ne.symm hij)]
                  refine h16.mono hz (fun b hb => S.zs b hb) (fun b hb => hBsame b (fun e => ?_))
                  subst e
                  exact hnd1.1 (flat_mem hb)
        · exact hs.elim
      · exact hs.elim
    · exact hs.elim
  · -- an element of a row
    rename_i id j i
    simp only [SVr] at hx
    obtain ⟨hid, _, hx⟩ := hx
    split at hs
    · rename_i e t e' dd xs hole ho
      rw [ho] at hx
      obtain ⟨br, or', n, c, hx1, rfl⟩ := hx
      split at hs
      · rename_i y hy
        obtain ⟨⟨h1, h2⟩, h3, h4, h5⟩ := hs
        obtain ⟨h6, h7⟩ := ofV_rep hy hv
        have hcl : vv.cells.size = t.size := by rw [← Array.length_toList, h6.len]
        have hlen : vv.cells.size = (ti T).sz := by rw [hcl]; exact h2.symm
        have hb := h.ob.ob id hid
        unfold obR at hb
        rw [ho] at hb
        obtain ⟨arr, e1, fps, h8, h9, h10, h11, h12⟩ := hb
        have hj : j < xs.length := by
          apply Decidable.byContradiction
          intro hj
          have hget : (sC P ti own).w.get (.sl e t) xs j = [] := by
            show xs.getD j _ = _
            simp [List.getD_eq_getElem?_getD, List.getElem?_eq_none (Nat.le_of_not_lt hj), Ty.dflt]
          rw [hget] at h4
          have h4' : i < ([] : List t.T).length := h4
          simp at h4'
        have hget : (sC P ti own).w.get (.sl e t) xs j = xs[j] := getD_lt hj
        rw [hget] at h4 h5
        have h4' : i < (xs[j]).length := h4
        have hsz1 : (Ty.sl e t).size = 1 := rfl
        rcases h12 j hj with ⟨h13, _⟩ | ⟨hnh, ces, h13, h14⟩
        · exact absurd h13 (noHole_ne h3)
        · rcases h14 with ⟨h15, _⟩ | ⟨b, o, c', fps', h15, h16, h17, h18, ⟨arr2, e2, h19, h20⟩, h21⟩
          · rw [h15] at h4'; simp at h4'
          · have hcell := h13 0 _ (by rw [h15]; rfl)
            rw [hsz1, Nat.mul_one, Nat.add_zero, hx1] at hcell
            cases hcell
            have hnd0 := getD_nodup h.ob.nodup id
            rw [h11] at hnd0
            have hnd1 := List.nodup_cons.1 hnd0
            have hbr : br ∈ fps.getD j [] := by rw [h17]; simp
            have hbrid : br ∈ fpl.getD id [] := by rw [h11]; exact List.mem_cons_of_mem _ (flat_mem hbr)
            have hbne : br ≠ (mg m id).b := fun e => hnd1.1 (e ▸ flat_mem hbr)
            have his : i * t.size + t.size ≤ (xs[j]).length * t.size := by
              have : (i + 1) * t.size ≤ (xs[j]).length * t.size := Nat.mul_le_mul_right _ h4'
              rwa [Nat.add_mul, Nat.one_mul] at this
            have hcs : (xs[j]).length * t.size ≤ c * t.size := Nat.mul_le_mul_right _ h16
            have hfit : or' + i * t.size + vv.cells.size ≤ arr2.size := by omega
            refine ⟨_, _, run_storeAt_ti hti hT h19 hlen hfit h7, h5, m, (live fpl Γ.objs).set id (fpl.getD id []), ?_⟩
            refine SR.write h hid (.lst (.sl e t) e' (dd + 1) (xs.set j ((xs[j]).set i y)) hole) (fpl.getD id []) (fun _ => False) h19 (put_len (by simp) hfit) hbrid
              (by rw [ho]; exact .inr ⟨_, _, rfl, by simp⟩) (getD_nodup h.ob.nodup id) (fun b hb => .inl hb) (.inr (.inl hbne)) (fun _ sv _ => nr_false sv) (fun _ _ cs _ => nrs_false cs) ?_
            intro Z' hz hz2 S
            have hcellw : ∀ p, (w.setRow br (arr2.toList.take (or' + i * t.size) ++ vv.cells.toList ++ arr2.toList.drop (or' + i * t.size + vv.cells.size)).toArray).cell? ⟨br, p, none⟩ =
                if or' + i * t.size ≤ p ∧ p < or' + i * t.size + t.size then vv.cells[p - (or' + i * t.size)]? else arr2[p]? := by
              intro p
              rw [cell_of (by rw [setRow_heap', if_pos rfl, h19]), put_get (by simp) hfit, hcl]
              simp
            unfold obR
            rw [ogt_ost, if_pos ⟨rfl, hid⟩]
            refine ⟨arr, e1, fps, by rw [setRow_same (Ne.symm hbne)]; exact h8, by simpa using h9, by simpa using h10, h11, fun k hk => ?_⟩
            rw [List.length_set] at hk
            by_cases hkj : k = j
            · subst hkj
              refine .inr ⟨hnh, ces, h13.same (setRow_same (Ne.symm hbne)), ?_⟩
              rw [List.getElem_set_self]
              refine .inr ⟨br, or', c, fps', by rw [List.length_set]; exact h15, by rw [List.length_set]; exact h16, h17, by rw [List.length_set]; exact h18, ⟨_, e2, by rw [setRow_heap', if_pos rfl, h19], by rw [put_len (by simp) hfit]; exact h20⟩, fun q hq => ?_⟩
              rw [List.length_set] at hq
              by_cases hqi : q = i
              · subst hqi
                refine ⟨vv.cells.toList, fun r u hr => ?_, ?_⟩
                · have hrl : r < t.size := by
                    have := (List.getElem?_eq_some_iff.1 hr).1
                    simpa [hcl] using this
                  rw [hcellw, if_pos (by omega)]
                  rw [show or' + q * t.size + r - (or' + q * t.size) = r by omega]
                  simpa using hr
                · rw [List.getElem_set_self]
                  obtain ⟨_, _, hq2⟩ := h21 q h4'
                  rw [hq2.flat_fp h1]
                  exact h6.flat_any h1
              · obtain ⟨ces', h22, h23⟩ := h21 q hq
                refine ⟨ces', fun r u hr => ?_, ?_⟩
                · have hrl : r < t.size := by
                    have := (List.getElem?_eq_some_iff.1 hr).1
                    rwa [h23.len] at this
                  have hne : ¬ (or' + i * t.size ≤ or' + q * t.size + r ∧ or' + q * t.size + r < or' + i * t.size + t.size) := by
                    rcases Nat.lt_or_gt_of_ne hqi with hlt | hlt
                    · have : (q + 1) * t.size ≤ i * t.size := Nat.mul_le_mul_right _ hlt
                      rw [Nat.add_mul, Nat.one_mul] at this; omega
                    · have : (i + 1) * t.size ≤ q * t.size := Nat.mul_le_mul_right _ hlt
                      rw [Nat.add_mul, Nat.one_mul] at this; omega
                  rw [hcellw, if_neg hne]
                  have := h22 r u hr
                  rwa [cell_of h19] at this
                · rw [List.getElem_set_ne (Ne.symm hqi)]
                  exact h23.flat_any h1
            · rcases h12 k hk with h22 | ⟨h22, ces', h23, h24⟩
              · exact .inl h22
              · refine .inr ⟨h22, ces', h23.same (setRow_same (Ne.symm hbne)), ?_⟩
                rw [List.getElem_set_ne (Ne.symm hkj)]
                refine h24.mono hz (fun b hb => S.zs b hb) (fun b hb => setRow_same (fun e => ?_))
                subst e
                exact hkj (flatten_pair hnd1.2 hb hbr)
      · exact hs.elim
    · exact hs.elim
  · exact hs.elim

end
end Go.Dm
