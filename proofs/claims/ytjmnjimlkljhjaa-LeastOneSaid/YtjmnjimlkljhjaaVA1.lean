/- The abstract values, the templates and the symbolic executor: definitions alone; nothing here is trusted. -/
import Derived.WalkKit
import Derived.KernelRfl
set_option linter.unusedVariables false
namespace Go.Proofs.YtjmnjimlkljhjaaV
open Go

/-! ### pure types -/
inductive Ty where
  | int (k : IntKind)
  | bool
  | str
  | prod (a b : Ty)
  | slice (e : Nat) (t : Ty)
  | rose (t : Ty) (e : Nat)
  | arr (n : Nat) (t : Ty)
  deriving DecidableEq

inductive Rose (α : Type) : Type where
  | node (a : α) (ks : List (Rose α)) : Rose α

@[reducible] def El : Ty → Type
  | .int _ => Int
  | .bool => Bool
  | .str => ByteArray
  | .prod a b => El a × El b
  | .slice _ t => List (El t)
  | .rose t _ => Rose (El t)
  | .arr _ t => List (El t)

def sz : Ty → Nat
  | .prod a b => sz a + sz b
  | .rose t _ => sz t + 1
  | .arr n t => n * sz t
  | _ => 1

def dflt : (t : Ty) → El t
  | .int _ => (0 : Int)
  | .bool => false
  | .str => (⟨#[]⟩ : ByteArray)
  | .prod a b => (dflt a, dflt b)
  | .slice _ _ => []
  | .rose t _ => .node (dflt t) []
  | .arr n t => List.replicate n (dflt t)

/-! ### abstract values -/
inductive AV where
  | dead
  | v (x : Value)
  | kb (b : Bool)
  | agg (l : List AV)
  | tup (l : List AV)
  | sl (fr : Bool) (t : Ty) (e : Nat) (xs : List (El t))
  | ref (id : Nat)
  | ptr (id off : Nat)
  | eptr (id i off : Nat)
  | cptr (l : List AV)
  | mp (id : Nat)
  | fn (f : Nat) (l : List AV)
  | opt (tc : Nat) (b : Bool) (x : AV)
  /-- as many cells as an array has -/
  | arr (t : Ty) (n : Nat) (xs : List (El t))
  /-- the address of a cell of an element of such a one -/
  | aptr (id off : Nat) (i k : Nat)
  /-- the address of a row within rows -/
  | rptr (id i : Nat)

inductive AO where
  | row (T : Nat) (fr : Bool) (t : Ty) (xs : List (El t))
  | box (T : Nat) (cells : List AV)
  | map (T : Nat) (kt vt : Ty) (kvs : List (El kt × El vt))
  /-- rows of elements e, each its own: of none a second one tells; one of them may be out -/
  | rows (T e : Nat) (t : Ty) (hole : Option Nat) (xss : List (List (El t)))

def enc (fr : Bool) : (t : Ty) → El t → List AV
  | .int k, x => [.v (.int k x)]
  | .bool, x => [.v (.bool x)]
  | .str, x => [.v (.string x)]
  | .prod a b, x => enc fr a x.1 ++ enc fr b x.2
  | .slice e t, xs => [.sl fr t e xs]
  | .rose t e, .node a ks => enc fr t a ++ [.sl fr (.rose t e) e ks]
  | .arr n t, xs => [.arr t n xs]

def cells : AV → List AV
  | .agg l => l
  | x => [x]

/-- One value out of its cells, by its type's kind. -/
def ofCells (t : Ty) (l : List AV) : AV :=
  match t, l with
  | .prod _ _, l => .agg l
  | .rose _ _, l => .agg l
  | .arr _ _, l => .agg l
  | _, [x] => x
  | _, _ => .dead

/-- How many cells it stands for; and lists of such. -/
def wd : AV → Nat
  | .arr t n _ => n * sz t
  | _ => 1

def wdL : List AV → Nat
  | [] => 0
  | x :: l => wd x + wdL l

def dropW : Nat → List AV → Option (List AV)
  | 0, l => some l
  | _ + 1, [] => none
  | n + 1, x :: l => if wd x ≤ n + 1 ∧ 0 < wd x then dropW (n + 1 - wd x) l else none

def takeW : Nat → List AV → Option (List AV)
  | 0, _ => some []
  | _ + 1, [] => none
  | n + 1, x :: l => if wd x ≤ n + 1 ∧ 0 < wd x then (takeW (n + 1 - wd x) l).map (x :: ·) else none

def constAV : Value → AV
  | .bool b => .kb b
  | x => .v x

structure St where
  tmps : List AV
  mem : List (Option AO)

def St.get (σ : St) (id : Nat) : Option AO := σ.mem.getD id none

/-- No row inside. -/
def flatT : Ty → Bool
  | .prod a b => flatT a && flatT b
  | .slice _ _ => false
  | .rose _ _ => false
  | .arr _ t => flatT t
  | _ => true

/-! ### what a list of cells is as a pure value; rows that were the call's own and are handed into it -/
def decSl (fr : Bool) (get : Nat → Option AO) (t : Ty) (e : Nat) : AV → Option (List (El t) × List Nat)
  | .v (.slice none 0 0) => some ([], [])
  | .sl fr' t' e' xs => if h : t' = t then (if e' = e ∧ (fr = true → fr' = true) then some (h ▸ xs, []) else none) else none
  | .ref id => match get id with
    | some (.row T fr' t' xs) => if h : t' = t then (if T = e ∧ (fr = true → fr' = true ∨ flatT t = true) then some (h ▸ xs, [id]) else none) else none
    | _ => none
  | _ => none

def decI (k : IntKind) : AV → Option Int
  | .v (.int k' n) => if k' = k then some n else none
  | _ => none
def decB : AV → Option Bool
  | .v (.bool b) => some b
  | .kb b => some b
  | _ => none
def decS : AV → Option ByteArray
  | .v (.string s) => some s
  | _ => none
def decA (n : Nat) (t : Ty) : AV → Option (List (El t))
  | .arr t' n' xs => if h : t' = t then (if n' = n ∧ flatT t = true then some (h ▸ xs) else none) else none
  | _ => none

def decC (fr : Bool) (get : Nat → Option AO) : (t : Ty) → List AV → Option (El t × List AV × List Nat)
  | .int k, c :: r => (decI k c).map fun x => (x, r, [])
  | .bool, c :: r => (decB c).map fun x => (x, r, [])
  | .str, c :: r => (decS c).map fun x => (x, r, [])
  | .prod a b, l =>
    match decC fr get a l with
    | some (x, r, f) => match decC fr get b r with
      | some (y, r', f') => some ((x, y), r', f ++ f')
      | none => none
    | none => none
  | .slice e t, c :: r => (decSl fr get t e c).map fun x => (x.1, r, x.2)
  | .rose t e, l =>
    match decC fr get t l with
    | some (x, c :: r, f) => (decSl fr get (.rose t e) e c).map fun z => (.node x z.1, r, f ++ z.2)
    | _ => none
  | .arr n t, c :: r => (decA n t c).map fun x => (x, r, [])
  | _, _ => none

def isAggV : AV → Bool
  | .agg _ => true
  | _ => false

def aggT : Ty → Bool
  | .prod _ _ => true
  | .rose _ _ => true
  | .arr _ _ => true
  | _ => false

def dec (fr : Bool) (get : Nat → Option AO) (t : Ty) (x : AV) : Option (El t × List Nat) :=
  match decC fr get t (cells x) with
  | some (y, [], f) => if isAggV x = aggT t then some (y, f) else none
  | _ => none

/-! ### templates -/
inductive Tm where
  | hole (fr : Bool) (t : Ty)
  | kb (b : Bool)
  | ref (j : Nat)
  | ptr (j off : Nat)
  | mp (j : Nat)
  | fn (f : Nat) (l : List (Nat × Nat))

inductive OTm where
  | row (T : Nat) (fr : Bool) (t : Ty)
  | box (T : Nat) (l : List Tm)
  | map (T : Nat) (kt vt : Ty)
  | rows (T e : Nat) (t : Ty)
  | gone

@[reducible] def TL : List Tm → Type
  | [] => Unit
  | .hole _ t :: r => El t × TL r
  | _ :: r => TL r

@[reducible] def SL : List (Nat × Tm) → Type
  | [] => Unit
  | (_, .hole _ t) :: r => El t × SL r
  | _ :: r => SL r

@[reducible] def OT : OTm → Type
  | .row _ _ t => List (El t)
  | .box _ l => TL l
  | .map _ kt vt => List (El kt × El vt)
  | .rows _ _ t => List (List (El t))
  | .gone => Unit

@[reducible] def OL : List OTm → Type
  | [] => Unit
  | .gone :: r => OL r
  | .row _ _ t :: r => List (El t) × OL r
  | .box _ l :: r => TL l × OL r
  | .map _ kt vt :: r => List (El kt × El vt) × OL r
  | .rows _ _ t :: r => List (List (El t)) × OL r

structure Tpl where
  n : Nat
  slots : List (Nat × Tm)
  objs : List OTm

@[reducible] def Tpl.T (p : Tpl) : Type := SL p.slots × OL p.objs

def tmAV (r : Nat → Nat) : Tm → AV
  | .hole _ _ => .dead
  | .kb b => .kb b
  | .ref j => .ref (r j)
  | .ptr j off => .ptr (r j) off
  | .mp j => .mp (r j)
  | .fn f l => .fn f (l.map fun (j, off) => .ptr (r j) off)

def instTL (r : Nat → Nat) : (l : List Tm) → TL l → List AV
  | [], _ => []
  | .hole fr t :: l, x => ((enc fr t x.1).head?.getD .dead) :: instTL r l x.2
  | .kb b :: l, x => .kb b :: instTL r l x
  | .ref j :: l, x => .ref (r j) :: instTL r l x
  | .ptr j off :: l, x => .ptr (r j) off :: instTL r l x
  | .mp j :: l, x => .mp (r j) :: instTL r l x
  | .fn f q :: l, x => .fn f (q.map fun (j, off) => .ptr (r j) off) :: instTL r l x

def instSL (r : Nat → Nat) : (l : List (Nat × Tm)) → SL l → List AV → List AV
  | [], _, acc => acc
  | (s, .hole fr t) :: l, x, acc => instSL r l x.2 (acc.set s (ofCells t (enc fr t x.1)))
  | (s, .kb b) :: l, x, acc => instSL r l x (acc.set s (.kb b))
  | (s, .ref j) :: l, x, acc => instSL r l x (acc.set s (.ref (r j)))
  | (s, .ptr j off) :: l, x, acc => instSL r l x (acc.set s (.ptr (r j) off))
  | (s, .mp j) :: l, x, acc => instSL r l x (acc.set s (.mp (r j)))
  | (s, .fn f q) :: l, x, acc => instSL r l x (acc.set s (.fn f (q.map fun (j, off) => .ptr (r j) off)))

def instOL (r : Nat → Nat) : (l : List OTm) → OL l → List (Option AO)
  | [], _ => []
  | .gone :: l, x => none :: instOL r l x
  | .row T fr t :: l, x => some (.row T fr t x.1) :: instOL r l x.2
  | .box T q :: l, x => some (.box T (instTL r q x.1)) :: instOL r l x.2
  | .map T kt vt :: l, x => some (.map T kt vt x.1) :: instOL r l x.2
  | .rows T e t :: l, x => some (.rows T e t none x.1) :: instOL r l x.2

def Tpl.inst (p : Tpl) (x : p.T) : St :=
  { tmps := instSL id p.slots x.1 (List.replicate p.n .dead), mem := instOL id p.objs x.2 }

/-! ### does a state fit a template? -/
/-- Which object of the state is which of the template; and which rows are frozen. -/
structure Bd where
  m : List (Option Nat)
  f : List Nat

def Bd.bind (b : Bd) (j id : Nat) : Option Bd :=
  match b.m.getD j none with
  | some id' => if id' = id then some b else none
  | none => if j < b.m.length then some { b with m := b.m.set j (some id) } else none

def fnFit (b : Bd) : List AV → List (Nat × Nat) → Option Bd
  | [], [] => some b
  | .ptr id off :: l, (j, off') :: q => if off = off' then (match b.bind j id with | some b => fnFit b l q | none => none) else none
  | _, _ => none

def tmFit (b : Bd) : AV → Tm → Option Bd
  | .kb x, .kb y => if x = y then some b else none
  | .ref id, .ref j => b.bind j id
  | .ptr id off, .ptr j off' => if off = off' then b.bind j id else none
  | .mp id, .mp j => b.bind j id
  | .fn f l, .fn f' q => if f = f' then fnFit b l q else none
  | _, _ => none

def decCell (fr : Bool) (get : Nat → Option AO) (t : Ty) (c : AV) : Option (El t × List Nat) :=
  match decC fr get t [c] with
  | some (y, [], f) => some (y, f)
  | _ => none

def fitTL (get : Nat → Option AO) (b : Bd) : (l : List Tm) → List AV → Option (TL l × Bd)
  | [], _ => some ((), b)
  | .hole fr t :: l, c :: cs =>
    match decCell fr get t c with
    | some (x, f) => match fitTL get { b with f := b.f ++ f } l cs with
      | some (y, b) => some ((x, y), b)
      | none => none
    | none => none
  | .kb y :: l, c :: cs => match tmFit b c (.kb y) with | some b => fitTL get b l cs | none => none
  | .ref j :: l, c :: cs => match tmFit b c (.ref j) with | some b => fitTL get b l cs | none => none
  | .ptr j off :: l, c :: cs => match tmFit b c (.ptr j off) with | some b => fitTL get b l cs | none => none
  | .mp j :: l, c :: cs => match tmFit b c (.mp j) with | some b => fitTL get b l cs | none => none
  | .fn f q :: l, c :: cs => match tmFit b c (.fn f q) with | some b => fitTL get b l cs | none => none
  | _, _ => none

def fitSL (get : Nat → Option AO) (tm : Nat → AV) (b : Bd) : (l : List (Nat × Tm)) → Option (SL l × Bd)
  | [] => some ((), b)
  | (s, .hole fr t) :: l =>
    match dec fr get t (tm s) with
    | some (x, f) => match fitSL get tm { b with f := b.f ++ f } l with
      | some (y, b) => some ((x, y), b)
      | none => none
    | none => none
  | (s, .kb y) :: l => match tmFit b (tm s) (.kb y) with | some b => fitSL get tm b l | none => none
  | (s, .ref j) :: l => match tmFit b (tm s) (.ref j) with | some b => fitSL get tm b l | none => none
  | (s, .ptr j off) :: l => match tmFit b (tm s) (.ptr j off) with | some b => fitSL get tm b l | none => none
  | (s, .mp j) :: l => match tmFit b (tm s) (.mp j) with | some b => fitSL get tm b l | none => none
  | (s, .fn f q) :: l => match tmFit b (tm s) (.fn f q) with | some b => fitSL get tm b l | none => none

def fitOL (get : Nat → Option AO) (b : Bd) : (j : Nat) → (l : List OTm) → Option (OL l × Bd)
  | _, [] => some ((), b)
  | j, .gone :: l => fitOL get b (j + 1) l
  | j, .row T fr t :: l =>
    match (b.m.getD j none).bind get with
    | some (.row T' fr' t' xs) =>
      if h : t' = t then
        if T' = T ∧ (fr = true → fr' = true ∨ flatT t = true) then
          match fitOL get b (j + 1) l with
          | some (y, b) => some ((h ▸ xs, y), b)
          | none => none
        else none
      else none
    | _ => none
  | j, .box T q :: l =>
    match (b.m.getD j none).bind get with
    | some (.box T' cs) =>
      if T' = T ∧ cs.length = q.length then
        match fitTL get b q cs with
        | some (x, b) => match fitOL get b (j + 1) l with
          | some (y, b) => some ((x, y), b)
          | none => none
        | none => none
      else none
    | _ => none
  | j, .map T kt vt :: l =>
    match (b.m.getD j none).bind get with
    | some (.map T' kt' vt' kvs) =>
      if h : kt' = kt then
        if h' : vt' = vt then
          if T' = T then
            match fitOL get b (j + 1) l with
            | some (y, b) => some ((h ▸ h' ▸ kvs, y), b)
            | none => none
          else none
        else none
      else none
    | _ => none

  | j, .rows T e t :: l =>
    match (b.m.getD j none).bind get with
    | some (.rows T' e' t' none xss) =>
      if h : t' = t then
        if T' = T ∧ e' = e then
          match fitOL get b (j + 1) l with
          | some (y, b) => some ((h ▸ xss, y), b)
          | none => none
        else none
      else none
    | _ => none

def nodup : List Nat → Bool
  | [] => true
  | x :: l => !l.contains x && nodup l

/-- The first cell of nil where there is a row in the template. -/
def nilAt (objs : List OTm) : List Tm → List AV → Nat → Option (Nat × Nat × Bool × Ty)
  | .ref j :: q, .v (.slice none 0 0) :: l, k =>
    match objs.getD j .gone with
    | .row T fr t => some (k, T, fr, t)
    | _ => nilAt objs q l (k + 1)
  | _ :: q, _ :: l, k => nilAt objs q l (k + 1)
  | _, _, _ => none

/-- In a box: nil cells become empty rows. -/
def nilBox (objs : List OTm) (q : List Tm) (id : Nat) : Nat → St → St
  | 0, σ => σ
  | d + 1, σ =>
    match σ.get id with
    | some (.box T l) =>
      match nilAt objs q l 0 with
      | some (k, B, fr, t) => nilBox objs q id d { σ with mem := σ.mem.set id (some (.box T (l.set k (.ref σ.mem.length)))) ++ [some (.row B fr t [])] }
      | none => σ
    | _ => σ

/-- What the template has as a row: nil is an empty one; rows that are their own are frozen. -/
def nilify (objs : List OTm) : List (Nat × Tm) → St → St
  | [], σ => σ
  | (s, .ref j) :: l, σ =>
    match σ.tmps.getD s .dead, objs.getD j .gone with
    | .v (.slice none 0 0), .row T fr t => nilify objs l { tmps := σ.tmps.set s (.ref σ.mem.length), mem := σ.mem ++ [some (.row T fr t [])] }
    | .mp id, .row _ _ _ =>
      match σ.get id with
      | some (.rows T e t none xss) => nilify objs l { tmps := σ.tmps.set s (.ref σ.mem.length), mem := σ.mem.set id none ++ [some (.row T true (.slice e t) xss)] }
      | _ => nilify objs l σ
    | _, _ => nilify objs l σ
  | (s, .ptr j _) :: l, σ =>
    match σ.tmps.getD s .dead, objs.getD j .gone with
    | .ptr id _, .box _ q => nilify objs l (nilBox objs q id q.length σ)
    | _, _ => nilify objs l σ
  | _ :: l, σ => nilify objs l σ

/-- Objects that stand are bound from the start. -/
def m0 (k n : Nat) : List (Option Nat) := (List.range n).map fun j => if j < k then some j else none

def fits0 (k : Nat) (p : Tpl) (σ : St) : Option (p.T × Bd) :=
  if p.n ≤ σ.tmps.length then
    match fitSL σ.get (fun s => σ.tmps.getD s .dead) { m := m0 k p.objs.length, f := [] } p.slots with
    | some (x, b) => match fitOL σ.get b 0 p.objs with
      | some (y, b) => if nodup (b.m.filterMap (fun x => x)) && b.f.all (fun i => !b.m.contains (some i)) then some ((x, y), b) else none
      | none => none
    | none => none
  else none

def fitsTo (k : Nat) (p : Tpl) (σ : St) : Option (p.T × Bd) := fits0 k p (nilify p.objs p.slots σ)

/-- Nothing is asked to be the call's own, unless it may be. -/
def tmOk (A : Bool) : Tm → Bool
  | .hole fr _ => !fr || A
  | _ => true

def oOk (A : Bool) : OTm → Bool
  | .row _ fr _ => !fr || A
  | .box _ l => l.all (tmOk A)
  | .rows _ _ _ => A
  | _ => true

def tplOk (A : Bool) (p : Tpl) : Bool := p.slots.all (fun s => tmOk A s.2) && p.objs.all (oOk A)

/-! ### trees -/
inductive Ex where
  | normal
  | exit (id : Nat)
  | ret
  deriving DecidableEq

/-- What a contract speaks of: a piece of code, or a function. -/
inductive What where
  | fn (f : FuncId)
  | code (c : Code)
  | loop (body : Code)

structure Sig where
  what : What
  pre : Tpl
  outs : List (Ex × Tpl)
  /-- so many objects, boxes and maps, stand where they stood -/
  keep : Nat := 0

/-- What comes of it: one of its ends. -/
@[reducible] def OutT : List (Ex × Tpl) → Type
  | [] => Empty
  | [o] => o.2.T
  | o :: o' :: r => o.2.T ⊕ OutT (o' :: r)

@[reducible] def Sig.O (s : Sig) : Type := OutT s.outs

def onOut {Y : Type} : (l : List (Ex × Tpl)) → OutT l → (Ex → (p : Tpl) → p.T → Y) → Y
  | [], y, _ => nomatch y
  | [o], y, f => f o.1 o.2 y
  | o :: o' :: r, y, f =>
    match y with
    | .inl x => f o.1 o.2 x
    | .inr z => onOut (o' :: r) z f

inductive Tree (Γ : Nat → Sig) (X : Type) where
  | ret (x : X)
  | stuck (why : String)
  | ite (b : Bool) (t e : Tree Γ X)
  | chk (b : Bool) (t : Tree Γ X)
  | act (i : Nat) (s : (Γ i).pre.T) (k : (Γ i).O → Tree Γ X)

def chks {Γ : Nat → Sig} {X : Type} : List Bool → Tree Γ X → Tree Γ X
  | [], t => t
  | b :: l, t => .chk b (chks l t)

/-- What a piece or a function comes to. -/
abbrev Spec (Γ : Nat → Sig) := (i : Nat) → (Γ i).pre.T → (Γ i).O → Prop

def Tree.wp {Γ : Nat → Sig} (R : Spec Γ) {X : Type} : Tree Γ X → (X → Prop) → Prop
  | .ret x, Q => Q x
  | .stuck _, _ => False
  | .ite b t e, Q => if b then t.wp R Q else e.wp R Q
  | .chk b t, Q => b = true ∧ t.wp R Q
  | .act i s k, Q => ∃ y, R i s y ∧ (k y).wp R Q

end Go.Proofs.YtjmnjimlkljhjaaV

/- The symbolic executor: definitions alone. -/
set_option linter.unusedVariables false
namespace Go.Proofs.YtjmnjimlkljhjaaV
open Go

/-- What an operation needs to be so, what it gives, and what becomes of objects. -/
structure Res where
  conds : List Bool
  val : AV
  eff : List (Nat × Option AO)

abbrev KT := Nat → Option Ty


def evO (σ : St) : Operand → AV
  | .tmp t => σ.tmps.getD t .dead
  | .const v => constAV v
  | .func f => .fn f []
  | .global _ => .dead

/-- Under the guard g what was told under that guard alone may be used. -/
def evG (g : Option (Nat × Bool)) (σ : St) (x : Operand) : AV :=
  match evO σ x with
  | .opt tc b y => match g with
    | some (tc', b') => if tc = tc' ∧ b = b' then y else .dead
    | none => .dead
  | y => y

def bOf : AV → Option Bool
  | .v (.bool b) => some b
  | .kb b => some b
  | _ => none

def isAggT (P : Program) (T : Nat) : Bool :=
  match P.underlying T with
  | some (.struct _) => true
  | some (.array _ _) => true
  | _ => false

def szT (P : Program) (T : Nat) : Option Nat := (P.info? T).map (·.size)

/-- Are two values of no address the same, for sure? -/
def eqV : Value → Value → Bool
  | .bool a, .bool b => a == b
  | .int k a, .int k' b => k == k' && a == b
  | .string a, .string b => a.size == 0 && b.size == 0
  | .slice none 0 0, .slice none 0 0 => true
  | .pointer none, .pointer none => true
  | .map none, .map none => true
  | .nilFunc, .nilFunc => true
  | .nilIface, .nilIface => true
  | _, _ => false

def isBig (n : Nat) : Bool := decide (8 < n)

/-- A type's zero value: the greater arrays told as one. -/
def zeroF (P : Program) (kt : KT) (zero : List Value) : Nat → Nat → Option (List AV)
  | 0, _ => none
  | d + 1, T =>
    match P.underlying T, P.info? T with
    | some (.array n e), some i =>
      if isBig n then
        match kt e with
        | some t => match decC true (fun _ => none) t ((zero.take (sz t)).map constAV) with
          | some (z, [], []) => if flatT t then some [.arr t n (List.replicate n z)] else none
          | _ => none
        | none => none
      else some ((zero.take i.size).map constAV)
    | some (.struct fs), some i =>
      fs.toList.foldl (fun acc f => match acc with
        | some l => if wdL l = f.offset then (zeroF P kt (zero.drop f.offset) d f.type).map (l ++ ·) else none
        | none => none) (some [])
    | _, some i => if i.size = 1 then some ((zero.take 1).map constAV) else none
    | _, _ => none

/-- Is a value of a type without rows inside just these cells? -/
def tyOk : (t : Ty) → El t → List Value → Bool
  | .int k, (x : Int), cs => match cs with | [.int k' y] => k' == k && y == x | _ => false
  | .bool, (x : Bool), cs => match cs with | [.bool y] => y == x | _ => false
  | .str, (x : ByteArray), cs => match cs with | [.string y] => y.size == 0 && x.size == 0 | _ => false
  | .prod a b, x, cs => tyOk a x.1 (cs.take (sz a)) && tyOk b x.2 (cs.drop (sz a))
  | _, _, _ => false

def arrOk (t : Ty) : List (El t) → List Value → Bool
  | [], cs => cs.isEmpty
  | x :: xs, cs => decide (sz t ≤ cs.length) && tyOk t x (cs.take (sz t)) && arrOk t xs (cs.drop (sz t))

def zeroOk : List AV → List Value → Bool
  | [], [] => true
  | .arr t n xs :: l, cs => decide (xs.length = n) && arrOk t xs (cs.take (n * sz t)) && zeroOk l (cs.drop (n * sz t))
  | .v x :: l, c :: cs => eqV x c && zeroOk l cs
  | .kb x :: l, c :: cs => eqV (.bool x) c && zeroOk l cs
  | _, _ => false

def zeroL (P : Program) (kt : KT) (T : Nat) : Option (List AV) :=
  match P.info? T with
  | some i => match i.zero with
    | some z => match zeroF P kt z.cells.toList 6 T with
      | some l => if zeroOk l z.cells.toList then some l else none
      | none => none
    | none => none
  | none => none

/-- The place's value out of the cells that stand there. -/
def takeT (P : Program) (T : Nat) (l : List AV) : Option AV :=
  if (P.underlying T).isNone then none else
  if isAggT P T then
    match szT P T with
    | some n => (takeW n l).map .agg
    | none => none
  else match l with
    | .arr _ _ _ :: _ => none
    | x :: _ => some x
    | [] => none

/-- Cells written over others from a place on. -/
def splice (l : List AV) (off : Nat) (c : List AV) : Option (List AV) :=
  match takeW off l, dropW (off + wdL c) l with
  | some x, some y => some (x ++ c ++ y)
  | _, _ => none

def fieldOff (P : Program) (S f : Nat) : Option (Nat × Nat) :=
  match P.underlying S with
  | some (.struct fs) => (fs[f]?).map fun f => (f.offset, f.type)
  | _ => none

def decL (fr : Bool) (get : Nat → Option AO) (t : Ty) : List (List AV) → Option (List (El t) × List Nat)
  | [] => some ([], [])
  | c :: l => match decC fr get t c with
    | some (x, [], f) => match decL fr get t l with
      | some (xs, f') => some (x :: xs, f ++ f')
      | none => none
    | _ => none

def frees (f : List Nat) : List (Nat × Option AO) := f.map fun i => (i, none)

/-- What a slice of elements e, of kind t, is read as. -/
def readSl (get : Nat → Option AO) (t : Ty) (e : Nat) (x : AV) : Option (List (El t) × Bool × List Nat) :=
  match decSl true get t e x with
  | some (xs, f) => some (xs, true, f)
  | none => match decSl false get t e x with
    | some (xs, f) => some (xs, false, f)
    | none => none

def eqEl : (t : Ty) → El t → El t → Bool
  | .int _, (x : Int), (y : Int) => x == y
  | .bool, (x : Bool), (y : Bool) => x == y
  | .str, (x : ByteArray), (y : ByteArray) => x.toList == y.toList
  | .prod a b, x, y => eqEl a x.1 y.1 && eqEl b x.2 y.2
  | .arr n t, (xs : List (El t)), (ys : List (El t)) => (List.range n).all fun i => eqEl t (xs.getD i (dflt t)) (ys.getD i (dflt t))
  | _, _, _ => false

def lkp {α β : Type} (eq : α → α → Bool) (k : α) : List (α × β) → Option β
  | [] => none
  | (k', v) :: l => if eq k k' then some v else lkp eq k l

def putKV {α β : Type} (eq : α → α → Bool) (k : α) (v : β) : List (α × β) → List (α × β)
  | [] => [(k, v)]
  | (k', v') :: l => if eq k k' then (k', v) :: l else (k', v') :: putKV eq k v l

def bt (s : ByteArray) (i : Int) : Int := if h : i.toNat < s.size then ((s[i.toNat]'h).toNat : Int) else 0
def strEq (s t : ByteArray) : Bool := s.toList == t.toList
def imin (x y : Int) : Int := if y < x then y else x
def imax (x y : Int) : Int := if y > x then y else x

def xBin (op : BinOp) (x y : AV) : Option Res :=
  match x, y with
  | .v (.int k a), .v (.int k' b) =>
    match op with
    | .shr => some ⟨[decide (0 ≤ b)], .v (.int k (a.fdiv (2 ^ min b.toNat k.bits))), []⟩
    | .shl => some ⟨[decide (0 ≤ b)], .v (.int k (k.wrap (a * 2 ^ min b.toNat k.bits))), []⟩
    | op =>
    if k = k' then
      match op with
      | .add => some ⟨[], .v (.int k (k.wrap (a + b))), []⟩
      | .sub => some ⟨[], .v (.int k (k.wrap (a - b))), []⟩
      | .mul => some ⟨[], .v (.int k (k.wrap (a * b))), []⟩
      | .quo => some ⟨[b != 0], .v (.int k (k.wrap (a.tdiv b))), []⟩
      | .rem => some ⟨[b != 0], .v (.int k (a.tmod b)), []⟩
      | .eql => some ⟨[], .v (.bool (a == b)), []⟩
      | .neq => some ⟨[], .v (.bool (a != b)), []⟩
      | .lss => some ⟨[], .v (.bool (a < b)), []⟩
      | .leq => some ⟨[], .v (.bool (a ≤ b)), []⟩
      | .gtr => some ⟨[], .v (.bool (a > b)), []⟩
      | .geq => some ⟨[], .v (.bool (a ≥ b)), []⟩
      | _ => none
    else none
  | .v (.string a), .v (.string b) =>
    match op with
    | .eql => some ⟨[], .v (.bool (strEq a b)), []⟩
    | .neq => some ⟨[], .v (.bool (!strEq a b)), []⟩
    | .add => some ⟨[decide (a.size + b.size ≤ 9223372036854775807)], .v (.string (a ++ b)), []⟩
    | _ => none
  | _, _ => none

def xBinB (P : Program) (op : BinOp) (T : Nat) (a b : Bool) : Option Res :=
  match P.underlying T, op with
  | some .bool, .eql => some ⟨[], .v (.bool (a == b)), []⟩
  | some .bool, .neq => some ⟨[], .v (.bool (!(a == b))), []⟩
  | _, _ => none

def xUn (op : UnOp) (x : AV) : Option Res :=
  match op, x with
  | .not, .kb b => some ⟨[], .kb (!b), []⟩
  | .not, .v (.bool b) => some ⟨[], .v (.bool (!b)), []⟩
  | .neg, .v (.int k n) => some ⟨[], .v (.int k (k.wrap (0 - n))), []⟩
  | _, _ => none

def aliveP (get : Nat → Option AO) : AV → Bool
  | .ptr id _ => match get id with | some (.box _ _) => true | _ => false
  | .eptr id _ _ => match get id with | some (.row _ _ _ _) => true | _ => false
  | .aptr id _ _ _ => match get id with | some (.box _ _) => true | _ => false
  | .cptr _ => true
  | _ => false

def xIndexAddr (P : Program) (kt : KT) (get : Nat → Option AO) (T : Nat) (x i : AV) : Option Res :=
  match P.underlying T, i with
  | some (.slice e), .v (.int _ n) =>
    match kt e, szT P e with
    | some t, some s =>
      if s = sz t then
        match x with
        | .ref id => match get id with
          | some (.row T' fr t' xs) => if T' = e ∧ t' = t then some ⟨[decide (0 ≤ n), decide (n < (xs.length : Int))], .eptr id n.toNat 0, []⟩ else none
          | _ => none
        | .sl fr t' e' xs => if e' = e ∧ t' = t then some ⟨[decide (0 ≤ n), decide (n < (xs.length : Int))], .cptr (enc fr t' (xs.getD n.toNat (dflt t'))), []⟩ else none
        | _ => none
      else none
    | _, _ => none
  | some (.array len e), .v (.int _ n) =>
    if isBig len then
      match x with
      | .ptr id off => match get id with
        | some (.box _ l) => match dropW off l with
          | some (.arr t n' _ :: _) => if n' = len ∧ szT P e = some (sz t) then some ⟨[decide (0 ≤ n), decide (n < (len : Int))], .aptr id off n.toNat 0, []⟩ else none
          | _ => none
        | _ => none
      | .cptr (.arr t n' xs :: _) => if n' = len ∧ szT P e = some (sz t) then some ⟨[decide (0 ≤ n), decide (n < (len : Int))], .cptr (enc false t (xs.getD n.toNat (dflt t))), []⟩ else none
      | _ => none
    else
      if aliveP get x then
        match n, szT P e with
        | .ofNat n, some s => if n < len then (match x with
          | .ptr id off => some ⟨[], .ptr id (off + n * s), []⟩
          | .cptr l => (dropW (n * s) l).map fun l => ⟨[], .cptr l, []⟩
          | .eptr id i off => some ⟨[], .eptr id i (off + n * s), []⟩
          | _ => none) else none
        | _, _ => none
      else none
  | _, _ => none

def xLen (P : Program) (get : Nat → Option AO) (T : Nat) (x : AV) : Option Res :=
  match P.underlying T, x with
  | some .string, .v (.string s) => some ⟨[], .v (.int .i64 (s.size : Int)), []⟩
  | some (.slice _), .v (.slice none 0 0) => some ⟨[], .v (.int .i64 0), []⟩
  | some (.slice _), .sl _ _ _ xs => some ⟨[], .v (.int .i64 (xs.length : Int)), []⟩
  | some (.slice _), .ref id => match get id with
    | some (.row _ _ _ xs) => some ⟨[], .v (.int .i64 (xs.length : Int)), []⟩
    | _ => none
  | some (.map _ _), .mp id => match get id with
    | some (.map _ _ _ kvs) => some ⟨[], .v (.int .i64 (kvs.length : Int)), []⟩
    | _ => none
  | _, _ => none

def xAppend (P : Program) (kt : KT) (get : Nat → Option AO) (nid T : Nat) (x y : AV) : Option Res :=
  match P.underlying T with
  | some (.slice e) =>
    match kt e, P.info? e with
    | some t, some i =>
      if i.size = sz t ∧ 0 < sz t ∧ 0 < i.bytes ∧ (i.zero.map fun z => z.cells.size) = some (sz t) then
        match (match x with
          | .v (.slice none 0 0) => some (([] : List (El t)), true, ([] : List Nat))
          | .ref id => readSl get t e (.ref id)
          | _ => none), readSl get t e y with
        | some (xs, fr, f), some (ys, fr', f') =>
          if f'.all (fun i => !f.contains i) then
            some ⟨[decide ((xs.length + ys.length) * i.bytes ≤ 140737488355328)], .ref nid, (nid, some (.row e (fr && fr') t (xs ++ ys))) :: frees f⟩
          else none
        | _, _ => none
      else none
    | _, _ => none
  | _ => none

def xMake (P : Program) (kt : KT) (nid T : Nat) (x y : AV) : Option Res :=
  match P.underlying T, x, y with
  | some (.slice e), .v (.int k n), .v (.int k' m) =>
    match kt e, P.info? e, zeroL P kt e with
    | some t, some i, some z =>
      match decC true (fun _ => none) t z with
      | some (z, [], []) =>
        if i.size = sz t ∧ 0 < sz t then
          some ⟨[decide (0 ≤ n), n == m, decide (n.toNat * sz t ≤ 16777216), decide (i.bytes * n.toNat ≤ 281474976710656)], .ref nid, [(nid, some (.row e true t (List.replicate n.toNat z)))]⟩
        else none
      | _ => none
    | _, _, _ => none
  | _, _, _ => none

def xSlice (P : Program) (get : Nat → Option AO) (nid T : Nat) (x : AV) (lo hi : Option AV) : Option Res :=
  match P.underlying T with
  | some (.slice e0) =>
    match x, lo, hi with
    | .ref id, none, some (.v (.int _ h)) => match get id with
      | some (.row B fr t xs) => if szT P e0 = some (sz t) then some ⟨[decide (0 ≤ h), decide (h ≤ (xs.length : Int))], .ref nid, [(nid, some (.row B fr t (xs.take h.toNat))), (id, none)]⟩ else none
      | _ => none
    | .sl fr t e xs, none, some (.v (.int _ h)) => if szT P e0 = some (sz t) then some ⟨[decide (0 ≤ h), decide (h ≤ (xs.length : Int))], .sl fr t e (xs.take h.toNat), []⟩ else none
    | .sl fr t e xs, some (.v (.int _ l)), none => if szT P e0 = some (sz t) then some ⟨[decide (0 ≤ l), decide (l ≤ (xs.length : Int))], .sl fr t e (xs.drop l.toNat), []⟩ else none
    | _, _, _ => none
  | some .string =>
    match x, lo, hi with
    | .v (.string s), none, some (.v (.int _ h)) => some ⟨[decide (0 ≤ h), decide (h ≤ (s.size : Int))], .v (.string (s.extract 0 h.toNat)), []⟩
    | .v (.string s), some (.v (.int _ l)), none => some ⟨[decide (0 ≤ l), decide (l ≤ (s.size : Int))], .v (.string (s.extract l.toNat s.size)), []⟩
    | .v (.string s), some (.v (.int _ l)), some (.v (.int _ h)) => some ⟨[decide (0 ≤ l), decide (l ≤ h), decide (h ≤ (s.size : Int))], .v (.string (s.extract l.toNat h.toNat)), []⟩
    | _, _, _ => none
  | _ => none

def xLoad (P : Program) (get : Nat → Option AO) (T : Nat) (a : AV) : Option Res :=
  match a with
  | .ptr id off => match get id with
    | some (.box _ l) => ((dropW off l).bind (takeT P T)).map fun x => ⟨[], x, []⟩
    | _ => none
  | .eptr id i off => match get id with
    | some (.row _ fr t xs) => ((dropW off (enc fr t (xs.getD i (dflt t)))).bind (takeT P T)).map fun x => ⟨[], x, []⟩
    | _ => none
  | .cptr l => (takeT P T l).map fun x => ⟨[], x, []⟩
  | .aptr id off i k => match get id with
    | some (.box _ l) => match dropW off l with
      | some (.arr t _ xs :: _) => ((dropW k (enc false t (xs.getD i (dflt t)))).bind (takeT P T)).map fun x => ⟨[], x, []⟩
      | _ => none
    | _ => none
  | _ => none

def shapeL : List AV → List (Option (Ty × Nat))
  | [] => []
  | .arr t n _ :: l => some (t, n) :: shapeL l
  | _ :: l => none :: shapeL l

/-- May a value stand in a cell, or in cells? -/
def oneC : AV → Bool
  | .dead => false
  | .agg _ => false
  | .tup _ => false
  | .opt _ _ _ => false
  | .v x => x.oneCell'
  | _ => true

def xStore (P : Program) (get : Nat → Option AO) (T : Nat) (a x : AV) : Option Res :=
  if szT P T = some (wdL (cells x)) ∧ (cells x).all oneC then
    match a with
    | .ptr id off => match get id with
      | some (.box B l) => match splice l off (cells x) with
        | some l' => if shapeL l = shapeL l' then some ⟨[], .dead, [(id, some (.box B l'))]⟩ else none
        | none => none
      | _ => none
    | .eptr id i off => match get id with
      | some (.row B fr t xs) =>
        match splice (enc fr t (xs.getD i (dflt t))) off (cells x) with
        | some c => match decC fr get t c with
          | some (y, [], f) => if f.contains id then none else some ⟨[], .dead, (id, some (.row B fr t (xs.set i y))) :: frees f⟩
          | _ => none
        | none => none
      | _ => none
    | .aptr id off i k => match get id with
      | some (.box B l) => match dropW off l with
        | some (.arr t n xs :: _) => match splice (enc false t (xs.getD i (dflt t))) k (cells x) with
          | some c => match decC false get t c with
            | some (y, [], []) => match splice l off [.arr t n (xs.set i y)] with
              | some l' => if shapeL l = shapeL l' then some ⟨[], .dead, [(id, some (.box B l'))]⟩ else none
              | none => none
            | _ => none
          | none => none
        | _ => none
      | _ => none
    | _ => none
  else none

/-- Where the parts of an aggregate lie, and how many cells they are. -/
def placesOf (P : Program) (T : Nat) : Option (Nat → Option (Nat × Nat)) :=
  match P.underlying T with
  | some (.array _ e) => (P.info? e).map fun ie i => some (i * ie.size, ie.size)
  | some (.struct fs) => (fs.toList.mapM fun f => (P.info? f.type).map fun i => (f.offset, i.size)).map fun places i => places.toArray[i]?
  | _ => none

def putPart (place : Nat → Option (Nat × Nat)) (acc : Option (List AV)) (p : Nat × AV) : Option (List AV) :=
  match acc, place p.1 with
  | some l, some (off, s) => if s = wdL (cells p.2) ∧ (cells p.2).all oneC = true then splice l off (cells p.2) else none
  | _, _ => none

def xBuild (P : Program) (kt : KT) (T : Nat) (parts : List (Nat × AV)) : Option Res :=
  match zeroL P kt T, placesOf P T with
  | some z, some place => (parts.foldl (putPart place) (some z)).map fun l => ⟨[], .agg l, []⟩
  | _, _ => none

def xBuildSlice (P : Program) (kt : KT) (get : Nat → Option AO) (nid T len : Nat) (parts : List (Nat × AV)) : Option Res :=
  match P.underlying T with
  | some (.slice e) =>
    match kt e, szT P e, zeroL P kt e with
    | some t, some s, some z =>
      if s = sz t ∧ 0 < s ∧ len * s ≤ 1000 ∧ wdL z = s ∧ parts.all (fun p => decide (p.1 < len) && (cells p.2).all oneC && decide (wdL (cells p.2) = s)) = true then
        let l := parts.foldl (fun L p => L.set p.1 (cells p.2)) (List.replicate len z)
        match decL true get t l with
        | some (xs, f) => some ⟨[], .ref nid, (nid, some (.row e true t xs)) :: frees f⟩
        | none => match decL false get t l with
          | some (xs, f) => some ⟨[], .ref nid, (nid, some (.row e false t xs)) :: frees f⟩
          | none => none
      else none
    | _, _, _ => none
  | _ => none

/-! when the values of a type are the same -/
def fsOk (P : Program) (rec : Nat → Ty → Bool) : Nat → List Field → Ty → Bool
  | _, [], _ => false
  | off, [f], t => f.name != "_" && f.offset == off && szT P f.type == some (sz t) && rec f.type t
  | off, f :: fs, .prod a b => f.name != "_" && f.offset == off && szT P f.type == some (sz a) && rec f.type a && fsOk P rec (off + sz a) fs b
  | _, _, _ => false

def itOk (rec : Ty → Bool) (s : Nat) : Nat → Ty → Bool
  | 0, _ => false
  | 1, t => s == sz t && rec t
  | n + 2, .prod a b => s == sz a && rec a && itOk rec s (n + 1) b
  | _, _ => false

def eqOk (P : Program) : Nat → Nat → Ty → Bool
  | 0, _, _ => false
  | d + 1, T, t =>
    match P.underlying T, t with
    | some (.int _), .int _ => true
    | some .bool, .bool => true
    | some .string, .str => true
    | some (.struct fs), t => !P.stoodInHeld T && fsOk P (eqOk P d) 0 fs.toList t
    | some (.array n e), t =>
      match t with
      | .arr n' t' => n' == n && szT P e == some (sz t') && eqOk P d e t'
      | t => match szT P e with
        | some s => itOk (eqOk P d e) s n t
        | none => false
    | _, _ => false

def isAggOf : Value → Bool
  | .agg _ => true
  | _ => false

def zeroAgg (P : Program) (T : Nat) : Option Bool := (P.info? T).bind fun i => i.zero.map isAggOf

def xLookup (P : Program) (KK : KT) (get : Nat → Option AO) (T : Nat) (m k : AV) (ok : Bool) : Option Res :=
  match P.underlying T, m with
  | some (.map ke ve), .mp id => match get id with
    | some (.map _ kt vt kvs) =>
      match dec false get kt k, zeroL P KK ve with
      | some (key, []), some z =>
        match decC true (fun _ => none) vt z with
        | some (z, [], []) =>
          if eqOk P 20 ke kt = true ∧ isAggT P ke = aggT kt ∧ zeroAgg P ve = some (aggT vt) then
            let r := lkp (eqEl kt) key kvs
            let x := ofCells vt (enc false vt (r.getD z))
            some ⟨[], if ok then .tup [x, .v (.bool r.isSome)] else x, []⟩
          else none
        | _ => none
      | _, _ => none
    | _ => none
  | _, _ => none

def xBinAgg (P : Program) (kt : KT) (get : Nat → Option AO) (op : BinOp) (T : Nat) (x y : AV) : Option Res :=
  match kt T with
  | some t => match dec false get t x, dec false get t y with
    | some (a, []), some (b, []) =>
      if eqOk P 20 T t = true ∧ isAggT P T = true ∧ aggT t = true ∧ P.eqGuardType P.depth T = false then
        match op with
        | .eql => some ⟨[], .v (.bool (eqEl t a b)), []⟩
        | .neq => some ⟨[], .v (.bool (!eqEl t a b)), []⟩
        | _ => none
      else none
    | _, _ => none
  | none => none

def xUpdate (P : Program) (get : Nat → Option AO) (T : Nat) (m k x : AV) : Option Res :=
  match P.underlying T, m with
  | some (.map ke ve), .mp id => match get id with
    | some (.map T' kt vt kvs) =>
      match dec false get kt k, dec false get vt x with
      | some (key, []), some (val, f) =>
        if eqOk P 20 ke kt = true ∧ isAggT P ke = aggT kt ∧ f.contains id = false then some ⟨[], .dead, (id, some (.map T' kt vt (putKV (eqEl kt) key val kvs))) :: frees f⟩ else none
      | _, _ => none
    | _ => none
  | _, _ => none

def ofBytes (l : List Int) : ByteArray := ⟨(l.map fun x => UInt8.ofNat x.toNat).toArray⟩
def toBytes (s : ByteArray) : List Int := s.data.toList.map fun b => (b.toNat : Int)

def xConvert (P : Program) (get : Nat → Option AO) (src dst : Nat) (x : AV) : Option Res :=
  match P.underlying src, P.underlying dst, x with
  | some (.slice e), some .string, x => match P.underlying e, readSl get (.int .u8) e x with
    | some (.int .u8), some (xs, _, _) => some ⟨[], .v (.string (ofBytes xs)), []⟩
    | _, _ => none
  | some (.int _), some (.int k), .v (.int _ n) => some ⟨[], .v (.int k (k.wrap n)), []⟩
  | some .string, some .string, .v (.string s) => some ⟨[], .v (.string s), []⟩
  | _, _, _ => none

def xFieldAddr (P : Program) (S f : Nat) (x : AV) : Option Res :=
  match fieldOff P S f with
  | some (off, F) => match szT P F with
    | some (_ + 1) => match x with
      | .ptr id o => some ⟨[], .ptr id (o + off), []⟩
      | .eptr id i o => some ⟨[], .eptr id i (o + off), []⟩
      | .cptr l => (dropW off l).map fun l => ⟨[], .cptr l, []⟩
      | .aptr id o i k => some ⟨[], .aptr id o i (k + off), []⟩
      | _ => none
    | _ => none
  | none => none

/-! rows of rows that are their own -/
/-- Are they told so? If the elements' kind is not told, but that of theirs is. -/
def rowsT (P : Program) (kt : KT) (T : Nat) : Bool :=
  match P.underlying T with
  | some (.slice B) => (kt B).isNone && (match P.underlying B with
    | some (.slice e) => match kt e with
      | some t => flatT t && decide (0 < sz t)
      | none => false
    | _ => false)
  | _ => false

def xRowsMake (P : Program) (kt : KT) (nid T : Nat) (x y : AV) : Option Res :=
  match P.underlying T, x, y with
  | some (.slice B), .v (.int k n), .v (.int k' m) =>
    match P.underlying B, P.info? B, zeroL P kt B with
    | some (.slice e), some i, some [.v (.slice none 0 0)] =>
      match kt e with
      | some t =>
        if i.size = 1 then some ⟨[decide (0 ≤ n), n == m, decide (n.toNat * 1 ≤ 16777216), decide (i.bytes * n.toNat ≤ 281474976710656)], .mp nid, [(nid, some (.rows B e t none (List.replicate n.toNat [])))]⟩ else none
      | none => none
    | _, _, _ => none
  | _, _, _ => none

def xRowsAddr (P : Program) (get : Nat → Option AO) (T id : Nat) (i : AV) : Option Res :=
  match P.underlying T, i with
  | some (.slice B), .v (.int _ n) => match get id with
    | some (.rows B' e t h xss) => if B' = B ∧ szT P B = some 1 then some ⟨[decide (0 ≤ n), decide (n < (xss.length : Int))], .rptr id n.toNat, []⟩ else none
    | _ => none
  | _, _ => none

def xRowsLen (P : Program) (get : Nat → Option AO) (T : Nat) (x : AV) : Option Res :=
  match P.underlying T, x with
  | some (.slice _), .mp id => match get id with
    | some (.rows _ _ _ _ xss) => some ⟨[], .v (.int .i64 (xss.length : Int)), []⟩
    | _ => none
  | _, _ => none

def xRowsLoad (P : Program) (get : Nat → Option AO) (nid T id i : Nat) : Option Res :=
  match P.underlying T, get id with
  | some (.slice e'), some (.rows B e t none xss) => if B = T ∧ e' = e ∧ szT P T = some 1 ∧ id ≠ nid then some ⟨[], .ref nid, [(id, some (.rows B e t (some i) xss)), (nid, some (.row e true t (xss.getD i [])))]⟩ else none
  | _, _ => none

def xRowsStore (P : Program) (get : Nat → Option AO) (T id i : Nat) (x : AV) : Option Res :=
  match x, get id with
  | .ref r, some (.rows B e t h xss) => match get r with
    | some (.row e' fr t' ys) => if hq : t' = t then (if e' = e ∧ B = T ∧ szT P T = some 1 then some ⟨[match h with | none => true | some k => k == i], .dead, [(id, some (.rows B e t none (xss.set i (hq ▸ ys)))), (r, none)]⟩ else none) else none
    | _ => none
  | _, _ => none

/-- What one operation does that is no call of a Go function. -/
def aStep (P : Program) (kt : KT) (get : Nat → Option AO) (nid : Nat) (ev : Operand → AV) (raw : Operand → AV) : Op → Option Res
  | .move x => some ⟨[], ev x, []⟩
  | .assign x => some ⟨[], ev x, []⟩
  | .pick (.tmp tc) a b =>
    match raw (.tmp tc), raw a, raw b with
    | .kb true, _, _ => some ⟨[], ev a, []⟩
    | .kb false, _, _ => some ⟨[], ev b, []⟩
    | .v (.bool c), .opt tc' true y, .kb false => if tc' = tc then (bOf y).map fun y => ⟨[], .v (.bool (c && y)), []⟩ else none
    | .v (.bool c), .kb true, .opt tc' false y => if tc' = tc then (bOf y).map fun y => ⟨[], .v (.bool (c || y)), []⟩ else none
    | _, _, _ => none
  | .alloc T => (zeroL P kt T).map fun z => ⟨[], .ptr nid 0, [(nid, some (.box T z))]⟩
  | .box T x => if (cells (ev x)).all oneC then some ⟨[], .ptr nid 0, [(nid, some (.box T (cells (ev x))))]⟩ else none
  | .build T parts => xBuild P kt T (parts.toList.map fun p => (p.1, ev p.2))
  | .buildSlice T len parts => xBuildSlice P kt get nid T len (parts.toList.map fun p => (p.1, ev p.2))
  | .load T a => match ev a with
    | .rptr id i => xRowsLoad P get nid T id i
    | a => xLoad P get T a
  | .store T a x => match ev a with
    | .rptr id i => xRowsStore P get T id i (ev x)
    | a => xStore P get T a (ev x)
  | .nilCheck x => if aliveP get (ev x) then some ⟨[], ev x, []⟩ else none
  | .binOp op T x y _ => match ev x with
    | .agg l => xBinAgg P kt get op T (.agg l) (ev y)
    | x => match bOf x, bOf (ev y) with
      | some a, some b => xBinB P op T a b
      | _, _ => xBin op x (ev y)
  | .unOp op _ x => xUn op (ev x)
  | .convert s d x => xConvert P get s d (ev x)
  | .makeFunc (.func f) first caps => if first.size = 0 ∧ (caps.toList.map ev).all oneC = true then some ⟨[], .fn f (caps.toList.map ev), []⟩ else none
  | .makeMap T none => match P.underlying T with
    | some (.map ke ve) => match kt ke, kt ve with
      | some k, some v => some ⟨[], .mp nid, [(nid, some (.map T k v []))]⟩
      | _, _ => none
    | _ => none
  | .makeSlice T l c => if rowsT P kt T then xRowsMake P kt nid T (ev l) (ev c) else xMake P kt nid T (ev l) (ev c)
  | .slice T x lo hi none => xSlice P get nid T (ev x) (lo.map ev) (hi.map ev)
  | .fieldAddr S x f => if aliveP get (ev x) then xFieldAddr P S f (ev x) else none
  | .field S x f => match fieldOff P S f, ev x with
    | some (off, T), .agg l => ((dropW off l).bind (takeT P T)).map fun x => ⟨[], x, []⟩
    | _, _ => none
  | .indexAddr T x i => match ev x with
    | .mp id => xRowsAddr P get T id (ev i)
    | x => xIndexAddr P kt get T x (ev i)
  | .index T x i => match P.underlying T, ev x, ev i with
    | some .string, .v (.string s), .v (.int _ n) => some ⟨[decide (0 ≤ n), decide (n < (s.size : Int))], .v (.int .u8 (bt s n)), []⟩
    | _, _, _ => none
  | .lookup T m k ok => xLookup P kt get T (ev m) (ev k) ok
  | .mapUpdate T m k x => xUpdate P get T (ev m) (ev k) (ev x)
  | .insert T m k x => xUpdate P get T (ev m) (ev k) (ev x)
  | .extract x i => match ev x with
    | .tup l => (l[i]?).map fun y => ⟨[], y, []⟩
    | _ => none
  | .call { callee := .builtin b, args, argTypes } =>
    match b, args.toList, argTypes.toList with
    | .len, [x], T :: _ => if rowsT P kt T then xRowsLen P get T (ev x) else xLen P get T (ev x)
    | .append, [x, y], [T, U] => if T = U then xAppend P kt get nid T (ev x) (ev y) else none
    | .min, [x, y], _ => match ev x, ev y with
      | .v (.int k a), .v (.int k' b) => if k = k' then some ⟨[], .v (.int k (imin a b)), []⟩ else none
      | _, _ => none
    | .max, [x, y], _ => match ev x, ev y with
      | .v (.int k a), .v (.int k' b) => if k = k' then some ⟨[], .v (.int k (imax a b)), []⟩ else none
      | _, _ => none
    | _, _, _ => none
  | _ => none

def applyE (m : List (Option AO)) : List (Nat × Option AO) → List (Option AO)
  | [] => m
  | (i, o) :: l => applyE (m.set i o) l

def plainSlot : AV → Bool
  | .opt _ _ _ => false
  | .tup _ => false
  | _ => true

def noOptOn (d : Nat) (l : List AV) : Bool := l.all fun
  | .opt tc _ _ => tc != d
  | _ => true

def putT (σ : St) (d : Option Nat) (x : AV) : Option St :=
  match d with
  | none => some σ
  | some d => if noOptOn d σ.tmps && noOptOn d [x] && decide (d < σ.tmps.length) then some { σ with tmps := σ.tmps.set d x } else none

structure Cfg (Γ : Nat → Sig) where
  P : Program
  kt : KT
  /-- a function's contracts -/
  fc : Nat → List Nat
  keep : Nat := 0

def arrFlat : Ty → Bool
  | .prod a b => arrFlat a && arrFlat b
  | .rose t _ => arrFlat t
  | .arr _ t => flatT t
  | _ => true

def tmFresh : Tm → Bool
  | .hole fr t => (fr && arrFlat t) || flatT t
  | _ => true

def oFresh : OTm → Bool
  | .row _ fr t => fr || flatT t
  | .box _ l => l.all tmFresh
  | .map _ k v => flatT k && flatT v
  | .rows _ _ _ => false
  | .gone => true

def tplFresh (p : Tpl) : Bool := p.slots.all (fun s => tmFresh s.2) && p.objs.all oFresh

def tupOf : List AV → AV
  | [x] => x
  | l => .tup l

/-- Holes in boxes are of one cell. -/
def oneHole : Tm → Bool
  | .hole _ (.prod _ _) => false
  | .hole _ (.rose _ _) => false
  | _ => true

def boxOne : OTm → Bool
  | .box _ l => l.all oneHole
  | .rows _ _ _ => false
  | _ => true

/-- Where an object of the results stands at the caller: boxes and maps that were handed over where they stood. -/
def backId (pre p : Tpl) (m : List (Option Nat)) (nid j : Nat) : Nat :=
  match pre.objs.getD j .gone, p.objs.getD j .gone with
  | .box _ _, .box _ _ => (m.getD j none).getD 0
  | .map _ _ _, .map _ _ _ => (m.getD j none).getD 0
  | _, _ => nid + j

/-- What stands where something stood is of its kind. -/
def backOk (get : Nat → Option AO) (pre p : Tpl) (m : List (Option Nat)) (l : List (Option AO)) : Bool :=
  (List.range l.length).all fun j =>
    match pre.objs.getD j .gone, p.objs.getD j .gone with
    | .box _ _, .box _ _ =>
      match get ((m.getD j none).getD 0), l.getD j none with
      | some (.box T l), some (.box T' l') => T == T' && shapeL l == shapeL l'
      | _, _ => false
    | .map _ _ _, .map _ _ _ =>
      match get ((m.getD j none).getD 0), l.getD j none with
      | some (.map T k t _), some (.map T' k' t' _) => T == T' && k == k' && t == t'
      | _, _ => false
    | _, _ => true

def backs (r : Nat → Nat) : Nat → List (Option AO) → List (Nat × Option AO)
  | _, [] => []
  | j, none :: l => backs r (j + 1) l
  | j, some o :: l => (r j, some o) :: backs r (j + 1) l

variable {Γ : Nat → Sig}

def callVal (p : Tpl) (x : p.T) (r : Nat → Nat) : AV := tupOf (instSL r p.slots x.1 (List.replicate p.n .dead))
def callEff (p : Tpl) (x : p.T) (r : Nat → Nat) (bd : Bd) : List (Nat × Option AO) :=
  frees (bd.m.filterMap fun x => x) ++ (if tplFresh p then [] else frees bd.f) ++ backs r 0 (instOL r p.objs x.2)

/-- Behind a call: what it gives, and what becomes of the objects. -/
def afterCall (get : Nat → Option AO) (pre : Tpl) (bd : Bd) (p : Tpl) (x : p.T) (nid : Nat) : Option (AV × List (Nat × Option AO)) :=
  let r := backId pre p bd.m nid
  if decide (p.objs.length ≤ 4) && p.objs.all boxOne && backOk get pre p bd.m (instOL r p.objs x.2) then some (callVal p x r, callEff p x r bd) else none

/-- The kind of a type's values, by the type's description. -/
def prodL : List Ty → Option Ty
  | [] => none
  | [t] => some t
  | t :: l => (prodL l).map (.prod t)

def allSome {α : Type} : List (Option α) → Option (List α)
  | [] => some []
  | some x :: l => (allSome l).map (x :: ·)
  | none :: _ => none

def ktOf (P : Program) : Nat → Nat → Option Ty
  | 0, _ => none
  | d + 1, T =>
    match P.underlying T with
    | some (.int k) => some (.int k)
    | some .bool => some .bool
    | some .string => some .str
    | some (.slice e) => (ktOf P d e).map (.slice e)
    | some (.array n e) => if isBig n then (ktOf P d e).map (.arr n) else (ktOf P d e).bind fun t => prodL (List.replicate n t)
    | some (.struct fs) =>
      match fs.toList.reverse with
      | f :: r =>
        match P.underlying f.type with
        | some (.slice e) => if e = T then ((allSome (r.reverse.map fun f => ktOf P d f.type)).bind prodL).map fun t => .rose t T
          else (allSome (fs.toList.map fun f => ktOf P d f.type)).bind prodL
        | _ => (allSome (fs.toList.map fun f => ktOf P d f.type)).bind prodL
      | [] => none
    | _ => none

/-! ### footprints: for regions whose order is open -/
def idsA1 : AV → List Nat
  | .ref id => [id]
  | .ptr id _ => [id]
  | .eptr id _ _ => [id]
  | .aptr id _ _ _ => [id]
  | .mp id => [id]
  | .rptr id _ => [id]
  | .fn _ l => l.flatMap fun
    | .ptr id _ => [id]
    | .ref id => [id]
    | _ => []
  | _ => []

def idsA : AV → List Nat
  | .agg l => l.flatMap idsA1
  | .tup l => l.flatMap idsA1
  | .opt _ _ x => idsA1 x
  | x => idsA1 x

/-- What an object is, but for its contents. -/
inductive Shp where
  | row (B : Nat) (t : Ty) (n : Nat)
  | rows (B e : Nat) (t : Ty) (n : Nat)
  | other

def shpOf : Option AO → Shp
  | some (.row B _ t xs) => .row B t xs.length
  | some (.rows B e t _ xss) => .rows B e t xss.length
  | _ => .other

/-- The objects of which an operation asks the contents; of which it asks but the shape; whose contents it changes, but not their shape. -/
def rdIds (ev : Operand → AV) : Op → List Nat
  | .move _ => []
  | .assign _ => []
  | .indexAddr _ x _ => match ev x with
    | .mp _ => []
    | .ref _ => []
    | y => idsA y
  | op => op.operands.toList.flatMap fun x => idsA (ev x)

def shIds (ev : Operand → AV) : Op → List Nat
  | .indexAddr _ x _ => match ev x with
    | .mp id => [id]
    | .ref id => [id]
    | _ => []
  | _ => []

def swIds (ev : Operand → AV) : Op → List Nat
  | .load _ a => match ev a with
    | .rptr id _ => [id]
    | _ => []
  | .store _ a _ => match ev a with
    | .rptr id _ => [id]
    | .eptr id _ _ => [id]
    | _ => []
  | _ => []

/-- Which slots and objects an operation asks of, and which it writes. -/
structure FP where
  dst : Option Nat
  tr : List Nat
  mr : List Nat
  sr : List Nat
  mw : List Nat
  sw : List Nat

def meets (a b : List Nat) : Bool := a.any fun x => b.contains x

def dstIn (d : Option Nat) (l : List Nat) : Bool :=
  match d with
  | some d => l.contains d
  | none => false

def indep (x y : FP) : Bool :=
  !dstIn x.dst (y.tr ++ y.dst.toList) && !dstIn y.dst x.tr && !meets (x.mw ++ x.sw) (y.mr ++ (y.mw ++ y.sw)) && !meets (y.mw ++ y.sw) x.mr

/-- Nothing whose shape is asked for is made, or goes. -/
def softOk (x y : FP) : Bool := !meets x.mw y.sr && !meets y.mw x.sr

def tmpsOf (o : Oper) (all : List Oper) : List Nat :=
  (o.op.operands.toList.filterMap fun | .tmp t => some t | _ => none) ++
  (match o.guard with
    | some (j, _) => ((all[j]?).bind (·.dst)).toList
    | none => [])

def fpOf (all : List Oper) (σ : St) (o : Oper) (mr mw : List Nat) : FP :=
  { dst := o.dst, tr := tmpsOf o all, mr := rdIds (evG none σ) o.op ++ mr, sr := shIds (evG none σ) o.op, mw := mw.filter fun i => !(swIds (evG none σ) o.op).contains i, sw := swIds (evG none σ) o.op }

def numbered {α : Type} : Nat → List α → List (Nat × α)
  | _, [] => []
  | n, x :: l => (n, x) :: numbered (n + 1) l

/-- Which operations stand ahead of which, as bits: right, and told by edges to earlier ones alone. -/
def befT (ops : List Oper) : List Nat :=
  ops.foldl (init := []) fun acc o =>
    acc ++ [o.after.toList.foldl (fun s e => if Region.binds .any e then s ||| 2 ^ e.on ||| acc.getD e.on 0 else s) 0]

def befOk (ops : List Oper) (T : List Nat) : Bool :=
  (numbered 0 ops).all fun p =>
    (p.2.after.toList.all fun e => !Region.binds .any e || decide (e.on < p.1)) &&
    (List.range ops.length).all fun k => !(T.getD p.1 0).testBit k || p.2.after.toList.any fun e => Region.binds .any e && (e.on == k || (T.getD e.on 0).testBit k)

def fpsOk (T : List Nat) (i : Nat) (fps : List (Nat × FP)) (x : FP) : Bool :=
  softOk x x && fps.all fun p => ((T.getD i 0).testBit p.1 || indep p.2 x) && softOk p.2 x

variable {X : Type}

/-- What goes on behind an operation: the state, and what it asked of and wrote. -/
abbrev Kt (Γ : Nat → Sig) (X : Type) := St → List Nat → List Nat → Tree Γ X

def callIds (bd : Bd) : List Nat := bd.m.filterMap (fun x => x) ++ bd.f ++ (if bd.m.all Option.isSome then [] else [0])

def isFn (s : Sig) (f : Nat) : Bool :=
  match s.what with
  | .fn f' => f' == f
  | _ => false

def notArr : AV → Bool
  | .arr _ _ _ => false
  | _ => true

def xCallAt (f i : Nat) (args : List AV) (σ : St) (nid : Nat) (d : Option Nat) (K : Kt Γ X) : Option (Tree Γ X) :=
  match (if isFn (Γ i) f && tplOk false (Γ i).pre && args.length == (Γ i).pre.n then fits0 0 (Γ i).pre { tmps := args, mem := σ.mem } else none) with
  | some (s, bd) => some <| .act i s fun y => onOut _ y fun _ p x =>
    match afterCall σ.get (Γ i).pre bd p x nid with
    | some (v, eff) => match putT { σ with mem := applyE σ.mem eff } d v with
      | some σ' => K σ' (callIds bd) (eff.map (·.1))
      | none => .stuck "the place of a call"
    | none => .stuck "back from a call"
  | none => none

def xCall (c : Cfg Γ) (f : Nat) (args : List AV) (σ : St) (nid : Nat) (d : Option Nat) (K : Kt Γ X) : Tree Γ X :=
  ((c.fc f).findSome? fun i => xCallAt f i args σ nid d K).getD (.stuck "no contract fits")

/-- One operation that is wanted for sure. -/
def xOp (c : Cfg Γ) (σ : St) (nid : Nat) (o : Oper) (K : Kt Γ X) : Tree Γ X :=
  match o.op with
  | .call { callee := .value f, args, .. } =>
    match evG none σ f with
    | .fn f caps => if caps.all notArr then xCall c f (args.toList.map (evG none σ) ++ caps) σ nid o.dst K else .stuck o.pos
    | _ => .stuck o.pos
  | op => match aStep c.P c.kt σ.get nid (evG none σ) (evO σ) op with
    | some r => match putT { σ with mem := applyE σ.mem r.eff } o.dst r.val with
      | some σ' => chks r.conds (K σ' [] (r.eff.map (·.1)))
      | none => .stuck o.pos
    | none => .stuck o.pos

def und : AV := .v (.tuple #[])

def xSkip (σ : St) (o : Oper) (K : Kt Γ X) : Tree Γ X :=
  match putT σ o.dst und with
  | some σ' => K σ' [] []
  | none => .stuck "skip"

/-- One operation under a guard that is not known: told for the case that it is wanted. -/
def xMaybe (c : Cfg Γ) (σ : St) (nid tc : Nat) (w b : Bool) (o : Oper) : Option (List Bool × St) :=
  match o.op with
  | .call { callee := .value _, .. } => none
  | op => match aStep c.P c.kt σ.get nid (evG (some (tc, w)) σ) (evO σ) op with
    | some r => match r.eff with
      | [] => match putT σ o.dst (.opt tc w r.val) with
        | some σ' => if o.dst = some tc ∨ plainSlot r.val = false then none else some (r.conds.map fun q => (if w then !b else b) || q, σ')
        | none => none
      | _ => none
    | none => none

/-- A slot's Bool becomes known: what was told under it is so, or not there. -/
def decideG (tc : Nat) (v : Bool) (σ : St) : St :=
  { σ with tmps := (σ.tmps.map fun x => match x with
      | .opt tc' b y => if tc' = tc then (if b = v then y else und) else .opt tc' b y
      | x => x).set tc (.kb v) }

def isUnd : AV → Bool
  | .v (.tuple a) => a.size == 0
  | _ => false

/-- One operation, under the guard that slot tc is w. -/
def xUnder (c : Cfg Γ) (all : List Oper) (σ : St) (nid tc : Nat) (w : Bool) (o : Oper) (K : Kt Γ X) : Tree Γ X :=
  match σ.tmps.getD tc .dead with
  | .kb b => if b = w then xOp c σ nid o K else xSkip σ o K
  | .v (.bool b) =>
    match xMaybe c σ nid tc w b o with
    | some (q, σ') => chks q (K σ' [] [])
    | none => .ite b (if w then xOp c (decideG tc true σ) nid o K else xSkip (decideG tc true σ) o K)
        (if w then xSkip (decideG tc false σ) o K else xOp c (decideG tc false σ) nid o K)
  | x => if isUnd x then xSkip σ o K else .stuck "guard's slot"

/-- One operation, under its guard. -/
def xOne (c : Cfg Γ) (all : List Oper) (σ : St) (nid : Nat) (o : Oper) (K : Kt Γ X) : Tree Γ X :=
  match o.guard with
  | none => xOp c σ nid o K
  | some (j, w) =>
    match (all[j]?).bind (·.dst) with
    | some tc =>
      match σ.tmps.getD tc .dead with
      | .opt tc0 _ _ =>
        match σ.tmps.getD tc0 .dead with
        | .v (.bool b) => .ite b (xUnder c all (decideG tc0 true σ) nid tc w o K) (xUnder c all (decideG tc0 false σ) nid tc w o K)
        | _ => .stuck "guard within a guard"
      | _ => xUnder c all σ nid tc w o K
    | none => .stuck "guard's op"

def xOps (c : Cfg Γ) (all : List Oper) (K : St → Tree Γ X) (base : Nat) : List (Nat × Oper) → St → Tree Γ X
  | [], σ => K σ
  | (i, o) :: rest, σ => xOne c all σ (base + 4 * i) o fun σ' _ _ => xOps c all K base rest σ'

/-! .. whose order is open: what guards look at is known when it is told -/
def guardSrc (all : List Oper) (i : Nat) : Bool := all.any fun o => match o.guard with
  | some (j, _) => j == i
  | none => false

def xWant (all : List Oper) (σ : St) (o : Oper) : Option Bool :=
  match o.guard with
  | none => some true
  | some (j, w) =>
    match (all[j]?).bind (·.dst) with
    | some tc => match σ.tmps.getD tc .dead with
      | .kb b => some (b == w)
      | x => if isUnd x then some false else none
    | none => none

def notOpt : AV → Bool
  | .opt _ _ _ => false
  | _ => true

def okD (d : Option Nat) (σ : St) : Bool :=
  match d with
  | none => true
  | some d => notOpt (σ.tmps.getD d .dead)

/-- A Bool that is looked at is known from now on. -/
def xSplit (d : Option Nat) (K : St → Tree Γ X) (σ : St) : Tree Γ X :=
  match d with
  | none => K σ
  | some d => match σ.tmps.getD d .dead with
    | .v (.bool b) => .ite b (K { σ with tmps := σ.tmps.set d (.kb true) }) (K { σ with tmps := σ.tmps.set d (.kb false) })
    | _ => K σ

def xOneD (c : Cfg Γ) (all : List Oper) (σ : St) (nid i : Nat) (o : Oper) (K : Kt Γ X) : Tree Γ X :=
  match xWant all σ o with
  | some true => xOp c σ nid o fun σ' mr mw =>
    if okD o.dst σ' then (if guardSrc all i then xSplit o.dst (fun σ' => K σ' mr mw) σ' else K σ' mr mw) else .stuck o.pos
  | some false => xSkip σ o K
  | none => .stuck o.pos

def xOpsD (c : Cfg Γ) (all : List Oper) (T : List Nat) (K : St → Tree Γ X) (base : Nat) : List (Nat × Oper) → List (Nat × FP) → St → Tree Γ X
  | [], _, σ => K σ
  | (i, o) :: rest, fps, σ =>
    xOneD c all σ (base + 4 * i) i o fun σ' mr mw =>
      let x := fpOf all σ o mr mw
      if fpsOk T i fps x then xOpsD c all T K base rest ((i, x) :: fps) σ' else .stuck o.pos

def unOpt : AV → AV
  | .opt _ _ _ => .dead
  | x => x

def xRegion (c : Cfg Γ) (ops : List Oper) (draw : Bool) (σ : St) (K : St → Tree Γ X) : Tree Γ X :=
  let σ1 : St := { tmps := σ.tmps.map unOpt, mem := σ.mem ++ List.replicate (4 * ops.length) none }
  if draw then
    let T := befT ops
    if befOk ops T then xOpsD c ops T K σ.mem.length (numbered 0 ops) [] σ1 else .stuck "edges"
  else xOps c ops (fun σ => K { σ with tmps := σ.tmps.map unOpt }) σ.mem.length (numbered 0 ops) { σ with mem := σ.mem ++ List.replicate (4 * ops.length) none }

inductive Plan where
  | a
  | n (p q : Plan)
  | act (i : Nat)

def Plan.l : Plan → Plan
  | .n p _ => p
  | _ => .a
def Plan.r : Plan → Plan
  | .n _ q => q
  | _ => .a

def isNormal : Ex → Bool
  | .normal => true
  | _ => false
def isExit (id : Nat) : Ex → Bool
  | .exit i => i == id
  | _ => false

def keepOk (n : Nat) (p : Tpl) (m : List (Option Nat)) : Bool :=
  decide (n ≤ p.objs.length) && (List.range n).all fun j => match m.getD j none with
    | some id => id == j
    | none => true

def xAct (c : Cfg Γ) (i : Nat) (σ : St) (K : Ex → St → Tree Γ X) : Tree Γ X :=
  match fitsTo c.keep (Γ i).pre σ with
  | some (s, bd) => if (Γ i).keep == c.keep && keepOk c.keep (Γ i).pre bd.m then .act i s fun y => onOut _ y fun e p x => K e (p.inst x) else .stuck "keep"
  | none => (.stuck "s7")

def xCode (c : Cfg Γ) : Code → Plan → (Ex → St → Tree Γ X) → St → Tree Γ X
  | code, .act i, K, σ => xAct c i σ K
  | .skip, _, K, σ => K .normal σ
  | .region _ ops d, _, K, σ => xRegion c ops.toList d σ (K .normal)
  | .seq x y, p, K, σ => xCode c x p.l (fun e σ => if isNormal e then xCode c y p.r K σ else K e σ) σ
  | .cond b x y, p, K, σ =>
    match evG none σ b with
    | .kb true => xCode c x p.l K σ
    | .kb false => xCode c y p.r K σ
    | .v (.bool b) => .ite b (xCode c x p.l K σ) (xCode c y p.r K σ)
    | _ => (.stuck "s8")
  | .block id x, p, K, σ => xCode c x p.l (fun e σ => if isExit id e then K .normal σ else K e σ) σ
  | .exit id, _, K, σ => K (.exit id) σ
  | .ret, _, K, σ => K .ret σ
  | _, _, _, _ => (.stuck "s9")

/-- The plan of a code whose loops, but for those inside of others, have these contracts. -/
def mkPlan : Code → List Nat → Plan × List Nat
  | .seq x y, l => let (p, l) := mkPlan x l; let (q, l) := mkPlan y l; (.n p q, l)
  | .cond _ x y, l => let (p, l) := mkPlan x l; let (q, l) := mkPlan y l; (.n p q, l)
  | .block _ x, l => let (p, l) := mkPlan x l; (.n p .a, l)
  | .loop _, i :: l => (.act i, l)
  | _, l => (.a, l)

def plan (c : Code) (l : List Nat) : Plan := (mkPlan c l).1

/-- The bodies of the loops, but for those inside of others. -/
def loopsOf : Code → List Code
  | .seq x y => loopsOf x ++ loopsOf y
  | .cond _ x y => loopsOf x ++ loopsOf y
  | .block _ x => loopsOf x
  | .loop b => [b]
  | _ => []

def loopAt (c : Code) (k : Nat) : Code := (loopsOf c).getD k .skip

/-! ### bodies of loops, of functions -/
def fitsK (n : Nat) (p : Tpl) (σ : St) : Option p.T :=
  match fitsTo n p σ with
  | some (x, bd) => if keepOk n p bd.m then some x else none
  | none => none

def leafAt (n : Nat) (e : Ex) (σ : St) : (l : List (Ex × Tpl)) → Option (OutT l)
  | [] => none
  | [o] => if o.1 = e then fitsK n o.2 σ else none
  | o :: o' :: r =>
    match (if o.1 = e then fitsK n o.2 σ else none) with
    | some x => some (.inl x)
    | none => (leafAt n e σ (o' :: r)).map .inr

/-- A piece's tree: to its ends. -/
def pieceT (c : Cfg Γ) (i : Nat) (code : Code) (p : Plan) (s : (Γ i).pre.T) : Tree Γ (Γ i).O :=
  xCode c code p (fun e σ => match leafAt c.keep e σ (Γ i).outs with | some x => .ret x | none => (.stuck "s10")) ((Γ i).pre.inst s)

/-- A loop's round: once more, or to one of its ends. -/
def roundT (c : Cfg Γ) (i : Nat) (body : Code) (p : Plan) (s : (Γ i).pre.T) : Tree Γ ((Γ i).pre.T ⊕ (Γ i).O) :=
  xCode c body p (fun e σ =>
    if isNormal e then
      match fitsK c.keep (Γ i).pre σ with
      | some s => .ret (.inl s)
      | none => (.stuck "s11")
    else
      match leafAt c.keep e σ (Γ i).outs with
      | some x => .ret (.inr x)
      | none => (.stuck "s12")) ((Γ i).pre.inst s)

def resAV (P : Program) (σ : St) : ResultVar → Option AV
  | .tmp t => let x := σ.tmps.getD t .dead; if plainSlot x then some x else none
  | .cell a T => match σ.tmps.getD a .dead with
    | .ptr id off => (xLoad P σ.get T (.ptr id off)).bind fun r => if plainSlot r.val then some r.val else none
    | _ => none

def resAVs (P : Program) (σ : St) : List ResultVar → Option (List AV)
  | [] => some []
  | r :: l => match resAV P σ r, resAVs P σ l with
    | some x, some xs => some (x :: xs)
    | _, _ => none

/-- What was handed in by its address stands where it stood. -/
def stays (n : Nat) (pre out : List OTm) (m : List (Option Nat)) : Bool :=
  (List.range pre.length).all fun j =>
    match out.getD j .gone, pre.getD j .gone with
    | .gone, _ => true
    | .row _ _ _, _ => true
    | .rows _ _ _, _ => true
    | _, .gone => true
    | _, .row _ _ _ => false
    | _, .rows _ _ _ => false
    | _, _ => m.getD j none == some j && decide (j < n)

def outTpl : List (Ex × Tpl) → Tpl
  | [o] => o.2
  | _ => ⟨0, [], []⟩

def funT (c : Cfg Γ) (i : Nat) (fn : Func) (code : Code) (p : Plan) (s : (Γ i).pre.T) : Tree Γ (outTpl (Γ i).outs).T :=
  let σ := (Γ i).pre.inst s
  xCode c code p (fun e σ =>
    match e with
    | .exit _ => (.stuck "s13")
    | _ => match resAVs c.P σ fn.results.toList with
      | some l => match (if (outTpl (Γ i).outs).n == l.length then fitsTo c.keep (outTpl (Γ i).outs) { tmps := l, mem := σ.mem } else none) with
        | some (x, b) => if stays c.keep (Γ i).pre.objs (outTpl (Γ i).outs).objs b.m && decide (c.keep ≤ (Γ i).pre.objs.length) then .ret x else (.stuck "s14")
        | none => (.stuck "s15")
      | none => (.stuck "s16")) { σ with tmps := σ.tmps ++ List.replicate (fn.ntmps - σ.tmps.length) .dead }

end Go.Proofs.YtjmnjimlkljhjaaV

/- What an abstract state says of a frame and a world; how that moves. -/
set_option linter.unusedVariables false
namespace Go.Proofs.YtjmnjimlkljhjaaV
open Go

/-- A pure value as cells: what is read through it stands in blocks that are ok. -/
def TRep (w : World) (ok : Nat → Prop) : Nat → (t : Ty) → El t → List Value → Prop
  | 0, _, _, _ => False
  | _ + 1, .int k, x, cs => cs = [.int k x]
  | _ + 1, .bool, x, cs => cs = [.bool x]
  | _ + 1, .str, x, cs => cs = [.string x]
  | n + 1, .prod a b, x, cs => ∃ c0 c1, cs = c0 ++ c1 ∧ TRep w ok n a x.1 c0 ∧ TRep w ok n b x.2 c1
  | n + 1, .slice _ t, (xs : List (El t)), cs => ∃ A cap, cs = [.slice A xs.length cap] ∧ xs.length ≤ cap ∧ cap ≤ maxLen ∧
      ∀ j (h : j < xs.length), ∃ ad c, A = some ad ∧ ok ad.block ∧ ad.block < w.heap.size ∧ TRep w ok n t xs[j] c ∧
        ∀ i u, c[i]? = some u → w.cell? (ad.add (j * sz t + i)) = some u
  | n + 1, .rose t e, .node a ks, cs => ∃ c0 c1, cs = c0 ++ c1 ∧ TRep w ok n t a c0 ∧ TRep w ok n (.slice e (.rose t e)) ks c1
  | n + 1, .arr m t, (xs : List (El t)), cs => xs.length = m ∧ cs.length = m * sz t ∧
      ∀ j (h : j < xs.length), TRep w ok n t xs[j] ((cs.drop (j * sz t)).take (sz t))

section
variable {w w' : World} {ok ok' : Nat → Prop}

theorem cell_same {a : Addr} (h : w'.heap[a.block]? = w.heap[a.block]?) : w'.cell? a = w.cell? a := World.cell?_of_block h

theorem add_block (a : Addr) (n : Nat) : (a.add n).block = a.block := by unfold Addr.add; split <;> rfl

theorem cell_mv {a : Addr} {i : Nat} {u : Value} (h : w'.heap[a.block]? = w.heap[a.block]?) (hc : w.cell? (a.add i) = some u) : w'.cell? (a.add i) = some u :=
  (cell_same (a := a.add i) (by rw [add_block]; exact h)).trans hc

theorem TRep.move (hs : w.heap.size ≤ w'.heap.size) (hk : ∀ k, ok k → k < w.heap.size → w'.heap[k]? = w.heap[k]? ∧ ok' k) :
    ∀ (n : Nat) (t : Ty) (x : El t) (cs : List Value), TRep w ok n t x cs → TRep w' ok' n t x cs := by
  intro n
  induction n using Nat.strongRecOn with
  | _ n ih =>
    intro t x cs h
    cases n with
    | zero => exact h.elim
    | succ n =>
      cases t with
      | int k => exact h
      | bool => exact h
      | str => exact h
      | prod a b =>
        obtain ⟨c0, c1, e, h0, h1⟩ := h
        exact ⟨c0, c1, e, ih n (by omega) _ _ _ h0, ih n (by omega) _ _ _ h1⟩
      | slice e t =>
        obtain ⟨A, cap, e, h0, h1, h2⟩ := h
        refine ⟨A, cap, e, h0, h1, fun j hj => ?_⟩
        obtain ⟨ad, c, hA, ho, hl, hr, hc⟩ := h2 j hj
        exact ⟨ad, c, hA, (hk _ ho hl).2, by omega, ih n (by omega) _ _ _ hr, fun i u hu => cell_mv (hk _ ho hl).1 (hc i u hu)⟩
      | rose t e =>
        cases x with
        | node a ks =>
          obtain ⟨c0, c1, e, h0, h1⟩ := h
          exact ⟨c0, c1, e, ih n (by omega) _ _ _ h0, ih n (by omega) _ _ _ h1⟩
      | arr m t =>
        obtain ⟨h0, h1, h2⟩ := h
        exact ⟨h0, h1, fun j hj => ih n (by omega) _ _ _ (h2 j hj)⟩

theorem TRep.mono : ∀ (n m : Nat), n ≤ m → ∀ (t : Ty) (x : El t) (cs : List Value), TRep w ok n t x cs → TRep w ok m t x cs := by
  intro n
  induction n using Nat.strongRecOn with
  | _ n ih =>
    intro m hm t x cs h
    cases n with
    | zero => exact h.elim
    | succ n =>
      obtain ⟨m, rfl⟩ : ∃ k, m = k + 1 := ⟨m - 1, by omega⟩
      cases t with
      | int k => exact h
      | bool => exact h
      | str => exact h
      | prod a b =>
        obtain ⟨c0, c1, e, h0, h1⟩ := h
        exact ⟨c0, c1, e, ih n (by omega) m (by omega) _ _ _ h0, ih n (by omega) m (by omega) _ _ _ h1⟩
      | slice e t =>
        obtain ⟨A, cap, e, h0, h1, h2⟩ := h
        refine ⟨A, cap, e, h0, h1, fun j hj => ?_⟩
        obtain ⟨ad, c, hA, ho, hl, hr, hc⟩ := h2 j hj
        exact ⟨ad, c, hA, ho, hl, ih n (by omega) m (by omega) _ _ _ hr, hc⟩
      | rose t e =>
        cases x with
        | node a ks =>
          obtain ⟨c0, c1, e, h0, h1⟩ := h
          exact ⟨c0, c1, e, ih n (by omega) m (by omega) _ _ _ h0, ih n (by omega) m (by omega) _ _ _ h1⟩
      | arr k t =>
        obtain ⟨h0, h1, h2⟩ := h
        exact ⟨h0, h1, fun j hj => ih n (by omega) m (by omega) _ _ _ (h2 j hj)⟩

theorem TRep.len : ∀ (n : Nat) (t : Ty) (x : El t) (cs : List Value), TRep w ok n t x cs → cs.length = sz t := by
  intro n
  induction n with
  | zero => intro t x cs h; exact h.elim
  | succ n ih =>
    intro t x cs h
    cases t with
    | int k => rw [h]; rfl
    | bool => rw [h]; rfl
    | str => rw [h]; rfl
    | prod a b =>
      obtain ⟨c0, c1, rfl, h0, h1⟩ := h
      rw [List.length_append, ih _ _ _ h0, ih _ _ _ h1]; rfl
    | slice e t =>
      obtain ⟨A, cap, rfl, _⟩ := h
      rfl
    | rose t e =>
      cases x with
      | node a ks =>
        obtain ⟨c0, c1, rfl, h0, h1⟩ := h
        rw [List.length_append, ih _ _ _ h0, ih _ _ _ h1]; rfl
    | arr m t => exact h.2.1

theorem TRep.one : ∀ (n : Nat) (t : Ty) (x : El t) (cs : List Value), TRep w ok n t x cs → ∀ u ∈ cs, u.oneCell' = true := by
  intro n
  induction n with
  | zero => intro t x cs h; exact h.elim
  | succ n ih =>
    intro t x cs h
    cases t with
    | int k => rw [h]; intro u hu; rw [List.mem_singleton.1 hu]; rfl
    | bool => rw [h]; intro u hu; rw [List.mem_singleton.1 hu]; rfl
    | str => rw [h]; intro u hu; rw [List.mem_singleton.1 hu]; rfl
    | prod a b =>
      obtain ⟨c0, c1, rfl, h0, h1⟩ := h
      intro u hu
      rcases List.mem_append.1 hu with hu | hu
      · exact ih _ _ _ h0 u hu
      · exact ih _ _ _ h1 u hu
    | slice e t =>
      obtain ⟨A, cap, rfl, _⟩ := h
      intro u hu; rw [List.mem_singleton.1 hu]; rfl
    | rose t e =>
      cases x with
      | node a ks =>
        obtain ⟨c0, c1, rfl, h0, h1⟩ := h
        intro u hu
        rcases List.mem_append.1 hu with hu | hu
        · exact ih _ _ _ h0 u hu
        · exact ih _ _ _ h1 u hu
    | arr m t =>
      obtain ⟨h0, h1, h2⟩ := h
      intro u hu
      obtain ⟨i, hi, rfl⟩ := List.getElem_of_mem hu
      have hsz : 0 < sz t := by
        rcases Nat.eq_zero_or_pos (sz t) with h | h
        · rw [h] at h1; omega
        · exact h
      have hq : i / sz t < m := Nat.div_lt_of_lt_mul (by rw [Nat.mul_comm]; omega)
      refine ih _ _ _ (h2 (i / sz t) (by omega)) _ ?_
      have hm := Nat.mod_lt i hsz
      have hd : sz t * (i / sz t) + i % sz t = i := Nat.div_add_mod i (sz t)
      rw [List.mem_take_iff_getElem]
      refine ⟨i % sz t, ?_, ?_⟩
      · rw [List.length_drop]
        have : i / sz t * sz t + i % sz t = i := by rw [Nat.mul_comm]; exact hd
        omega
      · rw [List.getElem_drop]
        congr 1
        rw [Nat.mul_comm]; exact hd
end

/-! ### the environment -/
/-- A concrete object: its value, and the rows inside that are its own. -/
structure Conc where
  v : Value
  inn : List Value

def blkOf : Value → Option Nat
  | .slice (some a) _ _ => some a.block
  | .pointer (some a) => some a.block
  | .map (some b) => some b
  | _ => none

def Conc.blks (c : Conc) : List Nat := (blkOf c.v).toList ++ c.inn.filterMap blkOf

structure Env where
  w0 : World
  O0 : Nat → Prop
  G : Nat → Prop
  get : Nat → Option AO
  θ : Nat → Conc
  U : Nat → Prop
  w : World

def Env.owned (E : Env) (k : Nat) : Prop := ∃ id o, E.get id = some o ∧ k ∈ (E.θ id).blks
def Env.ok (E : Env) (fr : Bool) (k : Nat) : Prop := ((fr = false ∧ E.G k) ∨ E.O0 k ∨ E.w0.heap.size ≤ k) ∧ ¬ E.owned k

theorem Env.ok_false {E : Env} {fr : Bool} {k : Nat} (h : E.ok fr k) : E.ok false k :=
  ⟨h.1.elim (fun h => .inl ⟨rfl, h.2⟩) .inr, h.2⟩

def T (E : Env) (fr : Bool) (t : Ty) (x : El t) (cs : List Value) : Prop := ∃ n, TRep E.w (E.ok fr) n t x cs

mutual
/-- One cell. -/
inductive CRep (E : Env) : AV → Value → Prop
  | v (x) : CRep E (.v x) x
  | kb (b) : CRep E (.kb b) (.bool b)
  | sl (fr t e xs v) : T E fr (.slice e t) xs [v] → CRep E (.sl fr t e xs) v
  | ref (id v) : E.U id → v.oneCell' = true → (∀ T fr t xs, E.get id = some (.row T fr t xs) → v = (E.θ id).v) → CRep E (.ref id) v
  | ptr (id off v) : E.U id → v.oneCell' = true → (∀ T l, E.get id = some (.box T l) → ∃ b, (E.θ id).v = .pointer (some ⟨b, 0, none⟩) ∧ v = .pointer (some ⟨b, off, none⟩)) → CRep E (.ptr id off) v
  | eptr (id i off v) : E.U id → v.oneCell' = true → (∀ T fr t xs, E.get id = some (.row T fr t xs) → i < xs.length ∧ ∃ g n c, (E.θ id).v = .slice (some ⟨g, 0, none⟩) n c ∧ v = .pointer (some ⟨g, i * sz t + off, none⟩)) → CRep E (.eptr id i off) v
  | aptr (id off i k v) : E.U id → v.oneCell' = true → (∀ T l, E.get id = some (.box T l) → ∃ b t n xs r, (E.θ id).v = .pointer (some ⟨b, 0, none⟩) ∧ dropW off l = some (.arr t n xs :: r) ∧ i < n ∧ v = .pointer (some ⟨b, off + i * sz t + k, none⟩)) → CRep E (.aptr id off i k) v
  | mp (id v) : E.U id → v.oneCell' = true → (∀ T k t l, E.get id = some (.map T k t l) → v = (E.θ id).v) → (∀ T e t h l, E.get id = some (.rows T e t h l) → v = (E.θ id).v) → CRep E (.mp id) v
  | rptr (id i v) : E.U id → v.oneCell' = true → (∀ T e t h l, E.get id = some (.rows T e t h l) → i < l.length ∧ ∃ g n c, (E.θ id).v = .slice (some ⟨g, 0, none⟩) n c ∧ v = .pointer (some ⟨g, i, none⟩)) → CRep E (.rptr id i) v
  | cptr (l us a) : Cells E l us → (∀ i u, us[i]? = some u → E.ok false a.block ∧ a.block < E.w.heap.size ∧ E.w.cell? (a.add i) = some u) → CRep E (.cptr l) (.pointer (some a))
  | fn (f l us) : Cells E l us → CRep E (.fn f l) (.func (.func f) #[] us.toArray)
/-- Cells in line. -/
inductive Cells (E : Env) : List AV → List Value → Prop
  | nil : Cells E [] []
  | arr (t n) (xs : List (El t)) (us l rest) : T E false (.arr n t) xs us → Cells E l rest → Cells E (.arr t n xs :: l) (us ++ rest)
  | cons (x u l us) : CRep E x u → Cells E l us → Cells E (x :: l) (u :: us)
end

def VRep1 (E : Env) : AV → Value → Prop
  | .dead, _ => True
  | .agg l, v => ∃ us, v = .agg us.toArray ∧ Cells E l us
  | x, v => CRep E x v

inductive VReps (E : Env) : List AV → List Value → Prop
  | nil : VReps E [] []
  | cons (x u l us) : VRep1 E x u → VReps E l us → VReps E (x :: l) (u :: us)

def VRep (E : Env) (tm : Nat → Value) : AV → Value → Prop
  | .tup l, v => ∃ vs, v = .tuple vs.toArray ∧ VReps E l vs
  | .opt tc b x, v => (tm tc = .bool b → VRep1 E x v) ∧ (tm tc = .bool (!b) → v = .tuple #[])
  | x, v => VRep1 E x v

/-- The value that its cells make, by its kind. -/
def vIs (t : Ty) (cs : List Value) : Value := if aggT t = true then .agg cs.toArray else cs.headD (.tuple #[])

def MapRep (E : Env) (kt vt : Ty) (kvs : List (El kt × El vt)) (es : List MapEntry) : Prop :=
  es.length = kvs.length ∧ ∀ j (h : j < kvs.length), ∃ e kc vc, es[j]? = some e ∧ e.key = vIs kt kc ∧ e.val = vIs vt vc ∧ T E false kt (kvs[j]).1 kc ∧ T E false vt (kvs[j]).2 vc

def nilV : Value := .slice none 0 0

def ObjRep (E : Env) (c : Conc) : AO → Prop
  | .rows B e t h xss => flatT t = true ∧ c.inn.length = xss.length ∧ (∃ hs, E.w.ownsRow 0 B 1 c.v xss.length hs ∧ ∀ j (hj : j < xss.length),
      (h = some j → c.inn.getD j nilV = nilV) ∧ (h ≠ some j → hs.getD j nilV = c.inn.getD j nilV ∧ ∃ inner, E.w.ownsRow 0 e (sz t) (c.inn.getD j nilV) xss[j].length inner ∧ ∀ i (hi : i < xss[j].length), T E true t xss[j][i] ((inner.drop (i * sz t)).take (sz t)))) ∧
      ∀ j k, blkOf (c.inn.getD j nilV) = some k → blkOf c.v ≠ some k ∧ ∀ j', blkOf (c.inn.getD j' nilV) = some k → j' = j
  | .row B fr t xs => c.inn = [] ∧ ∃ inner, E.w.ownsRow 0 B (sz t) c.v xs.length inner ∧ ∀ j (h : j < xs.length), T E fr t xs[j] ((inner.drop (j * sz t)).take (sz t))
  | .box B l => c.inn = [] ∧ ∃ b us, c.v = .pointer (some ⟨b, 0, none⟩) ∧ E.w.heap[b]? = some (.cells us.toArray B (0, 0)) ∧ Cells E l us
  | .map B kt vt kvs => c.inn = [] ∧ ∃ b es clock, c.v = .map (some b) ∧ E.w.heap[b]? = some (.map es clock) ∧ MapRep E kt vt kvs es.toList

/-- The world is the old one but for some blocks of it, and new ones. -/
structure Ext (w0 : World) (O : Nat → Prop) (w : World) : Prop where
  os : w.os = w0.os
  tape : w.tape = w0.tape
  output : w.output = w0.output
  size : w0.heap.size ≤ w.heap.size
  block : ∀ k, k < w0.heap.size → ¬ O k → w.heap[k]? = w0.heap[k]?

structure MR (E : Env) : Prop where
  ext : Ext E.w0 E.O0 E.w
  gsep : ∀ k, E.G k → ¬ E.O0 k ∧ k < E.w0.heap.size
  osep : ∀ k, E.O0 k → k < E.w0.heap.size
  used : ∀ id o, E.get id = some o → E.U id
  own : ∀ id o k, E.get id = some o → k ∈ (E.θ id).blks → E.O0 k ∨ E.w0.heap.size ≤ k
  disj : ∀ id id' o o' k, E.get id = some o → E.get id' = some o' → k ∈ (E.θ id).blks → k ∈ (E.θ id').blks → id = id'
  objs : ∀ id o, E.get id = some o → ObjRep E (E.θ id) o

/-! ### moving -/
def like : AO → AO → Prop
  | .row T _ t xs, .row T' _ t' xs' => T = T' ∧ t = t' ∧ xs.length = xs'.length
  | .box T l, .box T' l' => T = T' ∧ shapeL l = shapeL l'
  | .map T k t _, .map T' k' t' _ => T = T' ∧ k = k' ∧ t = t'
  | .rows T e t _ l, .rows T' e' t' _ l' => T = T' ∧ e = e' ∧ t = t' ∧ l.length = l'.length
  | _, _ => False

theorem like_refl (o : AO) : like o o := by cases o <;> simp [like]

structure Mv (E E' : Env) : Prop where
  size : E.w.heap.size ≤ E'.w.heap.size
  blk : ∀ fr k, E.ok fr k → k < E.w.heap.size → E'.w.heap[k]? = E.w.heap[k]? ∧ E'.ok fr k
  obj : ∀ id, E.U id → E'.U id ∧ (E'.get id = none ∨ ((E'.θ id).v = (E.θ id).v ∧ ∃ o o', E.get id = some o ∧ E'.get id = some o' ∧ like o o'))

theorem T.move {E E' : Env} (h : Mv E E') {fr : Bool} {t : Ty} {x : El t} {cs : List Value} (hT : T E fr t x cs) : T E' fr t x cs := by
  obtain ⟨n, hn⟩ := hT
  exact ⟨n, TRep.move h.size (fun k hk hl => h.blk fr k hk hl) n t x cs hn⟩

theorem T.weaken {E : Env} {fr : Bool} {t : Ty} {x : El t} {cs : List Value} (hT : T E fr t x cs) : T E false t x cs := by
  obtain ⟨n, hn⟩ := hT
  exact ⟨n, TRep.move (Nat.le_refl _) (fun k hk _ => ⟨rfl, Env.ok_false hk⟩) n t x cs hn⟩

theorem T.weak2 {E : Env} {fr fr' : Bool} (hf : fr' = true → fr = true) {t : Ty} {x : El t} {cs : List Value} (hT : T E fr t x cs) : T E fr' t x cs := by
  cases fr' with
  | false => exact hT.weaken
  | true => rw [hf rfl] at hT; exact hT

theorem T.len {E : Env} {fr : Bool} {t : Ty} {x : El t} {cs : List Value} (hT : T E fr t x cs) : cs.length = sz t := by
  obtain ⟨n, hn⟩ := hT
  exact TRep.len n t x cs hn
theorem T.one {E : Env} {fr : Bool} {t : Ty} {x : El t} {cs : List Value} (hT : T E fr t x cs) : ∀ u ∈ cs, u.oneCell' = true := by
  obtain ⟨n, hn⟩ := hT
  exact TRep.one n t x cs hn

/-- Cells of an array are at least one. -/
theorem shape_drop : ∀ (l l' : List AV) (off : Nat), shapeL l = shapeL l' → ∀ {t n xs r}, dropW off l = some (.arr t n xs :: r) → ∃ xs' r', dropW off l' = some (.arr t n xs' :: r') := by
  intro l
  induction l with
  | nil => intro l' off _ t n xs r h; cases off <;> simp [dropW] at h
  | cons x l ih =>
    intro l' off hs t n xs r h
    cases l' with
    | nil => cases x <;> simp [shapeL] at hs
    | cons y l' =>
      have hsh : wd x = wd y ∧ shapeL l = shapeL l' := by
        cases x <;> cases y <;> simp [shapeL] at hs <;> simp [wd, hs]
      cases off with
      | zero =>
        simp only [dropW, Option.some.injEq, List.cons.injEq] at h
        obtain ⟨rfl, rfl⟩ := h
        cases y <;> simp [shapeL] at hs
        obtain ⟨⟨rfl, rfl⟩, _⟩ := hs
        exact ⟨_, _, rfl⟩
      | succ off =>
        simp only [dropW] at h ⊢
        rw [← hsh.1]
        split at h
        · rename_i hc
          rw [if_pos hc]
          exact ih l' _ hsh.2 h
        · cases h

mutual
theorem CRep.move {E E' : Env} (h : Mv E E') : ∀ {x : AV} {v : Value}, CRep E x v → CRep E' x v
  | _, _, .v x => .v x
  | _, _, .kb b => .kb b
  | _, _, .sl fr t e xs v hT => .sl fr t e xs v (hT.move h)
  | _, _, .ref id v hu h1 hr => .ref id v (h.obj id hu).1 h1 fun T fr t xs hg => by
    rcases (h.obj id hu).2 with h0 | ⟨hθ, o, o', ho, ho', hl⟩
    · rw [h0] at hg; cases hg
    · rw [hg] at ho'; cases ho'
      cases o <;> simp [like] at hl
      rw [hθ]; exact hr _ _ _ _ ho
  | _, _, .ptr id off v hu h1 hr => .ptr id off v (h.obj id hu).1 h1 fun T l hg => by
    rcases (h.obj id hu).2 with h0 | ⟨hθ, o, o', ho, ho', hl⟩
    · rw [h0] at hg; cases hg
    · rw [hg] at ho'; cases ho'
      cases o <;> simp [like] at hl
      rw [hθ]; exact hr _ _ ho
  | _, _, .eptr id i off v hu h1 hr => .eptr id i off v (h.obj id hu).1 h1 fun T fr t xs hg => by
    rcases (h.obj id hu).2 with h0 | ⟨hθ, o, o', ho, ho', hl⟩
    · rw [h0] at hg; cases hg
    · rw [hg] at ho'; cases ho'
      cases o <;> simp [like] at hl
      obtain ⟨rfl, rfl, hn⟩ := hl
      rw [hθ, ← hn]; exact hr _ _ _ _ ho
  | _, _, .aptr id off i k v hu h1 hr => .aptr id off i k v (h.obj id hu).1 h1 fun T l hg => by
    rcases (h.obj id hu).2 with h0 | ⟨hθ, o, o', ho, ho', hl⟩
    · rw [h0] at hg; cases hg
    · rw [hg] at ho'; cases ho'
      cases o <;> simp [like] at hl
      rename_i l0
      obtain ⟨b, t, n, xs, r, g1, h2, h3, h4⟩ := hr _ _ ho
      obtain ⟨xs', r', h2'⟩ := shape_drop l0 l off hl.2 h2
      exact ⟨b, t, n, xs', r', by rw [hθ]; exact g1, h2', h3, h4⟩
  | _, _, .mp id v hu h1 hr hr2 => .mp id v (h.obj id hu).1 h1 (fun T k t l hg => by
    rcases (h.obj id hu).2 with h0 | ⟨hθ, o, o', ho, ho', hl⟩
    · rw [h0] at hg; cases hg
    · rw [hg] at ho'; cases ho'
      cases o <;> simp [like] at hl
      rw [hθ]; exact hr _ _ _ _ ho) fun T e t h2 l hg => by
    rcases (h.obj id hu).2 with h0 | ⟨hθ, o, o', ho, ho', hl⟩
    · rw [h0] at hg; cases hg
    · rw [hg] at ho'; cases ho'
      cases o <;> simp [like] at hl
      rw [hθ]; exact hr2 _ _ _ _ _ ho
  | _, _, .rptr id i v hu h1 hr => .rptr id i v (h.obj id hu).1 h1 fun T e t h2 l hg => by
    rcases (h.obj id hu).2 with h0 | ⟨hθ, o, o', ho, ho', hl⟩
    · rw [h0] at hg; cases hg
    · rw [hg] at ho'; cases ho'
      cases o <;> simp [like] at hl
      rw [hθ, ← hl.2.2.2]; exact hr _ _ _ _ _ ho
  | _, _, .cptr l us a hc hr => .cptr l us a (Cells.move h hc) fun i u hu => by
    obtain ⟨h0, h1, h2⟩ := hr i u hu
    obtain ⟨h3, h4⟩ := h.blk _ _ h0 h1
    exact ⟨h4, Nat.lt_of_lt_of_le h1 h.size, cell_mv h3 h2⟩
  | _, _, .fn f l us hc => .fn f l us (Cells.move h hc)
theorem Cells.move {E E' : Env} (h : Mv E E') : ∀ {l : List AV} {us : List Value}, Cells E l us → Cells E' l us
  | _, _, .nil => .nil
  | _, _, .arr t n xs us l rest hT hc => .arr t n xs us l rest (hT.move h) (Cells.move h hc)
  | _, _, .cons x u l us hx hc => .cons x u l us (CRep.move h hx) (Cells.move h hc)
end

theorem VRep1.move {E E' : Env} (h : Mv E E') {x : AV} {v : Value} (hv : VRep1 E x v) : VRep1 E' x v := by
  cases x with
  | dead => exact hv
  | agg l => obtain ⟨us, rfl, hc⟩ := hv; exact ⟨us, rfl, hc.move h⟩
  | _ => exact CRep.move h hv

theorem VReps.move {E E' : Env} (h : Mv E E') {l : List AV} {us : List Value} (hv : VReps E l us) : VReps E' l us := by
  induction hv with
  | nil => exact .nil
  | cons x u l us hx _ ih => exact .cons _ _ _ _ (hx.move h) ih

theorem VRep.move {E E' : Env} (h : Mv E E') {tm : Nat → Value} {x : AV} {v : Value} (hv : VRep E tm x v) : VRep E' tm x v := by
  cases x with
  | tup l => obtain ⟨us, rfl, hc⟩ := hv; exact ⟨us, rfl, hc.move h⟩
  | opt tc b x => exact ⟨fun e => (hv.1 e).move h, hv.2⟩
  | dead => exact trivial
  | _ =>
    first
    | exact VRep1.move (x := .v _) h hv
    | exact VRep1.move (x := .kb _) h hv
    | exact VRep1.move (x := .agg _) h hv
    | exact VRep1.move (x := .sl _ _ _ _) h hv
    | exact VRep1.move (x := .ref _) h hv
    | exact VRep1.move (x := .ptr _ _) h hv
    | exact VRep1.move (x := .eptr _ _ _) h hv
    | exact VRep1.move (x := .cptr _) h hv
    | exact VRep1.move (x := .mp _) h hv
    | exact VRep1.move (x := .fn _ _) h hv
    | exact VRep1.move (x := .arr _ _ _) h hv
    | exact VRep1.move (x := .aptr _ _ _ _) h hv
    | exact VRep1.move (x := .rptr _ _) h hv

theorem ownsRow_move {w w' : World} {B s n : Nat} {v : Value} {xs : List Value} (hb : ∀ k, blkOf v = some k → w'.heap[k]? = w.heap[k]?) (hown : w.ownsRow 0 B s v n xs) : w'.ownsRow 0 B s v n xs := by
  refine ⟨hown.1, ?_⟩
  rcases hown.2 with h2 | ⟨g, cap, cur, hv, hg, hh, r⟩
  · exact .inl h2
  · refine .inr ⟨g, cap, cur, hv, hg, ?_, r⟩
    rw [hb g (by simp [hv, blkOf])]; exact hh

theorem ownsRow_lt {w : World} {B s n : Nat} {v : Value} {xs : List Value} (hown : w.ownsRow 0 B s v n xs) {k : Nat} (hk : blkOf v = some k) : k < w.heap.size := by
  rcases hown.2 with ⟨h2, _⟩ | ⟨g, cap, cur, hv, hg, hh, r⟩
  · rw [h2] at hk; simp [blkOf] at hk
  · rw [hv] at hk; simp [blkOf] at hk
    subst hk
    exact (Array.getElem?_eq_some_iff.1 hh).1

theorem inn_blks {c : Conc} {j k : Nat} (h : blkOf (c.inn.getD j nilV) = some k) : k ∈ c.blks := by
  simp only [Conc.blks, List.mem_append]
  refine .inr (List.mem_filterMap.2 ⟨c.inn.getD j nilV, ?_, h⟩)
  rcases Nat.lt_or_ge j c.inn.length with hj | hj
  · rw [List.getD_eq_getElem?_getD, List.getElem?_eq_getElem hj]; exact List.getElem_mem _
  · rw [List.getD_eq_getElem?_getD, List.getElem?_eq_none hj] at h; cases h

theorem blks_inn {c : Conc} {k : Nat} (h : k ∈ c.blks) : blkOf c.v = some k ∨ ∃ j, j < c.inn.length ∧ blkOf (c.inn.getD j nilV) = some k := by
  simp only [Conc.blks, List.mem_append] at h
  rcases h with h | h
  · exact .inl (by simpa using h)
  · obtain ⟨v, hv, hk⟩ := List.mem_filterMap.1 h
    obtain ⟨j, hj, rfl⟩ := List.getElem_of_mem hv
    exact .inr ⟨j, hj, by rw [List.getD_eq_getElem?_getD, List.getElem?_eq_getElem hj]; exact hk⟩

theorem ObjRep.move {E E' : Env} (h : Mv E E') {c : Conc} (hb : ∀ k ∈ c.blks, E'.w.heap[k]? = E.w.heap[k]?) {o : AO} (ho : ObjRep E c o) : ObjRep E' c o := by
  cases o with
  | row B fr t xs =>
    obtain ⟨hi, inner, hown, hT⟩ := ho
    refine ⟨hi, inner, ?_, fun j hj => (hT j hj).move h⟩
    refine ⟨hown.1, ?_⟩
    rcases hown.2 with h2 | ⟨g, cap, cur, hv, hg, hh, r⟩
    · exact .inl h2
    · refine .inr ⟨g, cap, cur, hv, hg, ?_, r⟩
      rw [hb g (by simp [Conc.blks, hv, blkOf])]; exact hh
  | box B l =>
    obtain ⟨hi, b, us, hv, hh, hc⟩ := ho
    exact ⟨hi, b, us, hv, by rw [hb b (by simp [Conc.blks, hv, blkOf])]; exact hh, hc.move h⟩
  | map B kt vt kvs =>
    obtain ⟨hi, b, es, clock, hv, hh, hl, hm⟩ := ho
    refine ⟨hi, b, es, clock, hv, by rw [hb b (by simp [Conc.blks, hv, blkOf])]; exact hh, hl, fun j hj => ?_⟩
    obtain ⟨e, kc, vc, he, hk, hv, h1, h2⟩ := hm j hj
    exact ⟨e, kc, vc, he, hk, hv, h1.move h, h2.move h⟩
  | rows B e t hole xss =>
    obtain ⟨hf, hl, ⟨hs, hown, hin⟩, hd⟩ := ho
    refine ⟨hf, hl, ⟨hs, ownsRow_move (fun k hk => hb k (by simp [Conc.blks, hk])) hown, fun j hj => ⟨(hin j hj).1, fun hne => ?_⟩⟩, hd⟩
    obtain ⟨h1, inner, h2, h3⟩ := (hin j hj).2 hne
    exact ⟨h1, inner, ownsRow_move (fun k hk => hb k (inn_blks hk)) h2, fun i hi => (h3 i hi).move h⟩

theorem ObjRep.lt {E : Env} {c : Conc} {o : AO} (ho : ObjRep E c o) : ∀ k ∈ c.blks, k < E.w.heap.size := by
  intro k hk
  cases o with
  | row B fr t xs =>
    obtain ⟨hi, inner, hown, _⟩ := ho
    simp only [Conc.blks, hi, List.filterMap_nil, List.append_nil] at hk
    rcases hown.2 with ⟨h2, _⟩ | ⟨g, cap, cur, hv, hg, hh, r⟩
    · rw [h2] at hk; simp [blkOf] at hk
    · rw [hv] at hk; simp [blkOf] at hk
      subst hk
      exact (Array.getElem?_eq_some_iff.1 hh).1
  | box B l =>
    obtain ⟨hi, b, us, hv, hh, _⟩ := ho
    simp [Conc.blks, hi, hv, blkOf] at hk
    subst hk
    exact (Array.getElem?_eq_some_iff.1 hh).1
  | map B kt vt kvs =>
    obtain ⟨hi, b, es, clock, hv, hh, _⟩ := ho
    simp [Conc.blks, hi, hv, blkOf] at hk
    subst hk
    exact (Array.getElem?_eq_some_iff.1 hh).1
  | rows B e t hole xss =>
    obtain ⟨hf, hl, ⟨hs, hown, hin⟩, hd⟩ := ho
    rcases blks_inn hk with h1 | ⟨j, hj, h1⟩
    · exact ownsRow_lt hown h1
    · by_cases hh : hole = some j
      · rw [(hin j (by omega)).1 hh] at h1; cases h1
      · obtain ⟨_, inner, h2, _⟩ := (hin j (by omega)).2 hh
        exact ownsRow_lt h2 h1

/-! ### the one way in which memory changes -/
/-- Some objects go; one is new, or another one than before, in the blocks of those that went, its own, or new ones. -/
structure Upd (E E' : Env) (F : Nat → Prop) (tid : Nat) : Prop where
  w0 : E'.w0 = E.w0
  O0 : E'.O0 = E.O0
  G : E'.G = E.G
  os : E'.w.os = E.w.os
  tape : E'.w.tape = E.w.tape
  output : E'.w.output = E.w.output
  size : E.w.heap.size ≤ E'.w.heap.size
  U : ∀ id, E'.U id ↔ E.U id ∨ id = tid
  other : ∀ id, id ≠ tid → E'.θ id = E.θ id ∧ (F id → E'.get id = none) ∧ (¬ F id → E'.get id = E.get id)
  blks : ∀ k ∈ (E'.θ tid).blks, E.w.heap.size ≤ k ∨ ∃ s o, (F s ∨ s = tid) ∧ E.get s = some o ∧ k ∈ (E.θ s).blks
  far : ∀ k, k < E.w.heap.size → (∀ s o, (F s ∨ s = tid) → E.get s = some o → k ∉ (E.θ s).blks) → E'.w.heap[k]? = E.w.heap[k]?
  like : E.U tid → E'.get tid = none ∨ ((E'.θ tid).v = (E.θ tid).v ∧ ∃ o o', E.get tid = some o ∧ E'.get tid = some o' ∧ like o o')

theorem Upd.owned {E E' : Env} {F : Nat → Prop} {tid : Nat} (h : Upd E E' F tid) {k : Nat} (ho : E'.owned k) : E.owned k ∨ E.w.heap.size ≤ k := by
  obtain ⟨id, o, hg, hk⟩ := ho
  by_cases e : id = tid
  · subst e
    rcases h.blks k hk with h1 | ⟨s, o', _, h2, h3⟩
    · exact .inr h1
    · exact .inl ⟨s, o', h2, h3⟩
  · obtain ⟨hθ, h1, h2⟩ := h.other id e
    by_cases hF : F id
    · rw [h1 hF] at hg; cases hg
    · rw [h2 hF] at hg
      rw [hθ] at hk
      exact .inl ⟨id, o, hg, hk⟩

theorem Upd.mv {E E' : Env} {F : Nat → Prop} {tid : Nat} (h : Upd E E' F tid) : Mv E E' := by
  refine ⟨h.size, fun fr k hk hl => ⟨?_, ?_⟩, fun id hu => ⟨(h.U id).2 (.inl hu), ?_⟩⟩
  · exact h.far k hl fun s o hs hg hb => hk.2 ⟨s, o, hg, hb⟩
  · refine ⟨by rw [h.w0, h.O0, h.G]; exact hk.1, fun ho => ?_⟩
    rcases h.owned ho with h1 | h1
    · exact hk.2 h1
    · omega
  · by_cases e : id = tid
    · subst e; exact h.like hu
    · obtain ⟨hθ, h1, h2⟩ := h.other id e
      by_cases hF : F id
      · exact .inl (h1 hF)
      · rw [h2 hF]
        cases hg : E.get id with
        | none => exact .inl rfl
        | some o => exact .inr ⟨by rw [hθ], o, o, rfl, rfl, like_refl o⟩

theorem Upd.mr {E E' : Env} {F : Nat → Prop} {tid : Nat} (h : Upd E E' F tid) (m : MR E) (hrep : ∀ o, E'.get tid = some o → ObjRep E' (E'.θ tid) o) : MR E' := by
  have hmv := h.mv
  have blkof : ∀ s o k, E.get s = some o → k ∈ (E.θ s).blks → k < E.w.heap.size := fun s o k hg hk => (m.objs s o hg).lt k hk
  -- the blocks of an object that stays are none of those that changed
  have keep : ∀ id o, id ≠ tid → ¬ F id → E.get id = some o → ∀ k ∈ (E.θ id).blks, ∀ s o', (F s ∨ s = tid) → E.get s = some o' → k ∉ (E.θ s).blks := by
    intro id o hne hF hg k hk s o' hs hgs hks
    have := m.disj id s o o' k hg hgs hk hks
    subst this
    rcases hs with hs | hs
    · exact hF hs
    · exact hne hs
  have back : ∀ id o, id ≠ tid → E'.get id = some o → ¬ F id ∧ E.get id = some o ∧ E'.θ id = E.θ id := by
    intro id o hne hg
    obtain ⟨hθ, h1, h2⟩ := h.other id hne
    have hF : ¬ F id := fun hF => by rw [h1 hF] at hg; cases hg
    exact ⟨hF, by rw [← h2 hF]; exact hg, hθ⟩
  refine ⟨?_, ?_, ?_, ?_, ?_, ?_, ?_⟩
  · rw [h.w0, h.O0]
    refine ⟨h.os.trans m.ext.os, h.tape.trans m.ext.tape, h.output.trans m.ext.output, Nat.le_trans m.ext.size h.size, fun k hk hO => ?_⟩
    rw [h.far k (Nat.lt_of_lt_of_le hk m.ext.size) fun s o hs hg hb => ?_]
    · exact m.ext.block k hk hO
    · rcases m.own s o k hg hb with h1 | h1
      · exact hO h1
      · omega
  · rw [h.G, h.O0, h.w0]; exact m.gsep
  · rw [h.O0, h.w0]; exact m.osep
  · intro id o hg
    by_cases e : id = tid
    · exact (h.U id).2 (.inr e)
    · exact (h.U id).2 (.inl (m.used id o (back id o e hg).2.1))
  · intro id o k hg hk
    rw [h.O0, h.w0]
    by_cases e : id = tid
    · subst e
      rcases h.blks k hk with h1 | ⟨s, o', _, h2, h3⟩
      · exact .inr (Nat.le_trans m.ext.size h1)
      · exact m.own s o' k h2 h3
    · obtain ⟨_, hg', hθ⟩ := back id o e hg
      rw [hθ] at hk
      exact m.own id o k hg' hk
  · intro id id' o o' k hg hg' hk hk'
    by_cases e : id = tid
    · by_cases e' : id' = tid
      · rw [e, e']
      · obtain ⟨hF, hg2, hθ⟩ := back id' o' e' hg'
        rw [hθ] at hk'
        rw [e] at hk
        rcases h.blks k hk with h1 | ⟨s, o2, hs, h2, h3⟩
        · have := blkof _ _ _ hg2 hk'; omega
        · exact absurd h3 (keep id' o' e' hF hg2 k hk' s o2 hs h2)
    · obtain ⟨hF, hg2, hθ⟩ := back id o e hg
      rw [hθ] at hk
      by_cases e' : id' = tid
      · rw [e'] at hk'
        rcases h.blks k hk' with h1 | ⟨s, o2, hs, h2, h3⟩
        · have := blkof _ _ _ hg2 hk; omega
        · exact absurd h3 (keep id o e hF hg2 k hk s o2 hs h2)
      · obtain ⟨hF', hg2', hθ'⟩ := back id' o' e' hg'
        rw [hθ'] at hk'
        exact m.disj id id' o o' k hg2 hg2' hk hk'
  · intro id o hg
    by_cases e : id = tid
    · subst e; exact hrep o hg
    · obtain ⟨hF, hg2, hθ⟩ := back id o e hg
      rw [hθ]
      exact (m.objs id o hg2).move hmv fun k hk => h.far k (blkof _ _ _ hg2 hk) (keep id o e hF hg2 k hk)

end Go.Proofs.YtjmnjimlkljhjaaV

/- Cells in line; what is frozen; what is read. -/
set_option linter.unusedVariables false
namespace Go.Proofs.YtjmnjimlkljhjaaV
open Go

section
variable {E : Env}

theorem CRep.not_arr {t : Ty} {n : Nat} {xs : List (El t)} {u : Value} (h : CRep E (.arr t n xs) u) : False := by cases h

theorem CRep.wd {x : AV} {u : Value} (h : CRep E x u) : wd x = 1 := by cases h <;> rfl

theorem Cells.len : ∀ {l : List AV} {us : List Value}, Cells E l us → wdL l = us.length := by
  intro l
  induction l with
  | nil => intro us h; cases h; rfl
  | cons x l ih =>
    intro us h
    cases h with
    | arr t n xs us l rest hT hc => rw [wdL, ih hc, List.length_append, hT.len]; rfl
    | cons _ u _ us hx hc => rw [wdL, ih hc, hx.wd, List.length_cons, Nat.add_comm]

theorem Cells.append : ∀ {l : List AV} {us : List Value}, Cells E l us → ∀ {l' us'}, Cells E l' us' → Cells E (l ++ l') (us ++ us') := by
  intro l
  induction l with
  | nil => intro us h l' us' h'; cases h; exact h'
  | cons x l ih =>
    intro us h l' us' h'
    cases h with
    | arr t n xs us l rest hT hc => rw [List.append_assoc, List.cons_append]; exact .arr t n xs _ _ _ hT (ih hc h')
    | cons _ u _ us hx hc => exact .cons _ _ _ _ hx (ih hc h')

theorem Cells.drop : ∀ {l : List AV} {us : List Value} {n : Nat} {l' : List AV}, Cells E l us → dropW n l = some l' → n ≤ us.length ∧ Cells E l' (us.drop n) := by
  intro l
  induction l with
  | nil =>
    intro us n l' h hd
    cases n with
    | zero => simp [dropW] at hd; subst hd; exact ⟨Nat.zero_le _, h⟩
    | succ n => simp [dropW] at hd
  | cons x l ih =>
    intro us n l' h hd
    cases n with
    | zero => simp [dropW] at hd; subst hd; exact ⟨Nat.zero_le _, h⟩
    | succ n =>
      simp only [dropW] at hd
      split at hd
      case isFalse => cases hd
      case isTrue hw =>
        cases h with
        | arr t m xs us l rest hT hc =>
          have hl : us.length = wd (.arr t m xs) := by rw [hT.len]; rfl
          obtain ⟨h1, h2⟩ := ih hc hd
          refine ⟨by rw [List.length_append]; omega, ?_⟩
          have e : n + 1 = us.length + (n + 1 - wd (.arr t m xs)) := by omega
          rw [e, List.drop_append, Nat.add_sub_cancel_left, List.drop_eq_nil_of_le (by omega), List.nil_append]
          rw [← hl] at h2 ⊢
          rw [hl]
          rw [hl] at h2
          have : us.length + (n + 1 - wd (.arr t m xs)) - wd (.arr t m xs) = n + 1 - wd (.arr t m xs) := by omega
          exact h2
        | cons _ u _ us hx hc =>
          rw [hx.wd] at hd
          obtain ⟨h1, h2⟩ := ih hc hd
          exact ⟨by rw [List.length_cons]; omega, by rw [List.drop_succ_cons]; simpa using h2⟩

theorem Cells.take : ∀ {l : List AV} {us : List Value} {n : Nat} {l' : List AV}, Cells E l us → takeW n l = some l' → n ≤ us.length ∧ Cells E l' (us.take n) := by
  intro l
  induction l with
  | nil =>
    intro us n l' h hd
    cases n with
    | zero => simp [takeW] at hd; subst hd; exact ⟨Nat.zero_le _, .nil⟩
    | succ n => simp [takeW] at hd
  | cons x l ih =>
    intro us n l' h hd
    cases n with
    | zero => simp [takeW] at hd; subst hd; exact ⟨Nat.zero_le _, .nil⟩
    | succ n =>
      simp only [takeW] at hd
      split at hd
      case isFalse => cases hd
      case isTrue hw =>
        cases ht : takeW (n + 1 - wd x) l with
        | none => rw [ht] at hd; cases hd
        | some l2 =>
          rw [ht] at hd
          simp only [Option.map_some, Option.some.injEq] at hd
          subst hd
          cases h with
          | arr t m xs us l rest hT hc =>
            have hl : us.length = wd (.arr t m xs) := by rw [hT.len]; rfl
            obtain ⟨h1, h2⟩ := ih hc ht
            refine ⟨by rw [List.length_append]; omega, ?_⟩
            have e : n + 1 = us.length + (n + 1 - wd (.arr t m xs)) := by omega
            rw [e, List.take_append, List.take_of_length_le (by omega)]
            have : us.length + (n + 1 - wd (.arr t m xs)) - us.length = n + 1 - wd (.arr t m xs) := by omega
            rw [this]
            exact .arr t m xs _ _ _ hT h2
          | cons _ u _ us hx hc =>
            rw [hx.wd] at ht
            obtain ⟨h1, h2⟩ := ih hc ht
            exact ⟨by rw [List.length_cons]; omega, by rw [List.take_succ_cons]; exact .cons _ _ _ _ hx (by simpa using h2)⟩

theorem Cells.splice {l c l' : List AV} {us cs : List Value} {off : Nat} (h : Cells E l us) (hc : Cells E c cs) (hs : splice l off c = some l') :
    off + cs.length ≤ us.length ∧ Cells E l' (us.take off ++ cs ++ us.drop (off + cs.length)) := by
  unfold Go.Proofs.YtjmnjimlkljhjaaV.splice at hs
  split at hs
  case h_2 => cases hs
  case h_1 x y hx hy =>
    cases hs
    rw [hc.len] at hy
    obtain ⟨h1, h2⟩ := h.take hx
    obtain ⟨h3, h4⟩ := h.drop hy
    exact ⟨h3, (h2.append hc).append h4⟩

theorem T.cells {fr : Bool} : ∀ {t : Ty} {x : El t} {cs : List Value}, T E fr t x cs → Cells E (enc fr t x) cs := by
  intro t
  induction t with
  | int k => rintro x cs ⟨n, h⟩; cases n with | zero => exact h.elim | succ n => rw [h]; exact .cons _ _ _ _ (.v _) .nil
  | bool => rintro x cs ⟨n, h⟩; cases n with | zero => exact h.elim | succ n => rw [h]; exact .cons _ _ _ _ (.v _) .nil
  | str => rintro x cs ⟨n, h⟩; cases n with | zero => exact h.elim | succ n => rw [h]; exact .cons _ _ _ _ (.v _) .nil
  | prod a b iha ihb =>
    rintro x cs ⟨n, h⟩
    cases n with
    | zero => exact h.elim
    | succ n =>
      obtain ⟨c0, c1, rfl, h0, h1⟩ := h
      exact (iha ⟨n, h0⟩).append (ihb ⟨n, h1⟩)
  | slice e t ih =>
    rintro x cs ⟨n, h⟩
    have hh := h
    cases n with
    | zero => exact h.elim
    | succ n =>
      obtain ⟨A, cap, rfl, _⟩ := h
      exact .cons _ _ _ _ (.sl fr t e x _ ⟨n + 1, hh⟩) .nil
  | rose t e ih =>
    rintro x cs ⟨n, h⟩
    cases n with
    | zero => exact h.elim
    | succ n =>
      cases x with
      | node a ks =>
        obtain ⟨c0, c1, rfl, h0, h1⟩ := h
        have hl := TRep.len n _ _ _ h1
        match c1, hl with
        | [u], _ => exact (ih ⟨n, h0⟩).append (.cons _ _ _ _ (.sl fr (.rose t e) e ks u ⟨n, h1⟩) .nil)
  | arr n t ih =>
    intro x cs h
    have := Cells.arr (E := E) t n x cs [] [] h.weaken .nil
    rw [List.append_nil] at this
    exact this

theorem CRep.one {x : AV} {v : Value} (h : CRep E x v) (ho : oneC x = true) : v.oneCell' = true := by
  cases h with
  | v x => exact ho
  | kb b => rfl
  | sl fr t e xs v hT => exact hT.one v (by simp)
  | ref id v hu h1 hr => exact h1
  | ptr id off v hu h1 hr => exact h1
  | eptr id i off v hu h1 hr => exact h1
  | aptr id off i k v hu h1 hr => exact h1
  | mp id v hu h1 hr => exact h1
  | rptr id i v hu h1 hr => exact h1
  | cptr l us a hc hr => rfl
  | fn f l us hc => rfl

theorem Cells.one : ∀ {l : List AV} {us : List Value}, Cells E l us → l.all oneC = true → ∀ u ∈ us, u.oneCell' = true := by
  intro l
  induction l with
  | nil => intro us h; cases h; simp
  | cons x l ih =>
    intro us h ho u hu
    simp only [List.all_cons, Bool.and_eq_true] at ho
    cases h with
    | arr t n xs us l rest hT hc =>
      rcases List.mem_append.1 hu with hu | hu
      · exact hT.one u hu
      · exact ih hc ho.2 u hu
    | cons _ u' _ us hx hc =>
      rcases List.mem_cons.1 hu with rfl | hu
      · exact hx.one ho.1
      · exact ih hc ho.2 u hu

/-- A value that may stand in cells, as cells. -/
theorem cells_of_one {v : Value} (h : v.oneCell' = true) : v.cells = #[v] := by cases v <;> first | rfl | cases h

theorem VRep1.cells {x : AV} {v : Value} (h : VRep1 E x v) (ho : (cells x).all oneC = true) : Cells E (cells x) v.cells.toList := by
  have one : ∀ {x : AV}, CRep E x v → oneC x = true → Cells E [x] v.cells.toList := by
    intro x hc h1
    rw [cells_of_one (hc.one h1)]
    exact .cons _ _ _ _ hc .nil
  cases x with
  | agg l => obtain ⟨us, rfl, hc⟩ := h; simpa [Go.Proofs.YtjmnjimlkljhjaaV.cells, Value.cells] using hc
  | dead => simp [Go.Proofs.YtjmnjimlkljhjaaV.cells, oneC] at ho
  | tup l => simp [Go.Proofs.YtjmnjimlkljhjaaV.cells, oneC] at ho
  | opt a b c => simp [Go.Proofs.YtjmnjimlkljhjaaV.cells, oneC] at ho
  | _ => exact one h (by simpa [Go.Proofs.YtjmnjimlkljhjaaV.cells] using ho)

/-- Where no row is inside nothing is asked of blocks. -/
theorem TRep.flat {w : World} {ok ok' : Nat → Prop} : ∀ (n : Nat) (t : Ty), flatT t = true → ∀ (x : El t) (cs : List Value), TRep w ok n t x cs → TRep w ok' n t x cs := by
  intro n
  induction n with
  | zero => intro t _ x cs h; exact h.elim
  | succ n ih =>
    intro t hf x cs h
    cases t with
    | int k => exact h
    | bool => exact h
    | str => exact h
    | prod a b =>
      simp only [flatT, Bool.and_eq_true] at hf
      obtain ⟨c0, c1, e, h0, h1⟩ := h
      exact ⟨c0, c1, e, ih _ hf.1 _ _ h0, ih _ hf.2 _ _ h1⟩
    | slice e t => cases hf
    | rose t e => cases hf
    | arr m t =>
      obtain ⟨h0, h1, h2⟩ := h
      exact ⟨h0, h1, fun j hj => ih t (show flatT t = true from hf) _ _ (h2 j hj)⟩

theorem T.flat {fr fr' : Bool} {t : Ty} (hf : flatT t = true) {x : El t} {cs : List Value} (h : T E fr t x cs) : T E fr' t x cs := by
  obtain ⟨n, h⟩ := h
  exact ⟨n, TRep.flat n t hf x cs h⟩

/-! ### freezing -/
theorem T.weakF {fr fr' : Bool} {t : Ty} (hf : fr' = true → fr = true ∨ flatT t = true) {x : El t} {cs : List Value} (h : T E fr t x cs) : T E fr' t x cs := by
  cases hfl : flatT t with
  | true => exact h.flat hfl
  | false => exact h.weak2 fun e => (hf e).resolve_right (by rw [hfl]; simp)

def Env.freeze (E : Env) (f : List Nat) : Env := { E with get := fun id => if id ∈ f then none else E.get id }

theorem freeze_mv (E : Env) (f : List Nat) : Mv E (E.freeze f) := by
  refine ⟨Nat.le_refl _, fun fr k hk _ => ⟨rfl, ⟨hk.1, ?_⟩⟩, fun id hu => ⟨hu, ?_⟩⟩
  · rintro ⟨id, o, hg, hb⟩
    simp only [Env.freeze] at hg
    split at hg
    · cases hg
    · exact hk.2 ⟨id, o, hg, hb⟩
  · simp only [Env.freeze]
    split
    · exact .inl rfl
    · cases hg : E.get id with
      | none => exact .inl rfl
      | some o => exact .inr ⟨trivial, o, o, rfl, rfl, like_refl o⟩

theorem freeze_mr {E : Env} (m : MR E) (f : List Nat) : MR (E.freeze f) := by
  have hg : ∀ id o, (E.freeze f).get id = some o → E.get id = some o := by
    intro id o h
    simp only [Env.freeze] at h
    split at h
    · cases h
    · exact h
  exact ⟨m.ext, m.gsep, m.osep, fun id o h => m.used id o (hg id o h), fun id o k h => m.own id o k (hg id o h),
    fun id id' o o' k h h' => m.disj id id' o o' k (hg id o h) (hg id' o' h'), fun id o h => (m.objs id o (hg id o h)).move (freeze_mv E f) (fun _ _ => rfl)⟩

/-- What a slice is read as, told without whose it is. -/
def RdSl (E : Env) (ok : Nat → Prop) (fr : Bool) (t : Ty) (xs : List (El t)) (v : Value) : Prop :=
  ∃ A cap, v = .slice A xs.length cap ∧ xs.length ≤ cap ∧ cap ≤ maxLen ∧
    ∀ j (h : j < xs.length), ∃ ad c, A = some ad ∧ ok ad.block ∧ ad.block < E.w.heap.size ∧ T E fr t xs[j] c ∧ ∀ i u, c[i]? = some u → E.w.cell? (ad.add (j * sz t + i)) = some u

theorem choose_bound {α : Type} (xs : List α) (p : Nat → (j : Nat) → j < xs.length → Prop) (hm : ∀ n m j h, n ≤ m → p n j h → p m j h) (h : ∀ j hj, ∃ n, p n j hj) : ∃ n, ∀ j hj, p n j hj := by
  have key : ∀ k, k ≤ xs.length → ∃ n, ∀ j (hj : j < xs.length), j < k → p n j hj := by
    intro k
    induction k with
    | zero => intro _; exact ⟨0, fun j _ h => absurd h (by omega)⟩
    | succ k ih =>
      intro hk
      obtain ⟨n, hn⟩ := ih (by omega)
      obtain ⟨m, hm'⟩ := h k (by omega)
      refine ⟨max n m, fun j hj hjk => ?_⟩
      by_cases e : j = k
      · subst e; exact hm m _ _ _ (Nat.le_max_right _ _) hm'
      · exact hm n _ _ _ (Nat.le_max_left _ _) (hn j hj (by omega))
  obtain ⟨n, hn⟩ := key xs.length (Nat.le_refl _)
  exact ⟨n, fun j hj => hn j hj hj⟩

theorem T.of_rd {fr : Bool} {t : Ty} {e : Nat} {xs : List (El t)} {v : Value} (h : RdSl E (E.ok fr) fr t xs v) : T E fr (.slice e t) xs [v] := by
  obtain ⟨A, cap, rfl, h0, h1, h2⟩ := h
  obtain ⟨n, hn⟩ := choose_bound xs (fun n j hj => ∃ ad c, A = some ad ∧ E.ok fr ad.block ∧ ad.block < E.w.heap.size ∧ TRep E.w (E.ok fr) n t xs[j] c ∧ ∀ i u, c[i]? = some u → E.w.cell? (ad.add (j * sz t + i)) = some u)
    (fun n m j hj hnm ⟨ad, c, a1, a2, a3, a4, a5⟩ => ⟨ad, c, a1, a2, a3, TRep.mono n m hnm _ _ _ a4, a5⟩)
    (fun j hj => by obtain ⟨ad, c, a1, a2, a3, ⟨n, a4⟩, a5⟩ := h2 j hj; exact ⟨n, ad, c, a1, a2, a3, a4, a5⟩)
  exact ⟨n + 1, A, cap, rfl, h0, h1, hn⟩

theorem T.rd {fr : Bool} {t : Ty} {e : Nat} {xs : List (El t)} {v : Value} (h : T E fr (.slice e t) xs [v]) : RdSl E (E.ok fr) fr t xs v := by
  obtain ⟨n, h⟩ := h
  cases n with
  | zero => exact h.elim
  | succ n =>
    obtain ⟨A, cap, he, h0, h1, h2⟩ := h
    simp only [List.cons.injEq, and_true] at he
    exact ⟨A, cap, he, h0, h1, fun j hj => by obtain ⟨ad, c, a1, a2, a3, a4, a5⟩ := h2 j hj; exact ⟨ad, c, a1, a2, a3, ⟨n, a4⟩, a5⟩⟩

theorem RdSl.mono {E E' : Env} {ok ok' : Nat → Prop} {fr fr' : Bool} {t : Ty} {xs : List (El t)} {v : Value} (h : RdSl E ok fr t xs v) (hw : E'.w = E.w) (hok : ∀ k, ok k → ok' k)
    (hT : ∀ x c, T E fr t x c → T E' fr' t x c) : RdSl E' ok' fr' t xs v := by
  obtain ⟨A, cap, e, h0, h1, h2⟩ := h
  refine ⟨A, cap, e, h0, h1, fun j hj => ?_⟩
  obtain ⟨ad, c, a1, a2, a3, a4, a5⟩ := h2 j hj
  exact ⟨ad, c, a1, hok _ a2, by rw [hw]; exact a3, hT _ _ a4, by rw [hw]; exact a5⟩

/-- A row of the call's own, as it is read. -/
theorem row_rd {E : Env} (m : MR E) {id B : Nat} {fr : Bool} {t : Ty} {xs : List (El t)} (hg : E.get id = some (.row B fr t xs)) :
    RdSl E (fun k => k ∈ (E.θ id).blks) fr t xs (E.θ id).v := by
  obtain ⟨hi, inner, hown, hT⟩ := m.objs id _ hg
  rcases hown.2 with ⟨h2, h3⟩ | ⟨g, cap, cur, hv, _, hh, hle, hcap, hsz, htk⟩
  · rw [h2]
    refine ⟨none, 0, by rw [h3], by omega, Nat.zero_le _, fun j hj => by omega⟩
  · refine ⟨some ⟨g, 0, none⟩, cap, hv, hle, hcap, fun j hj => ⟨⟨g, 0, none⟩, _, rfl, by simp [Conc.blks, hv, blkOf], (Array.getElem?_eq_some_iff.1 hh).1, hT j hj, fun i u hu => ?_⟩⟩
    refine hown.cells (g := g) (by rw [hv]; rfl) _ _ ?_
    rw [List.getElem?_take] at hu
    split at hu
    · rwa [List.getElem?_drop] at hu
    · cases hu

theorem row_typed {E : Env} (m : MR E) {id B : Nat} {fr : Bool} {t : Ty} {xs : List (El t)} (hg : E.get id = some (.row B fr t xs)) : (E.θ id).v.oneCell' = true := by
  obtain ⟨A, cap, e, _⟩ := row_rd m hg
  rw [e]; rfl

theorem decSl_ok {E : Env} (m : MR E) {fr : Bool} {t : Ty} {e : Nat} {c : AV} {xs : List (El t)} {f : List Nat} (h : decSl fr E.get t e c = some (xs, f)) {v : Value} (hc : CRep E c v)
    {f' : List Nat} (hf : ∀ i ∈ f, i ∈ f') : T (E.freeze f') fr (.slice e t) xs [v] := by
  unfold decSl at h
  split at h
  · simp only [Option.some.injEq, Prod.mk.injEq] at h
    obtain ⟨rfl, rfl⟩ := h
    cases hc
    exact T.of_rd ⟨none, 0, rfl, Nat.le_refl _, Nat.zero_le _, fun j hj => absurd hj (by simp)⟩
  · rename_i fr' t' e' xs'
    split at h
    case isFalse => cases h
    case isTrue ht =>
      subst ht
      split at h
      case isFalse => cases h
      case isTrue hc' =>
        obtain ⟨rfl, hfr⟩ := hc'
        cases h
        cases hc with
        | sl _ _ _ _ _ hT => exact (hT.move (freeze_mv E f')).weak2 hfr
  · rename_i id
    split at h
    case h_2 => cases h
    case h_1 B fr' t' xs' hg =>
      split at h
      case isFalse => cases h
      case isTrue ht =>
        subst ht
        split at h
        case isFalse => cases h
        case isTrue hc' =>
          obtain ⟨rfl, hfr⟩ := hc'
          cases h
          cases hc with
          | ref _ _ hu h1 hr =>
            rw [hr _ _ _ _ hg]
            refine T.of_rd ((row_rd m hg).mono rfl (fun k hk => ?_) (fun x c hT => (hT.move (freeze_mv E f')).weakF hfr))
            have h3 := m.own id _ k hg hk
            refine ⟨.inr h3, ?_⟩
            rintro ⟨id', o', hg', hk'⟩
            simp only [Env.freeze] at hg'
            split at hg'
            · cases hg'
            · rename_i hn
              have := m.disj id id' _ o' k hg hg' hk hk'
              subst this
              exact hn (hf _ (by simp))
  · cases h

theorem T.prod_mk {fr : Bool} {a b : Ty} {x : El a} {y : El b} {c0 c1 : List Value} (h0 : T E fr a x c0) (h1 : T E fr b y c1) : T E fr (.prod a b) (x, y) (c0 ++ c1) := by
  obtain ⟨n, h0⟩ := h0
  obtain ⟨m, h1⟩ := h1
  exact ⟨max n m + 1, c0, c1, rfl, TRep.mono n _ (Nat.le_max_left _ _) _ _ _ h0, TRep.mono m _ (Nat.le_max_right _ _) _ _ _ h1⟩

theorem T.rose_mk {fr : Bool} {t : Ty} {e : Nat} {a : El t} {ks : List (Rose (El t))} {c0 c1 : List Value} (h0 : T E fr t a c0) (h1 : T E fr (.slice e (.rose t e)) ks c1) : T E fr (.rose t e) (.node a ks) (c0 ++ c1) := by
  obtain ⟨n, h0⟩ := h0
  obtain ⟨m, h1⟩ := h1
  exact ⟨max n m + 1, c0, c1, rfl, TRep.mono n _ (Nat.le_max_left _ _) _ _ _ h0, TRep.mono m _ (Nat.le_max_right _ _) _ _ _ h1⟩

end

theorem decC_ok {E : Env} (m : MR E) {fr : Bool} : ∀ {t : Ty} {l : List AV} {x : El t} {r : List AV} {f : List Nat}, decC fr E.get t l = some (x, r, f) → ∀ {us : List Value}, Cells E l us →
    ∀ {f' : List Nat}, (∀ i ∈ f, i ∈ f') → ∃ cs us', us = cs ++ us' ∧ T (E.freeze f') fr t x cs ∧ Cells E r us' := by
  intro t
  induction t with
  | int k =>
    intro l x r f h us hc f' hf
    cases l with
    | nil => simp [decC] at h
    | cons c l =>
      simp only [decC, Option.map_eq_some_iff] at h
      obtain ⟨y, hd, h⟩ := h
      cases h
      unfold decI at hd
      split at hd
      case h_2 => cases hd
      case h_1 k' n =>
        split at hd
        case isFalse => cases hd
        case isTrue e =>
          subst e
          cases hd
          cases hc with
          | cons _ u _ us hx hc =>
            cases hx
            exact ⟨[_], us, rfl, ⟨1, rfl⟩, hc⟩
  | bool =>
    intro l x r f h us hc f' hf
    cases l with
    | nil => simp [decC] at h
    | cons c l =>
      simp only [decC, Option.map_eq_some_iff] at h
      obtain ⟨y, hd, h⟩ := h
      cases h
      unfold decB at hd
      split at hd
      case h_3 => cases hd
      case h_1 n =>
        cases hd
        cases hc with
        | cons _ u _ us hx hc =>
          cases hx
          exact ⟨[_], us, rfl, ⟨1, rfl⟩, hc⟩
      case h_2 n =>
        cases hd
        cases hc with
        | cons _ u _ us hx hc =>
          cases hx
          exact ⟨[_], us, rfl, ⟨1, rfl⟩, hc⟩
  | str =>
    intro l x r f h us hc f' hf
    cases l with
    | nil => simp [decC] at h
    | cons c l =>
      simp only [decC, Option.map_eq_some_iff] at h
      obtain ⟨y, hd, h⟩ := h
      cases h
      unfold decS at hd
      split at hd
      case h_2 => cases hd
      case h_1 n =>
        cases hd
        cases hc with
        | cons _ u _ us hx hc =>
          cases hx
          exact ⟨[_], us, rfl, ⟨1, rfl⟩, hc⟩
  | prod a b iha ihb =>
    intro l x r f h us hc f' hf
    simp only [decC] at h
    split at h
    case h_2 => cases h
    case h_1 x1 r1 f1 h1 =>
      split at h
      case h_2 => cases h
      case h_1 x2 r2 f2 h2 =>
        cases h
        obtain ⟨c0, u0, rfl, hT0, hr0⟩ := iha h1 hc (f' := f') (fun i hi => hf i (List.mem_append_left _ hi))
        obtain ⟨c1, u1, rfl, hT1, hr1⟩ := ihb h2 hr0 (f' := f') (fun i hi => hf i (List.mem_append_right _ hi))
        exact ⟨c0 ++ c1, u1, by rw [List.append_assoc], hT0.prod_mk hT1, hr1⟩
  | slice e t ih =>
    intro l x r f h us hc f' hf
    cases l with
    | nil => simp [decC] at h
    | cons c l =>
      simp only [decC, Option.map_eq_some_iff] at h
      obtain ⟨⟨y, g⟩, hd, h⟩ := h
      cases h
      cases hc with
      | arr t n xs us l rest hT hc => simp [decSl] at hd
      | cons _ u _ us hx hc => exact ⟨[u], us, rfl, decSl_ok m hd hx hf, hc⟩
  | rose t e ih =>
    intro l x r f h us hc f' hf
    simp only [decC] at h
    split at h
    case h_2 => cases h
    case h_1 x1 c r1 f1 h1 =>
      simp only [Option.map_eq_some_iff] at h
      obtain ⟨⟨ks, g⟩, hd, h⟩ := h
      cases h
      obtain ⟨c0, u0, rfl, hT0, hr0⟩ := ih h1 hc (f' := f') (fun i hi => hf i (List.mem_append_left _ hi))
      cases hr0 with
      | arr t n xs us l rest hT hc => simp [decSl] at hd
      | cons _ u _ us' hx hc' =>
        exact ⟨c0 ++ [u], us', by simp, hT0.rose_mk (decSl_ok m hd hx (fun i hi => hf i (List.mem_append_right _ hi))), hc'⟩
  | arr n t ih =>
    intro l x r f h us hc f' hf
    cases l with
    | nil => simp [decC] at h
    | cons c l =>
      simp only [decC, Option.map_eq_some_iff] at h
      obtain ⟨y, hd, h⟩ := h
      cases h
      unfold decA at hd
      split at hd
      case h_2 => cases hd
      case h_1 t' n' xs =>
        split at hd
        case isFalse => cases hd
        case isTrue e =>
          subst e
          split at hd
          case isFalse => cases hd
          case isTrue e =>
            obtain ⟨rfl, hfl⟩ := e
            cases hd
            cases hc with
            | cons _ u _ us hx hc => exact hx.not_arr.elim
            | arr _ _ _ us l rest hT hc => exact ⟨us, rest, rfl, (T.flat (t := .arr n' t') hfl hT).move (freeze_mv E f'), hc⟩

end Go.Proofs.YtjmnjimlkljhjaaV

/- A step of memory, in one form. -/
set_option linter.unusedVariables false
namespace Go.Proofs.YtjmnjimlkljhjaaV
open Go

def applyG (g : Nat → Option AO) : List (Nat × Option AO) → Nat → Option AO
  | [] => g
  | (i, o) :: l => applyG (fun id => if id = i then o else g id) l

theorem applyG_frees (f : List Nat) : ∀ (g : Nat → Option AO) (id : Nat), applyG g (frees f) id = if id ∈ f then none else g id := by
  induction f with
  | nil => intro g id; simp [frees, applyG]
  | cons i f ih =>
    intro g id
    have := ih (fun id => if id = i then none else g id) id
    simp only [frees, List.map_cons, applyG] at this ⊢
    rw [this]
    by_cases h1 : id ∈ f
    · simp [h1]
    · by_cases h2 : id = i
      · simp [h2]
      · simp [h1, h2]

theorem applyG_upd (g : Nat → Option AO) (tid : Nat) (o : AO) (f : List Nat) (hf : tid ∉ f) (id : Nat) :
    applyG g ((tid, some o) :: frees f) id = if id = tid then some o else if id ∈ f then none else g id := by
  simp only [applyG]
  rw [applyG_frees]
  by_cases h : id = tid
  · subst h; simp [hf]
  · simp [h]

theorem like_trans {a b c : AO} (h : like a b) (k : like b c) : like a c := by
  cases a <;> cases b <;> simp [like] at h <;> cases c <;> simp [like] at k <;> simp [like] <;> simp_all

theorem Mv.refl (E : Env) : Mv E E :=
  ⟨Nat.le_refl _, fun fr k hk _ => ⟨rfl, hk⟩, fun id hu => ⟨hu, by
    cases hg : E.get id with
    | none => exact .inl rfl
    | some o => exact .inr ⟨rfl, o, o, rfl, rfl, like_refl o⟩⟩⟩

theorem Mv.trans {A B C : Env} (h : Mv A B) (k : Mv B C) : Mv A C := by
  refine ⟨Nat.le_trans h.size k.size, fun fr n hn hl => ?_, fun id hu => ?_⟩
  · obtain ⟨h1, h2⟩ := h.blk fr n hn hl
    obtain ⟨k1, k2⟩ := k.blk fr n h2 (Nat.lt_of_lt_of_le hl h.size)
    exact ⟨k1.trans h1, k2⟩
  · obtain ⟨h1, h2⟩ := h.obj id hu
    obtain ⟨k1, k2⟩ := k.obj id h1
    refine ⟨k1, ?_⟩
    rcases k2 with k2 | ⟨hθ, o, o', ho, ho', hl⟩
    · exact .inl k2
    · rcases h2 with h2 | ⟨hθ2, p, p', hp, hp', hl2⟩
      · rw [h2] at ho; cases ho
      · rw [ho] at hp'; cases hp'
        exact .inr ⟨hθ.trans hθ2, p, o', hp, ho', like_trans hl2 hl⟩

structure Stp (E E' : Env) (eff : List (Nat × Option AO)) (nid : Nat) : Prop where
  mr : MR E'
  mv : Mv E E'
  get : ∀ id, E'.get id = applyG E.get eff id
  U : ∀ id, E'.U id → E.U id ∨ id = nid
  w0 : E'.w0 = E.w0
  O0 : E'.O0 = E.O0
  G : E'.G = E.G

theorem Stp.refl {E : Env} (m : MR E) (nid : Nat) : Stp E E [] nid := ⟨m, .refl E, fun _ => rfl, fun _ h => .inl h, rfl, rfl, rfl⟩

/-- Rows that are frozen (f), rows that are used up (g): their blocks, and new ones, may be those of the object tid, as it now is. -/
theorem stp_upd {E : Env} (m : MR E) (tid : Nat) (o' : AO) (f g : List Nat) (ht : tid ∉ f ++ g) (hfg : ∀ i ∈ f, i ∉ g) (c : Conc) (w' : World)
    (hos : w'.os = E.w.os) (htp : w'.tape = E.w.tape) (hou : w'.output = E.w.output) (hsz : E.w.heap.size ≤ w'.heap.size)
    (hblk : ∀ k ∈ c.blks, E.w.heap.size ≤ k ∨ ∃ s o, (s ∈ g ∨ s = tid) ∧ E.get s = some o ∧ k ∈ (E.θ s).blks)
    (hfar : ∀ k, k < E.w.heap.size → (∀ s o, (s ∈ g ∨ s = tid) → E.get s = some o → k ∉ (E.θ s).blks) → w'.heap[k]? = E.w.heap[k]?)
    (hlike : E.U tid → c.v = (E.θ tid).v ∧ ∃ o, E.get tid = some o ∧ like o o')
    (hrep : ∀ E' : Env, E'.w = w' → E'.w0 = E.w0 → E'.O0 = E.O0 → E'.G = E.G → Mv (E.freeze f) E' → ObjRep E' c o') :
    ∃ E', E'.w = w' ∧ Stp E E' ((tid, some o') :: frees (f ++ g)) tid ∧ E'.θ tid = c ∧ E'.U tid := by
  have hm := freeze_mr m f
  let E' : Env := { E with get := fun id => if id = tid then some o' else if id ∈ f ++ g then none else E.get id, θ := fun id => if id = tid then c else E.θ id, U := fun id => E.U id ∨ id = tid, w := w' }
  have get_f : ∀ s o, s ∉ f → (E.get s = some o ↔ (E.freeze f).get s = some o) := by intro s o hs; simp [Env.freeze, hs]
  have htf : tid ∉ f := fun h => ht (List.mem_append_left _ h)
  have upd : Upd (E.freeze f) E' (· ∈ g) tid := by
    refine ⟨rfl, rfl, rfl, hos, htp, hou, hsz, fun _ => Iff.rfl, fun id hne => ⟨by simp [E', hne, Env.freeze], fun hg => by simp [E', hne, hg], fun hg => by by_cases h : id ∈ f <;> simp [E', hne, hg, Env.freeze, h]⟩, ?_, ?_, ?_⟩
    · intro k hk
      have hk' : k ∈ c.blks := by simpa [E'] using hk
      rcases hblk k hk' with h1 | ⟨s, o, hs, hg, hb⟩
      · exact .inl h1
      · refine .inr ⟨s, o, hs, (get_f s o ?_).1 hg, hb⟩
        rcases hs with hs | hs
        · exact fun h => hfg s h hs
        · rw [hs]; exact htf
    · intro k hk h
      refine hfar k hk fun s o hs hg => ?_
      refine h s o hs ((get_f s o ?_).1 hg)
      rcases hs with hs | hs
      · exact fun h => hfg s h hs
      · rw [hs]; exact htf
    · intro hu
      obtain ⟨hc, o, hg, hl⟩ := hlike hu
      exact .inr ⟨by simp [E', hc, Env.freeze], o, o', (get_f tid o htf).1 hg, by simp [E'], hl⟩
  have mv := upd.mv
  refine ⟨E', rfl, ⟨upd.mr hm fun o ho => ?_, (freeze_mv E f).trans mv, fun id => ?_, fun id h => h, rfl, rfl, rfl⟩, by simp [E'], .inr rfl⟩
  · have : o' = o := by simpa [E'] using ho
    subst this
    have : E'.θ tid = c := by simp [E']
    rw [this]
    exact hrep E' rfl rfl rfl rfl mv
  · rw [applyG_upd _ _ _ _ ht]

/-! ### what an operation gives -/
def nextV : Next → Option Value
  | .value v => some v
  | .skip => some (.tuple #[])
  | _ => none

/-- The operation runs, and this is what it comes to. -/
def Runs (P : Program) (E : Env) (tm : Nat → Value) (a : Act) (o : Oper) (r : Res) (nid : Nat) : Prop :=
  ∃ E' nx v, (execOp a.eval o).run P E.w = .ok nx E'.w ∧ nextV nx = some v ∧ VRep E' tm r.val v ∧ Stp E E' r.eff nid

theorem Runs.same {P : Program} {E : Env} (m : MR E) {tm : Nat → Value} {a : Act} {o : Oper} {nid : Nat} {x : AV} {v : Value} (cs : List Bool)
    (hr : (execOp a.eval o).run P E.w = .ok (.value v) E.w) (hv : VRep E tm x v) : Runs P E tm a o ⟨cs, x, []⟩ nid :=
  ⟨E, _, v, hr, rfl, hv, .refl m nid⟩

end Go.Proofs.YtjmnjimlkljhjaaV

/- The operations, one by one: reading and writing. -/
set_option linter.unusedVariables false
namespace Go.Proofs.YtjmnjimlkljhjaaV
open Go

section
variable {P : Program} {E : Env} {tm : Nat → Value}

theorem VRep.isv {x v : Value} (h : VRep E tm (.v x) v) : v = x := by cases (show CRep E (.v x) v from h); rfl
theorem VRep.iskb {b : Bool} {v : Value} (h : VRep E tm (.kb b) v) : v = .bool b := by cases (show CRep E (.kb b) v from h); rfl
theorem VRep.isagg {l : List AV} {v : Value} (h : VRep E tm (.agg l) v) : ∃ us, v = .agg us.toArray ∧ Cells E l us := h
theorem VRep.istup {l : List AV} {v : Value} (h : VRep E tm (.tup l) v) : ∃ vs, v = .tuple vs.toArray ∧ VReps E l vs := h
theorem VRep.mkv (x : Value) : VRep E tm (.v x) x := CRep.v x

theorem VRep.cells {x : AV} {v : Value} (h : VRep E tm x v) (ho : (cells x).all oneC = true) : Cells E (Go.Proofs.YtjmnjimlkljhjaaV.cells x) v.cells.toList := by
  cases x with
  | tup l => simp [Go.Proofs.YtjmnjimlkljhjaaV.cells, oneC] at ho
  | opt a b c => simp [Go.Proofs.YtjmnjimlkljhjaaV.cells, oneC] at ho
  | dead => simp [Go.Proofs.YtjmnjimlkljhjaaV.cells, oneC] at ho
  | v x => exact VRep1.cells (x := .v x) h ho
  | kb x => exact VRep1.cells (x := .kb x) h ho
  | agg x => exact VRep1.cells (x := .agg x) h ho
  | sl a b c d => exact VRep1.cells (x := .sl a b c d) h ho
  | ref x => exact VRep1.cells (x := .ref x) h ho
  | ptr x y => exact VRep1.cells (x := .ptr x y) h ho
  | eptr x y z => exact VRep1.cells (x := .eptr x y z) h ho
  | cptr x => exact VRep1.cells (x := .cptr x) h ho
  | mp x => exact VRep1.cells (x := .mp x) h ho
  | fn x y => exact VRep1.cells (x := .fn x y) h ho
  | arr x y z => exact VRep1.cells (x := .arr x y z) h ho
  | aptr x y z u => exact VRep1.cells (x := .aptr x y z u) h ho
  | rptr x y => exact VRep1.cells (x := .rptr x y) h ho

theorem isAgg_run {T : Nat} (h : (P.underlying T).isNone = false) (w : World) : (isAgg T).run P w = .ok (isAggT P T) w := by
  cases hd : P.underlying T with
  | none => rw [hd] at h; cases h
  | some d => cases d <;> simp [isAgg, run_underlying hd, isAggT, hd]

theorem sizeOf_run {T n : Nat} (h : szT P T = some n) (w : World) : (Go.sizeOf T).run P w = .ok n w := by
  unfold szT at h
  cases hd : P.info? T with
  | none => rw [hd] at h; cases h
  | some i => rw [hd] at h; simp at h; subst h; simp [Go.sizeOf, typeInfo, hd]

theorem takeT_load {T : Nat} {l : List AV} {x : AV} (h : takeT P T l = some x) {us : List Value} (hc : Cells E l us) {ad : Addr} (hr : ∀ i u, us[i]? = some u → E.w.cell? (ad.add i) = some u) :
    ∃ v, (loadVar T ad).run P E.w = .ok v E.w ∧ VRep E tm x v := by
  unfold takeT at h
  split at h
  case isTrue => cases h
  case isFalse hn =>
    have ha := isAgg_run (P := P) (T := T) (by cases hu : P.underlying T <;> simp_all) E.w
    split at h
    case isTrue hg =>
      split at h
      case h_2 => cases h
      case h_1 n hs =>
        simp only [Option.map_eq_some_iff] at h
        obtain ⟨l2, ht, rfl⟩ := h
        obtain ⟨hl, hc2⟩ := hc.take ht
        have := run_loadCells_list (P := P) E.w ad (us.take n) (fun j v hj => hr j v (by rw [List.getElem?_take] at hj; split at hj <;> first | exact hj | cases hj))
        rw [List.length_take, Nat.min_eq_left hl] at this
        exact ⟨.agg (us.take n).toArray, by simp [loadVar, ha, hg, sizeOf_run hs, this], us.take n, rfl, hc2⟩
    case isFalse hg =>
      split at h
      case h_1 => cases h
      case h_3 => cases h
      case h_2 x' l' hna =>
        cases h
        cases hc with
        | arr t n xs us l rest hT hc => exact absurd rfl (hna t n xs)
        | cons _ u _ us hx hc =>
          have h0 := hr 0 u rfl
          have : ad.add 0 = ad := by simp [Addr.add]
          rw [this] at h0
          refine ⟨u, by simp [loadVar, ha, hg, h0], ?_⟩
          cases hx with
          | v x => exact .mkv _
          | kb b => exact CRep.kb b
          | sl fr t e xs v hT => exact CRep.sl _ _ _ _ _ hT
          | ref id v a b c => exact CRep.ref _ _ a b c
          | ptr id off v a b c => exact CRep.ptr _ _ _ a b c
          | eptr id i off v a b c => exact CRep.eptr _ _ _ _ a b c
          | aptr id off i k v a b c => exact CRep.aptr _ _ _ _ _ a b c
          | mp id v a b c d => exact CRep.mp _ _ a b c d
          | rptr id i v a b c => exact CRep.rptr _ _ _ a b c
          | cptr l us a b c => exact CRep.cptr _ _ _ b c
          | fn f l us c => exact CRep.fn _ _ _ c

theorem row_elem {E : Env} (m : MR E) {id B : Nat} {fr : Bool} {t : Ty} {xs : List (El t)} (hg : E.get id = some (.row B fr t xs)) {i : Nat} (hi : i < xs.length) {g n cap : Nat} (hv : (E.θ id).v = .slice (some ⟨g, 0, none⟩) n cap) :
    ∃ c, T E fr t (xs.getD i (dflt t)) c ∧ ∀ j u, c[j]? = some u → E.w.cell? ⟨g, i * sz t + j, none⟩ = some u := by
  obtain ⟨hin, inner, hown, hT⟩ := m.objs id _ hg
  refine ⟨_, by rw [List.getD_eq_getElem?_getD, List.getElem?_eq_getElem hi]; exact hT i hi, fun j u hu => ?_⟩
  have := hown.cells (g := g) (by rw [hv]; rfl) (i * sz t + j) u (by
    rw [List.getElem?_take] at hu
    split at hu
    · rwa [List.getElem?_drop] at hu
    · cases hu)
  have e : (⟨g, 0, none⟩ : Addr).add (i * sz t + j) = ⟨g, i * sz t + j, none⟩ := by unfold Addr.add; split <;> simp_all
  rwa [e] at this

theorem add_lit (g o n : Nat) : (⟨g, o, none⟩ : Addr).add n = ⟨g, o + n, none⟩ := by unfold Addr.add; split <;> simp_all

theorem box_cells {E : Env} (m : MR E) {id B : Nat} {l : List AV} (hg : E.get id = some (.box B l)) : ∃ b us, (E.θ id).v = .pointer (some ⟨b, 0, none⟩) ∧ E.w.heap[b]? = some (.cells us.toArray B (0, 0)) ∧ Cells E l us ∧ ∀ j u, us[j]? = some u → E.w.cell? ⟨b, j, none⟩ = some u := by
  obtain ⟨hin, b, us, hv, hh, hc⟩ := m.objs id _ hg
  exact ⟨b, us, hv, hh, hc, fun j u hu => by rw [cell_of_row _ _ _ _ _ _ hh]; simpa using hu⟩

theorem xLoad_ok (m : MR E) {a : Act} {o : Oper} {TY nid : Nat} {A : Operand} (ho : o.op = .load TY A) {x : AV} (hx : VRep E tm x (a.eval A)) {r : Res} (h : xLoad P E.get TY x = some r) (hc : ∀ b ∈ r.conds, b = true) :
    Runs P E tm a o r nid := by
  have run : ∀ {ad : Addr} {v : Value}, a.eval A = .pointer (some ad) → (loadVar TY ad).run P E.w = .ok v E.w → (execOp a.eval o).run P E.w = .ok (.value v) E.w := by
    intro ad v ha hl
    simp [execOp, ho, Instr.loadAt, Instr.sureAddr, ha, hl]
  unfold xLoad at h
  split at h
  · rename_i id off
    have hx' : CRep E (.ptr id off) (a.eval A) := hx
    split at h
    case h_2 => cases h
    case h_1 B l hg =>
      simp only [Option.map_eq_some_iff] at h
      obtain ⟨y, hy, rfl⟩ := h
      cases hd : dropW off l with
      | none => rw [hd] at hy; cases hy
      | some l1 =>
        rw [hd] at hy
        simp only [Option.bind_some] at hy
        obtain ⟨b, us, hv, hh, hcs, hcell⟩ := box_cells m hg
        obtain ⟨hl, hc1⟩ := hcs.drop hd
        generalize he : a.eval A = w0 at hx'
        cases hx' with
        | ptr _ _ _ hu h1 hr =>
          obtain ⟨b', hv', rfl⟩ := hr _ _ hg
          rw [hv] at hv'
          cases hv'
          obtain ⟨v, hl, hvr⟩ := takeT_load (tm := tm) hy hc1 (ad := ⟨b, off, none⟩) (fun i u hu => by rw [add_lit]; rw [List.getElem?_drop] at hu; exact hcell _ _ hu)
          exact .same m _ (run he hl) hvr
  · rename_i id i off
    have hx' : CRep E (.eptr id i off) (a.eval A) := hx
    split at h
    case h_2 => cases h
    case h_1 B fr t xs hg =>
      simp only [Option.map_eq_some_iff] at h
      obtain ⟨y, hy, rfl⟩ := h
      cases hd : dropW off (enc fr t (xs.getD i (dflt t))) with
      | none => rw [hd] at hy; cases hy
      | some l1 =>
        rw [hd] at hy
        simp only [Option.bind_some] at hy
        generalize he : a.eval A = w0 at hx'
        cases hx' with
        | eptr _ _ _ _ hu h1 hr =>
          obtain ⟨hi, g, n, cap, hv, rfl⟩ := hr _ _ _ _ hg
          obtain ⟨c, hT, hcell⟩ := row_elem m hg hi hv
          obtain ⟨hl, hc1⟩ := hT.cells.drop hd
          obtain ⟨v, hl, hvr⟩ := takeT_load (tm := tm) hy hc1 (ad := ⟨g, i * sz t + off, none⟩) (fun j u hu => by rw [add_lit, Nat.add_assoc]; rw [List.getElem?_drop] at hu; exact hcell _ _ hu)
          exact .same m _ (run he hl) hvr
  · rename_i l
    have hx' : CRep E (.cptr l) (a.eval A) := hx
    simp only [Option.map_eq_some_iff] at h
    obtain ⟨y, hy, rfl⟩ := h
    generalize he : a.eval A = w0 at hx'
    cases hx' with
    | cptr _ us ad hcs hr =>
      obtain ⟨v, hl, hvr⟩ := takeT_load (tm := tm) hy hcs (fun i u hu => (hr i u hu).2.2)
      exact .same m _ (run he hl) hvr
  · rename_i id off i k
    have hx' : CRep E (.aptr id off i k) (a.eval A) := hx
    split at h
    case h_2 => cases h
    case h_1 B l hg =>
      split at h
      case h_2 => cases h
      case h_1 t n xs rest hd =>
        simp only [Option.map_eq_some_iff] at h
        obtain ⟨y, hy, rfl⟩ := h
        cases hd2 : dropW k (enc false t (xs.getD i (dflt t))) with
        | none => rw [hd2] at hy; cases hy
        | some l1 =>
          rw [hd2] at hy
          simp only [Option.bind_some] at hy
          obtain ⟨b, us, hv, hh, hcs, hcell⟩ := box_cells m hg
          obtain ⟨hl, hc1⟩ := hcs.drop hd
          generalize he : a.eval A = w0 at hx'
          cases hx' with
          | aptr _ _ _ _ _ hu h1 hr =>
            obtain ⟨b', t', n', xs', r', hv', hd', hi, rfl⟩ := hr _ _ hg
            rw [hv] at hv'
            cases hv'
            rw [hd] at hd'
            cases hd'
            generalize hus : us.drop off = us' at hc1
            cases hc1 with
            | cons _ _ _ _ hx _ => exact hx.not_arr.elim
            | arr _ _ _ us1 _ rest' hT _ =>
              obtain ⟨fu, hT⟩ := hT
              cases fu with
              | zero => exact hT.elim
              | succ fu =>
                obtain ⟨e1, e2, e3⟩ := hT
                have hT' : T E false t (xs.getD i (dflt t)) ((us1.drop (i * sz t)).take (sz t)) := ⟨fu, by rw [List.getD_eq_getElem?_getD, List.getElem?_eq_getElem (by omega)]; exact e3 i (by omega)⟩
                obtain ⟨hl2, hc2⟩ := hT'.cells.drop hd2
                obtain ⟨v, hl, hvr⟩ := takeT_load (tm := tm) hy hc2 (ad := ⟨b, off + i * sz t + k, none⟩) (fun j u hu => by
                  rw [add_lit]
                  refine hcell _ _ ?_
                  rw [List.getElem?_drop, List.getElem?_take] at hu
                  split at hu
                  · rw [List.getElem?_drop] at hu
                    have hlt : i * sz t + (k + j) < us1.length := (List.getElem?_eq_some_iff.1 hu).1
                    have h5 : (us.drop off)[i * sz t + (k + j)]? = some u := by rw [hus, List.getElem?_append_left hlt]; exact hu
                    rw [List.getElem?_drop] at h5
                    rw [← h5]; congr 1; omega
                  · cases hu)
                exact .same m _ (run he hl) hvr
  · cases h

end

end Go.Proofs.YtjmnjimlkljhjaaV

/- Stores. -/
set_option linter.unusedVariables false
namespace Go.Proofs.YtjmnjimlkljhjaaV
open Go

/-! ### lists -/
section
variable {α : Type}
/-- vs written over L from p on. -/
def over (L : List α) (p : Nat) (vs : List α) : List α := L.take p ++ vs ++ L.drop (p + vs.length)

theorem over_len {L : List α} {p : Nat} {vs : List α} (h : p + vs.length ≤ L.length) : (over L p vs).length = L.length := by
  simp [over]; omega

theorem over_get {L : List α} {p : Nat} {vs : List α} (h : p + vs.length ≤ L.length) (k : Nat) :
    (over L p vs)[k]? = if k < p then L[k]? else if k < p + vs.length then vs[k - p]? else L[k]? := by
  unfold over
  rw [List.append_assoc]
  have hl : (L.take p).length = p := by rw [List.length_take]; omega
  by_cases h1 : k < p
  · rw [if_pos h1, List.getElem?_append_left (by omega), List.getElem?_take, if_pos h1]
  · rw [if_neg h1, List.getElem?_append_right (by omega), hl]
    by_cases h2 : k < p + vs.length
    · rw [if_pos h2, List.getElem?_append_left (by omega)]
    · rw [if_neg h2, List.getElem?_append_right (by omega), List.getElem?_drop]
      congr 1; omega

def seg (L : List α) (i s : Nat) : List α := (L.drop (i * s)).take s

theorem seg_get (L : List α) (i s k : Nat) : (seg L i s)[k]? = if k < s then L[i * s + k]? else none := by
  unfold seg
  rw [List.getElem?_take]
  split
  · rw [List.getElem?_drop]
  · rfl

theorem seg_len {L : List α} {i s : Nat} (h : i * s + s ≤ L.length) : (seg L i s).length = s := by
  unfold seg; rw [List.length_take, List.length_drop]; omega

theorem mul_lt_sep {i j s : Nat} (h : j < i) : j * s + s ≤ i * s := by
  rw [← Nat.succ_mul]; exact Nat.mul_le_mul_right _ h

theorem seg_over_other {L : List α} {i j s off : Nat} {vs : List α} (hne : j ≠ i) (h1 : off + vs.length ≤ s) (h2 : i * s + s ≤ L.length) : seg (over L (i * s + off) vs) j s = seg L j s := by
  refine List.ext_getElem? fun k => ?_
  rw [seg_get, seg_get]
  by_cases hk : k < s
  · rw [if_pos hk, if_pos hk, over_get (by omega)]
    rcases Nat.lt_or_gt_of_ne hne with h | h
    · have := mul_lt_sep (s := s) h
      rw [if_pos (by omega)]
    · have := mul_lt_sep (s := s) h
      rw [if_neg (by omega), if_neg (by omega)]
  · rw [if_neg hk, if_neg hk]

theorem seg_over_same {L : List α} {i s off : Nat} {vs : List α} (h1 : off + vs.length ≤ s) (h2 : i * s + s ≤ L.length) : seg (over L (i * s + off) vs) i s = over (seg L i s) off vs := by
  refine List.ext_getElem? fun k => ?_
  rw [over_get (by rw [seg_len h2]; exact h1), seg_get, seg_get]
  by_cases hk : k < s
  · rw [if_pos hk, if_pos hk, over_get (by omega)]
    by_cases a : k < off
    · rw [if_pos a, if_pos (by omega)]
    · rw [if_neg a, if_neg (by omega)]
      by_cases b : k < off + vs.length
      · rw [if_pos b, if_pos (by omega)]; congr 1; omega
      · rw [if_neg b, if_neg (by omega)]
  · rw [if_neg hk, if_neg hk, if_neg (by omega), if_neg (by omega)]

theorem over_over {L : List α} {p q : Nat} {M vs : List α} (hM : M = (L.drop p).take M.length) (h1 : q + vs.length ≤ M.length) (h2 : p + M.length ≤ L.length) :
    over L p (over M q vs) = over L (p + q) vs := by
  have hl : (over M q vs).length = M.length := over_len h1
  refine List.ext_getElem? fun k => ?_
  rw [over_get (L := L) (p := p + q) (vs := vs) (by omega), over_get (L := L) (p := p) (vs := over M q vs) (by omega), hl]
  by_cases a : k < p
  · rw [if_pos a, if_pos (by omega)]
  · rw [if_neg a]
    by_cases b : k < p + M.length
    · rw [if_pos b, over_get (L := M) (p := q) (vs := vs) h1]
      have e : ∀ i, i < M.length → M[i]? = L[p + i]? := by
        intro i hi
        rw [hM, List.getElem?_take, if_pos hi, List.getElem?_drop]
      by_cases c : k < p + q
      · rw [if_pos (by omega), if_pos c, e _ (by omega)]; congr 1; omega
      · rw [if_neg (by omega), if_neg c]
        by_cases d : k < p + q + vs.length
        · rw [if_pos (by omega), if_pos d]; congr 1; omega
        · rw [if_neg (by omega), if_neg d, e _ (by omega)]; congr 1; omega
    · rw [if_neg b, if_neg (by omega), if_neg (by omega)]
end

section
variable {P : Program} {E : Env} {tm : Nat → Value}

theorem heap_setRow_other (w : World) (g k : Nat) (cs : Array Value) (h : k ≠ g) : (w.setRow g cs).heap[k]? = w.heap[k]? := by
  simp only [World.setRow, Array.getElem?_modify]
  rw [if_neg (by omega)]

/-- A store into a block that is one row of cells. -/
theorem store_run {TY : Nat} {v : Value} {g o B : Nat} {cur : Array Value} (hs : szT P TY = some v.cells.toList.length) (h1 : ∀ u ∈ v.cells.toList, u.oneCell' = true)
    (hh : E.w.heap[g]? = some (.cells cur B (0, 0))) (hl : o + v.cells.toList.length ≤ cur.toList.length) :
    (storeVar TY ⟨g, o, none⟩ v).run P E.w = .ok () (E.w.setRow g (over cur.toList o v.cells.toList).toArray) := by
  have := run_storeCells_at P g o B v.cells.toList 0 cur E.w hh (by simpa using hl) h1
  simp only [Nat.add_zero] at this
  have hsz : v.cells.size = v.cells.toList.length := by simp
  simp [storeVar, sizeOf_run hs, this, over]

/-- The world behind it, as a step. -/
theorem store_stp (m : MR E) {id g B : Nat} {o0 o' : AO} {f : List Nat} {cur cs' : Array Value} (hg : E.get id = some o0) (hb : g ∈ (E.θ id).blks) (hin : (E.θ id).inn = []) (hh : E.w.heap[g]? = some (.cells cur B (0, 0)))
    (hf : id ∉ f) (hlike : like o0 o') (hrep : ∀ E' : Env, E'.w = E.w.setRow g cs' → E'.w0 = E.w0 → E'.O0 = E.O0 → E'.G = E.G → Mv (E.freeze f) E' → ObjRep E' (E.θ id) o') :
    ∃ E', E'.w = E.w.setRow g cs' ∧ Stp E E' ((id, some o') :: frees f) id ∧ E'.θ id = E.θ id := by
  obtain ⟨E', h1, h2, h3, _⟩ := stp_upd m id o' f [] (by simpa using hf) (by simp) (E.θ id) (E.w.setRow g cs') rfl rfl rfl (by simp)
    (fun k hk => .inr ⟨id, o0, .inr rfl, hg, hk⟩)
    (fun k hk h => heap_setRow_other _ _ _ _ (fun e => h id o0 (.inr rfl) hg (e ▸ hb)))
    (fun _ => ⟨rfl, o0, hg, hlike⟩) hrep
  rw [List.append_nil] at h2
  exact ⟨E', h1, h2, h3⟩

theorem freeze_nil (E : Env) : E.freeze [] = E := by
  simp [Env.freeze]

theorem Stp.used {E E' : Env} {eff : List (Nat × Option AO)} {i nid : Nat} (h : Stp E E' eff i) (hu : E.U i) : Stp E E' eff nid :=
  ⟨h.mr, h.mv, h.get, fun id h1 => (h.U id h1).elim .inl (fun e => .inl (e ▸ hu)), h.w0, h.O0, h.G⟩

theorem T.arr_mk {n : Nat} {t : Ty} {xs : List (El t)} {cs : List Value} {fr : Bool} (h1 : xs.length = n) (h2 : cs.length = n * sz t) (h3 : ∀ j (h : j < xs.length), T E fr t xs[j] (seg cs j (sz t))) : T E fr (.arr n t) xs cs := by
  obtain ⟨m, hm⟩ := choose_bound xs (fun n j hj => TRep E.w (E.ok fr) n t xs[j] (seg cs j (sz t))) (fun n m j hj hnm h => TRep.mono n m hnm _ _ _ h) h3
  exact ⟨m + 1, h1, h2, hm⟩

theorem T.arr_el {n : Nat} {t : Ty} {xs : List (El t)} {cs : List Value} {fr : Bool} (h : T E fr (.arr n t) xs cs) : xs.length = n ∧ cs.length = n * sz t ∧ ∀ j (h : j < xs.length), T E fr t xs[j] (seg cs j (sz t)) := by
  obtain ⟨m, h⟩ := h
  cases m with
  | zero => exact h.elim
  | succ m => exact ⟨h.1, h.2.1, fun j hj => ⟨m, h.2.2 j hj⟩⟩

theorem xStore_ok (m : MR E) {a : Act} {o : Oper} {TY nid : Nat} {A X : Operand} (ho : o.op = .store TY A X) {ad x : AV} (had : VRep E tm ad (a.eval A)) (hx : VRep E tm x (a.eval X)) {r : Res}
    (h : xStore P E.get TY ad x = some r) : Runs P E tm a o r nid := by
  have run : ∀ {p : Addr} {w' : World}, a.eval A = .pointer (some p) → (storeVar TY p (a.eval X)).run P E.w = .ok () w' → (execOp a.eval o).run P E.w = .ok .skip w' := by
    intro p w' ha hl
    simp [execOp, ho, Instr.storeAt, Instr.sureAddr, ha, hl]
  unfold xStore at h
  split at h
  case isFalse => cases h
  case isTrue hc =>
    obtain ⟨hs, hone⟩ := hc
    have hcx := hx.cells hone
    rw [hcx.len] at hs
    have h1 := hcx.one hone
    split at h
    · rename_i id off
      split at h
      case h_2 => cases h
      case h_1 B l hg =>
        split at h
        case h_2 => cases h
        case h_1 l' hsp =>
          split at h
          case isFalse => cases h
          case isTrue hshape =>
            cases h
            obtain ⟨b, us, hv, hh, hcs, hcell⟩ := box_cells m hg
            obtain ⟨hle, hc'⟩ := hcs.splice hcx hsp
            have hp : CRep E (.ptr id off) (a.eval A) := had
            generalize he : a.eval A = p0 at hp
            cases hp with
            | ptr _ _ _ hu h1' hr =>
              obtain ⟨b', hv', rfl⟩ := hr _ _ hg
              rw [hv] at hv'
              cases hv'
              obtain ⟨hin, _⟩ := m.objs id _ hg
              obtain ⟨E', hw, hst, hθ⟩ := store_stp (cs' := (over us off (a.eval X).cells.toList).toArray) (f := []) m hg (by simp [Conc.blks, hv, blkOf]) hin hh (by simp) (show like (.box B l) (.box B l') from ⟨rfl, hshape⟩)
                (fun E' hw h0 hO hG mv => ⟨hin, b, over us off (a.eval X).cells.toList, hv, by rw [hw]; exact setRow_heap _ _ _ _ _ _ hh, hc'.move ((freeze_mv E []).trans mv)⟩)
              exact ⟨E', .skip, _, by rw [hw]; exact run he (by rw [store_run hs h1 hh (by simpa using hle)]), rfl, trivial, hst.used hu⟩
    · rename_i id i off
      split at h
      case h_2 => cases h
      case h_1 B fr t xs hg =>
        split at h
        case h_2 => cases h
        case h_1 c hsp =>
          split at h
          case h_2 => cases h
          case h_1 y f hdec =>
            split at h
            case isTrue => cases h
            case isFalse hnf =>
              cases h
              have hp : CRep E (.eptr id i off) (a.eval A) := had
              generalize he : a.eval A = p0 at hp
              cases hp with
              | eptr _ _ _ _ hu h1' hr =>
                obtain ⟨hi, g, n, cap, hv, rfl⟩ := hr _ _ _ _ hg
                obtain ⟨hin, inner, hown, hT⟩ := m.objs id _ hg
                have hown' := hown
                rw [hv] at hown
                obtain ⟨hlen, hown2⟩ := hown
                rcases hown2 with ⟨hnil, _⟩ | ⟨g', cap', cur, hvv, _, hh, hle, hcap, hsz, htk⟩
                · cases hnil
                · cases hvv
                  have hTi := hT i hi
                  have hseg : (inner.drop (i * sz t)).take (sz t) = seg inner i (sz t) := rfl
                  rw [hseg] at hTi
                  have hbound : i * sz t + sz t ≤ inner.length := by rw [hlen]; exact mul_lt_sep hi
                  have hTd : T E fr t (xs.getD i (dflt t)) (seg inner i (sz t)) := by rw [List.getD_eq_getElem?_getD, List.getElem?_eq_getElem hi]; exact hTi
                  obtain ⟨hle2, hc2⟩ := hTd.cells.splice hcx hsp
                  rw [seg_len hbound] at hle2
                  obtain ⟨cs, us', he2, hTy, hr'⟩ := decC_ok m hdec hc2 (f' := f) (fun _ h => h)
                  cases hr'
                  rw [List.append_nil] at he2
                  have hcur : i * sz t + off + (a.eval X).cells.toList.length ≤ cur.toList.length := by
                    have : xs.length * sz t ≤ cap * sz t := Nat.mul_le_mul_right _ hle
                    simp only [Array.length_toList] at *
                    rw [hsz]; omega
                  have hinner : (over cur.toList (i * sz t + off) (a.eval X).cells.toList).take (xs.length * sz t) = over inner (i * sz t + off) (a.eval X).cells.toList := by
                    refine List.ext_getElem? fun k => ?_
                    rw [List.getElem?_take, over_get hcur, over_get (by omega)]
                    have e : ∀ k, k < xs.length * sz t → inner[k]? = cur.toList[k]? := by
                      intro k hk
                      rw [← htk, List.getElem?_take, if_pos hk]
                    by_cases hk : k < xs.length * sz t
                    · rw [if_pos hk, e k hk]
                    · rw [if_neg hk, if_neg (by omega), if_neg (by omega)]
                      symm
                      rw [List.getElem?_eq_none_iff, hlen]; omega
                  obtain ⟨E', hw, hst, hθ⟩ := store_stp (cs' := (over cur.toList (i * sz t + off) (a.eval X).cells.toList).toArray) (f := f) (o' := .row B fr t (xs.set i y)) m hg (by simp [Conc.blks, hv, blkOf]) hin hh (by simpa using hnf)
                    (show like (.row B fr t xs) (.row B fr t (xs.set i y)) from ⟨rfl, rfl, by simp⟩)
                    (fun E' hw h0 hO hG mv => by
                      refine ⟨hin, over inner (i * sz t + off) (a.eval X).cells.toList, ⟨by rw [over_len (by omega), hlen, List.length_set], .inr ⟨g, cap, (over cur.toList (i * sz t + off) (a.eval X).cells.toList).toArray, by rw [hv, List.length_set], Nat.zero_le _, by rw [hw]; exact setRow_heap _ _ _ _ _ _ hh, by rw [List.length_set]; exact hle, hcap, by simp [over_len hcur, hsz], by rw [List.length_set]; exact hinner⟩⟩, fun j hj => ?_⟩
                      rw [List.length_set] at hj
                      show T E' fr t (xs.set i y)[j] (seg (over inner (i * sz t + off) (a.eval X).cells.toList) j (sz t))
                      by_cases e : j = i
                      · subst e
                        rw [seg_over_same (by omega) hbound, List.getElem_set_self]
                        have : over (seg inner j (sz t)) off (a.eval X).cells.toList = cs := he2
                        rw [this]
                        exact hTy.move mv
                      · rw [seg_over_other e (by omega) hbound, List.getElem_set_ne (fun h => e h.symm)]
                        exact (hT j hj).move ((freeze_mv E f).trans mv))
                  exact ⟨E', .skip, _, by rw [hw]; exact run he (by rw [store_run hs h1 hh (by simpa using hcur)]), rfl, trivial, hst.used hu⟩
    · rename_i id off i k
      split at h
      case h_2 => cases h
      case h_1 B l hg =>
        split at h
        case h_2 => cases h
        case h_1 t n xs rest hd =>
          split at h
          case h_2 => cases h
          case h_1 c hsp =>
            split at h
            case h_2 => cases h
            case h_1 y hdec =>
              split at h
              case h_2 => cases h
              case h_1 l' hsp' =>
                split at h
                case isFalse => cases h
                case isTrue hshape =>
                  cases h
                  obtain ⟨b, us, hv, hh, hcs, hcell⟩ := box_cells m hg
                  have hp : CRep E (.aptr id off i k) (a.eval A) := had
                  generalize he : a.eval A = p0 at hp
                  cases hp with
                  | aptr _ _ _ _ _ hu h1' hr =>
                    obtain ⟨b', t', n', xs', r', hv', hd', hi, rfl⟩ := hr _ _ hg
                    rw [hv] at hv'
                    cases hv'
                    rw [hd] at hd'
                    cases hd'
                    obtain ⟨hin, _⟩ := m.objs id _ hg
                    obtain ⟨hoff, hc1⟩ := hcs.drop hd
                    generalize hus : us.drop off = us' at hc1
                    cases hc1 with
                    | cons _ _ _ _ hx _ => exact hx.not_arr.elim
                    | arr _ _ _ us1 _ rest' hT _ =>
                      obtain ⟨e1, e2, e3⟩ := hT.arr_el
                      have hbound : i * sz t + sz t ≤ us1.length := by rw [e2]; exact mul_lt_sep hi
                      have hTi : T E false t (xs.getD i (dflt t)) (seg us1 i (sz t)) := by rw [List.getD_eq_getElem?_getD, List.getElem?_eq_getElem (by omega)]; exact e3 i (by omega)
                      obtain ⟨hle2, hc2⟩ := hTi.cells.splice hcx hsp
                      rw [seg_len hbound] at hle2
                      obtain ⟨cs, us2, he2, hTy, hr'⟩ := decC_ok m hdec hc2 (f' := []) (fun _ h => h)
                      cases hr'
                      rw [List.append_nil] at he2
                      rw [freeze_nil] at hTy
                      have hTn : T E false (.arr n t) (xs.set i y) (over us1 (i * sz t + k) (a.eval X).cells.toList) := by
                        refine T.arr_mk (by rw [List.length_set]; exact e1) (by rw [over_len (by omega), e2]) fun j hj => ?_
                        rw [List.length_set] at hj
                        by_cases e : j = i
                        · subst e
                          rw [seg_over_same (by omega) hbound, List.getElem_set_self]
                          have : over (seg us1 j (sz t)) k (a.eval X).cells.toList = cs := he2
                          rw [this]
                          exact hTy
                        · rw [seg_over_other e (by omega) hbound, List.getElem_set_ne (fun h => e h.symm)]
                          exact e3 j hj
                      have hcn : Cells E [.arr t n (xs.set i y)] (over us1 (i * sz t + k) (a.eval X).cells.toList) := by
                        have := Cells.arr t n (xs.set i y) _ [] [] hTn .nil
                        rwa [List.append_nil] at this
                      obtain ⟨hle, hc'⟩ := hcs.splice hcn hsp'
                      rw [over_len (by omega)] at hle
                      have hM : us1 = (us.drop off).take us1.length := by rw [hus, List.take_left]
                      have hov := over_over (L := us) (p := off) (q := i * sz t + k) (vs := (a.eval X).cells.toList) hM (by omega) hle
                      rw [← Nat.add_assoc] at hov
                      have hfit : off + i * sz t + k + (a.eval X).cells.toList.length ≤ us.length := by omega
                      obtain ⟨E', hw, hst, hθ⟩ := store_stp (cs' := (over us (off + i * sz t + k) (a.eval X).cells.toList).toArray) (f := []) m hg (by simp [Conc.blks, hv, blkOf]) hin hh (by simp) (show like (.box B l) (.box B l') from ⟨rfl, hshape⟩)
                        (fun E' hw h0 hO hG mv => ⟨hin, b, over us (off + i * sz t + k) (a.eval X).cells.toList, hv, by rw [hw]; exact setRow_heap _ _ _ _ _ _ hh, by rw [← hov]; exact hc'.move ((freeze_mv E []).trans mv)⟩)
                      exact ⟨E', .skip, _, by rw [hw]; exact run he (by rw [store_run hs h1 hh (by simpa using hfit)]), rfl, trivial, hst.used hu⟩
    · cases h

end

end Go.Proofs.YtjmnjimlkljhjaaV

/- The operations, one by one: those that leave memory as it is. -/
set_option linter.unusedVariables false
namespace Go.Proofs.YtjmnjimlkljhjaaV
open Go

section
variable {P : Program} {E : Env} {tm : Nat → Value}

theorem CRep.vrep {x : AV} {u : Value} (hx : CRep E x u) : VRep E tm x u := by
  cases hx with
  | v x => exact .mkv _
  | kb b => exact CRep.kb b
  | sl fr t e xs v hT => exact CRep.sl _ _ _ _ _ hT
  | ref id v a b c => exact CRep.ref _ _ a b c
  | ptr id off v a b c => exact CRep.ptr _ _ _ a b c
  | eptr id i off v a b c => exact CRep.eptr _ _ _ _ a b c
  | aptr id off i k v a b c => exact CRep.aptr _ _ _ _ _ a b c
  | mp id v a b c d => exact CRep.mp _ _ a b c d
  | rptr id i v a b c => exact CRep.rptr _ _ _ a b c
  | cptr l us a b c => exact CRep.cptr _ _ _ b c
  | fn f l us c => exact CRep.fn _ _ _ c

/-- What may stand in a cell is one cell. -/
theorem VRep.one {x : AV} {v : Value} (h : VRep E tm x v) (ho : oneC x = true) : CRep E x v := by
  cases x with
  | dead => cases ho
  | agg l => cases ho
  | tup l => cases ho
  | opt a b c => cases ho
  | v x => exact h
  | kb x => exact h
  | sl a b c d => exact h
  | ref x => exact h
  | ptr x y => exact h
  | eptr x y z => exact h
  | cptr x => exact h
  | mp x => exact h
  | fn x y => exact h
  | arr x y z => exact h
  | aptr x y z u => exact h
  | rptr x y => exact h

theorem VReps.get : ∀ {l : List AV} {vs : List Value}, VReps E l vs → ∀ {i : Nat} {y : AV}, l[i]? = some y → ∃ u, vs[i]? = some u ∧ VRep1 E y u := by
  intro l
  induction l with
  | nil => intro vs h i y hy; simp at hy
  | cons x l ih =>
    intro vs h i y hy
    cases h with
    | cons _ u _ us hx hr =>
      cases i with
      | zero => simp at hy; subst hy; exact ⟨u, rfl, hx⟩
      | succ i => simpa using ih hr (by simpa using hy)

theorem noOpt1 {x : AV} (h : match x with | .opt _ _ _ => False | .tup _ => False | _ => True) {v : Value} (hv : VRep1 E x v) : VRep E tm x v := by
  cases x with
  | opt a b c => exact h.elim
  | tup l => exact h.elim
  | dead => exact trivial
  | v x => exact hv
  | kb x => exact hv
  | agg l => exact hv
  | sl a b c d => exact hv
  | ref x => exact hv
  | ptr x y => exact hv
  | eptr x y z => exact hv
  | cptr x => exact hv
  | mp x => exact hv
  | fn x y => exact hv
  | arr x y z => exact hv
  | aptr x y z u => exact hv
  | rptr x y => exact hv

theorem VRep1.ok {x : AV} {v : Value} (hv : VRep1 E x v) : VRep E tm x v := by
  cases x with
  | opt a b c => cases (show CRep E (.opt a b c) v from hv)
  | tup l => cases (show CRep E (.tup l) v from hv)
  | dead => exact trivial
  | v x => exact hv
  | kb x => exact hv
  | agg l => exact hv
  | sl a b c d => exact hv
  | ref x => exact hv
  | ptr x y => exact hv
  | eptr x y z => exact hv
  | cptr x => exact hv
  | mp x => exact hv
  | fn x y => exact hv
  | arr x y z => exact hv
  | aptr x y z u => exact hv
  | rptr x y => exact hv

theorem xBin_ok (m : MR E) {a : Act} {o : Oper} {op : BinOp} {ty nid : Nat} {X Y : Operand} {xo : TypeId} (ho : o.op = .binOp op ty X Y xo) {x y : AV} (hx : VRep E tm x (a.eval X)) (hy : VRep E tm y (a.eval Y))
    {r : Res} (h : xBin op x y = some r) (hc : ∀ b ∈ r.conds, b = true) : Runs P E tm a o r nid := by
  have run : ∀ {v : Value}, (eqGuard op ty X Y (a.eval X) (a.eval Y)).run P E.w = .ok () E.w → (binOp op ty (a.eval X) (a.eval Y)).run P E.w = .ok v E.w → (execOp a.eval o).run P E.w = .ok (.value v) E.w := by
    intro v h1 h2
    simp [execOp, ho, h1, h2]
  unfold xBin at h
  split at h
  · rename_i k n k' n'
    have e1 := hx.isv
    have e2 := hy.isv
    rw [e1, e2] at run
    have g : (eqGuard op ty X Y (.int k n) (.int k' n')).run P E.w = .ok () E.w := by rw [eqGuard_at_int]; rfl
    split at h
    · cases h
      have h0 : ¬ n' < 0 := by have := of_decide_eq_true (hc _ (List.mem_singleton.2 rfl)); omega
      refine Runs.same m _ (run g ?_) (.mkv _)
      simp [binOp, Op.shift, h0]
    · cases h
      have h0 : ¬ n' < 0 := by have := of_decide_eq_true (hc _ (List.mem_singleton.2 rfl)); omega
      refine Runs.same m _ (run g ?_) (.mkv _)
      simp [binOp, Op.shift, h0]
    · split at h
      case isFalse => cases h
      case isTrue hk =>
        subst hk
        split at h
        all_goals first
          | (cases h; refine Runs.same m _ (run g ?_) (.mkv _); simp [binOp, Op.intArith, Op.intCmp]; done)
          | (cases h; have h0 : n' ≠ 0 := by { have := hc _ (List.mem_singleton.2 rfl); simpa using this }
             refine Runs.same m _ (run g ?_) (.mkv _); simp [binOp, Op.intDiv, h0]; done)
          | cases h
  · rename_i s t
    have e1 := hx.isv
    have e2 := hy.isv
    rw [e1, e2] at run
    have g : (eqGuard op ty X Y (.string s) (.string t)).run P E.w = .ok () E.w := by rw [eqGuard_at_string]; rfl
    split at h
    · cases h; refine Runs.same m _ (run g ?_) (.mkv _); simp [binOp, Op.stringOp, strEq]
    · cases h; refine Runs.same m _ (run g ?_) (.mkv _); simp [binOp, Op.stringOp, strEq]
    · cases h
      have := hc _ (List.mem_singleton.2 rfl)
      have hle := of_decide_eq_true this
      refine Runs.same m _ (run g ?_) (.mkv _)
      have : ¬ ((s.size + t.size : Nat) : Int) > IntKind.i64.max := by simp; omega
      simp only [binOp, Op.stringOp, if_neg this]
      rfl
    · cases h
  · cases h

theorem xUn_ok (m : MR E) {a : Act} {o : Oper} {op : UnOp} {ty nid : Nat} {X : Operand} (ho : o.op = .unOp op ty X) {x : AV} (hx : VRep E tm x (a.eval X))
    {r : Res} (h : xUn op x = some r) : Runs P E tm a o r nid := by
  unfold xUn at h
  split at h
  · cases h
    have e := hx.iskb
    exact .same m _ (v := .bool (!_)) (by simp [execOp, ho, e, Op.unary]) (CRep.kb _)
  · cases h
    have e := hx.isv
    exact .same m _ (by simp [execOp, ho, e, Op.unary]) (.mkv _)
  · cases h
    have e := hx.isv
    exact .same m _ (by simp [execOp, ho, e, Op.unary, Op.intArith]) (.mkv _)
  · cases h

theorem nilCheck_ok (m : MR E) {a : Act} {o : Oper} {nid : Nat} {X : Operand} (ho : o.op = .nilCheck X) {x : AV} (hx : VRep E tm x (a.eval X))
    {ad : Addr} (he : a.eval X = .pointer (some ad)) (cs : List Bool) : Runs P E tm a o ⟨cs, x, []⟩ nid :=
  .same m _ (v := .pointer (some ad)) (by simp [execOp, ho, he]) (by rw [← he]; exact hx)


theorem add_add (ad : Addr) (m n : Nat) : (ad.add m).add n = ad.add (m + n) := by
  unfold Addr.add
  by_cases hm : m = 0
  · subst hm; simp
  · by_cases hn : n = 0
    · subst hn; simp [hm]
    · have : m + n ≠ 0 := by omega
      simp [hm, hn, Nat.add_assoc]

theorem alive_ptr {x : AV} {v : Value} (hx : VRep E tm x v) (h : aliveP E.get x = true) : ∃ ad, v = .pointer (some ad) := by
  unfold aliveP at h
  split at h
  · rename_i id off
    have hx : CRep E (.ptr id off) v := hx
    split at h
    case h_2 => cases h
    case h_1 B l hg =>
      cases hx with
      | ptr _ _ _ hu h1 hr => obtain ⟨b, _, e⟩ := hr _ _ hg; exact ⟨_, e⟩
  · rename_i id i off
    have hx : CRep E (.eptr id i off) v := hx
    split at h
    case h_2 => cases h
    case h_1 B fr t l hg =>
      cases hx with
      | eptr _ _ _ _ hu h1 hr => obtain ⟨_, b, _, _, _, e⟩ := hr _ _ _ _ hg; exact ⟨_, e⟩
  · rename_i id o i k
    have hx : CRep E (.aptr id o i k) v := hx
    split at h
    case h_2 => cases h
    case h_1 B l hg =>
      cases hx with
      | aptr _ _ _ _ _ hu h1 hr => obtain ⟨b, _, _, _, _, _, _, _, e⟩ := hr _ _ hg; exact ⟨_, e⟩
  · rename_i l
    have hx : CRep E (.cptr l) v := hx
    cases hx with
    | cptr _ us ad hc hr => exact ⟨_, rfl⟩
  · cases h

theorem fieldOff_run {S f off F : Nat} (h : fieldOff P S f = some (off, F)) (w : World) : ∃ fs fl, P.underlying S = some (.struct fs) ∧ fs[f]? = some fl ∧ fl.offset = off ∧ fl.type = F := by
  unfold fieldOff at h
  split at h
  case h_2 => cases h
  case h_1 fs hu =>
    simp only [Option.map_eq_some_iff] at h
    obtain ⟨fl, hf, e⟩ := h
    cases e
    exact ⟨fs, fl, hu, hf, rfl, rfl⟩

theorem xFieldAddr_ok (m : MR E) {a : Act} {o : Oper} {S f nid : Nat} {X : Operand} (ho : o.op = .fieldAddr S X f) {x : AV} (hx : VRep E tm x (a.eval X)) (hal : aliveP E.get x = true)
    {r : Res} (h : xFieldAddr P S f x = some r) : Runs P E tm a o r nid := by
  unfold xFieldAddr at h
  split at h
  case h_2 => cases h
  case h_1 off F hfo =>
    split at h
    case h_2 => cases h
    case h_1 n hsz =>
      obtain ⟨fs, fl, hu, hf, rfl, rfl⟩ := fieldOff_run hfo E.w
      have run : ∀ {ad : Addr}, a.eval X = .pointer (some ad) → (execOp a.eval o).run P E.w = .ok (.value (.pointer (some (ad.add fl.offset)))) E.w := by
        intro ad ha
        simp [execOp, ho, Instr.fieldAt, run_underlying hu, hf, ha, Instr.sureAddr, fieldPlace, sizeOf_run hsz]
      obtain ⟨ad, had⟩ := alive_ptr hx hal
      unfold aliveP at hal
      split at h
      · rename_i id o'
        have hx : CRep E (.ptr id o') (a.eval X) := hx
        cases h
        refine Runs.same m _ (run had) ?_
        generalize he : a.eval X = w0 at hx
        cases hx with
        | ptr _ _ _ hu h1 hr =>
          refine CRep.ptr _ _ _ hu rfl fun T l hg => ?_
          obtain ⟨b, hv, e⟩ := hr _ _ hg
          rw [had] at he; rw [← he] at e; cases e
          exact ⟨b, hv, by rw [add_lit]⟩
      · rename_i id i o'
        have hx : CRep E (.eptr id i o') (a.eval X) := hx
        cases h
        refine Runs.same m _ (run had) ?_
        generalize he : a.eval X = w0 at hx
        cases hx with
        | eptr _ _ _ _ hu h1 hr =>
          refine CRep.eptr _ _ _ _ hu rfl fun T fr t xs hg => ?_
          obtain ⟨hi, b, n, c, hv, e⟩ := hr _ _ _ _ hg
          rw [had] at he; rw [← he] at e; cases e
          exact ⟨hi, b, n, c, hv, by rw [add_lit, Nat.add_assoc]⟩
      · rename_i l
        simp only [Option.map_eq_some_iff] at h
        obtain ⟨l', hd, e⟩ := h
        cases e
        have hx : CRep E (.cptr l) (a.eval X) := hx
        refine Runs.same m _ (run had) ?_
        rw [had] at hx
        cases hx with
        | cptr _ us _ hc hr =>
          obtain ⟨h1, h2⟩ := hc.drop hd
          refine CRep.cptr _ _ _ h2 fun i u hu' => ?_
          rw [List.getElem?_drop] at hu'
          obtain ⟨k1, k2, k3⟩ := hr _ _ hu'
          exact ⟨by rw [add_block]; exact k1, by rw [add_block]; exact k2, by rw [add_add]; exact k3⟩
      · rename_i id o' i k
        have hx : CRep E (.aptr id o' i k) (a.eval X) := hx
        cases h
        refine Runs.same m _ (run had) ?_
        generalize he : a.eval X = w0 at hx
        cases hx with
        | aptr _ _ _ _ _ hu h1 hr =>
          refine CRep.aptr _ _ _ _ _ hu rfl fun T l hg => ?_
          obtain ⟨b, t, n, xs, r, hv, hd, hi, e⟩ := hr _ _ hg
          rw [had] at he; rw [← he] at e; cases e
          exact ⟨b, t, n, xs, r, hv, hd, hi, by rw [add_lit, Nat.add_assoc]⟩
      · cases h

theorem takeT_part {T : Nat} {l : List AV} {x : AV} (h : takeT P T l = some x) {us : List Value} {off : Nat} (hc : Cells E l (us.drop off)) :
    ∃ v, (part T us.toArray off).run P E.w = .ok v E.w ∧ VRep E tm x v := by
  unfold takeT at h
  split at h
  case isTrue => cases h
  case isFalse hn =>
    have ha := isAgg_run (P := P) (T := T) (by cases hu : P.underlying T <;> simp_all) E.w
    split at h
    case isTrue hg =>
      split at h
      case h_2 => cases h
      case h_1 n hs =>
        simp only [Option.map_eq_some_iff] at h
        obtain ⟨l2, ht, rfl⟩ := h
        obtain ⟨hl, hc2⟩ := hc.take ht
        refine ⟨.agg (us.toArray.extract off (off + n)), by simp [part, ha, hg, sizeOf_run hs], (us.drop off).take n, ?_, hc2⟩
        congr 1
        apply Array.ext'
        simp [List.take_drop]
    case isFalse hg =>
      split at h
      case h_1 => cases h
      case h_3 => cases h
      case h_2 x' l' hna =>
        cases h
        generalize hus : us.drop off = us' at hc
        cases hc with
        | arr t n xs us l rest hT hc => exact absurd rfl (hna t n xs)
        | cons _ u _ us'' hx hc =>
          have h0 : us[off]? = some u := by
            have : (us.drop off)[0]? = some u := by rw [hus]; rfl
            rwa [List.getElem?_drop, Nat.add_zero] at this
          have h1 : us.toArray[off]? = some u := by simpa using h0
          exact ⟨u, by simp [part, ha, hg, h1], hx.vrep⟩

theorem field_ok (m : MR E) {a : Act} {o : Oper} {S f nid off F : Nat} {X : Operand} (ho : o.op = .field S X f) {l : List AV} (hx : VRep E tm (.agg l) (a.eval X)) (hfo : fieldOff P S f = some (off, F))
    {x : AV} (h : (dropW off l).bind (takeT P F) = some x) (cs : List Bool) : Runs P E tm a o ⟨cs, x, []⟩ nid := by
  obtain ⟨fs, fl, hu, hf, rfl, rfl⟩ := fieldOff_run hfo E.w
  obtain ⟨us, he, hc⟩ := hx.isagg
  cases hd : dropW fl.offset l with
  | none => rw [hd] at h; cases h
  | some l1 =>
    rw [hd] at h
    obtain ⟨h1, h2⟩ := hc.drop hd
    obtain ⟨v, hv, hr⟩ := takeT_part (tm := tm) h h2
    exact .same m _ (by simp [execOp, ho, he, Instr.field, run_underlying hu, hf, asAgg, hv]) hr

theorem index_ok (m : MR E) {a : Act} {o : Oper} {T nid : Nat} {X I : Operand} (ho : o.op = .index T X I) (hu : P.underlying T = some .string) {s : ByteArray} {k : IntKind} {n : Int}
    (hx : VRep E tm (.v (.string s)) (a.eval X)) (hi : VRep E tm (.v (.int k n)) (a.eval I)) (h0 : 0 ≤ n) (h1 : n < (s.size : Int)) (cs : List Bool) : Runs P E tm a o ⟨cs, .v (.int .u8 (bt s n)), []⟩ nid := by
  have e1 := hx.isv
  have e2 := hi.isv
  have hl : n.toNat < s.size := by omega
  refine .same m _ ?_ (.mkv _)
  simp [execOp, ho, e1, e2, Instr.index, asIntOf, run_underlying hu, h0, hl, bt]

theorem extract_ok (m : MR E) {a : Act} {o : Oper} {nid i : Nat} {X : Operand} (ho : o.op = .extract X i) {l : List AV} (hx : VRep E tm (.tup l) (a.eval X)) {y : AV} (h : l[i]? = some y) (cs : List Bool) : Runs P E tm a o ⟨cs, y, []⟩ nid := by
  obtain ⟨vs, he, hv⟩ := hx.istup
  obtain ⟨u, hu, hr⟩ := hv.get h
  exact .same m _ (by simp [execOp, ho, he, Instr.extract, hu]) hr.ok


theorem move_ok (m : MR E) {a : Act} {o : Oper} {nid : Nat} {X : Operand} (ho : o.op = .move X ∨ o.op = .assign X) {x : AV} (hx : VRep E tm x (a.eval X)) (cs : List Bool) : Runs P E tm a o ⟨cs, x, []⟩ nid :=
  .same m _ (v := a.eval X) (by rcases ho with ho | ho <;> simp [execOp, ho]) hx

theorem bOf_ok {x : AV} {b : Bool} (h : bOf x = some b) {v : Value} (hx : VRep E tm x v) : v = .bool b := by
  unfold bOf at h
  split at h
  · cases h; exact hx.isv
  · cases h; exact hx.iskb
  · cases h

theorem makeFunc_ok (m : MR E) {a : Act} {o : Oper} {nid f : Nat} {first caps : Array Operand} (ho : o.op = .makeFunc (.func f) first caps) (h0 : first.size = 0) {ev : Operand → AV} (hev : ∀ x, VRep E tm (ev x) (a.eval x))
    (h1 : (caps.toList.map ev).all oneC = true) (cs : List Bool) : Runs P E tm a o ⟨cs, .fn f (caps.toList.map ev), []⟩ nid := by
  refine .same m _ (v := .func (.func f) #[] (caps.map a.eval)) ?_ ?_
  · have : first = #[] := Array.eq_empty_of_size_eq_zero h0
    simp [execOp, ho, Instr.makeFunc, this]
  · have key : ∀ l : List Operand, (l.map ev).all oneC = true → Cells E (l.map ev) (l.map a.eval) := by
      intro l
      induction l with
      | nil => intro _; exact .nil
      | cons x l ih =>
        intro h
        simp only [List.map_cons, List.all_cons, Bool.and_eq_true] at h
        exact .cons _ _ _ _ ((hev x).one h.1) (ih h.2)
    have hc := key caps.toList h1
    have := CRep.fn f _ _ hc
    have e : (caps.toList.map a.eval).toArray = caps.map a.eval := by apply Array.ext'; simp
    rw [e] at this
    exact this

theorem xLen_ok (m : MR E) {a : Act} {o : Oper} {nid : Nat} {c : Call} {T : Nat} {ts : List Nat} {X : Operand} (ho : o.op = .call c) (hcl : c.callee = .builtin .len) (hargs : c.args.toList = [X]) (hty : c.argTypes.toList = T :: ts) {x : AV} (hx : VRep E tm x (a.eval X))
    {r : Res} (h : xLen P E.get T x = some r) : Runs P E tm a o r nid := by
  have ha : c.args = #[X] := by apply Array.ext'; simpa using hargs
  have ht : c.argTypes[0]? = some T := by rw [← Array.getElem?_toList, hty]; rfl
  have run : ∀ {v : Value}, (Builtin.len_ c.argTypes o.type #[a.eval X]).run P E.w = .ok v E.w → (execOp a.eval o).run P E.w = .ok (.value v) E.w := by
    intro v h
    simp [execOp, ho, resolve, hcl, invoke, builtin, ha, h]
  unfold xLen at h
  split at h
  · rename_i s hu
    cases h
    have e := hx.isv
    exact .same m _ (run (by simp [Builtin.len_, ht, run_underlying hu, e, goInt])) (.mkv _)
  · rename_i e0 hu
    cases h
    have e := hx.isv
    exact .same m _ (run (by simp [Builtin.len_, ht, run_underlying hu, e, goInt])) (.mkv _)
  · rename_i e0 fr t e' xs hu
    cases h
    have hx' : CRep E (.sl fr t e' xs) (a.eval X) := hx
    generalize he : a.eval X = w0 at hx'
    cases hx' with
    | sl _ _ _ _ _ hT =>
      obtain ⟨A, cap, e, _⟩ := hT.rd
      rw [e] at he
      exact .same m _ (run (by simp [Builtin.len_, ht, run_underlying hu, he, goInt])) (.mkv _)
  · rename_i e0 id hu
    split at h
    case h_2 => cases h
    case h_1 B fr t xs hg =>
      cases h
      have hx' : CRep E (.ref id) (a.eval X) := hx
      generalize he : a.eval X = w0 at hx'
      cases hx' with
      | ref _ _ hu' h1 hr =>
        rw [hr _ _ _ _ hg] at he
        obtain ⟨A, cap, e, _⟩ := row_rd m hg
        rw [e] at he
        exact .same m _ (run (by simp [Builtin.len_, ht, run_underlying hu, he, goInt])) (.mkv _)
  · rename_i k0 e0 id hu
    split at h
    case h_2 => cases h
    case h_1 B kt vt kvs hg =>
      cases h
      have hx' : CRep E (.mp id) (a.eval X) := hx
      generalize he : a.eval X = w0 at hx'
      cases hx' with
      | mp _ _ hu' h1 hr =>
        rw [hr _ _ _ _ hg] at he
        obtain ⟨hin, b, es, clock, hv, hh, hl, _⟩ := m.objs id _ hg
        rw [hv] at he
        refine .same m _ (run (v := .int .i64 (kvs.length : Int)) ?_) (.mkv _)
        have : es.size = kvs.length := by simpa using hl
        simp [Builtin.len_, ht, run_underlying hu, he, goInt, getObj, Sem.run, hh, this]
  · cases h

theorem min_ok (m : MR E) {a : Act} {o : Oper} {nid : Nat} {c : Call} {X Y : Operand} (ho : o.op = .call c) (hcl : c.callee = .builtin .min) (hargs : c.args.toList = [X, Y]) {k : IntKind} {x y : Int}
    (hx : VRep E tm (.v (.int k x)) (a.eval X)) (hy : VRep E tm (.v (.int k y)) (a.eval Y)) (cs : List Bool) : Runs P E tm a o ⟨cs, .v (.int k (imin x y)), []⟩ nid := by
  have ha : c.args = #[X, Y] := by apply Array.ext'; simpa using hargs
  have e1 := hx.isv
  have e2 := hy.isv
  have := run_min_int2 (P := P) E.w c.argTypes o.type k k x y
  exact .same m _ (by simp [execOp, ho, resolve, hcl, invoke, builtin, ha, e1, e2, this, imin]) (.mkv _)

theorem max_ok (m : MR E) {a : Act} {o : Oper} {nid : Nat} {c : Call} {X Y : Operand} (ho : o.op = .call c) (hcl : c.callee = .builtin .max) (hargs : c.args.toList = [X, Y]) {k : IntKind} {x y : Int}
    (hx : VRep E tm (.v (.int k x)) (a.eval X)) (hy : VRep E tm (.v (.int k y)) (a.eval Y)) (cs : List Bool) : Runs P E tm a o ⟨cs, .v (.int k (imax x y)), []⟩ nid := by
  have ha : c.args = #[X, Y] := by apply Array.ext'; simpa using hargs
  have e1 := hx.isv
  have e2 := hy.isv
  have := run_max_int2 (P := P) E.w c.argTypes o.type k k x y
  exact .same m _ (by simp [execOp, ho, resolve, hcl, invoke, builtin, ha, e1, e2, this, imax]) (.mkv _)

theorem pick_ok (m : MR E) {a : Act} {o : Oper} {nid tc : Nat} {X Y : Operand} (ho : o.op = .pick (.tmp tc) X Y) {b : Bool} (hc : a.eval (.tmp tc) = .bool b) {x : AV} (hx : VRep E tm x (if b then a.eval X else a.eval Y)) (cs : List Bool) :
    Runs P E tm a o ⟨cs, x, []⟩ nid :=
  .same m _ (v := if b then a.eval X else a.eval Y) (by simp [execOp, ho, hc, asBool]) hx

end

end Go.Proofs.YtjmnjimlkljhjaaV

/- The operations, one by one: places of elements, slices, strings out of bytes. -/
set_option linter.unusedVariables false
namespace Go.Proofs.YtjmnjimlkljhjaaV
open Go

section
variable {P : Program} {E : Env} {tm : Nat → Value}

theorem enc_cells {fr : Bool} {t : Ty} {x : El t} {c : List Value} (h : T E fr t x c) : Cells E (enc fr t x) c := h.cells

theorem xIndexAddr_ok (m : MR E) {a : Act} {o : Oper} {kt : KT} {TY nid : Nat} {X I : Operand} (ho : o.op = .indexAddr TY X I) {x i : AV} (hx : VRep E tm x (a.eval X)) (hi : VRep E tm i (a.eval I))
    {r : Res} (h : xIndexAddr P kt E.get TY x i = some r) (hc : ∀ b ∈ r.conds, b = true) : Runs P E tm a o r nid := by
  unfold xIndexAddr at h
  split at h
  · rename_i e k n hu
    have ei := hi.isv
    split at h
    case h_2 => cases h
    case h_1 t s hk hs =>
      split at h
      case isFalse => cases h
      case isTrue hst =>
        subst hst
        have run : ∀ {ad : Addr} {len cap : Nat}, a.eval X = .slice (some ad) len cap → 0 ≤ n → n < (len : Int) → (execOp a.eval o).run P E.w = .ok (.value (.pointer (some (ad.add (n.toNat * sz t))))) E.w := by
          intro ad len cap ha h0 h1
          simp [execOp, ho, Instr.indexAt, ei, ha, asIntOf, run_underlying hu, h0, h1, sizeOf_run hs]
        split at h
        · rename_i id
          split at h
          case h_2 => cases h
          case h_1 B fr t' xs hg =>
            split at h
            case isFalse => cases h
            case isTrue hq =>
              obtain ⟨rfl, rfl⟩ := hq
              cases h
              have h0 : 0 ≤ n := of_decide_eq_true (hc _ (by simp))
              have h1 : n < (xs.length : Int) := of_decide_eq_true (hc _ (by simp))
              have hx' : CRep E (.ref id) (a.eval X) := hx
              generalize he : a.eval X = w0 at hx'
              cases hx' with
              | ref _ _ hu' h1' hr =>
                rw [hr _ _ _ _ hg] at he
                obtain ⟨hin, inner, hown, hT⟩ := m.objs id _ hg
                rcases hown.2 with ⟨e1, e2⟩ | ⟨g, cap, cur, hv, _⟩
                · omega
                · rw [hv] at he
                  refine Runs.same m _ (run he h0 h1) ?_
                  refine CRep.eptr _ _ _ _ hu' rfl fun T fr2 t2 xs2 hg2 => ?_
                  rw [hg] at hg2; cases hg2
                  exact ⟨by omega, g, _, _, hv, by rw [add_lit]; simp⟩
        · rename_i fr t' e' xs
          split at h
          case isFalse => cases h
          case isTrue hq =>
            obtain ⟨rfl, rfl⟩ := hq
            cases h
            have h0 : 0 ≤ n := of_decide_eq_true (hc _ (by simp))
            have h1 : n < (xs.length : Int) := of_decide_eq_true (hc _ (by simp))
            have hx' : CRep E (.sl fr t' e' xs) (a.eval X) := hx
            generalize he : a.eval X = w0 at hx'
            cases hx' with
            | sl _ _ _ _ _ hT =>
              obtain ⟨A, cap, rfl, _, _, hel⟩ := hT.rd
              have hl : n.toNat < xs.length := by omega
              obtain ⟨ad, c, hA, hok, hlt, hT', hcell⟩ := hel n.toNat hl
              subst hA
              refine Runs.same m _ (run he h0 h1) ?_
              have : xs.getD n.toNat (dflt t') = xs[n.toNat] := by rw [List.getD_eq_getElem?_getD, List.getElem?_eq_getElem hl]; rfl
              rw [this]
              refine CRep.cptr _ _ _ hT'.cells fun i u hu' => ?_
              rw [add_block, add_add]
              exact ⟨Env.ok_false hok, hlt, hcell i u hu'⟩
        · cases h
  · rename_i len e k n hu
    have ei := hi.isv
    have run : ∀ {ad : Addr} {s : Nat}, szT P e = some s → a.eval X = .pointer (some ad) → 0 ≤ n → n < (len : Int) → (execOp a.eval o).run P E.w = .ok (.value (.pointer (some (ad.add (n.toNat * s))))) E.w := by
      intro ad s hs ha h0 h1
      simp [execOp, ho, Instr.indexAt, ei, ha, asIntOf, run_underlying hu, h0, h1, sizeOf_run hs, Instr.sureAddr]
    split at h
    case isTrue hbig =>
      split at h
      · rename_i id off
        split at h
        case h_2 => cases h
        case h_1 B l hg =>
          split at h
          case h_2 => cases h
          case h_1 t n' xs rest hd =>
            split at h
            case isFalse => cases h
            case isTrue hq =>
              obtain ⟨rfl, hs⟩ := hq
              cases h
              have h0 : 0 ≤ n := of_decide_eq_true (hc _ (by simp))
              have h1 : n < (n' : Int) := of_decide_eq_true (hc _ (by simp))
              have hx' : CRep E (.ptr id off) (a.eval X) := hx
              generalize he : a.eval X = w0 at hx'
              cases hx' with
              | ptr _ _ _ hu' h1' hr =>
                obtain ⟨b, hv, rfl⟩ := hr _ _ hg
                refine Runs.same m _ (run hs he h0 h1) ?_
                refine CRep.aptr _ _ _ _ _ hu' rfl fun T l2 hg2 => ?_
                rw [hg] at hg2; cases hg2
                exact ⟨b, t, n', xs, rest, hv, hd, by omega, by rw [add_lit]; simp⟩
      · rename_i t n' xs rest
        split at h
        case isFalse => cases h
        case isTrue hq =>
          obtain ⟨rfl, hs⟩ := hq
          cases h
          have h0 : 0 ≤ n := of_decide_eq_true (hc _ (by simp))
          have h1 : n < (n' : Int) := of_decide_eq_true (hc _ (by simp))
          have hx' : CRep E (.cptr (.arr t n' xs :: rest)) (a.eval X) := hx
          generalize he : a.eval X = w0 at hx'
          cases hx' with
          | cptr _ us ad hcs hr =>
            cases hcs with
            | cons _ _ _ _ hx _ => exact hx.not_arr.elim
            | arr _ _ _ us1 _ rest' hT _ =>
              obtain ⟨e1, e2, e3⟩ := hT.arr_el
              have hl : n.toNat < xs.length := by omega
              refine Runs.same m _ (run hs he h0 h1) ?_
              have : xs.getD n.toNat (dflt t) = xs[n.toNat] := by rw [List.getD_eq_getElem?_getD, List.getElem?_eq_getElem hl]; rfl
              rw [this]
              have hbound : n.toNat * sz t + sz t ≤ us1.length := by rw [e2]; exact mul_lt_sep (by omega)
              refine CRep.cptr _ _ _ (e3 _ hl).cells fun i u hu' => ?_
              rw [add_block, add_add]
              refine hr _ _ ?_
              unfold seg at hu'
              rw [List.getElem?_take] at hu'
              split at hu'
              case isFalse => cases hu'
              case isTrue hi' =>
                rw [List.getElem?_drop] at hu'
                rw [List.getElem?_append_left (by omega)]
                exact hu'
      · cases h
    case isFalse hbig =>
      split at h
      case isFalse => cases h
      case isTrue hal =>
        split at h
        case h_2 => cases h
        case h_1 _ _ n s hs =>
          split at h
          case isFalse => cases h
          case isTrue hlt =>
            have h0 : (0 : Int) ≤ Int.ofNat n := Int.natCast_nonneg n
            have h1 : Int.ofNat n < (len : Int) := by simp; omega
            obtain ⟨ad, had⟩ := alive_ptr hx hal
            have run := run hs had h0 h1
            simp only [Int.ofNat_eq_natCast, Int.toNat_natCast] at run
            split at h
            · rename_i id off
              cases h
              have hx' : CRep E (.ptr id off) (a.eval X) := hx
              refine Runs.same m _ run ?_
              rw [had] at hx'
              cases hx' with
              | ptr _ _ _ hu' h1' hr =>
                refine CRep.ptr _ _ _ hu' rfl fun T l hg => ?_
                obtain ⟨b, hv, e⟩ := hr _ _ hg
                cases e
                exact ⟨b, hv, by rw [add_lit]⟩
            · rename_i l
              simp only [Option.map_eq_some_iff] at h
              obtain ⟨l', hd, e⟩ := h
              cases e
              have hx' : CRep E (.cptr l) (a.eval X) := hx
              refine Runs.same m _ run ?_
              rw [had] at hx'
              cases hx' with
              | cptr _ us _ hc hr =>
                obtain ⟨h1, h2⟩ := hc.drop hd
                refine CRep.cptr _ _ _ h2 fun i u hu' => ?_
                rw [List.getElem?_drop] at hu'
                obtain ⟨k1, k2, k3⟩ := hr _ _ hu'
                exact ⟨by rw [add_block]; exact k1, by rw [add_block]; exact k2, by rw [add_add]; exact k3⟩
            · rename_i id i off
              cases h
              have hx' : CRep E (.eptr id i off) (a.eval X) := hx
              refine Runs.same m _ run ?_
              rw [had] at hx'
              cases hx' with
              | eptr _ _ _ _ hu' h1' hr =>
                refine CRep.eptr _ _ _ _ hu' rfl fun T fr t xs hg => ?_
                obtain ⟨hi, b, n, c, hv, e⟩ := hr _ _ _ _ hg
                cases e
                exact ⟨hi, b, n, c, hv, by rw [add_lit, Nat.add_assoc]⟩
            · cases h
  · cases h

/-! ### slices -/
theorem sliced_cells {A : Option Addr} {l h m s : Nat} : sliced A l h m s = .slice (if m = l then A else A.map (·.add (l * s))) (h - l) (m - l) := rfl

theorem slice_run {a : Act} {o : Oper} {TY e s : Nat} {X : Operand} {lo hi : Option Operand} (ho : o.op = .slice TY X lo hi none) (hu : P.underlying TY = some (.slice e)) (hs : szT P e = some s) {A : Option Addr} {n cap : Nat} (hx : a.eval X = .slice A n cap)
    {l h : Nat} (hlo : (lo = none ∧ l = 0) ∨ ∃ y k, lo = some y ∧ a.eval y = .int k (l : Int)) (hhi : (hi = none ∧ h = n) ∨ ∃ y k, hi = some y ∧ a.eval y = .int k (h : Int)) (h1 : l ≤ h) (h2 : h ≤ cap) (w : World) :
    (execOp a.eval o).run P w = .ok (.value (.slice (if cap = l then A else A.map (·.add (l * s))) (h - l) (cap - l))) w := by
  have hss := sizeOf_run hs w
  have hul := run_underlying hu w
  rcases hlo with ⟨rfl, rfl⟩ | ⟨y, k, rfl, hy⟩ <;> rcases hhi with ⟨rfl, rfl⟩ | ⟨y', k', rfl, hy'⟩ <;>
    simp_all [execOp, Instr.sliceAt, Instr.slice, Instr.sliceBounds, Instr.sliceBound, asIntOf]


theorem sl_take {fr : Bool} {t : Ty} {e : Nat} {xs : List (El t)} {A : Option Addr} {n cap h : Nat} (hT : T E fr (.slice e t) xs [.slice A n cap]) (hh : h ≤ xs.length) : n = xs.length ∧ xs.length ≤ cap ∧ T E fr (.slice e t) (xs.take h) [.slice A h cap] := by
  obtain ⟨A', cap', e', h1, h2, hel⟩ := hT.rd
  cases e'
  refine ⟨rfl, h1, T.of_rd ⟨A, cap, by rw [List.length_take, Nat.min_eq_left hh], by rw [List.length_take]; omega, h2, fun j hj => ?_⟩⟩
  rw [List.length_take] at hj
  obtain ⟨ad, c, a1, a2, a3, a4, a5⟩ := hel j (by omega)
  exact ⟨ad, c, a1, a2, a3, by rw [List.getElem_take]; exact a4, a5⟩

theorem sl_drop {fr : Bool} {t : Ty} {e : Nat} {xs : List (El t)} {A : Option Addr} {n cap l : Nat} (hT : T E fr (.slice e t) xs [.slice A n cap]) (hl : l ≤ xs.length) :
    T E fr (.slice e t) (xs.drop l) [.slice (if cap = l then A else A.map (·.add (l * sz t))) (xs.length - l) (cap - l)] := by
  obtain ⟨A', cap', e', h1, h2, hel⟩ := hT.rd
  cases e'
  refine T.of_rd ⟨_, cap - l, by rw [List.length_drop], by rw [List.length_drop]; omega, by omega, fun j hj => ?_⟩
  rw [List.length_drop] at hj
  obtain ⟨ad, c, a1, a2, a3, a4, a5⟩ := hel (l + j) (by omega)
  subst a1
  refine ⟨ad.add (l * sz t), c, by rw [if_neg (by omega)]; rfl, by rw [add_block]; exact a2, by rw [add_block]; exact a3, by rw [List.getElem_drop]; exact a4, fun i u hu => ?_⟩
  rw [add_add]
  have := a5 i u hu
  rwa [Nat.add_mul, Nat.add_assoc] at this

theorem stp_take (m : MR E) {id nid B : Nat} {fr : Bool} {t : Ty} {xs : List (El t)} (hg : E.get id = some (.row B fr t xs)) (hn : ¬ E.U nid) {A : Option Addr} {n cap h : Nat} (hv : (E.θ id).v = .slice A n cap) (hh : h ≤ xs.length) :
    ∃ E', E'.w = E.w ∧ Stp E E' [(nid, some (.row B fr t (xs.take h))), (id, none)] nid ∧ (E'.θ nid).v = .slice A h cap ∧ E'.U nid := by
  have hu := m.used id _ hg
  have hne : nid ≠ id := fun e => hn (e ▸ hu)
  obtain ⟨hin, inner, hown, hT⟩ := m.objs id _ hg
  have hb : ∀ k, k ∈ (Conc.mk (.slice A h cap) []).blks → k ∈ (E.θ id).blks := by
    intro k hk
    simp only [Conc.blks, hv] at *
    cases A <;> simp_all [blkOf]
  obtain ⟨E', h1, h2, h3, h4⟩ := stp_upd m nid (.row B fr t (xs.take h)) [] [id] (by simpa using hne) (by simp) ⟨.slice A h cap, []⟩ E.w rfl rfl rfl (Nat.le_refl _)
    (fun k hk => .inr ⟨id, _, .inl (by simp), hg, hb k hk⟩) (fun _ _ _ => rfl) (fun hu => absurd hu hn)
    (fun E' hw h0 hO hG mv => by
      refine ⟨rfl, inner.take (h * sz t), ⟨?_, ?_⟩, fun j hj => ?_⟩
      · have : h * sz t ≤ xs.length * sz t := Nat.mul_le_mul_right _ hh
        rw [List.length_take, List.length_take, hown.1]
        rw [Nat.min_eq_left hh, Nat.min_eq_left this]
      · rw [hw]
        rcases hown.2 with ⟨e1, e2⟩ | ⟨g, cap', cur, e1, e2, e3, e4, e5, e6, e7⟩
        · rw [hv] at e1
          cases e1
          refine .inl ⟨?_, by rw [List.length_take]; omega⟩
          have : h = 0 := by omega
          rw [this]
        · rw [hv] at e1
          cases e1
          refine .inr ⟨g, cap, cur, by rw [List.length_take, Nat.min_eq_left hh], e2, e3, by rw [List.length_take]; omega, e5, e6, ?_⟩
          rw [List.length_take, Nat.min_eq_left hh, ← e7, List.take_take, Nat.min_eq_left (Nat.mul_le_mul_right _ hh)]
      · rw [List.length_take] at hj
        have := hT j (by omega)
        have hx := this.move ((freeze_mv E []).trans mv)
        rw [List.getElem_take]
        have e : (List.drop (j * sz t) (List.take (h * sz t) inner)).take (sz t) = (inner.drop (j * sz t)).take (sz t) := by
          rw [List.drop_take, List.take_take]
          congr 1
          have : (j + 1) * sz t ≤ h * sz t := Nat.mul_le_mul_right _ (by omega)
          rw [Nat.add_mul] at this
          omega
        rw [e]
        exact hx)
  exact ⟨E', h1, h2, by rw [h3], h4⟩

theorem xSlice_ok (m : MR E) {a : Act} {o : Oper} {TY nid : Nat} {X : Operand} {lo hi : Option Operand} (ho : o.op = .slice TY X lo hi none) {x : AV} (hx : VRep E tm x (a.eval X)) (hn : ¬ E.U nid)
    {ev : Operand → AV} (hev : ∀ x, VRep E tm (ev x) (a.eval x)) {r : Res} (h : xSlice P E.get nid TY x (lo.map ev) (hi.map ev) = some r) (hc : ∀ b ∈ r.conds, b = true) : Runs P E tm a o r nid := by
  have bd : ∀ {q : Option Operand} {k : IntKind} {n : Int}, q.map ev = some (.v (.int k n)) → 0 ≤ n → ∃ y k, q = some y ∧ a.eval y = .int k (n.toNat : Int) := by
    intro q k n h h0
    simp only [Option.map_eq_some_iff] at h
    obtain ⟨y, rfl, e⟩ := h
    have := hev y
    rw [e] at this
    exact ⟨y, k, rfl, by rw [this.isv, Int.toNat_of_nonneg h0]⟩
  have no : ∀ {q : Option Operand}, q.map ev = none → q = none := by intro q h; cases q <;> simp_all
  unfold xSlice at h
  split at h
  · rename_i e0 hu
    split at h
    · rename_i id k n hlo hhi
      split at h
      case h_2 => cases h
      case h_1 B fr t xs hg =>
        split at h
        case isFalse => cases h
        case isTrue hs =>
          cases h
          have h0 : 0 ≤ n := of_decide_eq_true (hc _ (by simp))
          have h1 : n < (xs.length : Int) + 1 := by have := of_decide_eq_true (hc (decide (n ≤ (xs.length : Int))) (by simp)); omega
          have hx' : CRep E (.ref id) (a.eval X) := hx
          generalize he : a.eval X = w0 at hx'
          cases hx' with
          | ref _ _ hu' h1' hr =>
            rw [hr _ _ _ _ hg] at he
            obtain ⟨A, cap, hv, hle, _⟩ := row_rd m hg
            obtain ⟨E', hw, hst, hv', hU⟩ := stp_take m hg hn hv (h := n.toNat) (by omega)
            rw [hv] at he
            have := slice_run ho hu hs he (.inl ⟨no hlo, rfl⟩) (.inr (bd hhi h0)) (Nat.zero_le _) (by omega) E.w
            rw [← hw] at this
            refine ⟨E', _, _, by rw [← hw]; exact this, rfl, ?_, hst⟩
            refine CRep.ref _ _ hU rfl fun T fr2 t2 xs2 hg2 => ?_
            rw [hv']
            cases A <;> simp [Addr.add]
    · rename_i fr t e xs k n hlo hhi
      split at h
      case isFalse => cases h
      case isTrue hs =>
        cases h
        have h0 : 0 ≤ n := of_decide_eq_true (hc _ (by simp))
        have h1 : n ≤ (xs.length : Int) := of_decide_eq_true (hc _ (by simp))
        have hx' : CRep E (.sl fr t e xs) (a.eval X) := hx
        generalize he : a.eval X = w0 at hx'
        cases hx' with
        | sl _ _ _ _ _ hT =>
          obtain ⟨A, cap, rfl, hle, _⟩ := hT.rd
          obtain ⟨_, _, hT'⟩ := sl_take hT (h := n.toNat) (by omega)
          have := slice_run ho hu hs he (.inl ⟨no hlo, rfl⟩) (.inr (bd hhi h0)) (Nat.zero_le _) (by omega) E.w
          refine Runs.same m _ this (CRep.sl _ _ _ _ _ ?_)
          cases A <;> simpa [Addr.add] using hT'
    · rename_i fr t e xs k n hlo hhi
      split at h
      case isFalse => cases h
      case isTrue hs =>
        cases h
        have h0 : 0 ≤ n := of_decide_eq_true (hc _ (by simp))
        have h1 : n ≤ (xs.length : Int) := of_decide_eq_true (hc _ (by simp))
        have hx' : CRep E (.sl fr t e xs) (a.eval X) := hx
        generalize he : a.eval X = w0 at hx'
        cases hx' with
        | sl _ _ _ _ _ hT =>
          obtain ⟨A, cap, rfl, hle, _⟩ := hT.rd
          have hT' := sl_drop hT (l := n.toNat) (by omega)
          have := slice_run ho hu hs he (.inr (bd hlo h0)) (.inl ⟨no hhi, rfl⟩) (by omega) (by omega) E.w
          exact Runs.same m _ this (CRep.sl _ _ _ _ _ hT')
    · cases h
  · rename_i hu
    split at h
    · rename_i s k n hlo hhi
      cases h
      have h0 : 0 ≤ n := of_decide_eq_true (hc _ (by simp))
      have h1 : n ≤ (s.size : Int) := of_decide_eq_true (hc _ (by simp))
      have e := hx.isv
      obtain ⟨y, k', rfl, hy⟩ := bd hhi h0
      have := no hlo
      subst this
      refine Runs.same m _ ?_ (.mkv _)
      obtain ⟨q, rfl⟩ := Int.eq_ofNat_of_zero_le h0
      have h2 : q ≤ s.size := by omega
      simp only [Int.toNat_natCast] at hy ⊢
      simp [execOp, ho, e, hy, Instr.sliceAt, Instr.slice, run_underlying hu, Instr.sliceBounds, Instr.sliceBound, asIntOf, h2]
    · rename_i s k n hlo hhi
      cases h
      have h0 : 0 ≤ n := of_decide_eq_true (hc _ (by simp))
      have h1 : n ≤ (s.size : Int) := of_decide_eq_true (hc _ (by simp))
      have e := hx.isv
      obtain ⟨y, k', rfl, hy⟩ := bd hlo h0
      have := no hhi
      subst this
      refine Runs.same m _ ?_ (.mkv _)
      obtain ⟨q, rfl⟩ := Int.eq_ofNat_of_zero_le h0
      have h2 : q ≤ s.size := by omega
      simp only [Int.toNat_natCast] at hy ⊢
      simp [execOp, ho, e, hy, Instr.sliceAt, Instr.slice, run_underlying hu, Instr.sliceBounds, Instr.sliceBound, asIntOf, h2]
    · rename_i s k n k2 n2 hlo hhi
      cases h
      have h0 : 0 ≤ n := of_decide_eq_true (hc _ (by simp))
      have h1 : n ≤ n2 := of_decide_eq_true (hc _ (by simp))
      have h3 : n2 ≤ (s.size : Int) := of_decide_eq_true (hc _ (by simp))
      have e := hx.isv
      obtain ⟨y, k', rfl, hy⟩ := bd hlo h0
      obtain ⟨y2, k2', rfl, hy2⟩ := bd hhi (by omega)
      refine Runs.same m _ ?_ (.mkv _)
      obtain ⟨q, rfl⟩ := Int.eq_ofNat_of_zero_le h0
      obtain ⟨q2, rfl⟩ := Int.eq_ofNat_of_zero_le (show 0 ≤ n2 by omega)
      have h2 : q ≤ q2 := by omega
      have h4 : q2 ≤ s.size := by omega
      simp only [Int.toNat_natCast] at hy hy2 ⊢
      simp [execOp, ho, e, hy, hy2, Instr.sliceAt, Instr.slice, run_underlying hu, Instr.sliceBounds, Instr.sliceBound, asIntOf, h2, h4]
    · cases h
  · cases h

end

end Go.Proofs.YtjmnjimlkljhjaaV

/- The operations, one by one: zero values, new objects, rows that grow. -/
set_option linter.unusedVariables false
namespace Go.Proofs.YtjmnjimlkljhjaaV
open Go

section
variable {E : Env}

/-! ### what does not look at memory -/
theorem decSl_get {fr : Bool} {t : Ty} {e : Nat} {x : AV} {r : List (El t) × List Nat} (get : Nat → Option AO) (h : decSl fr (fun _ => none) t e x = some r) : decSl fr get t e x = some r := by
  unfold decSl at h ⊢
  split at h
  · exact h
  · exact h
  · cases h
  · cases h

theorem decC_get {fr : Bool} (get : Nat → Option AO) : ∀ {t : Ty} {l : List AV} {r : El t × List AV × List Nat}, decC fr (fun _ => none) t l = some r → decC fr get t l = some r := by
  intro t
  induction t with
  | int k => intro l r h; cases l <;> exact h
  | bool => intro l r h; cases l <;> exact h
  | str => intro l r h; cases l <;> exact h
  | prod a b iha ihb =>
    intro l r h
    simp only [decC] at h ⊢
    split at h
    case h_2 => cases h
    case h_1 x r1 f h1 =>
      rw [iha h1]
      simp only
      split at h
      case h_2 => cases h
      case h_1 y r2 f2 h2 =>
        rw [ihb h2]
        exact h
  | slice e t ih =>
    intro l r h
    cases l with
    | nil => exact h
    | cons c l =>
      simp only [decC, Option.map_eq_some_iff] at h ⊢
      obtain ⟨x, h1, h2⟩ := h
      exact ⟨x, decSl_get get h1, h2⟩
  | rose t e ih =>
    intro l r h
    simp only [decC] at h ⊢
    split at h
    case h_2 => cases h
    case h_1 x c r1 f h1 =>
      rw [ih h1]
      simp only [Option.map_eq_some_iff] at h ⊢
      obtain ⟨x, h1, h2⟩ := h
      exact ⟨x, decSl_get get h1, h2⟩
  | arr n t ih => intro l r h; cases l <;> exact h

/-- A value that is told without memory stands in cells that hold it. -/
theorem decC_none (m : MR E) {fr : Bool} {t : Ty} {l : List AV} {x : El t} (h : decC fr (fun _ => none) t l = some (x, [], [])) {us : List Value} (hc : Cells E l us) : T E fr t x us := by
  obtain ⟨cs, us', e, hT, hr⟩ := decC_ok m (decC_get E.get h) hc (f' := []) (fun _ h => h)
  cases hr
  rw [freeze_nil] at hT
  rw [e, List.append_nil]; exact hT

/-! ### zero values -/
theorem size0 {a b : ByteArray} (ha : a.size = 0) (hb : b.size = 0) : a = b := by
  obtain ⟨x⟩ := a
  obtain ⟨y⟩ := b
  have h1 : x = #[] := Array.eq_empty_of_size_eq_zero ha
  have h2 : y = #[] := Array.eq_empty_of_size_eq_zero hb
  rw [h1, h2]

theorem eqV_ok {x c : Value} (h : eqV x c = true) : x = c := by
  unfold eqV at h
  split at h <;> simp_all

theorem tyOk_ok {fr : Bool} : ∀ {t : Ty} {x : El t} {cs : List Value}, tyOk t x cs = true → T E fr t x cs := by
  intro t
  induction t with
  | int k =>
    intro x cs h
    simp only [tyOk] at h
    split at h
    case h_2 => cases h
    case h_1 k' y =>
      simp only [Bool.and_eq_true, beq_iff_eq] at h
      obtain ⟨rfl, rfl⟩ := h
      exact ⟨1, rfl⟩
  | bool =>
    intro x cs h
    simp only [tyOk] at h
    split at h
    case h_2 => cases h
    case h_1 y =>
      simp only [beq_iff_eq] at h
      subst h
      exact ⟨1, rfl⟩
  | str =>
    intro x cs h
    simp only [tyOk] at h
    split at h
    case h_2 => cases h
    case h_1 y =>
      simp only [Bool.and_eq_true, beq_iff_eq] at h
      exact ⟨1, by rw [size0 h.1 h.2]; rfl⟩
  | prod a b iha ihb =>
    intro x cs h
    simp only [tyOk, Bool.and_eq_true] at h
    have := (iha h.1).prod_mk (ihb h.2)
    rwa [List.take_append_drop] at this
  | slice e t ih => intro x cs h; cases h
  | rose t e ih => intro x cs h; cases h
  | arr n t ih => intro x cs h; cases h

theorem arrOk_ok {t : Ty} : ∀ {xs : List (El t)} {cs : List Value}, arrOk t xs cs = true → cs.length = xs.length * sz t ∧ ∀ j (h : j < xs.length), T E false t xs[j] (seg cs j (sz t)) := by
  intro xs
  induction xs with
  | nil =>
    intro cs h
    simp only [arrOk, List.isEmpty_iff] at h
    subst h
    exact ⟨by simp, fun j hj => absurd hj (by simp)⟩
  | cons x xs ih =>
    intro cs h
    simp only [arrOk, Bool.and_eq_true, decide_eq_true_eq] at h
    obtain ⟨⟨h1, h2⟩, h3⟩ := h
    obtain ⟨h4, h5⟩ := ih h3
    rw [List.length_drop] at h4
    refine ⟨by rw [List.length_cons, Nat.add_mul]; omega, fun j hj => ?_⟩
    cases j with
    | zero => simpa [seg] using tyOk_ok h2
    | succ j =>
      have := h5 j (by simpa using hj)
      have e : seg cs (j + 1) (sz t) = seg (cs.drop (sz t)) j (sz t) := by
        unfold seg
        rw [List.drop_drop, Nat.add_mul]
        congr 2
        omega
      rw [e]
      exact this

theorem zeroOk_ok : ∀ {l : List AV} {cs : List Value}, zeroOk l cs = true → Cells E l cs := by
  intro l
  induction l with
  | nil => intro cs h; cases cs with | nil => exact .nil | cons c cs => cases h
  | cons x l ih =>
    intro cs h
    cases x with
    | arr t n xs =>
      simp only [zeroOk, Bool.and_eq_true, decide_eq_true_eq] at h
      obtain ⟨⟨h1, h2⟩, h3⟩ := h
      obtain ⟨h4, h5⟩ := arrOk_ok (E := E) h2
      have := Cells.arr t n xs _ _ _ (T.arr_mk h1 (by rw [h4, h1]) h5) (ih h3)
      rwa [List.take_append_drop] at this
    | v x =>
      cases cs with
      | nil => cases h
      | cons c cs =>
        simp only [zeroOk, Bool.and_eq_true] at h
        have := eqV_ok h.1
        subst this
        exact .cons _ _ _ _ (.v _) (ih h.2)
    | kb x =>
      cases cs with
      | nil => cases h
      | cons c cs =>
        simp only [zeroOk, Bool.and_eq_true] at h
        have := eqV_ok h.1
        subst this
        exact .cons _ _ _ _ (.kb _) (ih h.2)
    | _ => simp [zeroOk] at h

theorem zeroL_ok {P : Program} {kt : KT} {TY : Nat} {l : List AV} (h : zeroL P kt TY = some l) : ∃ i z, P.info? TY = some i ∧ i.zero = some z ∧ Cells E l z.cells.toList := by
  unfold zeroL at h
  split at h
  case h_2 => cases h
  case h_1 i hi =>
    split at h
    case h_2 => cases h
    case h_1 z hz =>
      split at h
      case h_2 => cases h
      case h_1 l' hl =>
        split at h
        case isFalse => cases h
        case isTrue hok =>
          cases h
          exact ⟨i, z, hi, hz, zeroOk_ok hok⟩

/-! ### new objects -/
theorem new_box (m : MR E) {nid : Nat} (hn : ¬ E.U nid) (B : Nat) {l : List AV} {us : List Value} (hc : Cells E l us) :
    ∃ E', E'.w = E.w.alloc (.cells us.toArray B) ∧ Stp E E' [(nid, some (.box B l))] nid ∧ (E'.θ nid).v = .pointer (some ⟨E.w.heap.size, 0, none⟩) ∧ E'.U nid := by
  obtain ⟨E', h1, h2, h3, h4⟩ := stp_upd m nid (.box B l) [] [] (by simp) (by simp) ⟨.pointer (some ⟨E.w.heap.size, 0, none⟩), []⟩ (E.w.alloc (.cells us.toArray B)) rfl rfl rfl (by simp)
    (fun k hk => .inl (by simp [Conc.blks, blkOf] at hk; omega)) (fun k hk _ => heap_alloc_old E.w _ hk) (fun hu => absurd hu hn)
    (fun E' hw _ _ _ mv => ⟨rfl, _, us, rfl, by rw [hw]; exact heap_alloc_new E.w _, by have := hc.move ((freeze_mv E []).trans mv); exact this⟩)
  exact ⟨E', h1, h2, by rw [h3], h4⟩

theorem new_map (m : MR E) {nid : Nat} (hn : ¬ E.U nid) (B : Nat) (kt vt : Ty) (c : Nat) :
    ∃ E', E'.w = E.w.alloc (.map #[] c) ∧ Stp E E' [(nid, some (.map B kt vt []))] nid ∧ (E'.θ nid).v = .map (some E.w.heap.size) ∧ E'.U nid := by
  obtain ⟨E', h1, h2, h3, h4⟩ := stp_upd m nid (.map B kt vt []) [] [] (by simp) (by simp) ⟨.map (some E.w.heap.size), []⟩ (E.w.alloc (.map #[] c)) rfl rfl rfl (by simp)
    (fun k hk => .inl (by simp [Conc.blks, blkOf] at hk; omega)) (fun k hk _ => heap_alloc_old E.w _ hk) (fun hu => absurd hu hn)
    (fun E' hw _ _ _ mv => ⟨rfl, _, #[], c, rfl, by rw [hw]; exact heap_alloc_new E.w _, rfl, fun j hj => absurd hj (by simp)⟩)
  exact ⟨E', h1, h2, by rw [h3], h4⟩

/-- A new row, of cells that hold what rows that go now lent. -/
theorem new_row (m : MR E) {nid : Nat} (hn : ¬ E.U nid) {f : List Nat} (hf : ∀ i ∈ f, E.U i) (B : Nat) (fr : Bool) (t : Ty) (xs : List (El t)) (cs : Array Value) (cap : Nat) (hlen : cs.size = cap * sz t) (hcap : xs.length ≤ cap) (hm : cap ≤ maxLen)
    (hT : ∀ j (h : j < xs.length), T (E.freeze f) fr t xs[j] (seg cs.toList j (sz t))) (w1 : World) (h1 : w1.heap = E.w.heap) (h2 : w1.os = E.w.os) (h3 : w1.tape = E.w.tape) (h4 : w1.output = E.w.output) :
    ∃ E', E'.w = w1.alloc (.cells cs B) ∧ Stp E E' ((nid, some (.row B fr t xs)) :: frees f) nid ∧ (E'.θ nid).v = .slice (some ⟨E.w.heap.size, 0, none⟩) xs.length cap ∧ E'.U nid := by
  have hsz : E.w.heap.size = w1.heap.size := by rw [h1]
  obtain ⟨E', k1, k2, k3, k4⟩ := stp_upd m nid (.row B fr t xs) f [] (by simpa using fun h => hn (hf _ h)) (by simp) ⟨.slice (some ⟨E.w.heap.size, 0, none⟩) xs.length cap, []⟩ (w1.alloc (.cells cs B)) h2 h3 h4 (by simp [hsz])
    (fun k hk => .inl (by simp [Conc.blks, blkOf] at hk; omega)) (fun k hk _ => by rw [heap_alloc_old (w := w1) (r := k) (h := by omega), h1]) (fun hu => absurd hu hn)
    (fun E' hw _ _ _ mv => by
      refine ⟨rfl, cs.toList.take (xs.length * sz t), ⟨?_, .inr ⟨E.w.heap.size, cap, cs, rfl, Nat.zero_le _, by rw [hw, hsz]; exact heap_alloc_new w1 _, hcap, hm, hlen, rfl⟩⟩, fun j hj => ?_⟩
      · rw [List.length_take, show cs.toList.length = cap * sz t by rw [← hlen]; simp, Nat.min_eq_left (Nat.mul_le_mul_right _ hcap)]
      · have := (hT j hj).move mv
        have e : ((cs.toList.take (xs.length * sz t)).drop (j * sz t)).take (sz t) = seg cs.toList j (sz t) := by
          unfold seg
          rw [List.drop_take, List.take_take]
          congr 1
          have : (j + 1) * sz t ≤ xs.length * sz t := Nat.mul_le_mul_right _ (by omega)
          rw [Nat.add_mul] at this
          omega
        rw [e]; exact this)
  rw [List.append_nil] at k2
  exact ⟨E', k1, k2, by rw [k3], k4⟩

end

section
variable {P : Program} {E : Env} {tm : Nat → Value}

theorem alloc_ok (m : MR E) {a : Act} {o : Oper} {kt : KT} {TY nid : Nat} (ho : o.op = .alloc TY) (hn : ¬ E.U nid) {z : List AV} (hz : zeroL P kt TY = some z) : Runs P E tm a o ⟨[], .ptr nid 0, [(nid, some (.box TY z))]⟩ nid := by
  obtain ⟨i, zv, hi, hz, hc⟩ := zeroL_ok (E := E) hz
  obtain ⟨E', hw, hst, hv, hu⟩ := new_box m hn TY hc
  refine ⟨E', _, _, by rw [hw]; simp [execOp, ho, Instr.alloc, zeroValue, typeInfo, hi, hz, newVar, newRow]; rfl, rfl, ?_, hst⟩
  refine CRep.ptr _ _ _ hu rfl fun T l hg => ?_
  exact ⟨_, hv, rfl⟩

theorem box_ok (m : MR E) {a : Act} {o : Oper} {TY nid : Nat} {X : Operand} (ho : o.op = .box TY X) (hn : ¬ E.U nid) {x : AV} (hx : VRep E tm x (a.eval X)) (h1 : (cells x).all oneC = true) : Runs P E tm a o ⟨[], .ptr nid 0, [(nid, some (.box TY (cells x)))]⟩ nid := by
  have hc := hx.cells h1
  obtain ⟨E', hw, hst, hv, hu⟩ := new_box m hn TY hc
  refine ⟨E', _, _, by rw [hw]; simp [execOp, ho, Instr.box, newVar, newRow]; rfl, rfl, ?_, hst⟩
  refine CRep.ptr _ _ _ hu rfl fun T l hg => ?_
  exact ⟨_, hv, rfl⟩

theorem makeMap_ok (m : MR E) {a : Act} {o : Oper} {TY nid : Nat} {k v : Ty} (ho : o.op = .makeMap TY none) (hn : ¬ E.U nid) : Runs P E tm a o ⟨[], .mp nid, [(nid, some (.map TY k v []))]⟩ nid := by
  obtain ⟨E', hw, hst, hv, hu⟩ := new_map m hn TY k v 0
  refine ⟨E', _, _, by rw [hw]; simp [execOp, ho, Instr.makeMap]; rfl, rfl, ?_, hst⟩
  exact CRep.mp _ _ hu rfl (fun T k t l hg => hv.symm) fun T e t h l hg => hv.symm

end

end Go.Proofs.YtjmnjimlkljhjaaV

/- The operations, one by one: rows that are made, that grow; aggregates; strings out of bytes. -/
set_option linter.unusedVariables false
namespace Go.Proofs.YtjmnjimlkljhjaaV
open Go

/-! ### segments -/
section
variable {α : Type}
theorem seg_left {L M : List α} {j s : Nat} (h : j * s + s ≤ L.length) : seg (L ++ M) j s = seg L j s := by
  refine List.ext_getElem? fun k => ?_
  unfold seg
  rw [List.getElem?_take, List.getElem?_take]
  by_cases hk : k < s
  · rw [if_pos hk, if_pos hk, List.getElem?_drop, List.getElem?_drop, List.getElem?_append_left (by omega)]
  · rw [if_neg hk, if_neg hk]

theorem seg_right {L M : List α} {n j s : Nat} (h : L.length = n * s) : seg (L ++ M) (n + j) s = seg M j s := by
  refine List.ext_getElem? fun k => ?_
  unfold seg
  rw [List.getElem?_take, List.getElem?_take]
  by_cases hk : k < s
  · rw [if_pos hk, if_pos hk, List.getElem?_drop, List.getElem?_drop, List.getElem?_append_right (by rw [h, Nat.add_mul]; omega)]
    congr 1
    rw [h, Nat.add_mul]; omega
  · rw [if_neg hk, if_neg hk]

theorem seg_self {M : List α} {s : Nat} (h : M.length = s) : seg M 0 s = M := by
  unfold seg
  rw [Nat.zero_mul, List.drop_zero, List.take_of_length_le (by omega)]

theorem seg_take {L : List α} {n j s : Nat} (h : j < n) : seg (L.take (n * s)) j s = seg L j s := by
  unfold seg
  rw [List.drop_take, List.take_take]
  congr 1
  have : (j + 1) * s ≤ n * s := Nat.mul_le_mul_right _ (by omega)
  rw [Nat.add_mul] at this
  omega
end

theorem seg_made {z : Array Value} {n j : Nat} (h0 : 0 < z.size) (h : j < n) : seg (madeCells z (n * z.size)).toList j z.size = z.toList := by
  refine List.ext_getElem? fun k => ?_
  unfold seg madeCells
  rw [List.getElem?_take]
  have hjn : (j + 1) * z.size ≤ n * z.size := Nat.mul_le_mul_right _ (by omega)
  rw [Nat.add_mul] at hjn
  by_cases hk : k < z.size
  · rw [if_pos hk, List.getElem?_drop]
    have hmod : (j * z.size + k) % z.size = k := by rw [Nat.mul_comm, Nat.mul_add_mod, Nat.mod_eq_of_lt hk]
    have hlt : j * z.size + k < n * z.size := by omega
    simp [hlt, hmod, hk]
  · rw [if_neg hk]
    symm
    simp
    omega

section
variable {P : Program} {E : Env} {tm : Nat → Value}

theorem xMake_ok (m : MR E) {a : Act} {o : Oper} {kt : KT} {TY nid : Nat} {X Y : Operand} (ho : o.op = .makeSlice TY X Y) (hn : ¬ E.U nid) {x y : AV} (hx : VRep E tm x (a.eval X)) (hy : VRep E tm y (a.eval Y))
    {r : Res} (h : xMake P kt nid TY x y = some r) (hc : ∀ b ∈ r.conds, b = true) : Runs P E tm a o r nid := by
  unfold xMake at h
  split at h
  case h_2 => cases h
  case h_1 e k n k' n' hu =>
    have e1 := hx.isv
    have e2 := hy.isv
    split at h
    case h_2 => cases h
    case h_1 t i zl hk hi hz =>
      split at h
      case h_2 => cases h
      case h_1 z hdec =>
        split at h
        case isFalse => cases h
        case isTrue hq =>
          obtain ⟨hsz, hpos⟩ := hq
          cases h
          have c0 : 0 ≤ n := of_decide_eq_true (hc _ (by simp))
          have c1 : n = n' := by have := hc (n == n') (by simp); simpa using this
          have c2 : n.toNat * sz t ≤ 16777216 := of_decide_eq_true (hc _ (by simp))
          have c3 : i.bytes * n.toNat ≤ 281474976710656 := of_decide_eq_true (hc _ (by simp))
          subst c1
          obtain ⟨i', zv, hi', hzv, hcz⟩ := zeroL_ok (E := E) hz
          rw [hi] at hi'
          cases hi'
          have hT := decC_none m hdec hcz
          have hzs : zv.cells.size = sz t := by rw [← hT.len]; simp
          obtain ⟨q, rfl⟩ := Int.eq_ofNat_of_zero_le c0
          simp only [Int.toNat_natCast] at c2 c3 ⊢
          have hq : q ≤ q * sz t := Nat.le_mul_of_pos_right _ hpos
          have hm : q ≤ maxLen := by simp only [maxLen]; omega
          have hb : (i.bytes : Int) * (q : Int) ≤ 281474976710656 := by rw [← Int.natCast_mul]; omega
          have hrun := run_make (P := P) E.w TY e i zv hu hi hzv k k' q q (by omega) (Int.le_refl _) hb (by simp only [maxLen] at hm; omega)
          simp only [Int.toNat_natCast, hsz] at hrun
          obtain ⟨E', hw, hst, hv, hU⟩ := new_row m hn (f := []) (by simp) e true t (List.replicate q z) (madeCells zv.cells (q * sz t)) q (by rw [size_madeCells]) (by simp) hm
            (fun j hj => by
              rw [List.length_replicate] at hj
              rw [freeze_nil, List.getElem_replicate, ← hzs, seg_made (by omega) hj]
              exact hT) E.w rfl rfl rfl rfl
          rw [List.length_replicate] at hv
          refine ⟨E', _, _, by rw [hw]; simp [execOp, ho, e1, e2, hrun]; rfl, rfl, CRep.ref _ _ hU rfl fun T fr t xs hg => hv.symm, hst⟩

/-! ### append -/
theorem readSl_ok (m : MR E) {t : Ty} {e : Nat} {x : AV} {xs : List (El t)} {fr : Bool} {f : List Nat} (h : readSl E.get t e x = some (xs, fr, f)) {v : Value} (hx : VRep E tm x v) :
    RdSl E (fun _ => True) fr t xs v ∧ ∀ i ∈ f, ∃ T fr t xs, E.get i = some (.row T fr t xs) := by
  have key : ∀ {fr : Bool} {xs : List (El t)} {f : List Nat}, decSl fr E.get t e x = some (xs, f) → RdSl E (fun _ => True) fr t xs v ∧ ∀ i ∈ f, ∃ T fr t xs, E.get i = some (.row T fr t xs) := by
    clear h
    intro fr xs f h
    unfold decSl at h
    split at h
    · cases h
      have := hx.isv
      subst this
      exact ⟨⟨none, 0, rfl, Nat.le_refl _, Nat.zero_le _, fun j hj => absurd hj (by simp)⟩, by simp⟩
    · rename_i fr' t' e' xs'
      split at h
      case isFalse => cases h
      case isTrue ht =>
        subst ht
        split at h
        case isFalse => cases h
        case isTrue hc' =>
          obtain ⟨rfl, hfr⟩ := hc'
          cases h
          have hx' : CRep E (.sl fr' t' e' xs') v := hx
          cases hx' with
          | sl _ _ _ _ _ hT => exact ⟨hT.rd.mono rfl (fun _ _ => trivial) (fun x c hT => hT.weak2 hfr), by simp⟩
    · rename_i id
      split at h
      case h_2 => cases h
      case h_1 B fr' t' xs' hg =>
        split at h
        case isFalse => cases h
        case isTrue ht =>
          subst ht
          split at h
          case isFalse => cases h
          case isTrue hc' =>
            obtain ⟨rfl, hfr⟩ := hc'
            cases h
            have hx' : CRep E (.ref id) v := hx
            cases hx' with
            | ref _ _ hu h1 hr =>
              rw [hr _ _ _ _ hg]
              exact ⟨(row_rd m hg).mono rfl (fun _ _ => trivial) (fun x c hT => hT.weakF hfr), fun i hi => by rw [List.mem_singleton.1 hi]; exact ⟨_, _, _, _, hg⟩⟩
    · cases h
  unfold readSl at h
  split at h
  · rename_i xs' f' h1
    cases h
    exact key h1
  · split at h
    · rename_i xs' f' h1
      cases h
      exact key h1
    · cases h

/-- The cells behind what is read. -/
theorem RdSl.news {ok : Nat → Prop} {fr : Bool} {t : Ty} {xs : List (El t)} {ad : Addr} {n cap : Nat} (h : RdSl E ok fr t xs (.slice (some ad) n cap)) :
    n = xs.length ∧ ∃ news : List Value, news.length = n * sz t ∧ (∀ j u, news[j]? = some u → E.w.cell? (ad.add j) = some u) ∧ (∀ j (h : j < xs.length), T E fr t xs[j] (seg news j (sz t))) ∧ ∀ u ∈ news, u.oneCell' = true := by
  obtain ⟨A, cap', e, h1, h2, hel⟩ := h
  cases e
  refine ⟨rfl, ?_⟩
  have key : ∀ k, k ≤ xs.length → ∃ news : List Value, news.length = k * sz t ∧ (∀ j u, news[j]? = some u → E.w.cell? (ad.add j) = some u) ∧ (∀ j (h : j < xs.length), j < k → T E fr t xs[j] (seg news j (sz t))) ∧ ∀ u ∈ news, u.oneCell' = true := by
    intro k
    induction k with
    | zero => intro _; exact ⟨[], by simp, by simp, fun j _ h => absurd h (by omega), by simp⟩
    | succ k ih =>
      intro hk
      obtain ⟨news, k1, k2, k3, k4⟩ := ih (by omega)
      obtain ⟨ad', c, a1, _, _, hT, hcell⟩ := hel k (by omega)
      cases a1
      refine ⟨news ++ c, by rw [List.length_append, k1, hT.len, Nat.add_mul]; omega, fun j u hu => ?_, fun j hj hjk => ?_, fun u hu => ?_⟩
      · by_cases hj : j < news.length
        · rw [List.getElem?_append_left hj] at hu; exact k2 j u hu
        · rw [List.getElem?_append_right (by omega)] at hu
          have := hcell _ _ hu
          rw [k1] at this
          have e : k * sz t + (j - k * sz t) = j := by omega
          rwa [e] at this
      · by_cases e : j < k
        · have : j * sz t + sz t ≤ k * sz t := mul_lt_sep e
          rw [seg_left (by omega)]
          exact k3 j hj e
        · have : j = k := by omega
          subst this
          have := seg_right (M := c) (j := 0) k1
          rw [Nat.add_zero] at this
          rw [this, seg_self hT.len]
          exact hT
      · rcases List.mem_append.1 hu with hu | hu
        · exact k4 u hu
        · exact hT.one u hu
  obtain ⟨news, k1, k2, k3, k4⟩ := key xs.length (Nat.le_refl _)
  exact ⟨news, k1, k2, fun j hj => k3 j hj hj, k4⟩

theorem blkOf_own (v : Value) (h : ∃ A n c, v = .slice A n c) : blkOf v = v.ownBlock := by
  obtain ⟨A, n, c, rfl⟩ := h
  cases A <;> rfl

theorem ownsRow_slice {w : World} {base B s : Nat} {v : Value} {n : Nat} {xs : List Value} (h : w.ownsRow base B s v n xs) : ∃ A c, v = .slice A n c := by
  rcases h.2 with ⟨e, rfl⟩ | ⟨g, cap, cur, e, _⟩
  · exact ⟨_, _, e⟩
  · exact ⟨_, _, e⟩

/-- Some elements behind a row that is the call's own. -/
theorem append_run {TY ty e : Nat} {i : TypeInfo} {z : Value} (w : World) (ht : P.underlying TY = some (.slice e)) (hi : P.info? e = some i) (hz : i.zero = some z) (hzs : z.cells.size = i.size) (hsz : 0 < i.size)
    {v : Value} {n : Nat} {xs : List Value} (hown : w.ownsRow 0 e i.size v n xs) {ad : Addr} {m c : Nat} {news : List Value} (hl : news.length = m * i.size) (hnews : ∀ j u, news[j]? = some u → w.cell? (ad.add j) = some u) (h1 : ∀ u ∈ news, u.oneCell' = true)
    (h63 : n + m ≤ maxLen) (hbytes : (n + m) * i.bytes ≤ 140737488355328) :
    ∃ v' w', (Builtin.append_ #[TY, TY] ty #[v, .slice (some ad) m c]).run P w = .ok v' w' ∧ w'.ownsRow 0 e i.size v' (n + m) (xs ++ news) ∧ w.grownBy w' v.ownBlock ∧ ∀ k, v'.ownBlock = some k → v.ownBlock = some k ∨ w.heap.size ≤ k := by
  obtain ⟨v', w', hr, ho, hg, _⟩ := run_append_own (P := P) w 0 TY ty e i z i.size i.bytes ht hi hz rfl rfl hzs hsz v n xs hown ad m c news hl hnews h1 h63 hbytes (Nat.zero_le _)
  refine ⟨v', w', hr, ho, hg, fun k hk => ?_⟩
  have hsmall : n + m ≤ 9223372036854775807 := by simp only [maxLen] at h63; omega
  rcases hown.2 with ⟨rfl, rfl⟩ | ⟨g, cap, cur, rfl, hbg, hgg, hnc, hcm, hcs, htake⟩
  · have hx : xs = [] := List.eq_nil_of_length_eq_zero (by simpa using hown.1)
    subst hx
    obtain ⟨v2, w2, hr2, ho2, _, _⟩ := run_append_own (P := P) w w.heap.size TY ty e i z i.size i.bytes ht hi hz rfl rfl hzs hsz _ 0 [] (World.ownsRow_nil w _ e i.size) ad m c news hl hnews h1 h63 hbytes (Nat.le_refl _)
    rw [hr2] at hr
    cases hr
    exact .inr (ho2.lt k hk).1
  · by_cases hroom : n + m ≤ cap
    · have hfit : n * i.size + news.length ≤ cur.size := by rw [hl, hcs, ← Nat.add_mul]; exact Nat.mul_le_mul_right _ hroom
      have hr2 := run_append_room (P := P) w TY ty e i ht hi g n cap cur hgg ad m c news hl hnews h1 hroom hfit
      rw [hr2] at hr
      cases hr
      exact .inl hk
    · have holds : ∀ j u, xs[j]? = some u → w.cell? ((⟨g, 0, none⟩ : Addr).add j) = some u := hown.cells (g := g) rfl
      have hr2 := run_append_grow (P := P) w TY ty e i z ht hi hz ⟨g, 0, none⟩ n cap xs hown.1 holds ad m c news hl hnews (by omega) (by omega) (growslice_fits (by omega) hbytes)
      rw [hr2] at hr
      cases hr
      simp [Value.ownBlock] at hk
      exact .inr (by omega)

theorem append_none {TY ty e : Nat} {i : TypeInfo} (w : World) (ht : P.underlying TY = some (.slice e)) (hi : P.info? e = some i) {v : Value} {n c s : Nat} {xs : List Value} (hown : w.ownsRow 0 e s v n xs) :
    (Builtin.append_ #[TY, TY] ty #[v, .slice none 0 c]).run P w = .ok v w := by
  rcases hown.2 with ⟨rfl, rfl⟩ | ⟨g, cap, cur, rfl, _, _, hnc, _⟩
  · simp [Builtin.append_, run_underlying ht, sizeOf, typeInfo, hi, Builtin.lenOf, Builtin.firstCells]
  · simp [Builtin.append_, run_underlying ht, sizeOf, typeInfo, hi, Builtin.lenOf, Builtin.firstCells, hnc, storeCells]


theorem xAppend_ok (m : MR E) {a : Act} {o : Oper} {kt : KT} {nid : Nat} {c : Call} {TY : Nat} {X Y : Operand} (ho : o.op = .call c) (hcl : c.callee = .builtin .append) (hargs : c.args.toList = [X, Y]) (hty : c.argTypes.toList = [TY, TY]) (hn : ¬ E.U nid)
    {x y : AV} (hx : VRep E tm x (a.eval X)) (hy : VRep E tm y (a.eval Y)) {r : Res} (h : xAppend P kt E.get nid TY x y = some r) (hc : ∀ b ∈ r.conds, b = true) : Runs P E tm a o r nid := by
  have ha : c.args = #[X, Y] := by apply Array.ext'; simpa using hargs
  have ht : c.argTypes = #[TY, TY] := by apply Array.ext'; simpa using hty
  have run : ∀ {v : Value} {w : World}, (Builtin.append_ #[TY, TY] o.type #[a.eval X, a.eval Y]).run P E.w = .ok v w → (execOp a.eval o).run P E.w = .ok (.value v) w := by
    intro v w h
    simp [execOp, ho, resolve, hcl, invoke, builtin, ha, ht, h]
  unfold xAppend at h
  split at h
  case h_2 => cases h
  case h_1 e hu =>
    split at h
    case h_2 => cases h
    case h_1 t i hk hi =>
      split at h
      case isFalse => cases h
      case isTrue hq =>
        obtain ⟨hsz, hpos, hby, hzz⟩ := hq
        obtain ⟨z, hz, hzs⟩ := Option.map_eq_some_iff.1 hzz
        split at h
        case h_2 => cases h
        case h_1 xs fr f ys fr' f' h1 h2 =>
          split at h
          case isFalse => cases h
          case isTrue hdis =>
            cases h
            have hb : (xs.length + ys.length) * i.bytes ≤ 140737488355328 := of_decide_eq_true (hc _ (by simp))
            have hnm : xs.length + ys.length ≤ (xs.length + ys.length) * i.bytes := Nat.le_mul_of_pos_right _ hby
            have hml : xs.length + ys.length ≤ maxLen := by simp only [maxLen]; omega
            -- the first one
            have hX : ∃ xcs, E.w.ownsRow 0 e (sz t) (a.eval X) xs.length xcs ∧ (∀ j (h : j < xs.length), T E fr t xs[j] (seg xcs j (sz t))) ∧
                ((f = [] ∧ (a.eval X).ownBlock = none) ∨ ∃ id B fr0 ys0, f = [id] ∧ E.get id = some (.row B fr0 t ys0) ∧ a.eval X = (E.θ id).v) := by
              split at h1
              · simp only [Option.some.injEq, Prod.mk.injEq] at h1
                obtain ⟨rfl, rfl, rfl⟩ := h1
                have e := hx.isv
                rw [e]
                exact ⟨[], World.ownsRow_nil _ _ _ _, fun j hj => absurd hj (by simp), .inl ⟨rfl, rfl⟩⟩
              · rename_i id
                have hx' : CRep E (.ref id) (a.eval X) := hx
                generalize he : a.eval X = w0 at hx' ⊢
                have key : ∀ {fr0 : Bool} {xs f}, decSl fr0 E.get t e (.ref id) = some (xs, f) → ∃ xcs, E.w.ownsRow 0 e (sz t) w0 xs.length xcs ∧ (∀ j (h : j < xs.length), T E fr0 t xs[j] (seg xcs j (sz t))) ∧ ∃ id B fr0 ys0, f = [id] ∧ E.get id = some (.row B fr0 t ys0) ∧ w0 = (E.θ id).v := by
                  clear h1 h2 hc hb hnm hml
                  intro fr0 xs f h
                  unfold decSl at h
                  simp only at h
                  split at h
                  case h_2 => cases h
                  case h_1 B fr1 t1 xs1 hg =>
                    split at h
                    case isFalse => cases h
                    case isTrue ht1 =>
                      subst ht1
                      split at h
                      case isFalse => cases h
                      case isTrue hc' =>
                        obtain ⟨rfl, hfr⟩ := hc'
                        cases h
                        cases hx' with
                        | ref _ _ hu h1 hr =>
                          have e := hr _ _ _ _ hg
                          obtain ⟨hin, inner, hown, hT⟩ := m.objs id _ hg
                          exact ⟨inner, by rw [e]; exact hown, fun j hj => (hT j hj).weakF hfr, id, _, _, _, rfl, hg, e⟩
                unfold readSl at h1
                split at h1
                · rename_i h3
                  cases h1
                  obtain ⟨xcs, k1, k2, k3⟩ := key h3
                  exact ⟨xcs, k1, k2, .inr k3⟩
                · split at h1
                  · rename_i h3
                    cases h1
                    obtain ⟨xcs, k1, k2, k3⟩ := key h3
                    exact ⟨xcs, k1, k2, .inr k3⟩
                  · cases h1
              · cases h1
            obtain ⟨xcs, hown, hTx, hf⟩ := hX
            obtain ⟨hrd, _⟩ := readSl_ok m h2 hy
            -- the run
            have hR : ∃ v' w' ncs, (Builtin.append_ #[TY, TY] o.type #[a.eval X, a.eval Y]).run P E.w = .ok v' w' ∧ w'.ownsRow 0 e (sz t) v' (xs.length + ys.length) (xcs ++ ncs) ∧ E.w.grownBy w' (a.eval X).ownBlock ∧
                (∀ k, v'.ownBlock = some k → (a.eval X).ownBlock = some k ∨ E.w.heap.size ≤ k) ∧ ncs.length = ys.length * sz t ∧ ∀ j (h : j < ys.length), T E fr' t ys[j] (seg ncs j (sz t)) := by
              obtain ⟨A, cap, hv, k1, k2, k3⟩ := hrd
              have hrd : RdSl E (fun _ => True) fr' t ys (a.eval Y) := ⟨A, cap, hv, k1, k2, k3⟩
              rw [hv] at hrd ⊢
              cases A with
              | none =>
                have h0 : ys.length = 0 := by
                  rcases Nat.eq_zero_or_pos ys.length with h | h
                  · exact h
                  · obtain ⟨ad, _, hA, _⟩ := k3 0 h; cases hA
                have hys : ys = [] := List.eq_nil_of_length_eq_zero h0
                subst hys
                refine ⟨_, _, [], append_none E.w hu hi hown, by simpa using hown, ⟨rfl, rfl, rfl, Nat.le_refl _, fun _ _ _ => rfl⟩, fun k hk => .inl hk, by simp, fun j hj => absurd hj (by simp)⟩
              | some ad =>
                obtain ⟨_, ncs, n1, n2, n3, n4⟩ := hrd.news
                rw [← hsz] at hown n1
                obtain ⟨v', w', r1, r2, r3, r4⟩ := append_run (P := P) (ty := o.type) E.w hu hi hz (by rw [hzs, hsz]) (by omega) hown (c := cap) n1 n2 n4 hml hb
                rw [hsz] at r2 n1
                exact ⟨v', w', ncs, r1, r2, r3, r4, n1, n3⟩
            obtain ⟨v', w', ncs, hrun, hown', hgr, hblk, hnl, hTy⟩ := hR
            have hf2 : ∀ i ∈ f, i ≠ nid := by
              intro i hi e
              rcases hf with ⟨rfl, _⟩ | ⟨id, B, fr0, ys0, rfl, hg, _⟩
              · cases hi
              · rw [List.mem_singleton] at hi
                subst hi
                exact hn (e ▸ m.used _ _ hg)
            have hsl := ownsRow_slice hown'
            obtain ⟨A', c', hv'⟩ := hsl
            have hXsl := ownsRow_slice hown
            obtain ⟨AX, cX, hvX⟩ := hXsl
            have own_in : ∀ k, (a.eval X).ownBlock = some k → ∃ s o', (s ∈ f ∨ s = nid) ∧ E.get s = some o' ∧ k ∈ (E.θ s).blks := by
              intro k hk
              rcases hf with ⟨rfl, hnone⟩ | ⟨id, B, fr0, ys0, rfl, hg, he⟩
              · rw [hnone] at hk; cases hk
              · refine ⟨id, _, .inl (by simp), hg, ?_⟩
                rw [he] at hk
                have : blkOf (E.θ id).v = some k := by rw [blkOf_own _ ⟨_, _, _, he ▸ hvX⟩]; exact hk
                simp [Conc.blks, this]
            have hxl : xcs.length = xs.length * sz t := hown.1
            obtain ⟨E', hw, hst, hθ, hU⟩ := stp_upd m nid (.row e (fr && fr') t (xs ++ ys)) [] f (by simpa using fun h => hf2 nid h rfl) (by simp) ⟨v', []⟩ w' hgr.os hgr.tape hgr.output hgr.size
              (fun k hk => by
                have hk' : v'.ownBlock = some k := by
                  have : blkOf v' = some k := by simpa [Conc.blks] using hk
                  rwa [blkOf_own _ ⟨_, _, _, hv'⟩] at this
                rcases hblk k hk' with h3 | h3
                · exact .inr (own_in k h3)
                · exact .inl h3)
              (fun k hk hs => hgr.block k hk fun e => by
                obtain ⟨s, o', h3, h4, h5⟩ := own_in k e.symm
                exact hs s o' h3 h4 h5)
              (fun hu => absurd hu hn)
              (fun E' hw h0 hO hG mv => by
                refine ⟨rfl, xcs ++ ncs, by rw [hw, List.length_append]; exact hown', fun j hj => ?_⟩
                rw [List.length_append] at hj
                show T E' (fr && fr') t (xs ++ ys)[j] (seg (xcs ++ ncs) j (sz t))
                have mv' : Mv E E' := (freeze_mv E []).trans mv
                by_cases hjx : j < xs.length
                · have : j * sz t + sz t ≤ xs.length * sz t := mul_lt_sep hjx
                  rw [seg_left (by omega), List.getElem_append_left hjx]
                  exact ((hTx j hjx).move mv').weak2 (by intro h; simp at h; exact h.1)
                · obtain ⟨q, rfl⟩ : ∃ q, j = xs.length + q := ⟨j - xs.length, by omega⟩
                  rw [seg_right hxl, List.getElem_append_right (by omega)]
                  have : xs.length + q - xs.length = q := by omega
                  simp only [this]
                  exact ((hTy q (by omega)).move mv').weak2 (by intro h; simp at h; exact h.2))
            rw [List.nil_append] at hst
            refine ⟨E', _, _, by rw [hw]; exact run hrun, rfl, CRep.ref _ _ hU (by rw [hv']; rfl) fun T fr t xs hg => by rw [hθ], hst⟩

end

end Go.Proofs.YtjmnjimlkljhjaaV
