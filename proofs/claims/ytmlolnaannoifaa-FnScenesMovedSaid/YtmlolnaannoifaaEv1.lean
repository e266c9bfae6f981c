/- An evaluator of the model over told data and its soundness. -/
import Derived.WalkKit
import Derived.WalkLawsBesides
import Derived.Laws.FloatArith
import Derived.Orders
import Derived.KernelRfl
import Derived.Below
set_option linter.all false
set_option linter.unusedVariables false
set_option linter.unusedSimpArgs false

/- A plain evaluator of the model's code over told data: kinds, told values, told memory, and what each operation does to them. -/
namespace Go.Proofs.Ytmlolnaannoifaa

/-- Kinds of data. 'own' is a slice whose spare room is the holder's own. 'pair' chains the cells of a struct, 'unit' ends it. -/
inductive Kd where
  | bool | int (k : IntKind) | flt (k : FloatKind) | str
  | sl (e : Kd) | own (e : Kd) | unit | pair (a b : Kd)
  deriving DecidableEq, Inhabited

namespace Kd
@[reducible] def T : Kd → Type
  | bool => Bool
  | int _ => Int
  | flt _ => Nat
  | str => ByteArray
  | sl e => List e.T
  | own e => List e.T
  | unit => Unit
  | pair a b => a.T × b.T

def dflt : (k : Kd) → k.T
  | bool => false
  | int _ => (0 : Int)
  | flt _ => (0 : Nat)
  | str => ByteArray.empty
  | sl _ => []
  | own _ => []
  | unit => ()
  | pair a b => (a.dflt, b.dflt)

def sz : Kd → Nat
  | unit => 0
  | pair a b => a.sz + b.sz
  | _ => 1

/-- Is it one cell? -/
def one : Kd → Bool
  | unit => false
  | pair .. => false
  | _ => true

/-- Is nothing in it owned? -/
def pure : Kd → Bool
  | own _ => false
  | pair a b => a.pure && b.pure
  | _ => true

def isOwn : Kd → Bool
  | own _ => true
  | _ => false

def cast (a b : Kd) (x : a.T) : Option b.T := if h : a = b then some (h ▸ x) else none
end Kd

/-- A told cell. -/
inductive AV1 where
  | d (k : Kd) (x : k.T)
  | osl (e : Kd) (id n : Nat)
  | nilsl
  | ptr (id off : Nat)
  | eptr (id i off : Nat)
  | cptr (k : Kd) (x : k.T)
  | msl (id : Nat)
  | msb (id lo n : Nat)
  | clo (f : FuncId) (caps : List Nat)
  | fnv (a r : Kd) (p : a.T → r.T)
  | nilp
  | pb (p : Prop)
  | any

def AV1.told : AV1 → Bool
  | any => false
  | _ => true

/-- A told value. -/
inductive AV where
  | one (a : AV1)
  | agg (l : List AV1)
  | tup (l : List (Bool × List AV1))

/-- A told block of memory. -/
inductive Ent where
  | box (cells : List AV1)
  | arr (e : Kd) (n : Nat) (xs : List e.T)
  | frz (e : Kd) (n : Nat) (xs : List e.T)
  | vec (e : Kd) (xs : List e.T)

inductive TD where
  | bool | int (k : IntKind) | flt (k : FloatKind) | str | ptr
  | slice (e : TypeId) | array (n : Nat) (e : TypeId) | struct (fs : List (Nat × TypeId)) | other
  deriving DecidableEq, Inhabited

def TD.of : TypeDesc → TD
  | .bool => .bool
  | .int k => .int k
  | .float k => .flt k
  | .string => .str
  | .pointer _ => .ptr
  | .slice e => .slice e
  | .array n e => .array n e
  | .struct fs => .struct (fs.toList.map fun f => (f.offset, f.type))
  | _ => .other

def TD.agg : TD → Bool
  | .array .. => true
  | .struct _ => true
  | _ => false

structure TyI where
  td : TD
  size : Nat
  bytes : Nat
  kd : Kd
  zero : List AV1

/-- What a constant is told as. -/
def ofConst : Value → AV1
  | .bool b => .d .bool b
  | .int k n => .d (.int k) n
  | .float k b => .d (.flt k) b
  | .string s => .d .str s
  | .slice none 0 0 => .nilsl
  | .pointer none => .nilp
  | .func (.func f) first captured => if first.size = 0 ∧ captured.size = 0 then .clo f [] else .any
  | _ => .any

def avOfConst : Value → AV
  | .agg cs => if (cs.toList.map ofConst).all AV1.told then .agg (cs.toList.map ofConst) else .one .any
  | .tuple _ => .one .any
  | v => .one (ofConst v)

/- floats -/
def nanB : FloatKind → Nat
  | .f32 => 2143289344
  | .f64 => 9221120237041090560
def isNaNB (k : FloatKind) (b : Nat) : Bool := (k.format.read b).isNaN
def fop (op : BinOp) (k : FloatKind) (x y : Nat) : Nat := (floatBits op k x y).getD (nanB k)
def fneg (k : FloatKind) (x : Nat) : Nat := Op.negFloat k x
def fcmp (k : FloatKind) (x y : Nat) : Option Ordering := k.format.order x y
def feq (k : FloatKind) (x y : Nat) : Bool := fcmp k x y == some .eq
def flss (k : FloatKind) (x y : Nat) : Bool := fcmp k x y == some .lt
def fleq (k : FloatKind) (x y : Nat) : Bool := fcmp k x y == some .lt || fcmp k x y == some .eq
def fcv (s d : FloatKind) (x : Nat) : Nat := (floatToFloatBits s x d).getD (nanB d)
/-- Such a conversion is told of: a NaN, or a number that the other kind bears. -/
def fcvOk (s d : FloatKind) (x : Nat) : Prop := isNaNB s x = true ∨ (floatToFloatBits s x d).isSome = true
def ftoi (s : FloatKind) (d : IntKind) (x : Nat) : Int := (floatToIntVal s x d).getD 0
def ftoiOk (s : FloatKind) (d : IntKind) (x : Nat) : Prop := (floatToIntVal s x d).isSome = true

/- integers -/
def ishl (k : IntKind) (x y : Int) : Int := k.wrap (x * 2 ^ (min y.toNat k.bits))
def ishr (k : IntKind) (x y : Int) : Int := x.fdiv (2 ^ (min y.toNat k.bits))
def ibits (op : BinOp) (k : IntKind) (x y : Int) : Int :=
  let a := BitVec.ofInt k.bits x
  let b := BitVec.ofInt k.bits y
  match op with
  | .and => k.wrap ((a &&& b).toNat : Int)
  | .or => k.wrap ((a ||| b).toNat : Int)
  | .xor => k.wrap ((a ^^^ b).toNat : Int)
  | .andNot => k.wrap ((a &&& ~~~b).toNat : Int)
  | _ => 0

/- cells and typed data -/
abbrev View := Nat → Option Ent

/-- The cells of a told datum, as data (nothing is owned). -/
def toCells : (k : Kd) → k.T → List AV1
  | .unit, _ => []
  | .pair a b, x => toCells a x.1 ++ toCells b x.2
  | .own e, x => [.d (.sl e) x]
  | .bool, x => [.d .bool x]
  | .int k, x => [.d (.int k) x]
  | .flt k, x => [.d (.flt k) x]
  | .str, x => [.d .str x]
  | .sl e, x => [.d (.sl e) x]

/-- A slice's content, read as data. -/
def slOf (e : Kd) (a : AV1) (g : View) : Option (List Prop × List e.T) :=
  match a with
  | .d (.sl e') x => (Kd.cast (.sl e') (.sl e) x).map fun y => ([], y)
  | .osl _ id n =>
    match g id with
    | some (.vec e' xs) => (Kd.cast (.sl e') (.sl e) xs).map fun y => ([n = xs.length], y)
    | _ => none
  | .nilsl => some ([], [])
  | _ => none

/-- An owned slice's content. -/
def ownOf (e : Kd) (a : AV1) (g : View) : Option (List Prop × List e.T) :=
  match a with
  | .osl _ id n =>
    match g id with
    | some (.vec e' xs) => (Kd.cast (.sl e') (.sl e) xs).map fun y => ([n = xs.length], y)
    | _ => none
  | .nilsl => some ([], [])
  | _ => none

def scOf (k : Kd) (a : AV1) : Option (List Prop × k.T) :=
  match a with
  | .d k' x => (Kd.cast k' k x).map fun y => ([], y)
  | _ => none

/-- A datum out of the first cells of a list; what is left of them. -/
def ofCells : (k : Kd) → List AV1 → View → Option (List Prop × k.T × List AV1)
  | .unit, l, _ => some ([], (), l)
  | .pair a b, l, g =>
    match ofCells a l g with
    | some (p, x, l') =>
      match ofCells b l' g with
      | some (q, y, l'') => some (p ++ q, (x, y), l'')
      | none => none
    | none => none
  | .sl e, a :: l, g => (slOf e a g).map fun r => (r.1, r.2, l)
  | .own e, a :: l, g => (ownOf e a g).map fun r => (r.1, r.2, l)
  | .bool, a :: l, _ => (scOf .bool a).map fun r => (r.1, r.2, l)
  | .int k, a :: l, _ => (scOf (.int k) a).map fun r => (r.1, r.2, l)
  | .flt k, a :: l, _ => (scOf (.flt k) a).map fun r => (r.1, r.2, l)
  | .str, a :: l, _ => (scOf .str a).map fun r => (r.1, r.2, l)
  | _, [], _ => none

/-- The same of a whole list. -/
def ofCellsAll (k : Kd) (l : List AV1) (g : View) : Option (List Prop × k.T) :=
  match ofCells k l g with
  | some (p, x, []) => some (p, x)
  | _ => none

/-- So many elements. -/
def ofElems (e : Kd) (g : View) : Nat → List AV1 → Option (List Prop × List e.T)
  | 0, [] => some ([], [])
  | 0, _ :: _ => none
  | n + 1, l =>
    match ofCells e l g with
    | some (p, x, l') =>
      match ofElems e g n l' with
      | some (q, xs) => some (p ++ q, x :: xs)
      | none => none
    | none => none

/-- A pointer into a chain of cells, so many cells on. -/
def dropCells : (k : Kd) → k.T → Nat → Option (Σ k' : Kd, k'.T)
  | k, x, 0 => some ⟨k, x⟩
  | .pair a b, x, n + 1 => if a.sz ≤ n + 1 then dropCells b x.2 (n + 1 - a.sz) else none
  | _, _, _ + 1 => none

def memN (i : Nat) : List Nat → Bool
  | [] => false
  | j :: l => Nat.beq i j || memN i l

def disj (a b : List Nat) : Bool := a.all fun i => !memN i b

/- memory and slots as lists of pairs -/
def get1 {α : Type} (l : List (Nat × α)) (i : Nat) : Option α :=
  match l with
  | [] => none
  | (j, v) :: r => if Nat.beq i j then some v else get1 r i

def set1 {α : Type} (l : List (Nat × α)) (i : Nat) (v : α) : List (Nat × α) :=
  match l with
  | [] => [(i, v)]
  | (j, u) :: r => if Nat.beq i j then (i, v) :: r else (j, u) :: set1 r i v

def setAll {α : Type} (l : List (Nat × α)) : List (Nat × α) → List (Nat × α)
  | [] => l
  | (i, v) :: r => setAll (set1 l i v) r

end Go.Proofs.Ytmlolnaannoifaa

/- What each operation of the model's code does to told slots and told memory; a statement to be shown for each piece of code. -/
namespace Go.Proofs.Ytmlolnaannoifaa

inductive PK where
  | val (k : Kd) | st (k : Kd) | box (k : Kd) | ro (k : Kd) | fnp (a r : Kd)

inductive RK where
  | one (k : Kd) | st (k : Kd) | nb (k : Kd)

@[reducible] def PK.T : PK → Type
  | val k => k.T
  | st k => k.T
  | box k => k.T
  | ro k => k.T
  | fnp a r => a.T → r.T

@[reducible] def PsT : List PK → Type
  | [] => Unit
  | p :: ps => p.T × PsT ps

@[reducible] def OsT : List PK → Type
  | [] => Unit
  | .box k :: ps => k.T × OsT ps
  | _ :: ps => OsT ps

@[reducible] def RK.T : RK → Type
  | one k => k.T
  | st k => k.T
  | nb k => k.T

@[reducible] def RsT : List RK → Type
  | [] => Unit
  | r :: rs => r.T × RsT rs

/-- What a call is told to do: under 'pre', it hands back 'fn'. -/
structure FSpec where
  ps : List PK
  rs : List RK
  pre : PsT ps → List Prop
  fn : PsT ps → RsT rs × OsT ps

abbrev Env := FuncId → Option FSpec
abbrev Types := TypeId → Option TyI

/-- A pure function out of a closure's contract and what it has captured. -/
def getCap (p : PK) (a : AV) (g : View) : Option (List Prop × p.T) :=
  match p, a with
  | .ro k, .one (.ptr id 0) => match g id with | some (.box cells) => ofCellsAll k cells g | _ => none
  | _, _ => none

def getCaps : (ps : List PK) → List AV → View → Option (List Prop × PsT ps)
  | [], [], _ => some ([], ())
  | p :: ps, a :: as, g =>
    match getCap p a g with
    | some (q, x) => match getCaps ps as g with
      | some (r, y) => some (q ++ r, (x, y))
      | none => none
    | none => none
  | _, _, _ => none

def cloFn (fs : FSpec) (a r : Kd) (caps : List AV) (g : View) : Option (List Prop × (a.T → r.T)) :=
  match fs with
  | ⟨.val a' :: ps, [.one r'], pre, fn⟩ =>
    match getCaps ps caps g with
    | some (qs, c) => if h : a = a' ∧ r' = r then if !(a.pure && a.one && r.one) then none else some (qs ++ [∀ x : a'.T, ∀ p ∈ pre (x, c), p], fun x => h.2 ▸ (fn (h.1 ▸ x, c)).1.1) else none
    | none => none
  | _ => none

def capAVs (caps : List Nat) : List AV := caps.map fun id => .one (.ptr id 0)

def valArg (k : Kd) (a : AV) (g : View) : Option (List Prop × k.T) :=
  match a with
  | .one a => if (k.pure || k.isOwn) && a.told then ofCellsAll k [a] g else none
  | _ => none

def stArg (k : Kd) (a : AV) (g : View) : Option (List Prop × k.T) :=
  match a with
  | .agg l => if k.pure then ofCellsAll k l g else none
  | _ => none

def boxArg (k : Kd) (a : AV) (g : View) : Option (List Prop × k.T) :=
  match a with
  | .one (.ptr id 0) => match g id with | some (.box cells) => ofCellsAll k cells g | _ => none
  | _ => none

def roArg (k : Kd) (a : AV) (g : View) : Option (List Prop × k.T) :=
  match a with
  | .one (.ptr id off) => match g id with | some (.box cells) => ofCellsAll k ((cells.drop off).take k.sz) g | _ => none
  | .one (.cptr k' x) => match Kd.cast k' k x with
    | some y => some ([], y)
    | none => ofCellsAll k ((toCells k' x).take k.sz) g
  | _ => none

def fnArg (E : Env) (a r : Kd) (v : AV) (g : View) : Option (List Prop × (a.T → r.T)) :=
  match v with
  | .one (.fnv a' r' p) => if h : a = a' ∧ r' = r then some ([], fun x => h.2 ▸ p (h.1 ▸ x)) else none
  | .one (.clo f caps) => match E f with | some fs => cloFn fs a r (capAVs caps) g | none => none
  | _ => none

def getArg (E : Env) (p : PK) (a : AV) (g : View) : Option (List Prop × p.T) :=
  match p with
  | .val k => valArg k a g
  | .st k => stArg k a g
  | .box k => boxArg k a g
  | .ro k => roArg k a g
  | .fnp x r => fnArg E x r a g

def getArgs (E : Env) : (ps : List PK) → List AV → View → Option (List Prop × PsT ps)
  | [], [], _ => some ([], ())
  | p :: ps, a :: as, g =>
    match getArg E p a g with
    | some (q, x) => match getArgs E ps as g with
      | some (r, y) => some (q ++ r, (x, y))
      | none => none
    | none => none
  | _, _, _ => none

abbrev Ents := List (Nat × Ent)

/-- Cells of a datum that is handed out: what is owned gets a block, numbered from c on. -/
def newCells : (k : Kd) → k.T → (c : Nat) → List AV1 × Ents × Nat
  | .unit, _, c => ([], [], c)
  | .pair a b, x, c =>
    let l := newCells a x.1 c
    let r := newCells b x.2 l.2.2
    (l.1 ++ r.1, l.2.1 ++ r.2.1, r.2.2)
  | .own e, x, c => ([.osl e c x.length], [(c, .vec e x)], c + 1)
  | .bool, x, c => ([.d .bool x], [], c)
  | .int k, x, c => ([.d (.int k) x], [], c)
  | .flt k, x, c => ([.d (.flt k) x], [], c)
  | .str, x, c => ([.d .str x], [], c)
  | .sl e, x, c => ([.d (.sl e) x], [], c)

/-- The cells of a box behind a call: an owned slice keeps its block. -/
def outCells : (k : Kd) → k.T → List AV1 → (c : Nat) → Option (List AV1 × Ents × Ents × List AV1 × Nat)
  | .unit, _, l, c => some ([], [], [], l, c)
  | .pair a b, x, l, c =>
    match outCells a x.1 l c with
    | some (u, s, n, l', c') =>
      match outCells b x.2 l' c' with
      | some (u', s', n', l'', c'') => some (u ++ u', s ++ s', n ++ n', l'', c'')
      | none => none
    | none => none
  | .own e, x, .osl e' id _ :: l, c => some ([.osl e c x.length], [(id, .frz e' 0 [])], [(c, .vec e x)], l, c + 1)
  | .own e, x, .nilsl :: l, c => some ([.osl e c x.length], [], [(c, .vec e x)], l, c + 1)
  | .own _, _, _, _ => none
  | .bool, x, _ :: l, c => some ([.d .bool x], [], [], l, c)
  | .int k, x, _ :: l, c => some ([.d (.int k) x], [], [], l, c)
  | .flt k, x, _ :: l, c => some ([.d (.flt k) x], [], [], l, c)
  | .str, x, _ :: l, c => some ([.d .str x], [], [], l, c)
  | .sl e, x, _ :: l, c => some ([.d (.sl e) x], [], [], l, c)
  | _, _, [], _ => none

def putOuts : (ps : List PK) → OsT ps → List AV → View → (c : Nat) → Option (Ents × Ents × Nat)
  | [], _, [], _, c => some ([], [], c)
  | .box k :: ps, x, .one (.ptr id 0) :: as, g, c =>
    match g id with
    | some (.box cells) =>
      match outCells k x.1 cells c with
      | some (u, s, n, [], c') =>
        match putOuts ps x.2 as g c' with
        | some (s', n', c'') => some ((id, .box u) :: s ++ s', n ++ n', c'')
        | none => none
      | _ => none
    | _ => none
  | .box _ :: _, _, _, _, _ => none
  | .val (.own _) :: ps, x, .one (.osl e id _) :: as, g, c =>
    match putOuts ps x as g c with
    | some (s, n, c') => some ((id, .frz e 0 []) :: s, n, c')
    | none => none
  | .val _ :: ps, x, _ :: as, g, c => putOuts ps x as g c
  | .st _ :: ps, x, _ :: as, g, c => putOuts ps x as g c
  | .ro _ :: ps, x, _ :: as, g, c => putOuts ps x as g c
  | .fnp _ _ :: ps, x, _ :: as, g, c => putOuts ps x as g c
  | _, _, _, _, _ => none

def newRes : (r : RK) → r.T → (c : Nat) → (Bool × List AV1) × Ents × Nat
  | .one k, x, c => let r := newCells k x c; ((false, r.1), r.2.1, r.2.2)
  | .st k, x, c => let r := newCells k x c; ((true, r.1), r.2.1, r.2.2)
  | .nb k, x, c => let r := newCells k x (c + 1); ((false, [.ptr c 0]), (c, .box r.1) :: r.2.1, r.2.2)

def newRess : (rs : List RK) → RsT rs → (c : Nat) → List (Bool × List AV1) × Ents
  | [], _, _ => ([], [])
  | r :: rs, x, c =>
    let a := newRes r x.1 c
    let b := newRess rs x.2 a.2.2
    (a.1 :: b.1, a.2.1 ++ b.2)

def avOf : Bool × List AV1 → AV
  | (true, l) => .agg l
  | (false, [a]) => .one a
  | _ => .one .any

def avOfRes : List (Bool × List AV1) → AV
  | [r] => avOf r
  | l => .tup l

/-- Blocks that a call only reads. -/
def roIds : (ps : List PK) → List AV → List Nat
  | .ro _ :: ps, .one (.ptr id _) :: as => id :: roIds ps as
  | .fnp _ _ :: ps, .one (.clo _ caps) :: as => caps ++ roIds ps as
  | _ :: ps, _ :: as => roIds ps as
  | _, _ => []

/-- The blocks that a datum's owned parts lie in. -/
def ownIds : Kd → List AV1 → List Nat × List AV1
  | .unit, l => ([], l)
  | .pair a b, l => let x := ownIds a l; let y := ownIds b x.2; (x.1 ++ y.1, y.2)
  | .own _, .osl _ id _ :: l => ([id], l)
  | _, _ :: l => ([], l)
  | _, [] => ([], [])

structure Out where
  ps : List Prop
  av : AV
  sets : Ents
  news : Ents

def ok (av : AV) : Option Out := some ⟨[], av, [], []⟩
def okp (ps : List Prop) (av : AV) : Option Out := some ⟨ps, av, [], []⟩
def dv (k : Kd) (x : k.T) : AV := .one (.d k x)

def callSpec (E : Env) (fs : FSpec) (as : List AV) (g : View) (c : Nat) : Option Out :=
  match getArgs E fs.ps as g with
  | some (qs, args) =>
    let r := fs.fn args
    match putOuts fs.ps r.2 as g c with
    | some (s, n, c') =>
      let rr := newRess fs.rs r.1 c'
      if disj (roIds fs.ps as) (s.map (·.1)) then some ⟨qs ++ fs.pre args, avOfRes rr.1, s, n ++ rr.2⟩ else none
    | none => none
  | none => none

def fieldOf (T : Types) (t : TypeId) (f : Nat) : Option (Nat × TypeId) :=
  match T t with
  | some ti => match ti.td with | .struct fs => fs[f]? | _ => none
  | none => none

/-- A piece of an aggregate: of type t, from a cell on. -/
def pieceOf (ti : TyI) (l : List AV1) (off : Nat) : Option AV :=
  if ti.td.agg then (if off + ti.size ≤ l.length then some (.agg ((l.drop off).take ti.size)) else none) else (l[off]?).map .one

def putCells (l : List AV1) (off : Nat) : List AV1 → List AV1
  | [] => l
  | a :: r => putCells (l.set off a) (off + 1) r

def avCells : AV → Option (List AV1)
  | .one .any => none
  | .one a => some [a]
  | .agg l => some l
  | .tup _ => none

def fillParts (sz : Nat → Option (Nat × Nat)) (l : List AV1) : List (Nat × AV) → Option (List AV1)
  | [] => some l
  | (i, v) :: r =>
    match sz i, avCells v with
    | some (off, size), some cs => if cs.length = size ∧ off + cs.length ≤ l.length then fillParts sz (putCells l off cs) r else none
    | _, _ => none

def fieldPlaces (T : Types) (fs : List (Nat × TypeId)) (i : Nat) : Option (Nat × Nat) :=
  match fs[i]? with
  | some (off, t) => (T t).map fun ti => (off, ti.size)
  | none => none

def elemsOfArr (e : Kd) (xs : List e.T) : (n i : Nat) → List AV1
  | 0, _ => []
  | n + 1, i => toCells e (xs.getD i e.dflt) ++ elemsOfArr e xs n (i + 1)

/-- How a new variable of a type is told. -/
def newEnt (ti : TyI) (T : Types) (cells : List AV1) : Option (List Prop × Ent) :=
  match ti.td with
  | .array n et =>
    match T et with
    | some te => match ofElems te.kd (fun _ => none) n cells with
      | some (ps, xs) => some (ps, .arr te.kd n xs)
      | none => none
    | none => none
  | _ => some ([], .box cells)

def loadAV (ti : TyI) (a : AV1) (g : View) : Option (List Prop × AV) :=
  match a with
  | .ptr id off =>
    match g id with
    | some (.box cells) => (pieceOf ti cells off).map fun v => ([], v)
    | some (.arr e n xs) => if off = 0 ∧ ti.td.agg ∧ ti.size = n * e.sz then some ([], .agg (elemsOfArr e xs n 0)) else none
    | _ => none
  | .eptr id i off =>
    match g id with
    | some (.arr e n xs) => (pieceOf ti (toCells e (xs.getD i e.dflt)) off).map fun v => ([i < n], v)
    | _ => none
  | .cptr k x => (pieceOf ti (toCells k x) 0).map fun v => ([], v)
  | _ => none

def storeAV (a : AV1) (v : AV) (g : View) : Option (List Prop × Nat × Ent) :=
  match avCells v with
  | some cs =>
    match a with
    | .ptr id off =>
      match g id with
      | some (.box cells) => if off + cs.length ≤ cells.length then some ([], id, .box (putCells cells off cs)) else none
      | some (.arr e n _) =>
        if off = 0 then match ofElems e g n cs with
          | some (ps, ys) => some (ps, id, .arr e n ys)
          | none => none
        else none
      | _ => none
    | .eptr id i off =>
      match g id with
      | some (.arr e n xs) =>
        let old := toCells e (xs.getD i e.dflt)
        if off + cs.length ≤ old.length then
          match ofCellsAll e (putCells old off cs) g with
          | some (ps, y) => some (ps ++ [i < n], id, .arr e n (xs.set i y))
          | none => none
        else none
      | _ => none
    | _ => none
  | none => none

/-- A byte of a string. -/
def bt (s : ByteArray) (i : Int) : Int := ((s.data[i.toNat]?).getD 0).toNat
def strOf (l : List Int) : ByteArray := ⟨(l.map fun n => UInt8.ofNat n.toNat).toArray⟩
def seq' (x y : ByteArray) : Bool := x.toList == y.toList
def slt' (x y : ByteArray) : Bool := Op.bytesLess x.toList y.toList

def binAV (T : Types) (t : TypeId) (op : BinOp) (a b : AV1) : Option Out :=
  match a, b with
  | .d (.int k) x, .d (.int k') y =>
    match op with
    | .shl => okp [0 ≤ y] (dv (.int k) (ishl k x y))
    | .shr => okp [0 ≤ y] (dv (.int k) (ishr k x y))
    | _ =>
      if k = k' then
        match op with
        | .add => ok (dv (.int k) (k.wrap (x + y)))
        | .sub => ok (dv (.int k) (k.wrap (x - y)))
        | .mul => ok (dv (.int k) (k.wrap (x * y)))
        | .quo => okp [y ≠ 0] (dv (.int k) (k.wrap (x.tdiv y)))
        | .rem => okp [y ≠ 0] (dv (.int k) (x.tmod y))
        | .and => ok (dv (.int k) (ibits .and k x y))
        | .or => ok (dv (.int k) (ibits .or k x y))
        | .xor => ok (dv (.int k) (ibits .xor k x y))
        | .andNot => ok (dv (.int k) (ibits .andNot k x y))
        | .eql => ok (dv .bool (decide (x = y)))
        | .neq => ok (dv .bool (!decide (x = y)))
        | .lss => ok (dv .bool (decide (x < y)))
        | .leq => ok (dv .bool (decide (x ≤ y)))
        | .gtr => ok (dv .bool (decide (y < x)))
        | .geq => ok (dv .bool (decide (y ≤ x)))
        | _ => none
      else none
  | .d (.flt k) x, .d (.flt k') y =>
    if k = k' then
      match op with
      | .add => ok (dv (.flt k) (fop .add k x y))
      | .sub => ok (dv (.flt k) (fop .sub k x y))
      | .mul => ok (dv (.flt k) (fop .mul k x y))
      | .quo => ok (dv (.flt k) (fop .quo k x y))
      | .eql => ok (dv .bool (feq k x y))
      | .neq => ok (dv .bool (!feq k x y))
      | .lss => ok (dv .bool (flss k x y))
      | .leq => ok (dv .bool (fleq k x y))
      | .gtr => ok (dv .bool (flss k y x))
      | .geq => ok (dv .bool (fleq k y x))
      | _ => none
    else none
  | .d .bool x, .d .bool y =>
    match T t with
    | some ti =>
      if ti.td = .bool then
        match op with
        | .eql => ok (dv .bool (x == y))
        | .neq => ok (dv .bool (!(x == y)))
        | _ => none
      else none
    | none => none
  | .d .str x, .d .str y =>
    match op with
    | .add => okp [x.size + y.size ≤ 9223372036854775807] (dv .str (x ++ y))
    | .eql => ok (dv .bool (seq' x y))
    | .neq => ok (dv .bool (!seq' x y))
    | .lss => ok (dv .bool (slt' x y))
    | .leq => ok (dv .bool (slt' x y || seq' x y))
    | .gtr => ok (dv .bool (!(slt' x y || seq' x y)))
    | .geq => ok (dv .bool (!slt' x y))
    | _ => none
  | _, _ => none

def unAV (op : UnOp) (a : AV1) : Option Out :=
  match op, a with
  | .neg, .d (.int k) x => ok (dv (.int k) (k.wrap (0 - x)))
  | .neg, .d (.flt k) x => ok (dv (.flt k) (fneg k x))
  | .not, .d .bool x => ok (dv .bool (!x))
  | _, _ => none

def convAV (T : Types) (src dst : TypeId) (a : AV1) (g : View) : Option Out :=
  match T src, T dst with
  | some ts, some td =>
    match td.td, a with
    | .int k, .d (.int _) x => ok (dv (.int k) (k.wrap x))
    | .flt k, .d (.int _) x => ok (dv (.flt k) (k.nearest x))
    | .int k, .d (.flt s) x => okp [ftoiOk s k x] (dv (.int k) (ftoi s k x))
    | .flt k, .d (.flt s) x => if s = k then ok (dv (.flt k) x) else okp [fcvOk s k x] (dv (.flt k) (fcv s k x))
    | .str, .d .str x => ok (dv .str x)
    | .str, a =>
      match ts.td with
      | .slice et =>
        match T et with
        | some te =>
          if te.td = .int .u8 then
            match slOf (.int .u8) a g with
            | some (ps, xs) => okp ps (dv .str (strOf xs))
            | none => none
          else none
        | none => none
      | _ => none
    | _, _ => none
  | _, _ => none

def lenOf (a : AV1) (g : View) : Option Int :=
  match a with
  | .d .str s => some s.size
  | .d (.sl _) xs => some xs.length
  | .osl _ _ n => some n
  | .nilsl => some 0
  | .msl id => match g id with | some (.arr _ n _) => some n | _ => none
  | .msb _ _ n => some n
  | _ => none

/-- A slice of a slice, read as data. -/
def cutAV (T : Types) (t : TypeId) (a : AV1) (lo hi : Option Int) (g : View) : Option Out :=
  match T t with
  | some ti =>
    match ti.td with
    | .str =>
      match a with
      | .d .str s =>
        let l := lo.getD 0
        let h := hi.getD s.size
        okp [0 ≤ l, l ≤ h, h ≤ s.size] (dv .str (s.extract l.toNat h.toNat))
      | _ => none
    | .array n' et =>
      match a, lo, hi, T et with
      | .ptr id 0, none, none, some _ =>
        match g id with
        | some (.arr _ n _) => if n' = n then ok (.one (.msl id)) else none
        | _ => none
      | _, _, _, _ => none
    | .slice et =>
      match T et with
      | some te =>
        match a with
        | .msl id =>
          match g id with
          | some (.arr e n _) =>
            let l := lo.getD 0
            let h := hi.getD n
            if te.size = e.sz then okp [0 ≤ l, l ≤ h, h ≤ n] (.one (.msb id l.toNat (h.toNat - l.toNat))) else none
          | _ => none
        | a =>
        match slOf te.kd a g with
        | some (ps, xs) =>
          let l := lo.getD 0
          let h := hi.getD xs.length
          okp (ps ++ [0 ≤ l, l ≤ h, h ≤ xs.length]) (dv (.sl te.kd) ((xs.take h.toNat).drop l.toNat))
        | none => none
      | none => none
    | _ => none
  | none => none

def indexAddrAV (T : Types) (t : TypeId) (a : AV1) (i : Int) (g : View) : Option Out :=
  match T t with
  | some ti =>
    match ti.td with
    | .array n' et =>
      match T et, a with
      | some te, .ptr id 0 =>
        match g id with
        | some (.arr e n _) => if n' = n ∧ te.size = e.sz then okp [0 ≤ i, i < n] (.one (.eptr id i.toNat 0)) else none
        | _ => none
      | _, _ => none
    | .slice et =>
      match T et with
      | some te =>
        match a with
        | .msl id =>
          match g id with
          | some (.arr e n _) => if te.size = e.sz then okp [0 ≤ i, i < n] (.one (.eptr id i.toNat 0)) else none
          | _ => none
        | a =>
          match slOf te.kd a g with
          | some (ps, xs) => okp (ps ++ [0 ≤ i, i < xs.length]) (.one (.cptr te.kd (xs.getD i.toNat te.kd.dflt)))
          | none => none
      | none => none
    | _ => none
  | none => none

def fieldAddrAV (a : AV1) (off size : Nat) : Option Out :=
  if size = 0 then none else
  match a with
  | .ptr id o => ok (.one (.ptr id (o + off)))
  | .eptr id i o => ok (.one (.eptr id i (o + off)))
  | .cptr k x => match dropCells k x off with | some r => ok (.one (.cptr r.1 r.2)) | none => none
  | _ => none

def appendAV (te : TyI) (a b : AV1) (g : View) (c : Nat) : Option Out :=
  if te.bytes = 0 ∨ 100 < te.bytes then none else
  match slOf te.kd b g with
  | some (qs, ys) =>
    match a with
    | .osl e id n =>
      match g id with
      | some (.vec e' xs) =>
        match Kd.cast (.sl e') (.sl te.kd) xs with
        | some xs => if e = te.kd then some ⟨qs ++ [n = xs.length, xs.length + ys.length ≤ 1099511627776], .one (.osl te.kd id (xs ++ ys).length), [(id, .vec te.kd (xs ++ ys))], []⟩ else none
        | none => none
      | _ => none
    | .nilsl => some ⟨qs ++ [ys.length ≤ 1099511627776], .one (.osl te.kd c ys.length), [], [(c, .vec te.kd ys)]⟩
    | _ => none
  | none => none

def elemTy (T : Types) (t : TypeId) : Option TyI :=
  match T t with
  | some ti => match ti.td with | .slice et => T et | _ => none
  | none => none

/- lending: what only reads an array may be handed its elements as data -/
def fz1 (ids : List Nat) (g : View) : AV1 → AV1
  | .msl id => if memN id ids then (match g id with | some (.arr e _ xs) => .d (.sl e) xs | _ => .any) else .msl id
  | .msb id lo n => if memN id ids then (match g id with | some (.arr e _ xs) => .d (.sl e) ((xs.drop lo).take n) | _ => .any) else .msb id lo n
  | .ptr id o => if memN id ids then .any else .ptr id o
  | .eptr id i o => if memN id ids then .any else .eptr id i o
  | .clo f caps => if disj caps ids then .clo f caps else .any
  | a => a

def fzAV (ids : List Nat) (g : View) : AV → AV
  | .one a => .one (fz1 ids g a)
  | .agg l => .agg (l.map (fz1 ids g))
  | .tup _ => .one .any

def fzEnt (ids : List Nat) (g : View) : Ent → Ent
  | .box l => .box (l.map (fz1 ids g))
  | e => e

def fzView (ids : List Nat) (g : View) : View := fun id => if memN id ids then none else (g id).map (fzEnt ids g)

def msIds1 (g : View) : AV1 → List Nat
  | .msl id => [id]
  | .msb id _ _ => [id]
  | .ptr id _ => match g id with
    | some (.box l) => l.flatMap fun | .msl i => [i] | .msb i _ _ => [i] | _ => []
    | _ => []
  | .clo _ caps => caps.flatMap fun id => match g id with
    | some (.box l) => l.flatMap fun | .msl i => [i] | .msb i _ _ => [i] | _ => []
    | _ => []
  | _ => []

def lentIds (g : View) (as : List AV) : List Nat := as.flatMap fun
  | .one a => msIds1 g a
  | .agg l => l.flatMap (msIds1 g)
  | .tup _ => []

def Kd.flat : Kd → Bool
  | .sl _ => false
  | .own _ => false
  | .pair a b => a.flat && b.flat
  | _ => true

def RK.flat : RK → Bool
  | .one k => k.flat
  | .st k => k.flat
  | .nb k => k.flat

def PK.flat : PK → Bool
  | .box k => k.flat
  | .val (.own _) => false
  | _ => true

def isArr (g : View) (id : Nat) : Bool := match g id with
  | some (.arr _ _ _) => true
  | _ => false

def dedupN : List Nat → List Nat
  | [] => []
  | i :: l => if memN i l then dedupN l else i :: dedupN l

def giveOut (ids : List Nat) (o : Out) : Out := { o with sets := o.sets ++ (dedupN ids).map fun id => (id, .frz .unit 1 []) }

def callLend (E : Env) (fs : FSpec) (as : List AV) (g : View) (c : Nat) : Option Out :=
  match lentIds g as with
  | [] => callSpec E fs as g c
  | ids => if fs.ps.all PK.flat && (fs.rs.all RK.flat && ids.all (isArr g)) then callSpec E fs (as.map (fzAV ids g)) (fzView ids g) c
    else if ids.all (isArr g) then (callSpec E fs (as.map (fzAV ids g)) (fzView ids g) c).map (giveOut ids) else none

def callAV (E : Env) (f : AV1) (as : List AV) (g : View) (c : Nat) : Option Out :=
  match f with
  | .clo f caps => match E f with
    | some fs => callLend E fs (as ++ capAVs caps) g c
    | none => none
  | .fnv a r p => match as with
    | [.one x] => match ofCellsAll a [x] g with
      | some (ps, y) => if r.one && x.told then okp ps (dv r (p y)) else none
      | none => none
    | _ => none
  | _ => none

def coreId : List AV → Option Out
  | [a] => ok a
  | _ => none

def corePick : List AV → Option Out
  | [.one (.d .bool b), x, y] => match b with
    | true => ok x
    | false => ok y
  | _ => none

def coreAlloc (T : Types) (t : TypeId) (c : Nat) : List AV → Option Out
  | [] =>
    match T t with
    | some ti => match newEnt ti T ti.zero with
      | some (ps, e) => some ⟨ps, .one (.ptr c 0), [], [(c, e)]⟩
      | none => none
    | none => none
  | _ => none

def coreBox (T : Types) (t : TypeId) (c : Nat) : List AV → Option Out
  | [v] =>
    match T t, avCells v with
    | some ti, some cs => if cs.length = ti.size then (match newEnt ti T cs with
      | some (ps, e) => some ⟨ps, .one (.ptr c 0), [], [(c, e)]⟩
      | none => none) else none
    | _, _ => none
  | _ => none

def coreBuild (T : Types) (t : TypeId) (is : List Nat) (vs : List AV) : Option Out :=
  match T t with
  | some ti =>
    match ti.td with
    | .struct fs => if fs.all fun f => (T f.2).isSome then
      (match fillParts (fieldPlaces T fs) ti.zero (is.zip vs) with
        | some l => ok (.agg l)
        | none => none) else none
    | .array _ et => match T et with
      | some te => (match fillParts (fun i => some (i * te.size, te.size)) ti.zero (is.zip vs) with
        | some l => ok (.agg l)
        | none => none)
      | none => none
    | _ => none
  | none => none

def coreBuildSlice (T : Types) (t : TypeId) (len : Nat) (is : List Nat) (vs : List AV) (g : View) : Option Out :=
  match elemTy T t with
  | some te =>
    if len = 0 then
      match vs with
      | [] => ok (.one .nilsl)
      | _ => none
    else
      if 1000 < len * te.size then none else
      match fillParts (fun i => some (i * te.size, te.size)) ((List.replicate len te.zero).flatten) (is.zip vs) with
      | some l => match ofElems te.kd g len l with
        | some (ps, xs) => okp ps (dv (.sl te.kd) xs)
        | none => none
      | none => none
  | none => none

def coreLoad (T : Types) (t : TypeId) (g : View) : List AV → Option Out
  | [.one a] =>
    match T t with
    | some ti => match loadAV ti a g with
      | some (ps, v) => okp ps v
      | none => none
    | none => none
  | _ => none

def coreStore (T : Types) (t : TypeId) (g : View) : List AV → Option Out
  | [.one a, v] =>
    match T t, avCells v with
    | some ti, some cs => if cs.length = ti.size then (match storeAV a v g with
      | some (ps, id, e) => some ⟨ps, .one .any, [(id, e)], []⟩
      | none => none) else none
    | _, _ => none
  | _ => none

def coreNil : List AV → Option Out
  | [.one a] =>
    match a with
    | .ptr .. => ok (.one a)
    | .eptr .. => ok (.one a)
    | .cptr .. => ok (.one a)
    | _ => none
  | _ => none

def coreBin (T : Types) (t : TypeId) (op : BinOp) : List AV → Option Out
  | [.one a, .one b] => binAV T t op a b
  | _ => none

def coreUn (op : UnOp) : List AV → Option Out
  | [.one a] => unAV op a
  | _ => none

def coreConv (T : Types) (s d : TypeId) (g : View) : List AV → Option Out
  | [.one a] => convAV T s d a g
  | _ => none

def coreFieldAddr (T : Types) (s : TypeId) (f : Nat) : List AV → Option Out
  | [.one a] =>
    match fieldOf T s f with
    | some (off, ft) => match T ft with
      | some ti => fieldAddrAV a off ti.size
      | none => none
    | none => none
  | _ => none

def coreField (T : Types) (s : TypeId) (f : Nat) : List AV → Option Out
  | [.agg l] =>
    match fieldOf T s f with
    | some (off, ft) => match T ft with
      | some ti => (pieceOf ti l off).bind ok
      | none => none
    | none => none
  | _ => none

def coreIndexAddr (T : Types) (t : TypeId) (g : View) : List AV → Option Out
  | [.one a, .one (.d (.int _) i)] => indexAddrAV T t a i g
  | _ => none

def coreIndex (T : Types) (t : TypeId) : List AV → Option Out
  | [.one (.d .str s), .one (.d (.int _) i)] =>
    match T t with
    | some ti => if ti.td = .str then okp [0 ≤ i, i < s.size] (dv (.int .u8) (bt s i)) else none
    | none => none
  | _ => none

def intOf : AV → Option Int
  | .one (.d (.int _) n) => some n
  | _ => none

def boundsOf : Bool → Bool → List AV → Option (Option Int × Option Int)
  | false, false, [] => some (none, none)
  | true, false, [x] => (intOf x).map fun n => (some n, none)
  | false, true, [x] => (intOf x).map fun n => (none, some n)
  | true, true, [x, y] => match intOf x, intOf y with
    | some l, some h => some (some l, some h)
    | _, _ => none
  | _, _, _ => none

def coreSlice (T : Types) (t : TypeId) (lo hi mx : Bool) (g : View) (vs : List AV) : Option Out :=
  if mx then none else
  match vs with
  | .one a :: r => match boundsOf lo hi r with
    | some (l, h) => cutAV T t a l h g
    | none => none
  | _ => none

def coreMakeSlice (T : Types) (t : TypeId) (c : Nat) : List AV → Option Out
  | [.one (.d (.int _) n), .one (.d (.int _) m)] =>
    match elemTy T t with
    | some te => if te.bytes = 0 ∨ 100 < te.bytes then none else
      match ofCellsAll te.kd te.zero (fun _ => none) with
      | some (ps, z) => some ⟨ps ++ [n = m, 0 ≤ n, n ≤ 1099511627776], .one (.msl c), [], [(c, .arr te.kd n.toNat (List.replicate n.toNat z))]⟩
      | none => none
    | none => none
  | _ => none

def ptrIds : List AV → Option (List Nat)
  | [] => some []
  | .one (.ptr id 0) :: r => (ptrIds r).map fun l => id :: l
  | _ => none

def coreMakeFunc (fn : Fn) (first : Nat) (vs : List AV) : Option Out :=
  match fn with
  | .func f => if first = 0 then (ptrIds vs).bind fun ids => ok (.one (.clo f ids)) else none
  | _ => none

def coreExtract (i : Nat) : List AV → Option Out
  | [.tup l] => (l[i]?).bind fun r => ok (avOf r)
  | _ => none

def coreLen (T : Types) (ts : Array TypeId) (g : View) : List AV → Option Out
  | [.one a] => match (ts[0]?).bind T with
    | some ti => (match ti.td with
      | .str => (match a with
        | .d .str s => ok (dv (.int .i64) (s.size : Int))
        | _ => none)
      | .slice _ => (match a with
        | .d .str _ => none
        | _ => (lenOf a g).bind fun n => ok (dv (.int .i64) n))
      | _ => none)
    | none => none
  | _ => none

def coreAppend (T : Types) (ts : Array TypeId) (g : View) (c : Nat) : List AV → Option Out
  | [.one a, .one b] => match (ts[0]?).bind (elemTy T), (ts[0]?).bind T, (ts[1]?).bind T with
    | some te, some td, some tx => (match td.td, tx.td with
      | .slice _, .slice _ => appendAV te a b g c
      | _, _ => none)
    | _, _, _ => none
  | _ => none

def coreMin : List AV → Option Out
  | [.one (.d (.int k) x), .one (.d (.int k') y)] => if k = k' then ok (dv (.int k) (if y < x then y else x)) else none
  | _ => none

def coreMax : List AV → Option Out
  | [.one (.d (.int k) x), .one (.d (.int k') y)] => if k = k' then ok (dv (.int k) (if y > x then y else x)) else none
  | _ => none

def coreCall (E : Env) (g : View) (c : Nat) : List AV → Option Out
  | .one f :: as => callAV E f as g c
  | _ => none

def isNilC : Operand → Bool
  | .const (.slice none 0 0) => true
  | _ => false

/-- Is a slice nil? Told only so much: a nil slice is empty. -/
def coreNilQ : List AV → Option Out
  | [.one a, _] => match a with
    | .d (.sl _) xs => ok (.one (.pb (xs = [])))
    | .nilsl => ok (.one (.pb True))
    | _ => none
  | _ => none

def coreBinN (T : Types) (t : TypeId) (op : BinOp) (nilc : Bool) (vs : List AV) : Option Out :=
  match nilc, op with
  | true, .eql => match elemTy T t with
    | some _ => coreNilQ vs
    | none => coreBin T t op vs
  | _, _ => coreBin T t op vs

def core (T : Types) (E : Env) (op : Op) (vs : List AV) (g : View) (c : Nat) : Option Out :=
  match op with
  | .move _ => coreId vs
  | .assign _ => coreId vs
  | .pick .. => corePick vs
  | .alloc t => coreAlloc T t c vs
  | .box t _ => coreBox T t c vs
  | .build t parts => coreBuild T t (parts.toList.map (·.1)) vs
  | .buildSlice t len parts => coreBuildSlice T t len (parts.toList.map (·.1)) vs g
  | .load t _ => coreLoad T t g vs
  | .store t _ _ => coreStore T t g vs
  | .nilCheck _ => coreNil vs
  | .binOp op t _ y _ => coreBinN T t op (isNilC y) vs
  | .unOp op _ _ => coreUn op vs
  | .convert s d _ => coreConv T s d g vs
  | .fieldAddr s _ f => coreFieldAddr T s f vs
  | .field s _ f => coreField T s f vs
  | .indexAddr t _ _ => coreIndexAddr T t g vs
  | .index t _ _ => coreIndex T t vs
  | .slice t _ lo hi mx => coreSlice T t lo.isSome hi.isSome mx.isSome g vs
  | .makeSlice t _ _ => coreMakeSlice T t c vs
  | .makeFunc fn first _ => coreMakeFunc fn first.size vs
  | .extract _ i => coreExtract i vs
  | .call cl =>
    match cl.callee with
    | .builtin .len => coreLen T cl.argTypes g vs
    | .builtin .append => coreAppend T cl.argTypes g c vs
    | .builtin .min => coreMin vs
    | .builtin .max => coreMax vs
    | .value _ => coreCall E g c vs
    | _ => none
  | _ => none

end Go.Proofs.Ytmlolnaannoifaa

/- Running code over told slots and told memory: the statement that is to be shown, for a region, for code, for a function. -/
namespace Go.Proofs.Ytmlolnaannoifaa

structure St where
  t : List (Nat × AV)
  h : Ents

def opAV (t : Nat → Option AV) : Operand → AV
  | .tmp i => (t i).getD (.one .any)
  | .const v => avOfConst v
  | .func f => .one (.clo f [])
  | .global _ => .one .any

def opers : Op → List Operand
  | .alloc _ => []
  | .move x => [x]
  | .assign x => [x]
  | .box _ x => [x]
  | .load _ x => [x]
  | .nilCheck x => [x]
  | .unOp _ _ x => [x]
  | .convert _ _ x => [x]
  | .fieldAddr _ x _ => [x]
  | .field _ x _ => [x]
  | .extract x _ => [x]
  | .pick c a b => [c, a, b]
  | .build _ ps => ps.toList.map (·.2)
  | .buildSlice _ _ ps => ps.toList.map (·.2)
  | .store _ a v => [a, v]
  | .binOp _ _ a v _ => [a, v]
  | .makeSlice _ a v => [a, v]
  | .indexAddr _ a v => [a, v]
  | .index _ a v => [a, v]
  | .makeFunc _ first captured => first.toList ++ captured.toList
  | .slice _ x l h _ => x :: (l.toList ++ h.toList)
  | .call cl => match cl.callee with
    | .value f => f :: cl.args.toList
    | .builtin _ => cl.args.toList
    | .invoke .. => []
  | _ => []

def idsOf1 : AV1 → List Nat
  | .osl _ id _ => [id]
  | .ptr id _ => [id]
  | .eptr id _ _ => [id]
  | .msl id => [id]
  | .msb id _ _ => [id]
  | .clo _ caps => caps
  | _ => []

def idsOf : AV → List Nat
  | .one a => idsOf1 a
  | .agg l => l.flatMap idsOf1
  | .tup l => l.flatMap fun r => r.2.flatMap idsOf1

def idsEnt : Ent → List Nat
  | .box cells => cells.flatMap idsOf1
  | _ => []

def fpOf (vs : List AV) (h : View) : List Nat :=
  let l := vs.flatMap idsOf
  l ++ l.flatMap fun id => match h id with
    | some e => idsEnt e
    | none => []

def viewOf (fp : List Nat) (h : View) : View := fun id => if memN id fp then h id else none

def cOf (o : Oper) : Nat := 65536 + 16 * (match o.dst with | some d => d + 1 | none => 0)

/-- One operation, read off its operands and the blocks that these lead to. -/
def evOp (T : Types) (E : Env) (t : Nat → Option AV) (h : View) (o : Oper) : Option Out :=
  let vs := (opers o.op).map (opAV t)
  core T E o.op vs (viewOf (fpOf vs h) h) (cOf o)

structure Info where
  i : Nat
  slots : List Nat
  dst : Option Nat
  fp : List Nat
  sets : List Nat
  news : List Nat

def tmpsOf (l : List Operand) : List Nat := l.filterMap fun | .tmp t => some t | _ => none

def guardSlot (ops : List Oper) (o : Oper) : List Nat :=
  match o.guard with
  | some (j, _) => ((ops[j]?).bind (·.dst)).toList
  | none => []

def infoOf (ops : List Oper) (t : Nat → Option AV) (h : View) (i : Nat) (o : Oper) (out : Out) : Info :=
  ⟨i, guardSlot ops o ++ tmpsOf (opers o.op), o.dst, fpOf ((opers o.op).map (opAV t)) h, out.sets.map (·.1), out.news.map (·.1)⟩

def conj : List Prop → Prop → Prop
  | [], q => q
  | p :: l, q => p ∧ conj l q

def putT (t : List (Nat × AV)) (d : Option Nat) (v : AV) : List (Nat × AV) :=
  match d with
  | some i => set1 t i v
  | none => t

/-- Where a later operation of the region is guarded by this one, its outcome is told apart. -/
def split2 (v : AV) (K : AV → Prop) : Prop :=
  match v with
  | .one (.d .bool b) => if b = true then K (.one (.d .bool true)) else K (.one (.d .bool false))
  | _ => False

def freshAll (h : Ents) (sets news : Ents) : Bool := (news.all fun p => (get1 h p.1).isNone && Nat.ble 65536 p.1) && sets.all fun p => (get1 h p.1).isSome

def nodupN : List Nat → Bool
  | [] => true
  | i :: l => !memN i l && nodupN l

/-- Is the operation wanted? (none: it has no guard, or one that is not told.) -/
def wantedAV (ops : List Oper) (t : Nat → Option AV) (o : Oper) : Option Bool :=
  match o.guard with
  | none => some true
  | some (j, want) =>
    match (ops[j]?).bind (·.dst) with
    | some d => match t d with
      | some (.one (.d .bool b)) => some (b == want)
      | some (.tup []) => some false
      | _ => none
    | none => none

def evRun (T : Types) (E : Env) (n : Nat) (ops : List Oper) (G : List Nat) : List Oper → Nat → List Info → St → (List Info → St → Prop) → Prop
  | [], _, inf, s, K => K inf s
  | o :: r, i, inf, s, K =>
    let t := get1 s.t
    let h := get1 s.h
    if (o.dst.map fun d => Nat.blt d n).getD true then
      match wantedAV ops t o with
      | none => False
      | some wt =>
        match wt with
        | false => evRun T E n ops G r (i + 1) (inf ++ [⟨i, guardSlot ops o, o.dst, [], [], []⟩]) { s with t := putT s.t o.dst (.tup []) } K
        | true =>
          match evOp T E t h o with
          | none => False
          | some out =>
            if freshAll s.h out.sets out.news && nodupN (out.sets.map (·.1) ++ out.news.map (·.1)) then
              conj out.ps
                (let inf' := inf ++ [infoOf ops t h i o out]
                 let s' : AV → St := fun v => ⟨putT s.t o.dst v, setAll s.h (out.sets ++ out.news)⟩
                 if memN i G then split2 out.av fun v => evRun T E n ops G r (i + 1) inf' (s' v) K
                 else evRun T E n ops G r (i + 1) inf' (s' out.av) K)
            else False
    else False

def guardsOf (ops : List Oper) : List Nat := ops.filterMap fun o => o.guard.map (·.1)

/-- What stands ahead of an operation, by the edges that bind. -/
def predsFrom : List Oper → List (List Nat) → List (List Nat)
  | [], acc => acc
  | o :: r, acc => predsFrom r (acc ++ [o.after.toList.flatMap fun e => if Region.binds .any e then e.on :: (acc.getD e.on []) else []])

def Info.indep (x y : Info) : Bool :=
  disj x.dst.toList (y.slots ++ y.dst.toList) && disj y.dst.toList (x.slots ++ x.dst.toList) &&
  disj (x.sets ++ x.news) (y.fp ++ y.sets ++ y.news) && disj (y.sets ++ y.news) (x.fp ++ x.sets ++ x.news)

def indepFrom (preds : List (List Nat)) : List Info → Bool
  | [] => true
  | x :: r => (r.all fun y => memN x.i (preds.getD y.i []) || x.indep y) && indepFrom preds r

/-- Does each edge lead back? -/
def edgesBack : List Oper → Nat → Bool
  | [], _ => true
  | o :: r, i => (o.after.toList.all fun e => !Region.binds .any e || Nat.blt e.on i) && edgesBack r (i + 1)

def evRegion (T : Types) (E : Env) (n : Nat) (ops : List Oper) (draw : Bool) (s : St) (K : St → Prop) : Prop :=
  evRun T E n ops (guardsOf ops) ops 0 [] s fun inf s' =>
    if draw then (if edgesBack ops 0 && indepFrom (predsFrom ops []) inf then K s' else False) else K s'

/- weaker states -/
def avle1 : AV1 → AV1 → Prop
  | _, .any => True
  | .d k x, .d k' y => match Kd.cast k k' x with | some x' => x' = y | none => False
  | .osl e id n, .osl e' id' n' => if e = e' ∧ id = id' then n = n' else False
  | .nilsl, .nilsl => True
  | .ptr id off, .ptr id' off' => if id = id' ∧ off = off' then True else False
  | .eptr id i off, .eptr id' i' off' => if id = id' ∧ off = off' then i = i' else False
  | .cptr k x, .cptr k' y => match Kd.cast k k' x with | some x' => x' = y | none => False
  | .msl id, .msl id' => if id = id' then True else False
  | .clo f caps, .clo f' caps' => if f = f' ∧ caps = caps' then True else False
  | .fnv a r p, .fnv a' r' p' => if h : a = a' ∧ r = r' then (h.2 ▸ h.1 ▸ p) = p' else False
  | .nilp, .nilp => True
  | _, _ => False

def avles1 : List AV1 → List AV1 → Prop → Prop
  | [], [], q => q
  | a :: l, b :: m, q => avle1 a b ∧ avles1 l m q
  | _, _, _ => False

def avle : AV → AV → Prop
  | _, .one .any => True
  | .one a, .one b => avle1 a b
  | .agg l, .agg m => avles1 l m True
  | _, _ => False

def entle : Ent → Ent → Prop
  | .box l, .box m => avles1 l m True
  | .arr e n xs, .arr e' n' ys => match Kd.cast (.sl e) (.sl e') xs with | some xs' => n = n' ∧ xs' = ys | none => False
  | .vec e xs, .vec e' ys => match Kd.cast (.sl e) (.sl e') xs with | some xs' => xs' = ys | none => False
  | .frz _ n _, .frz _ n' _ => if n = n' then True else False
  | _, _ => False

def slotsLe (t : List (Nat × AV)) : List (Nat × AV) → Prop → Prop
  | [], q => q
  | (i, v) :: r, q => avle ((get1 t i).getD (.one .any)) v ∧ slotsLe t r q

def entsLe (h : Ents) : Ents → Prop → Prop
  | [], q => q
  | (id, e) :: r, q => (match get1 h id with | some e' => entle e' e | none => False) ∧ entsLe h r q

def wellS (s : St) : Bool :=
  (s.t.all fun p => (idsOf p.2).all fun id => (get1 s.h id).isSome) &&
  (s.h.all fun p => (idsEnt p.2).all fun id => (get1 s.h id).isSome) &&
  nodupN (s.h.map (·.1)) && nodupN (s.t.map (·.1))

def le (s s0 : St) (q : Prop) : Prop := if wellS s0 then slotsLe s.t s0.t (entsLe s.h s0.h q) else False

/-- An empty slice with no room becomes an owned one, or an owned one gets its name: in a slot, or in a cell of a box. -/
inductive Pro where
  | slot (i : Nat) (e : Kd) (id : Nat)
  | cell (b j : Nat) (e : Kd) (id : Nat)

def ren1 (f : Nat → Option Nat) : AV1 → AV1
  | .osl e id n => match f id with
    | some j => .osl e j n
    | none => .any
  | a => a

def renAV (f : Nat → Option Nat) : AV → AV
  | .one a => .one (ren1 f a)
  | .agg l => .agg (l.map (ren1 f))
  | .tup _ => .one .any

def renEnt (f : Nat → Option Nat) : Ent → Ent
  | .box l => .box (l.map (ren1 f))
  | e => e

def goF (id : Nat) : Nat → Option Nat := fun i => if Nat.beq i id then none else some i
def asF (old new : Nat) : Nat → Option Nat := fun i => if Nat.beq i old then some new else some i

/-- A name that holds nothing any more is let go. -/
def letGo (s : St) (id : Nat) : Option St :=
  match get1 s.h id with
  | none => some s
  | some (.frz _ 0 _) =>
    some ⟨s.t.map fun p => (p.1, renAV (goF id) p.2), (s.h.filter fun p => !Nat.beq p.1 id).map fun p => (p.1, renEnt (goF id) p.2)⟩
  | some (.vec _ _) =>
    some ⟨s.t.map fun p => (p.1, renAV (goF id) p.2), (s.h.filter fun p => !Nat.beq p.1 id).map fun p => (p.1, renEnt (goF id) p.2)⟩
  | _ => none

/-- An owned slice gets another name, which nothing bears. -/
def nameAs (s : St) (old new : Nat) : Option St :=
  match get1 s.h old, get1 s.h new with
  | some (.vec _ _), none =>
    some ⟨s.t.map fun p => (p.1, renAV (asF old new) p.2), s.h.map fun p => (if Nat.beq p.1 old then new else p.1, renEnt (asF old new) p.2)⟩
  | _, _ => none

def promote1 (s : St) : Pro → Option St
  | .slot i e id =>
    match get1 s.t i with
    | some (.one .nilsl) =>
      match letGo s id with
      | some s => if (get1 s.h id).isNone then some ⟨set1 s.t i (.one (.osl e id 0)), set1 s.h id (.vec e [])⟩ else none
      | none => none
    | some (.one (.osl _ old _)) => if Nat.beq old id then some s else
      match letGo s id with
      | some s => nameAs s old id
      | none => none
    | _ => none
  | .cell b j e id =>
    match get1 s.h b with
    | some (.box cells) =>
      match cells[j]? with
      | some .nilsl =>
        match letGo s id with
        | some s => match get1 s.h b, get1 s.h id with
          | some (.box cells), none => match cells[j]? with
            | some .nilsl => some ⟨s.t, set1 (set1 s.h id (.vec e [])) b (.box (cells.set j (.osl e id 0)))⟩
            | _ => none
          | _, _ => none
        | none => none
      | some (.osl _ old _) => if Nat.beq old id then some s else
        match letGo s id with
        | some s => nameAs s old id
        | none => none
      | _ => none
    | _ => none

def promote (s : St) : List Pro → Option St
  | [] => some s
  | p :: r => match promote1 s p with
    | some s' => promote s' r
    | none => none

/-- A loop's head: what varies, and how the state is told of it. -/
structure Ann where
  K : Type
  I : K → St
  pro : List Pro := []

def into (A : Ann) (s : St) (x : A.K) (q : Prop) : Prop :=
  match promote s A.pro with
  | some s' => le s' (A.I x) q
  | none => False

def firstReg : Code → Nat
  | .region id _ _ => id
  | .seq a _ => firstReg a
  | .block _ c => firstReg c
  | .loop c => firstReg c
  | .scope c => firstReg c
  | _ => 0

def evw (T : Types) (E : Env) (n : Nat) (ann : Nat → Option Ann) : Code → (Exit → St → Prop) → St → Prop
  | .skip, Q, s => Q .normal s
  | .label _, Q, s => Q .normal s
  | .region _ ops draw, Q, s => evRegion T E n ops.toList draw s (Q .normal)
  | .seq a b, Q, s => evw T E n ann a (fun e s' => match e with
    | .normal => evw T E n ann b Q s'
    | e => Q e s') s
  | .cond c x y, Q, s =>
    match opAV (get1 s.t) c with
    | .one (.d .bool b) => if b = true then evw T E n ann x Q s else evw T E n ann y Q s
    | .one (.pb p) => (p → evw T E n ann x Q s) ∧ evw T E n ann y Q s
    | _ => False
  | .block id c, Q, s => evw T E n ann c (fun e s' => match e with
    | .exit id' => match Nat.beq id' id with
      | true => Q .normal s'
      | false => Q (.exit id') s'
    | e => Q e s') s
  | .loop c, Q, s =>
    match ann (firstReg c) with
    | some A => ∃ x0 : A.K, into A s x0 (∃ (Inv : A.K → Prop) (μ : A.K → Nat), Inv x0 ∧ ∀ x, Inv x →
        evw T E n ann c (fun e s' => match e with
          | .normal => ∃ x', into A s' x' (Inv x' ∧ μ x' < μ x)
          | e => Q e s') (A.I x))
    | none => False
  | .exit id, Q, s => Q (.exit id) s
  | .ret, Q, s => Q .ret s
  | _, _, _ => False

/- a function -/
def initArg (p : PK) (x : p.T) (i : Nat) : AV × Ents :=
  match p, x with
  | .val k, x => let r := newCells k x (16 * i); (avOf (false, r.1), r.2.1)
  | .st k, x => let r := newCells k x (16 * i); (.agg r.1, r.2.1)
  | .box k, x => let r := newCells k x (16 * i + 1); (.one (.ptr (16 * i) 0), (16 * i, .box r.1) :: r.2.1)
  | .ro k, x => (.one (.cptr k x), [])
  | .fnp a r, x => (.one (.fnv a r x), [])

def initArgs : (ps : List PK) → PsT ps → (i : Nat) → St
  | [], _, _ => ⟨[], []⟩
  | p :: ps, x, i =>
    let a := initArg p x.1 i
    let r := initArgs ps x.2 (i + 1)
    ⟨(i, a.1) :: r.t, a.2 ++ r.h⟩

def retAV (T : Types) (s : St) : ResultVar → Option (List Prop × AV)
  | .tmp t => some ([], (get1 s.t t).getD (.one .any))
  | .cell t ty =>
    match get1 s.t t, T ty with
    | some (.one a), some ti => loadAV ti a (get1 s.h)
    | _, _ => none

def retAVs (T : Types) (s : St) : List ResultVar → Option (List Prop × List AV)
  | [] => some ([], [])
  | r :: rs =>
    match retAV T s r, retAVs T s rs with
    | some (p, v), some (q, vs) => some (p ++ q, v :: vs)
    | _, _ => none

def oneRes (k : Kd) (v : AV) (g : View) : Option (List Prop × k.T × List Nat) :=
  match v with
  | .one a => if a.told then (ofCellsAll k [a] g).map fun x => (x.1, x.2, (ownIds k [a]).1) else none
  | _ => none

def stRes (k : Kd) (v : AV) (g : View) : Option (List Prop × k.T × List Nat) :=
  match v with
  | .agg l => (ofCellsAll k l g).map fun x => (x.1, x.2, (ownIds k l).1)
  | _ => none

def nbRes (k : Kd) (v : AV) (g : View) : Option (List Prop × k.T × List Nat) :=
  match v with
  | .one (.ptr id 0) =>
    match g id with
    | some (.box cells) => (ofCellsAll k cells g).map fun x => (x.1, x.2, id :: (ownIds k cells).1)
    | _ => none
  | _ => none

def readRes (r : RK) (v : AV) (g : View) : Option (List Prop × r.T × List Nat) :=
  match r with
  | .one k => oneRes k v g
  | .st k => stRes k v g
  | .nb k => nbRes k v g

def readRess : (rs : List RK) → List AV → View → Option (List Prop × RsT rs × List Nat)
  | [], [], _ => some ([], (), [])
  | r :: rs, v :: vs, g =>
    match readRes r v g with
    | some (p, x, is) =>
      match readRess rs vs g with
      | some (q, y, js) => some (p ++ q, (x, y), is ++ js)
      | none => none
    | none => none
  | _, _, _ => none

def readOuts : (ps : List PK) → (i : Nat) → View → Option (List Prop × OsT ps × List Nat)
  | [], _, _ => some ([], (), [])
  | .box k :: ps, i, g =>
    match g (16 * i) with
    | some (.box cells) =>
      match ofCellsAll k cells g with
      | some (p, x) =>
        match readOuts ps (i + 1) g with
        | some (q, y, js) => some (p ++ q, (x, y), 16 * i :: (ownIds k cells).1 ++ js)
        | none => none
      | none => none
    | _ => none
  | .val _ :: ps, i, g => readOuts ps (i + 1) g
  | .st _ :: ps, i, g => readOuts ps (i + 1) g
  | .ro _ :: ps, i, g => readOuts ps (i + 1) g
  | .fnp _ _ :: ps, i, g => readOuts ps (i + 1) g

def atEnd (T : Types) (ps : List PK) (rs : List RK) (results : List ResultVar) (Q : RsT rs → OsT ps → Prop) (s : St) : Prop :=
  match retAVs T s results with
  | some (p, vs) =>
    match readRess rs vs (get1 s.h) with
    | some (q, r, is) =>
      match readOuts ps 0 (get1 s.h) with
      | some (q', o, js) => if nodupN (is ++ js) then conj (p ++ q ++ q') (Q r o) else False
      | none => False
    | none => False
  | none => False

/-- What is to be shown of a function's body. -/
def evFun (T : Types) (E : Env) (n : Nat) (ann : Nat → Option Ann) (body : Code) (results : List ResultVar) (ps : List PK) (rs : List RK) (args : PsT ps) (Q : RsT rs → OsT ps → Prop) : Prop :=
  let s0 := initArgs ps args 0
  if nodupN (s0.h.map (·.1)) && Nat.ble ps.length 4096 && Nat.ble ps.length n then
    evw T E n ann body (fun e s => match e with
      | .normal => atEnd T ps rs results Q s
      | .ret => atEnd T ps rs results Q s
      | _ => False) s0
  else False

end Go.Proofs.Ytmlolnaannoifaa

/- Memory: rows of cells loaded and stored; what a told datum means in memory. -/
namespace Go.Proofs.Ytmlolnaannoifaa

theorem Addr.add_add' (a : Addr) (i j : Nat) : (a.add i).add j = a.add (i + j) := by
  unfold Addr.add
  by_cases hi : i = 0 <;> by_cases hj : j = 0 <;> simp [hi, hj, Nat.add_assoc]

theorem Addr.add_block (a : Addr) (i : Nat) : (a.add i).block = a.block := by unfold Addr.add; split <;> rfl

theorem Addr.add_mk (g o i : Nat) : (⟨g, o, none⟩ : Addr).add i = ⟨g, o + i, none⟩ := by
  unfold Addr.add; split
  · simp_all
  · rfl

/-- A world with another block. -/
def setBlk (w : World) (g : Nat) (o : Obj) : World := { w with heap := w.heap.setIfInBounds g o }

theorem setBlk_same {w : World} {g : Nat} {o : Obj} (h : g < w.heap.size) : (setBlk w g o).heap[g]? = some o := by
  simp [setBlk, h]

theorem setBlk_other {w : World} {g k : Nat} {o : Obj} (h : k ≠ g) : (setBlk w g o).heap[k]? = w.heap[k]? := by
  simp [setBlk, Ne.symm h]

theorem setBlk_size {w : World} {g : Nat} {o : Obj} : (setBlk w g o).heap.size = w.heap.size := by simp [setBlk]

theorem setBlk_setBlk {w : World} {g : Nat} {o o' : Obj} : setBlk (setBlk w g o) g o' = setBlk w g o' := by
  simp only [setBlk]
  congr 1
  apply Array.ext'
  simp

theorem lt_of_heap {w : World} {g : Nat} {o : Obj} (h : w.heap[g]? = some o) : g < w.heap.size := by
  rcases Nat.lt_or_ge g w.heap.size with h' | h'
  · exact h'
  · rw [Array.getElem?_eq_none h'] at h; cases h

theorem setCell_blk {w : World} {g o : Nat} {cs : Array Value} {ty : TypeId} {fz : Nat × Nat} {v : Value} (h : w.heap[g]? = some (.cells cs ty fz)) :
    w.setCell ⟨g, o, none⟩ v = setBlk w g (.cells (cs.setIfInBounds o v) ty fz) := by
  simp only [World.setCell, setBlk]
  congr 1
  apply Array.ext
  · simp
  · intro i h1 h2
    rw [Array.getElem_modify]
    by_cases e : g = i
    · subst e
      have : w.heap[g]'(by simpa using h1) = .cells cs ty fz := by
        have := h; rw [Array.getElem?_eq_getElem (by simpa using h1)] at this; exact Option.some.inj this
      simp [this]
    · rw [if_neg e, Array.getElem_setIfInBounds_ne (by simpa using h1) e]

theorem cell_blk {w : World} {g o : Nat} {cs : Array Value} {ty : TypeId} {fz : Nat × Nat} (h : w.heap[g]? = some (.cells cs ty fz)) :
    w.cell? ⟨g, o, none⟩ = cs[o]? := by simp [World.cell?, h]

theorem cell_of_heap {w w' : World} {a : Addr} (h : w'.heap[a.block]? = w.heap[a.block]?) : w'.cell? a = w.cell? a := by
  simp [World.cell?, h]

/-- Is it the value of one cell? -/
def oneC : Value → Bool
  | .agg _ => false
  | .tuple _ => false
  | _ => true

/-- Cells written one behind the other. -/
def putA : Array Value → Nat → List Value → Array Value
  | cs, _, [] => cs
  | cs, o, v :: r => putA (cs.setIfInBounds o v) (o + 1) r

theorem putA_size : ∀ (l : List Value) (cs : Array Value) (o : Nat), (putA cs o l).size = cs.size
  | [], _, _ => rfl
  | v :: r, cs, o => by simp [putA, putA_size r]

theorem putA_get : ∀ (l : List Value) (cs : Array Value) (o i : Nat), o + l.length ≤ cs.size →
    (putA cs o l)[i]? = if o ≤ i ∧ i < o + l.length then l[i - o]? else cs[i]?
  | [], cs, o, i, _ => by
    simp only [putA, List.length_nil, Nat.add_zero]
    rw [if_neg (by omega)]
  | v :: r, cs, o, i, h => by
    simp only [List.length_cons] at h
    simp only [putA]
    rw [putA_get r _ _ _ (by simp; omega)]
    simp only [List.length_cons]
    by_cases h1 : o + 1 ≤ i ∧ i < o + 1 + r.length
    · rw [if_pos h1, if_pos (by omega)]
      have : i - o = (i - (o + 1)) + 1 := by omega
      rw [this, List.getElem?_cons_succ]
    · rw [if_neg h1]
      by_cases h2 : o ≤ i ∧ i < o + (r.length + 1)
      · rw [if_pos h2]
        have : i = o := by omega
        subst this
        have : i < cs.size := by omega
        simp [this]
      · rw [if_neg h2, Array.getElem?_setIfInBounds]
        rw [if_neg (by omega)]

theorem run_storeCells {P : Program} : ∀ (l : List Value) (w : World) (g o i : Nat) (cs : Array Value) (ty : TypeId),
    w.heap[g]? = some (.cells cs ty (0, 0)) → o + i + l.length ≤ cs.size → (∀ v ∈ l, oneC v = true) →
    (storeCells ⟨g, o, none⟩ l i).run P w = .ok () (if l = [] then w else setBlk w g (.cells (putA cs (o + i) l) ty (0, 0)))
  | [], w, g, o, i, cs, ty, _, _, _ => by simp [storeCells]
  | v :: r, w, g, o, i, cs, ty, h, hl, ho => by
    simp only [List.length_cons] at hl
    have hv : oneC v = true := ho v (by simp)
    have hlt : o + i < cs.size := by omega
    have hc : w.cell? ⟨g, o + i, none⟩ = some cs[o + i] := by rw [cell_blk h, Array.getElem?_eq_getElem hlt]
    have hfz : w.frozen? ⟨g, o + i, none⟩ = false := by simp [World.frozen?, h]
    have hw : (setBlk w g (.cells (cs.setIfInBounds (o + i) v) ty (0, 0))).heap[g]? = some (.cells (cs.setIfInBounds (o + i) v) ty (0, 0)) :=
      setBlk_same (lt_of_heap h)
    have ih := run_storeCells (P := P) r (setBlk w g (.cells (cs.setIfInBounds (o + i) v) ty (0, 0))) g o (i + 1) _ ty hw (by simp; omega) (fun u hu => ho u (by simp [hu]))
    have hstep : ∀ (k : Sem Unit), (Sem.store .plain ((⟨g, o, none⟩ : Addr).add i) v k).run P w = k.run P (setBlk w g (.cells (cs.setIfInBounds (o + i) v) ty (0, 0))) := by
      intro k
      rw [Addr.add_mk]
      cases v <;> first | (simp [oneC] at hv; done) | (simp only [Sem.run, hc, hfz, Bool.false_eq_true, if_false]; rw [setCell_blk h])
    show (Sem.bind (Sem.store .plain ((⟨g, o, none⟩ : Addr).add i) v (Sem.pure ())) fun _ => storeCells ⟨g, o, none⟩ r (i + 1)).run P w = _
    simp only [Sem.bind]
    rw [hstep, ih]
    by_cases hr : r = []
    · subst hr; simp [putA]
    · rw [if_neg hr, if_neg (by simp), setBlk_setBlk]; rfl

theorem run_loadCells {P : Program} {w : World} {a : Addr} : ∀ (n i : Nat) (acc : Array Value) (l : List Value), l.length = n →
    (∀ j, j < n → w.cell? (a.add (i + j)) = l[j]?) → (loadCellsFrom a i n acc).run P w = .ok (acc ++ l.toArray) w
  | 0, i, acc, l, hl, _ => by
    have : l = [] := List.length_eq_zero_iff.1 hl
    subst this
    simp [loadCellsFrom]
  | n + 1, i, acc, v :: l, hl, h => by
    have h0 := h 0 (by omega)
    simp only [Nat.add_zero, List.getElem?_cons_zero] at h0
    have ih := run_loadCells (P := P) (w := w) (a := a) n (i + 1) (acc.push v) l (by simpa using hl) (fun j hj => by
      have := h (j + 1) (by omega)
      rw [show i + 1 + j = i + (j + 1) by omega, this]; simp)
    show (Sem.bind (Sem.load .plain (a.add i) Sem.pure) fun v => loadCellsFrom a (i + 1) n (acc.push v)).run P w = _
    simp only [Sem.bind, Sem.run, h0]
    rw [ih]
    simp
  | n + 1, i, acc, [], hl, _ => by simp at hl

/- what a told datum is in memory -/
def FEq (k : FloatKind) (a b : Nat) : Prop := a = b ∨ (isNaNB k a = true ∧ isNaNB k b = true)

theorem FEq.refl (k : FloatKind) (a : Nat) : FEq k a a := .inl rfl

/-- The elements of a slice of told data lie at an address, in cells that stay. -/
def Elems {α : Type} (U : Addr → Prop) (w : World) (size : Nat) (A : Option Addr) (R : α → List Value → Prop) (xs : List α) : Prop :=
  ∀ (i : Nat) (h : i < xs.length), ∃ ad l, A = some ad ∧ l.length = size ∧ (∀ j, j < size → U (ad.add (i * size + j)) ∧ w.cell? (ad.add (i * size + j)) = l[j]?) ∧ R xs[i] l

def CR (U : Addr → Prop) (w : World) : (k : Kd) → k.T → List Value → Prop
  | .bool, b, l => l = [.bool b]
  | .int k, n, l => l = [.int k n]
  | .flt k, b, l => ∃ b', l = [.float k b'] ∧ FEq k b b'
  | .str, s, l => l = [.string s]
  | .sl e, xs, l => ∃ A c, l = [.slice A xs.length c] ∧ xs.length ≤ c ∧ Elems U w e.sz A (CR U w e) xs
  | .own e, xs, l => ∃ A c, l = [.slice A xs.length c] ∧ xs.length ≤ c ∧ Elems U w e.sz A (CR U w e) xs
  | .unit, _, l => l = []
  | .pair a b, x, l => ∃ l1 l2, l = l1 ++ l2 ∧ CR U w a x.1 l1 ∧ CR U w b x.2 l2

theorem CR.length {U : Addr → Prop} {w : World} : ∀ {k : Kd} {x : k.T} {l : List Value}, CR U w k x l → l.length = k.sz
  | .bool, _, _, h => by simp only [CR] at h; simp [h, Kd.sz]
  | .int _, _, _, h => by simp only [CR] at h; simp [h, Kd.sz]
  | .flt _, _, _, h => by obtain ⟨b', h, _⟩ := h; simp [h, Kd.sz]
  | .str, _, _, h => by simp only [CR] at h; simp [h, Kd.sz]
  | .sl _, _, _, h => by obtain ⟨A, c, h, _⟩ := h; simp [h, Kd.sz]
  | .own _, _, _, h => by obtain ⟨A, c, h, _⟩ := h; simp [h, Kd.sz]
  | .unit, _, _, h => by simp only [CR] at h; simp [h, Kd.sz]
  | .pair a b, x, _, h => by
    obtain ⟨l1, l2, rfl, h1, h2⟩ := h
    simp [CR.length h1, CR.length h2, Kd.sz]

theorem CR.mono {U U' : Addr → Prop} {w w' : World} (hU : ∀ a, U a → U' a) (hw : ∀ a, U a → w'.cell? a = w.cell? a) :
    ∀ {k : Kd} {x : k.T} {l : List Value}, CR U w k x l → CR U' w' k x l
  | .bool, _, _, h => h
  | .int _, _, _, h => h
  | .flt _, _, _, h => h
  | .str, _, _, h => h
  | .sl e, _, _, h => by
    obtain ⟨A, c, h1, h2, h3⟩ := h
    refine ⟨A, c, h1, h2, fun i hi => ?_⟩
    obtain ⟨ad, l, hA, hl, hj, hR⟩ := h3 i hi
    exact ⟨ad, l, hA, hl, fun j hjs => ⟨hU _ (hj j hjs).1, (hw _ (hj j hjs).1).trans (hj j hjs).2⟩, CR.mono hU hw hR⟩
  | .own e, _, _, h => by
    obtain ⟨A, c, h1, h2, h3⟩ := h
    refine ⟨A, c, h1, h2, fun i hi => ?_⟩
    obtain ⟨ad, l, hA, hl, hj, hR⟩ := h3 i hi
    exact ⟨ad, l, hA, hl, fun j hjs => ⟨hU _ (hj j hjs).1, (hw _ (hj j hjs).1).trans (hj j hjs).2⟩, CR.mono hU hw hR⟩
  | .unit, _, _, h => h
  | .pair a b, _, _, h => by
    obtain ⟨l1, l2, h1, h2, h3⟩ := h
    exact ⟨l1, l2, h1, CR.mono hU hw h2, CR.mono hU hw h3⟩

theorem CR.oneC' {U : Addr → Prop} {w : World} : ∀ {k : Kd} {x : k.T} {l : List Value}, CR U w k x l → ∀ v ∈ l, oneC v = true
  | .bool, _, _, h => by simp only [CR] at h; subst h; simp [oneC]
  | .int _, _, _, h => by simp only [CR] at h; subst h; simp [oneC]
  | .flt _, _, _, h => by obtain ⟨b', h, _⟩ := h; subst h; simp [oneC]
  | .str, _, _, h => by simp only [CR] at h; subst h; simp [oneC]
  | .sl _, _, _, h => by obtain ⟨A, c, h, _⟩ := h; subst h; simp [oneC]
  | .own _, _, _, h => by obtain ⟨A, c, h, _⟩ := h; subst h; simp [oneC]
  | .unit, _, _, h => by simp only [CR] at h; subst h; simp
  | .pair a b, x, _, h => by
    obtain ⟨l1, l2, rfl, h1, h2⟩ := h
    intro v hv
    rcases List.mem_append.1 hv with h' | h'
    · exact CR.oneC' h1 v h'
    · exact CR.oneC' h2 v h'

theorem CR.sl_own {U : Addr → Prop} {w : World} {e : Kd} {xs : List e.T} {l : List Value} : CR U w (.own e) xs l ↔ CR U w (.sl e) xs l := Iff.rfl

end Go.Proofs.Ytmlolnaannoifaa

/- What told slots and told memory mean of the model's slots and memory; what a contract says of a call. -/
namespace Go.Proofs.Ytmlolnaannoifaa

/-- A call that comes back with a value. -/
def CallOK (P : Program) (f : FuncId) (vs : Array Value) (w : World) (R : Value → World → Prop) : Prop :=
  match (callFunc f vs).run P w with
  | .ok (.value v) w' => R v w'
  | .ok (.enter g args) w' => Calls P g args w' fun e w'' => ∃ v, e = .returned v ∧ R v w''
  | _ => False

/-- From a world to a later one: U are the cells that stay as they are for good; only the blocks of 'io', and new ones, are written. -/
structure Post (io : List Nat) (U : Addr → Prop) (w : World) (U' : Addr → Prop) (w' : World) : Prop where
  sub : ∀ a, U a → U' a
  same : ∀ a, U a → w'.cell? a = w.cell? a
  frame : ∀ g, g < w.heap.size → g ∉ io → w'.heap[g]? = w.heap[g]?
  size : w.heap.size ≤ w'.heap.size
  bound : ∀ a, U' a → a.spot = none ∧ a.block < w'.heap.size
  new : ∀ a, U' a → U a ∨ w.heap.size ≤ a.block ∨ a.block ∈ io
  os : w'.os = w.os
  tape : w'.tape = w.tape
  output : w'.output = w.output

/-- A function value that answers as told, as long as what stood at the head of the call stands. -/
def FnRel (P : Program) (io : List Nat) (U0 : Addr → Prop) (w0 : World) (fn : FuncId) (cap : Array Value) (a r : Kd) (p : a.T → r.T) : Prop :=
  ∀ (U : Addr → Prop) (w : World), Post io U0 w0 U w → ∀ (x : a.T) (v : Value), CR U w a x [v] →
    CallOK P fn (#[v] ++ cap) w fun v' w' => ∃ U', Post [] U w U' w' ∧ CR U' w' r (p x) [v']

structure Place where
  g : Nat
  A : Option Addr
  cap : Nat
  deriving Inhabited

/-- What holds all through one activation of a function. -/
structure Ctx where
  P : Program
  io : List Nat
  U0 : Addr → Prop
  w0 : World
  fix : Nat → Option Nat

/-- What changes from operation to operation. -/
structure Mem where
  U : Addr → Prop
  pl : Nat → Place
  h : View
  w : World

/-- An owned slice: its first cells stay, the others are the owner's. -/
def OwnAt (U : Addr → Prop) (w : World) (e : Kd) (xs : List e.T) (A : Option Addr) (c g : Nat) : Prop :=
  (c = 0 ∧ xs = []) ∨ (0 < c ∧ A = some ⟨g, 0, none⟩ ∧ xs.length ≤ c ∧ (∃ cs ty, w.heap[g]? = some (.cells cs ty (0, 0)) ∧ cs.size = c * e.sz) ∧
    (∀ a : Addr, a.block = g → (U a ↔ a.spot = none ∧ a.off < xs.length * e.sz)) ∧ Elems U w e.sz A (CR U w e) xs)

def stays (C : Ctx) (U : Addr → Prop) (a : Addr) : Prop := U a ∨ (a.block < C.w0.heap.size ∧ a.block ∉ C.io)

/-- An array whose elements have been handed over for good. -/
def Gone (m : Mem) (id : Nat) : Prop := ∃ (e : Kd) (xs : List e.T), m.h id = some (.frz e 1 xs)

def AVR1 (C : Ctx) (m : Mem) : AV1 → Value → Prop
  | .d k x, v => CR m.U m.w k x [v]
  | .osl _ id n, v => ∃ A c, v = .slice A n c ∧ (∃ e xs, (m.h id = some (.vec e xs) ∧ n ≤ xs.length ∧ (n = xs.length → A = (m.pl id).A ∧ c = (m.pl id).cap)) ∨ (m.h id = some (.frz e 0 xs)))
  | .nilsl, v => ∃ A, v = .slice A 0 0
  | .ptr id off, v => v = .pointer (some ⟨(m.pl id).g, off, none⟩) ∧ ((∃ cells, m.h id = some (.box cells)) ∨ (∃ e n xs, m.h id = some (.arr e n xs)) ∨ Gone m id)
  | .eptr id i off, v => ∃ ad, v = .pointer (some ad) ∧ ((∃ e n xs, m.h id = some (.arr e n xs) ∧ ad = ⟨(m.pl id).g, i * e.sz + off, none⟩) ∨ Gone m id)
  | .cptr k x, v => ∃ a l, v = .pointer (some a) ∧ CR m.U m.w k x l ∧ ∀ j, j < l.length → stays C m.U (a.add j) ∧ m.w.cell? (a.add j) = l[j]?
  | .msl id, v => ∃ A n c, v = .slice A n c ∧ ((∃ e xs, m.h id = some (.arr e n xs) ∧ n ≤ c ∧ A = some ⟨(m.pl id).g, 0, none⟩) ∨ Gone m id)
  | .msb id lo n, v => ∃ A c, v = .slice A n c ∧ ((∃ e N xs, m.h id = some (.arr e N xs) ∧ lo + n ≤ N ∧ n ≤ c ∧ (0 < n → A = some ⟨(m.pl id).g, lo * e.sz, none⟩)) ∨ Gone m id)
  | .clo f caps, v => v = .func (.func f) #[] (caps.map fun id => Value.pointer (some ⟨(m.pl id).g, 0, none⟩)).toArray ∧ ∀ id ∈ caps, (∃ cells, m.h id = some (.box cells)) ∨ (∃ e n xs, m.h id = some (.arr e n xs)) ∨ Gone m id
  | .fnv a r p, v => ∃ fn cap, v = .func (.func fn) #[] cap ∧ FnRel C.P C.io C.U0 C.w0 fn cap a r p
  | .nilp, v => v = .pointer none
  | .pb p, v => ∃ b, v = .bool b ∧ (b = true → p)
  | .any, _ => True

/-- Cell by cell. -/
def CLs (C : Ctx) (m : Mem) : List AV1 → List Value → Prop
  | [], [] => True
  | a :: l, v :: vs => (oneC v = true ∧ AVR1 C m a v) ∧ CLs C m l vs
  | _, _ => False

/-- One component of a tuple. -/
def TL1 (C : Ctx) (m : Mem) (r : Bool × List AV1) (u : Value) : Prop :=
  match r with
  | (true, cells) => ∃ cs : Array Value, u = .agg cs ∧ CLs C m cells cs.toList
  | (false, [a]) => oneC u = true ∧ AVR1 C m a u
  | (false, _) => True

def TLs (C : Ctx) (m : Mem) : List (Bool × List AV1) → List Value → Prop
  | [], [] => True
  | a :: l, v :: vs => TL1 C m a v ∧ TLs C m l vs
  | _, _ => False

def AVR (C : Ctx) (m : Mem) : AV → Value → Prop
  | .one .any, _ => True
  | .one a, v => oneC v = true ∧ AVR1 C m a v
  | .agg l, v => ∃ cs : Array Value, v = .agg cs ∧ CLs C m l cs.toList
  | .tup l, v => ∃ vs : Array Value, v = .tuple vs ∧ TLs C m l vs.toList

/-- The block that an entry has for itself. -/
def blkOf (pl : Place) : Ent → Option Nat
  | .box _ => some pl.g
  | .arr _ _ _ => some pl.g
  | .vec _ _ => if pl.cap = 0 then none else some pl.g
  | .frz _ _ _ => none

def EntR (C : Ctx) (m : Mem) (pl : Place) : Ent → Prop
  | .box cells => ∃ cs ty, m.w.heap[pl.g]? = some (.cells cs ty (0, 0)) ∧ CLs C m cells cs.toList ∧ (∀ a : Addr, a.block = pl.g → ¬ m.U a)
  | .arr e n xs => xs.length = n ∧ ∃ cs ty, m.w.heap[pl.g]? = some (.cells cs ty (0, 0)) ∧ cs.size = n * e.sz ∧
      (∀ (i : Nat) (h : i < xs.length), CR m.U m.w e xs[i] ((cs.toList.drop (i * e.sz)).take e.sz)) ∧ (∀ a : Addr, a.block = pl.g → ¬ m.U a)
  | .vec e xs => OwnAt m.U m.w e xs pl.A pl.cap pl.g
  | .frz _ _ _ => True

structure MemR (C : Ctx) (m : Mem) : Prop where
  post : Post C.io C.U0 C.w0 m.U m.w
  ents : ∀ id e, m.h id = some e → EntR C m (m.pl id) e
  apart : ∀ i j e e' g, m.h i = some e → m.h j = some e' → blkOf (m.pl i) e = some g → blkOf (m.pl j) e' = some g → i = j
  where_ : ∀ id e g, m.h id = some e → blkOf (m.pl id) e = some g → C.w0.heap.size ≤ g ∨ g ∈ C.io

structure StR (C : Ctx) (n : Nat) (t : Nat → Option AV) (m : Mem) (a : Act) : Prop where
  mem : MemR C m
  size : a.tmps.size = n
  defers : a.defers = []
  slots : ∀ i v, t i = some v → AVR C m v (a.tmps.getD i undef)
  fixd : ∀ id g cells, id < 65536 → C.fix id = some g → m.h id = some (.box cells) → (m.pl id).g = g

/- contracts, without names of blocks -/
def TR (U : Addr → Prop) (w : World) : (k : Kd) → k.T → List Value → List Nat → Prop
  | .own e, xs, l, bs => ∃ A c g, l = [.slice A xs.length c] ∧ OwnAt U w e xs A c g ∧ bs = if c = 0 then [] else [g]
  | .pair a b, x, l, bs => ∃ l1 l2 b1 b2, l = l1 ++ l2 ∧ bs = b1 ++ b2 ∧ TR U w a x.1 l1 b1 ∧ TR U w b x.2 l2 b2
  | .unit, x, l, bs => CR U w .unit x l ∧ bs = []
  | .bool, x, l, bs => CR U w .bool x l ∧ bs = []
  | .int k, x, l, bs => CR U w (.int k) x l ∧ bs = []
  | .flt k, x, l, bs => CR U w (.flt k) x l ∧ bs = []
  | .str, x, l, bs => CR U w .str x l ∧ bs = []
  | .sl e, x, l, bs => CR U w (.sl e) x l ∧ bs = []

def BoxAt (U : Addr → Prop) (w : World) (k : Kd) (x : k.T) (g : Nat) (bs : List Nat) : Prop :=
  ∃ cs ty, w.heap[g]? = some (.cells cs ty (0, 0)) ∧ TR U w k x cs.toList bs ∧ ∀ a : Addr, a.block = g → ¬ U a

def ArgR (P : Program) (io : List Nat) (U : Addr → Prop) (w : World) : (p : PK) → p.T → Value → List Nat → Prop
  | .val k, x, v, bs => oneC v = true ∧ TR U w k x [v] bs
  | .st k, x, v, bs => ∃ cs : Array Value, v = .agg cs ∧ TR U w k x cs.toList bs
  | .box k, x, v, bs => ∃ g bs', v = .pointer (some ⟨g, 0, none⟩) ∧ BoxAt U w k x g bs' ∧ bs = g :: bs'
  | .ro k, x, v, bs => bs = [] ∧ ∃ a l, v = .pointer (some a) ∧ CR U w k x l ∧ ∀ j, j < l.length → (U (a.add j) ∨ (a.block < w.heap.size ∧ a.block ∉ io)) ∧ w.cell? (a.add j) = l[j]?
  | .fnp a r, p, v, bs => bs = [] ∧ ∃ fn cap, v = .func (.func fn) #[] cap ∧ FnRel P io U w fn cap a r p

def ArgsR (P : Program) (io : List Nat) (U : Addr → Prop) (w : World) : (ps : List PK) → PsT ps → List Value → List Nat → Prop
  | [], _, vs, bs => vs = [] ∧ bs = []
  | p :: ps, x, vs, bs => ∃ v r b1 b2, vs = v :: r ∧ bs = b1 ++ b2 ∧ ArgR P io U w p x.1 v b1 ∧ ArgsR P io U w ps x.2 r b2

def OutsR (U : Addr → Prop) (w : World) : (ps : List PK) → OsT ps → List Value → List Nat → Prop
  | [], _, vs, bs => vs = [] ∧ bs = []
  | .box k :: ps, x, vs, bs => ∃ g r b1 b2, vs = .pointer (some ⟨g, 0, none⟩) :: r ∧ bs = g :: b1 ++ b2 ∧ BoxAt U w k x.1 g b1 ∧ OutsR U w ps x.2 r b2
  | .val _ :: ps, x, vs, bs => ∃ v r, vs = v :: r ∧ OutsR U w ps x r bs
  | .st _ :: ps, x, vs, bs => ∃ v r, vs = v :: r ∧ OutsR U w ps x r bs
  | .ro _ :: ps, x, vs, bs => ∃ v r, vs = v :: r ∧ OutsR U w ps x r bs
  | .fnp _ _ :: ps, x, vs, bs => ∃ v r, vs = v :: r ∧ OutsR U w ps x r bs

def ResR1 (U : Addr → Prop) (w : World) : (r : RK) → r.T → Value → List Nat → Prop
  | .one k, x, v, bs => oneC v = true ∧ TR U w k x [v] bs
  | .st k, x, v, bs => ∃ cs : Array Value, v = .agg cs ∧ TR U w k x cs.toList bs
  | .nb k, x, v, bs => ∃ g bs', v = .pointer (some ⟨g, 0, none⟩) ∧ BoxAt U w k x g bs' ∧ bs = g :: bs'

def ResL (U : Addr → Prop) (w : World) : (rs : List RK) → RsT rs → List Value → List Nat → Prop
  | [], _, vs, bs => vs = [] ∧ bs = []
  | r :: rs, x, vs, bs => ∃ v l b1 b2, vs = v :: l ∧ bs = b1 ++ b2 ∧ ResR1 U w r x.1 v b1 ∧ ResL U w rs x.2 l b2

/-- The results as the call's one value. -/
def valOf : List Value → Value
  | [v] => v
  | l => .tuple l.toArray

/-- What a contract says. -/
def Sound (P : Program) (f : FuncId) (fs : FSpec) : Prop :=
  ∀ (U : Addr → Prop) (w : World) (vs : List Value) (args : PsT fs.ps) (io : List Nat),
    (∀ a, U a → a.spot = none ∧ a.block < w.heap.size) → ArgsR P io U w fs.ps args vs io → io.Nodup → (∀ p ∈ fs.pre args, p) →
    CallOK P f vs.toArray w fun v w' => ∃ U' rvs b1 b2, Post io U w U' w' ∧ v = valOf rvs ∧ ResL U' w' fs.rs (fs.fn args).1 rvs b1 ∧ OutsR U' w' fs.ps (fs.fn args).2 vs b2 ∧
      (b1 ++ b2).Nodup ∧ ∀ b ∈ b1 ++ b2, w.heap.size ≤ b ∨ b ∈ io

def EnvOK (P : Program) (E : Env) : Prop := ∀ f fs, E f = some fs → Sound P f fs

end Go.Proofs.Ytmlolnaannoifaa

/- What was told of values stays true as memory goes on; types; constants. -/
namespace Go.Proofs.Ytmlolnaannoifaa

structure TyRow (P : Program) (t : TypeId) (ti : TyI) : Prop where
  und : ∃ d, P.underlying t = some d ∧ TD.of d = ti.td
  info : ∃ i z, P.info? t = some i ∧ i.size = ti.size ∧ i.bytes = ti.bytes ∧ i.zero = some z ∧ z.cells.toList.map ofConst = ti.zero ∧
    (z.cells.toList.all oneC) = true ∧ (match z with | .agg _ => ti.td.agg | .tuple _ => false | _ => !ti.td.agg) = true
  szk : ti.kd.sz = ti.size
  zlen : ti.zero.length = ti.size

def TyOK (P : Program) (T : Types) : Prop := ∀ t ti, T t = some ti → TyRow P t ti

def EntExt (p p' : Place) : Ent → Ent → Prop
  | .box _, .box _ => p'.g = p.g
  | .arr e n _, .arr e' n' _ => e = e' ∧ n = n' ∧ p'.g = p.g
  | .vec e xs, .vec e' xs' => e = e' ∧ xs.length ≤ xs'.length ∧ (xs'.length = xs.length → p'.A = p.A ∧ p'.cap = p.cap)
  | .vec _ _, .frz _ n' _ => n' = 0
  | .arr _ _ _, .frz _ n' _ => n' = 1 ∧ p'.g = p.g
  | .frz _ n _, .frz _ n' _ => n = n' ∧ (n = 1 → p'.g = p.g)
  | _, _ => False

structure Ext (C : Ctx) (m m' : Mem) : Prop where
  sub : ∀ a, m.U a → m'.U a
  same : ∀ a, m.U a → m'.w.cell? a = m.w.cell? a
  frame : ∀ a : Addr, a.block < C.w0.heap.size → a.block ∉ C.io → m'.w.cell? a = m.w.cell? a
  ent : ∀ id e, m.h id = some e → ∃ e', m'.h id = some e' ∧ EntExt (m.pl id) (m'.pl id) e e'

theorem Ext.CR {C : Ctx} {m m' : Mem} (h : Ext C m m') {k : Kd} {x : k.T} {l : List Value} (hc : CR m.U m.w k x l) : CR m'.U m'.w k x l :=
  CR.mono h.sub h.same hc

theorem Ext.stays {C : Ctx} {m m' : Mem} (h : Ext C m m') {a : Addr} (hs : stays C m.U a) : stays C m'.U a ∧ m'.w.cell? a = m.w.cell? a := by
  rcases hs with hs | hs
  · exact ⟨.inl (h.sub _ hs), h.same _ hs⟩
  · exact ⟨.inr hs, h.frame _ hs.1 hs.2⟩

theorem Ext.arr {C : Ctx} {m m' : Mem} (h : Ext C m m') {id : Nat} {e : Kd} {n : Nat} {xs : List e.T} (hid : m.h id = some (.arr e n xs)) :
    (∃ ys, m'.h id = some (.arr e n ys) ∧ (m'.pl id).g = (m.pl id).g) ∨ (Gone m' id ∧ (m'.pl id).g = (m.pl id).g) := by
  obtain ⟨e', he', hx⟩ := h.ent _ _ hid
  cases e' with
  | arr e2 n2 ys =>
    obtain ⟨rfl, rfl, hg⟩ := hx
    exact .inl ⟨ys, he', hg⟩
  | frz e2 n2 ys =>
    obtain ⟨rfl, hg⟩ := hx
    exact .inr ⟨⟨e2, ys, he'⟩, hg⟩
  | _ => exact hx.elim

theorem Ext.gone {C : Ctx} {m m' : Mem} (h : Ext C m m') {id : Nat} (hid : Gone m id) : Gone m' id ∧ (m'.pl id).g = (m.pl id).g := by
  obtain ⟨e, xs, hid⟩ := hid
  obtain ⟨e', he', hx⟩ := h.ent _ _ hid
  cases e' with
  | frz e2 n2 ys =>
    obtain ⟨rfl, hg⟩ := hx
    exact ⟨⟨e2, ys, he'⟩, hg rfl⟩
  | _ => exact hx.elim

theorem Ext.AVR1 {C : Ctx} {m m' : Mem} (h : Ext C m m') {a : AV1} {v : Value} (ha : AVR1 C m a v) : AVR1 C m' a v := by
  cases a with
  | d k x => exact h.CR ha
  | osl e0 id n =>
    obtain ⟨A, c, hv, e, xs, hx⟩ := ha
    refine ⟨A, c, hv, ?_⟩
    rcases hx with ⟨hid, hn, hp⟩ | hid
    · obtain ⟨e', he', hx⟩ := h.ent _ _ hid
      cases e' with
      | vec e2 xs' =>
        obtain ⟨rfl, hl, hq⟩ := hx
        refine ⟨e, xs', .inl ⟨he', by omega, fun hn' => ?_⟩⟩
        have hl' : xs'.length = xs.length := by omega
        have := hq hl'
        have hp' := hp (by omega)
        rw [this.1, this.2]; exact hp'
      | frz e2 n2 ys =>
        obtain rfl : n2 = 0 := hx
        exact ⟨e2, ys, .inr he'⟩
      | box _ => exact hx.elim
      | arr _ _ _ => exact hx.elim
    · obtain ⟨e', he', hx⟩ := h.ent _ _ hid
      cases e' with
      | frz e2 n2 ys =>
        obtain rfl : 0 = n2 := hx.1
        exact ⟨e2, ys, .inr he'⟩
      | box _ => exact hx.elim
      | arr _ _ _ => exact hx.elim
      | vec _ _ => exact hx.elim
  | nilsl => exact ha
  | ptr id off =>
    obtain ⟨hv, hx⟩ := ha
    rcases hx with ⟨cells, hid⟩ | ⟨e, n, xs, hid⟩ | hid
    · obtain ⟨e', he', hx⟩ := h.ent _ _ hid
      cases e' with
      | box cells' => exact ⟨by rw [show (m'.pl id).g = (m.pl id).g from hx]; exact hv, .inl ⟨_, he'⟩⟩
      | _ => exact hx.elim
    · rcases h.arr hid with ⟨ys, he', hg⟩ | ⟨hgn, hg⟩
      · exact ⟨by rw [hg]; exact hv, .inr (.inl ⟨_, _, _, he'⟩)⟩
      · exact ⟨by rw [hg]; exact hv, .inr (.inr hgn)⟩
    · obtain ⟨hgn, hg⟩ := h.gone hid
      exact ⟨by rw [hg]; exact hv, .inr (.inr hgn)⟩
  | eptr id i off =>
    obtain ⟨ad, hv, hx⟩ := ha
    refine ⟨ad, hv, ?_⟩
    rcases hx with ⟨e, n, xs, hid, hA⟩ | hid
    · rcases h.arr hid with ⟨ys, he', hg⟩ | ⟨hgn, _⟩
      · exact .inl ⟨e, n, ys, he', by rw [hg]; exact hA⟩
      · exact .inr hgn
    · exact .inr (h.gone hid).1
  | cptr k x =>
    obtain ⟨a, l, hv, hc, hj⟩ := ha
    exact ⟨a, l, hv, h.CR hc, fun j hjl => ⟨(h.stays (hj j hjl).1).1, ((h.stays (hj j hjl).1).2).trans (hj j hjl).2⟩⟩
  | msl id =>
    obtain ⟨A, n, c, hv, hx⟩ := ha
    refine ⟨A, n, c, hv, ?_⟩
    rcases hx with ⟨e, xs, hid, hc, hA⟩ | hid
    · rcases h.arr hid with ⟨ys, he', hg⟩ | ⟨hgn, _⟩
      · exact .inl ⟨e, ys, he', hc, by rw [hg]; exact hA⟩
      · exact .inr hgn
    · exact .inr (h.gone hid).1
  | clo f caps =>
    obtain ⟨hv, hx⟩ := ha
    have key : ∀ id ∈ caps, (m'.pl id).g = (m.pl id).g ∧ ((∃ cells, m'.h id = some (.box cells)) ∨ (∃ e n xs, m'.h id = some (.arr e n xs)) ∨ Gone m' id) := by
      intro id hid
      rcases hx id hid with ⟨cells, hid⟩ | ⟨e, n, xs, hid⟩ | hid
      · obtain ⟨e', he', hx⟩ := h.ent _ _ hid
        cases e' with
        | box cells' => exact ⟨hx, .inl ⟨_, he'⟩⟩
        | _ => exact hx.elim
      · rcases h.arr hid with ⟨ys, he', hg⟩ | ⟨hgn, hg⟩
        · exact ⟨hg, .inr (.inl ⟨_, _, _, he'⟩)⟩
        · exact ⟨hg, .inr (.inr hgn)⟩
      · obtain ⟨hgn, hg⟩ := h.gone hid
        exact ⟨hg, .inr (.inr hgn)⟩
    refine ⟨?_, fun id hid => (key id hid).2⟩
    rw [hv]
    congr 2
    refine List.map_congr_left fun id hid => ?_
    rw [(key id hid).1]
  | fnv a r p => exact ha
  | nilp => exact ha
  | pb p => exact ha
  | msb id lo n =>
    obtain ⟨A, c, hv, hx⟩ := ha
    refine ⟨A, c, hv, ?_⟩
    rcases hx with ⟨e, N, xs, hid, hle, hc, hA⟩ | hid
    · rcases h.arr hid with ⟨ys, he', hg⟩ | ⟨hgn, _⟩
      · exact .inl ⟨e, N, ys, he', hle, hc, fun hn => by rw [hg]; exact hA hn⟩
      · exact .inr hgn
    · exact .inr (h.gone hid).1
  | any => trivial

theorem CLs.length {C : Ctx} {m : Mem} : ∀ {l : List AV1} {vs : List Value}, CLs C m l vs → vs.length = l.length
  | [], [], _ => rfl
  | _ :: _, _ :: _, h => by simp [CLs.length h.2]
  | [], _ :: _, h => h.elim
  | _ :: _, [], h => h.elim

theorem CLs.get {C : Ctx} {m : Mem} : ∀ {l : List AV1} {vs : List Value}, CLs C m l vs → ∀ {j : Nat} {a : AV1}, l[j]? = some a → ∃ u, vs[j]? = some u ∧ oneC u = true ∧ AVR1 C m a u
  | [], [], _, j, a, h => by simp at h
  | b :: _, v :: _, h, 0, a, h' => by simp at h'; subst h'; exact ⟨v, rfl, h.1⟩
  | b :: _, v :: _, h, j + 1, a, h' => by simpa using CLs.get h.2 (by simpa using h')
  | [], _ :: _, h, _, _, _ => h.elim
  | _ :: _, [], h, _, _, _ => h.elim

theorem CLs.app {C : Ctx} {m : Mem} : ∀ {l : List AV1} {vs : List Value} {l' : List AV1} {vs' : List Value}, CLs C m l vs → CLs C m l' vs' → CLs C m (l ++ l') (vs ++ vs')
  | [], [], _, _, _, h' => h'
  | _ :: _, _ :: _, _, _, h, h' => ⟨h.1, CLs.app h.2 h'⟩
  | [], _ :: _, _, _, h, _ => h.elim
  | _ :: _, [], _, _, h, _ => h.elim

theorem CLs.drop {C : Ctx} {m : Mem} : ∀ (n : Nat) {l : List AV1} {vs : List Value}, CLs C m l vs → CLs C m (l.drop n) (vs.drop n)
  | 0, _, _, h => h
  | _ + 1, [], [], _ => trivial
  | n + 1, _ :: _, _ :: _, h => CLs.drop n h.2
  | _ + 1, [], _ :: _, h => h.elim
  | _ + 1, _ :: _, [], h => h.elim

theorem CLs.take {C : Ctx} {m : Mem} : ∀ (n : Nat) {l : List AV1} {vs : List Value}, CLs C m l vs → CLs C m (l.take n) (vs.take n)
  | 0, l, vs, _ => by simp [CLs]
  | _ + 1, [], [], _ => trivial
  | n + 1, _ :: _, _ :: _, h => ⟨h.1, CLs.take n h.2⟩
  | _ + 1, [], _ :: _, h => h.elim
  | _ + 1, _ :: _, [], h => h.elim

theorem CLs.set {C : Ctx} {m : Mem} {a : AV1} {v : Value} (ha : oneC v = true ∧ AVR1 C m a v) : ∀ {l : List AV1} {vs : List Value} (j : Nat), CLs C m l vs → CLs C m (l.set j a) (vs.set j v)
  | [], [], _, _ => trivial
  | _ :: _, _ :: _, 0, h => ⟨ha, h.2⟩
  | _ :: _, _ :: _, j + 1, h => ⟨h.1, CLs.set ha j h.2⟩
  | [], _ :: _, _, h => h.elim
  | _ :: _, [], _, h => h.elim

theorem CLs.one {C : Ctx} {m : Mem} : ∀ {l : List AV1} {vs : List Value}, CLs C m l vs → ∀ v ∈ vs, oneC v = true
  | [], [], _, _, h => by simp at h
  | _ :: _, v :: vs, h, u, hu => by
    rcases List.mem_cons.1 hu with rfl | hu
    · exact h.1.1
    · exact CLs.one h.2 u hu
  | [], _ :: _, h, _, _ => h.elim
  | _ :: _, [], h, _, _ => h.elim

theorem Ext.CLs {C : Ctx} {m m' : Mem} (h : Ext C m m') : ∀ {l : List AV1} {vs : List Value}, CLs C m l vs → CLs C m' l vs
  | [], [], _ => trivial
  | _ :: _, _ :: _, hc => ⟨⟨hc.1.1, h.AVR1 hc.1.2⟩, h.CLs hc.2⟩
  | [], _ :: _, hc => hc.elim
  | _ :: _, [], hc => hc.elim

theorem Ext.TL1 {C : Ctx} {m m' : Mem} (h : Ext C m m') {r : Bool × List AV1} {v : Value} (hr : TL1 C m r v) : TL1 C m' r v := by
  obtain ⟨b, cells⟩ := r
  cases b with
  | true =>
    obtain ⟨cs, hu, hc⟩ := hr
    exact ⟨cs, hu, h.CLs hc⟩
  | false =>
    match cells, hr with
    | [], _ => trivial
    | [a], hr => exact ⟨hr.1, h.AVR1 hr.2⟩
    | _ :: _ :: _, _ => trivial

theorem Ext.TLs {C : Ctx} {m m' : Mem} (h : Ext C m m') : ∀ {l : List (Bool × List AV1)} {vs : List Value}, TLs C m l vs → TLs C m' l vs
  | [], [], _ => trivial
  | _ :: _, _ :: _, hc => ⟨h.TL1 hc.1, h.TLs hc.2⟩
  | [], _ :: _, hc => hc.elim
  | _ :: _, [], hc => hc.elim

theorem Ext.AVR {C : Ctx} {m m' : Mem} (h : Ext C m m') {a : AV} {v : Value} (ha : AVR C m a v) : AVR C m' a v := by
  cases a with
  | one a =>
    cases a with
    | any => trivial
    | _ => exact ⟨ha.1, h.AVR1 ha.2⟩
  | agg l =>
    obtain ⟨cs, hv, hs⟩ := ha
    exact ⟨cs, hv, h.CLs hs⟩
  | tup l =>
    obtain ⟨vs, hv, hs⟩ := ha
    exact ⟨vs, hv, h.TLs hs⟩

theorem EntExt.refl (p : Place) (e : Ent) : EntExt p p e e := by
  cases e with
  | box _ => rfl
  | arr _ _ _ => exact ⟨rfl, rfl, rfl⟩
  | vec _ _ => exact ⟨rfl, Nat.le_refl _, fun _ => ⟨rfl, rfl⟩⟩
  | frz _ _ _ => exact ⟨rfl, fun _ => rfl⟩

theorem EntExt.trans {p p' p'' : Place} {e e' e'' : Ent} (h : EntExt p p' e e') (h' : EntExt p' p'' e' e'') : EntExt p p'' e e'' :=
  match e, e', e'', h, h' with
  | .box _, .box _, .box _, h, h' => (show _ = _ from h').trans h
  | .arr _ _ _, .arr _ _ _, .arr _ _ _, h, h' => ⟨h.1.trans h'.1, h.2.1.trans h'.2.1, h'.2.2.trans h.2.2⟩
  | .frz _ _ _, .frz _ _ _, .frz _ _ _, h, h' => ⟨h.1.trans h'.1, fun hn => (h'.2 (h.1.symm.trans hn)).trans (h.2 hn)⟩
  | .vec _ _, .frz _ _ _, .frz _ _ _, h, h' => h'.1.symm.trans h
  | .arr _ _ _, .arr _ _ _, .frz _ _ _, h, h' => ⟨h'.1, h'.2.trans h.2.2⟩
  | .arr _ _ _, .frz _ _ _, .frz _ _ _, h, h' => ⟨h'.1.symm.trans h.1, (h'.2 h.1).trans h.2⟩
  | .vec _ _, .vec _ _, .frz _ _ _, _, h' => h'
  | .vec _ _, .vec _ _, .vec _ _, h, h' => ⟨h.1.trans h'.1, Nat.le_trans h.2.1 h'.2.1, fun hl => by
      have h1 := h.2.1
      have h2 := h'.2.1
      have a := h'.2.2 (by omega)
      have b := h.2.2 (by omega)
      exact ⟨a.1.trans b.1, a.2.trans b.2⟩⟩

theorem Ext.refl (C : Ctx) (m : Mem) : Ext C m m :=
  ⟨fun _ h => h, fun _ _ => rfl, fun _ _ _ => rfl, fun _ e h => ⟨e, h, EntExt.refl _ _⟩⟩

theorem Ext.trans {C : Ctx} {m m' m'' : Mem} (h : Ext C m m') (h' : Ext C m' m'') : Ext C m m'' :=
  ⟨fun a x => h'.sub a (h.sub a x), fun a x => (h'.same a (h.sub a x)).trans (h.same a x), fun a x y => (h'.frame a x y).trans (h.frame a x y), fun id e he => by
    obtain ⟨e', he', x⟩ := h.ent id e he
    obtain ⟨e'', he'', x'⟩ := h'.ent id e' he'
    exact ⟨e'', he'', x.trans x'⟩⟩

theorem ofConst_sound (C : Ctx) (m : Mem) (v : Value) : AVR1 C m (ofConst v) v := by
  unfold ofConst
  split
  · rfl
  · rfl
  · exact ⟨_, rfl, FEq.refl _ _⟩
  · rfl
  · exact ⟨none, rfl⟩
  · rfl
  · split
    · rename_i f first captured h
      refine ⟨?_, fun id hid => by simp at hid⟩
      have h1 : first = #[] := Array.eq_empty_of_size_eq_zero h.1
      have h2 : captured = #[] := Array.eq_empty_of_size_eq_zero h.2
      subst h1; subst h2; rfl
    · trivial
  · trivial

theorem not_gone {m : Mem} {id : Nat} {e : Kd} {n : Nat} {xs : List e.T} (hid : m.h id = some (.arr e n xs)) (h : Gone m id) : False := by
  obtain ⟨e', ys, h⟩ := h
  rw [hid] at h
  cases h

theorem eptr_arr {C : Ctx} {m : Mem} {id i off : Nat} {v : Value} {e : Kd} {n : Nat} {xs : List e.T} (h : AVR1 C m (.eptr id i off) v) (hid : m.h id = some (.arr e n xs)) : v = .pointer (some ⟨(m.pl id).g, i * e.sz + off, none⟩) := by
  obtain ⟨ad, hv, h | h⟩ := h
  · obtain ⟨e', n', xs', h, rfl⟩ := h
    rw [hid] at h
    have h := Option.some.inj h
    simp only [Ent.arr.injEq] at h
    obtain ⟨rfl, _, _⟩ := h
    exact hv
  · exact (not_gone hid h).elim

theorem msl_arr {C : Ctx} {m : Mem} {id : Nat} {v : Value} {e : Kd} {n : Nat} {xs : List e.T} (h : AVR1 C m (.msl id) v) (hid : m.h id = some (.arr e n xs)) : ∃ c, n ≤ c ∧ v = .slice (some ⟨(m.pl id).g, 0, none⟩) n c := by
  obtain ⟨A, k, c, hv, h | h⟩ := h
  · obtain ⟨e', xs', h, hc, rfl⟩ := h
    rw [hid] at h
    have h := Option.some.inj h
    simp only [Ent.arr.injEq] at h
    obtain ⟨rfl, rfl, _⟩ := h
    exact ⟨c, hc, hv⟩
  · exact (not_gone hid h).elim

theorem msb_arr {C : Ctx} {m : Mem} {id lo k : Nat} {v : Value} {e : Kd} {n : Nat} {xs : List e.T} (h : AVR1 C m (.msb id lo k) v) (hid : m.h id = some (.arr e n xs)) : lo + k ≤ n ∧ ∃ A c, k ≤ c ∧ v = .slice A k c ∧ (0 < k → A = some ⟨(m.pl id).g, lo * e.sz, none⟩) := by
  obtain ⟨A, c, hv, h | h⟩ := h
  · obtain ⟨e', N, xs', h, hle, hc, hA⟩ := h
    rw [hid] at h
    have h := Option.some.inj h
    simp only [Ent.arr.injEq] at h
    obtain ⟨rfl, rfl, _⟩ := h
    exact ⟨hle, A, c, hc, hv, hA⟩
  · exact (not_gone hid h).elim

end Go.Proofs.Ytmlolnaannoifaa

/- Floats: each operation answers alike on numbers that are alike (equal, or both not-a-numbers). -/
namespace Go.Proofs.Ytmlolnaannoifaa

theorem FEq.eq_of_not {k : FloatKind} {a b : Nat} (h : FEq k a b) (hn : isNaNB k a = false) : a = b := by
  rcases h with h | h
  · exact h
  · rw [h.1] at hn; cases hn

theorem read_nan {k : FloatKind} {a : Nat} (h : isNaNB k a = true) : ∃ s t, k.format.read a = .nan s t := by
  unfold isNaNB Ieee.Datum.isNaN at h
  split at h
  · exact ⟨_, _, by assumption⟩
  · cases h

theorem add_nan_l {k : FloatKind} {a b : Nat} (h : isNaNB k a = true) : k.format.add a b = none := by
  obtain ⟨s, t, h⟩ := read_nan h; simp [Ieee.Format.add, h, Ieee.Datum.sum]
theorem add_nan_r {k : FloatKind} {a b : Nat} (h : isNaNB k b = true) : k.format.add a b = none := by
  obtain ⟨s, t, h⟩ := read_nan h; unfold Ieee.Format.add; rw [h]; cases k.format.read a <;> rfl
theorem sub_nan_l {k : FloatKind} {a b : Nat} (h : isNaNB k a = true) : k.format.sub a b = none := by
  obtain ⟨s, t, h⟩ := read_nan h; simp [Ieee.Format.sub, h, Ieee.Datum.sum]
theorem sub_nan_r {k : FloatKind} {a b : Nat} (h : isNaNB k b = true) : k.format.sub a b = none := by
  obtain ⟨s, t, h⟩ := read_nan h; unfold Ieee.Format.sub; rw [h]; cases k.format.read a <;> rfl
theorem mul_nan_l {k : FloatKind} {a b : Nat} (h : isNaNB k a = true) : k.format.mul a b = none := by
  obtain ⟨s, t, h⟩ := read_nan h; simp [Ieee.Format.mul, h, Ieee.Datum.product]
theorem mul_nan_r {k : FloatKind} {a b : Nat} (h : isNaNB k b = true) : k.format.mul a b = none := by
  obtain ⟨s, t, h⟩ := read_nan h; unfold Ieee.Format.mul; rw [h]; cases k.format.read a <;> rfl
theorem div_nan_l {k : FloatKind} {a b : Nat} (h : isNaNB k a = true) : k.format.div a b = none := by
  obtain ⟨s, t, h⟩ := read_nan h; simp [Ieee.Format.div, h, Ieee.Datum.quotient]
theorem div_nan_r {k : FloatKind} {a b : Nat} (h : isNaNB k b = true) : k.format.div a b = none := by
  obtain ⟨s, t, h⟩ := read_nan h; unfold Ieee.Format.div; rw [h]; cases k.format.read a <;> rfl

theorem floatBits_nan_l {op : BinOp} {k : FloatKind} {a b : Nat} (h : isNaNB k a = true) : floatBits op k a b = none := by
  unfold floatBits; split <;> first | exact add_nan_l h | exact sub_nan_l h | exact mul_nan_l h | exact div_nan_l h | rfl
theorem floatBits_nan_r {op : BinOp} {k : FloatKind} {a b : Nat} (h : isNaNB k b = true) : floatBits op k a b = none := by
  unfold floatBits; split <;> first | exact add_nan_r h | exact sub_nan_r h | exact mul_nan_r h | exact div_nan_r h | rfl

theorem floatBits_congr {op : BinOp} {k : FloatKind} {a a' b b' : Nat} (ha : FEq k a a') (hb : FEq k b b') : floatBits op k a b = floatBits op k a' b' := by
  rcases ha with rfl | ha
  · rcases hb with rfl | hb
    · rfl
    · rw [floatBits_nan_r hb.1, floatBits_nan_r hb.2]
  · rw [floatBits_nan_l ha.1, floatBits_nan_l ha.2]

theorem nan_nanB (k : FloatKind) : isNaNB k (nanB k) = true := by cases k <;> decide

theorem nan_of_rung {k : FloatKind} {b : Nat} (h : k.format.infRung < b % k.format.signWeight) : isNaNB k b = true := by
  have hb : k.format.binade ≤ k.format.infRung := by cases k <;> decide
  unfold isNaNB Ieee.Format.read Ieee.Datum.isNaN
  simp only
  rw [if_neg (by omega), if_neg (by omega), if_neg (by omega)]

theorem nan_cut32 (t : Nat) : isNaNB .f32 ((t % 2) * 2 ^ 31 + 0x7f800000 + 1 + (t / 2) % (2 ^ 23 - 1)) = true := by
  apply nan_of_rung
  have h1 : FloatKind.f32.format.infRung = 2139095040 := by decide
  have h2 : FloatKind.f32.format.signWeight = 2147483648 := by decide
  rw [h1, h2]
  have hr : t / 2 % (2 ^ 23 - 1) < 8388607 := Nat.mod_lt _ (by decide)
  generalize t / 2 % (2 ^ 23 - 1) = r at hr
  rcases Nat.mod_two_eq_zero_or_one t with h | h <;> rw [h] <;> omega

theorem nan_cut64 (t : Nat) : isNaNB .f64 ((t % 2) * 2 ^ 63 + 0x7ff0000000000000 + 1 + (t / 2) % (2 ^ 52 - 1)) = true := by
  apply nan_of_rung
  have h1 : FloatKind.f64.format.infRung = 9218868437227405312 := by decide
  have h2 : FloatKind.f64.format.signWeight = 9223372036854775808 := by decide
  rw [h1, h2]
  have hr : t / 2 % (2 ^ 52 - 1) < 4503599627370495 := Nat.mod_lt _ (by decide)
  generalize t / 2 % (2 ^ 52 - 1) = r at hr
  rcases Nat.mod_two_eq_zero_or_one t with h | h <;> rw [h] <;> omega

theorem nan_cut_bits (k : FloatKind) (x y t : Nat) : isNaNB k ((Question.nanBits k x y).cut t) = true := by
  cases k
  · exact nan_cut32 t
  · exact nan_cut64 t

theorem nan_cut_conv (k : FloatKind) (x t : Nat) : isNaNB k ((Question.nanConv k x).cut t) = true := by
  cases k
  · exact nan_cut32 t
  · exact nan_cut64 t

theorem fcmp_congr {k : FloatKind} {a a' b b' : Nat} (ha : FEq k a a') (hb : FEq k b b') : fcmp k a b = fcmp k a' b' := by
  have l : ∀ {x y : Nat}, isNaNB k x = true → fcmp k x y = none := by
    intro x y h; obtain ⟨s, t, h⟩ := read_nan h; simp [fcmp, Ieee.Format.order, h, Ieee.Datum.order]
  have r : ∀ {x y : Nat}, isNaNB k y = true → fcmp k x y = none := by
    intro x y h; obtain ⟨s, t, h⟩ := read_nan h; unfold fcmp Ieee.Format.order; rw [h]; cases k.format.read x <;> rfl
  rcases ha with rfl | ha
  · rcases hb with rfl | hb
    · rfl
    · rw [r hb.1, r hb.2]
  · rw [l ha.1, l ha.2]

theorem order_swap {k : FloatKind} (a b : Nat) : (k.format.order a b == some .gt) = flss k b a := by
  unfold flss fcmp Ieee.Format.order Ieee.Datum.order
  cases ha : k.format.read a <;> cases hb : k.format.read b <;> simp only <;> try rfl
  · rename_i s m i t n j
    have e : min i j = min j i := by omega
    rw [e]
    rw [← Int.compare_swap]
    cases compare (Ieee.signed t n (j - min j i).toNat) (Ieee.signed s m (i - min j i).toNat) <;> rfl
  · rename_i s m i t; cases t <;> rfl
  · rename_i s t m i; cases s <;> rfl
  · rename_i s t; cases s <;> cases t <;> rfl

theorem order_swap_eq {k : FloatKind} (a b : Nat) : (k.format.order a b == some .eq) = feq k b a := by
  unfold feq fcmp Ieee.Format.order Ieee.Datum.order
  cases ha : k.format.read a <;> cases hb : k.format.read b <;> simp only <;> try rfl
  · rename_i s m i t n j
    have e : min i j = min j i := by omega
    rw [e]
    rw [← Int.compare_swap]
    cases compare (Ieee.signed t n (j - min j i).toNat) (Ieee.signed s m (i - min j i).toNat) <;> rfl
  · rename_i s m i t; cases t <;> rfl
  · rename_i s t m i; cases s <;> rfl
  · rename_i s t; cases s <;> cases t <;> rfl

theorem fneg_nan {k : FloatKind} {a : Nat} (h : isNaNB k a = true) : isNaNB k (fneg k a) = true := by
  have hm : (fneg k a) % k.format.signWeight = a % k.format.signWeight := by
    unfold fneg Op.negFloat Ieee.Format.signWeight
    rw [Nat.xor_mod_two_pow, Nat.mod_self, Nat.xor_zero]
  obtain ⟨s, t, h⟩ := read_nan h
  unfold Ieee.Format.read at h
  simp only at h
  apply nan_of_rung
  rw [hm]
  split at h
  · cases h
  · split at h
    · cases h
    · split at h
      · cases h
      · omega

theorem fneg_congr {k : FloatKind} {a a' : Nat} (h : FEq k a a') : FEq k (fneg k a) (fneg k a') := by
  rcases h with rfl | h
  · exact .inl rfl
  · exact .inr ⟨fneg_nan h.1, fneg_nan h.2⟩

theorem fcv_nan {s d : FloatKind} {a : Nat} (hn : isNaNB s a = true) (hne : s ≠ d) : floatToFloatBits s a d = none := by
  obtain ⟨x, t, h⟩ := read_nan hn
  unfold floatToFloatBits FloatKind.decode
  rw [if_neg hne, h]

end Go.Proofs.Ytmlolnaannoifaa

/- Operations that only compute: what the model's run of them gives is what was told. -/
namespace Go.Proofs.Ytmlolnaannoifaa

structure Quiet (w w' : World) : Prop where
  heap : w'.heap = w.heap
  os : w'.os = w.os
  tape : w'.tape = w.tape
  output : w'.output = w.output

theorem Quiet.refl (w : World) : Quiet w w := ⟨rfl, rfl, rfl, rfl⟩

/-- The run ends with a value that is told so; only draws were made. -/
def QRun (C : Ctx) (m : Mem) (e : Sem Value) (av : AV) : Prop :=
  ∃ v w', e.run C.P m.w = .ok v w' ∧ Quiet m.w w' ∧ AVR C m av v

theorem QRun.pure {C : Ctx} {m : Mem} {e : Sem Value} {av : AV} {v : Value} (h : e.run C.P m.w = .ok v m.w) (hv : AVR C m av v) : QRun C m e av :=
  ⟨v, m.w, h, Quiet.refl _, hv⟩

theorem avr_d {C : Ctx} {m : Mem} {k : Kd} {x : k.T} {v : Value} (h : CR m.U m.w k x [v]) : AVR C m (.one (.d k x)) v :=
  ⟨CR.oneC' h v (by simp), h⟩

theorem avr_bool {C : Ctx} {m : Mem} (b : Bool) : AVR C m (dv .bool b) (.bool b) := avr_d (k := .bool) rfl
theorem avr_int {C : Ctx} {m : Mem} (k : IntKind) (n : Int) : AVR C m (dv (.int k) n) (.int k n) := avr_d (k := .int k) rfl
theorem avr_str {C : Ctx} {m : Mem} (s : ByteArray) : AVR C m (dv .str s) (.string s) := avr_d (k := .str) rfl
theorem avr_flt {C : Ctx} {m : Mem} {k : FloatKind} {a b : Nat} (h : FEq k a b) : AVR C m (dv (.flt k) a) (.float k b) := avr_d (k := .flt k) ⟨b, rfl, h⟩

theorem run_floatArith {P : Program} {w : World} {op : BinOp} {k : FloatKind} {x y x' y' : Nat} (t : TypeId) (hop : op = .add ∨ op = .sub ∨ op = .mul ∨ op = .quo)
    (hx : FEq k x x') (hy : FEq k y y') :
    ∃ r w', (binOp op t (.float k x') (.float k y')).run P w = .ok (.float k r) w' ∧ Quiet w w' ∧ FEq k (fop op k x y) r := by
  cases hb : floatBits op k x' y' with
  | some r =>
    refine ⟨r, w, run_float_arith w op t k x' y' r hb, Quiet.refl _, ?_⟩
    left
    unfold fop
    rw [floatBits_congr hx hy, hb]; rfl
  | none =>
    refine ⟨_, { w with drawn := w.drawn + 1 }, ?_, ⟨rfl, rfl, rfl, rfl⟩, .inr ⟨?_, nan_cut_bits k x' y' (w.tape w.drawn (.nanBits k x' y'))⟩⟩
    · unfold floatBits at hb
      rcases hop with rfl | rfl | rfl | rfl <;> simp only at hb <;> simp [binOp, Op.floatArith, hb, choose, Sem.run, Question.forced]
    · unfold fop
      rw [floatBits_congr hx hy, hb]
      exact nan_nanB k

theorem td_bool {d : TypeDesc} (h : TD.of d = .bool) : d = .bool := by cases d <;> simp [TD.of] at h; rfl

theorem binAV_sound {C : Ctx} {m : Mem} {T : Types} (hT : TyOK C.P T) {op : BinOp} {a b : AV1} {x y : Value} {out : Out} (t : TypeId) (u v : Operand)
    (h : binAV T t op a b = some out) (hp : ∀ p ∈ out.ps, p) (ha : AVR1 C m a x) (hb : AVR1 C m b y) :
    out.sets = [] ∧ out.news = [] ∧ QRun C m (do eqGuard op t u v x y; binOp op t x y) out.av := by
  unfold binAV at h
  split at h
  · -- integers
    rename_i k i k' j
    have hx : x = .int k i := by simpa [AVR1, CR] using ha
    have hy : y = .int k' j := by simpa [AVR1, CR] using hb
    subst hx; subst hy
    split at h
    · obtain rfl := Option.some.inj h
      have hj : (0 : Int) ≤ j := hp _ (by simp)
      refine ⟨rfl, rfl, QRun.pure (v := .int k (ishl k i j)) ?_ (avr_int k _)⟩
      simp [eqGuard, binOp, Op.shift, ishl, Int.not_lt.mpr hj]
    · obtain rfl := Option.some.inj h
      have hj : (0 : Int) ≤ j := hp _ (by simp)
      refine ⟨rfl, rfl, QRun.pure (v := .int k (ishr k i j)) ?_ (avr_int k _)⟩
      simp [eqGuard, binOp, Op.shift, ishr, Int.not_lt.mpr hj]
    · split at h
      · rename_i hk
        subst hk
        split at h <;> first | (cases h; done) | (obtain rfl := Option.some.inj h)
        · exact ⟨rfl, rfl, QRun.pure (v := .int k _) (by simp [eqGuard, binOp, Op.intArith]; try rfl) (avr_int k _)⟩
        · exact ⟨rfl, rfl, QRun.pure (v := .int k _) (by simp [eqGuard, binOp, Op.intArith]; try rfl) (avr_int k _)⟩
        · exact ⟨rfl, rfl, QRun.pure (v := .int k _) (by simp [eqGuard, binOp, Op.intArith]; try rfl) (avr_int k _)⟩
        · have hj : j ≠ 0 := hp _ (by simp)
          exact ⟨rfl, rfl, QRun.pure (v := .int k _) (by simp [eqGuard, binOp, Op.intDiv, hj]; try rfl) (avr_int k _)⟩
        · have hj : j ≠ 0 := hp _ (by simp)
          exact ⟨rfl, rfl, QRun.pure (v := .int k _) (by simp [eqGuard, binOp, Op.intDiv, hj]; try rfl) (avr_int k _)⟩
        · exact ⟨rfl, rfl, QRun.pure (v := .int k _) (by simp [eqGuard, binOp]; rfl) (avr_int k _)⟩
        · exact ⟨rfl, rfl, QRun.pure (v := .int k _) (by simp [eqGuard, binOp]; rfl) (avr_int k _)⟩
        · exact ⟨rfl, rfl, QRun.pure (v := .int k _) (by simp [eqGuard, binOp]; rfl) (avr_int k _)⟩
        · exact ⟨rfl, rfl, QRun.pure (v := .int k _) (by simp [eqGuard, binOp]; rfl) (avr_int k _)⟩
        · exact ⟨rfl, rfl, QRun.pure (v := .bool _) (by simp [eqGuard, binOp, Op.intCmp]; try rfl) (avr_bool _)⟩
        · exact ⟨rfl, rfl, QRun.pure (v := .bool _) (by simp [eqGuard, binOp, Op.intCmp]; try rfl) (avr_bool _)⟩
        · exact ⟨rfl, rfl, QRun.pure (v := .bool _) (by simp [eqGuard, binOp, Op.intCmp]; try rfl) (avr_bool _)⟩
        · exact ⟨rfl, rfl, QRun.pure (v := .bool _) (by simp [eqGuard, binOp, Op.intCmp]; try rfl) (avr_bool _)⟩
        · exact ⟨rfl, rfl, QRun.pure (v := .bool _) (by simp [eqGuard, binOp, Op.intCmp]; try rfl) (avr_bool _)⟩
        · exact ⟨rfl, rfl, QRun.pure (v := .bool _) (by simp [eqGuard, binOp, Op.intCmp]; try rfl) (avr_bool _)⟩
      · cases h
  · -- floats
    rename_i k i k' j
    obtain ⟨i', hx, hfi⟩ := ha
    obtain ⟨j', hy, hfj⟩ := hb
    simp only [List.cons.injEq, and_true] at hx hy
    subst hx; subst hy
    split at h
    · rename_i hk
      subst hk
      have hc : k.format.order i' j' = fcmp k i j := (fcmp_congr hfi hfj).symm
      have arith : ∀ op, (op = .add ∨ op = .sub ∨ op = .mul ∨ op = .quo) → QRun C m (do eqGuard op t u v (.float k i') (.float k j'); binOp op t (.float k i') (.float k j')) (dv (.flt k) (fop op k i j)) := by
        intro op hop
        obtain ⟨r, w', hr, hq, hf⟩ := run_floatArith (P := C.P) (w := m.w) t hop hfi hfj
        refine ⟨_, w', ?_, hq, avr_flt hf⟩
        rcases hop with rfl | rfl | rfl | rfl <;> simpa [eqGuard] using hr
      have hs1 := order_swap (k := k) i' j'
      have hs2 := order_swap_eq (k := k) i' j'
      have hsw : flss k j' i' = flss k j i := by unfold flss; rw [fcmp_congr hfj hfi]
      have hsq : feq k j' i' = feq k j i := by unfold feq; rw [fcmp_congr hfj hfi]
      split at h <;> first | (cases h; done) | (obtain rfl := Option.some.inj h)
      · exact ⟨rfl, rfl, arith _ (.inl rfl)⟩
      · exact ⟨rfl, rfl, arith _ (.inr (.inl rfl))⟩
      · exact ⟨rfl, rfl, arith _ (.inr (.inr (.inl rfl)))⟩
      · exact ⟨rfl, rfl, arith _ (.inr (.inr (.inr rfl)))⟩
      · exact ⟨rfl, rfl, QRun.pure (v := .bool _) (by simp [eqGuard, binOp, Op.floatCmp, hc]; try rfl) (avr_bool _)⟩
      · exact ⟨rfl, rfl, QRun.pure (v := .bool _) (by simp [eqGuard, binOp, Op.floatCmp, hc]; try rfl) (avr_bool _)⟩
      · exact ⟨rfl, rfl, QRun.pure (v := .bool _) (by simp [eqGuard, binOp, Op.floatCmp, hc]; try rfl) (avr_bool _)⟩
      · exact ⟨rfl, rfl, QRun.pure (v := .bool _) (by simp [eqGuard, binOp, Op.floatCmp, hc]; try rfl) (avr_bool _)⟩
      · exact ⟨rfl, rfl, QRun.pure (v := .bool (flss k j i)) (by rw [← hsw, ← hs1]; simp [eqGuard, binOp, Op.floatCmp]) (avr_bool _)⟩
      · exact ⟨rfl, rfl, QRun.pure (v := .bool (fleq k j i)) (by
          have : fleq k j i = (flss k j i || feq k j i) := rfl
          rw [this, ← hsw, ← hs1, ← hsq, ← hs2]; simp [eqGuard, binOp, Op.floatCmp]) (avr_bool _)⟩
    · cases h
  · -- bools
    rename_i i j
    have hx : x = .bool i := by simpa [AVR1, CR] using ha
    have hy : y = .bool j := by simpa [AVR1, CR] using hb
    subst hx; subst hy
    split at h
    · rename_i ti hti
      split at h
      · rename_i htd
        obtain ⟨d, hd, hd'⟩ := (hT t ti hti).und
        have hb' : C.P.underlying t = some .bool := by rw [hd, td_bool (hd'.trans htd)]
        split at h <;> first | (cases h; done) | (obtain rfl := Option.some.inj h)
        · exact ⟨rfl, rfl, QRun.pure (v := .bool (i == j)) (by simpa [eqGuard] using run_eql_bool m.w t i j hb') (avr_bool _)⟩
        · exact ⟨rfl, rfl, QRun.pure (v := .bool (!(i == j))) (by simpa [eqGuard] using run_neq_bool m.w t i j hb') (avr_bool _)⟩
      · cases h
    · cases h
  · -- strings
    rename_i i j
    have hx : x = .string i := by simpa [AVR1, CR] using ha
    have hy : y = .string j := by simpa [AVR1, CR] using hb
    subst hx; subst hy
    split at h <;> first | (cases h; done) | (obtain rfl := Option.some.inj h)
    · have hs : i.size + j.size ≤ 9223372036854775807 := hp _ (by simp)
      have hn : ¬ ((i.size + j.size : Nat) : Int) > IntKind.i64.max := by
        have : IntKind.i64.max = 9223372036854775807 := by decide
        rw [this]; omega
      exact ⟨rfl, rfl, QRun.pure (v := .string (i ++ j)) (by simp only [eqGuard, binOp, Op.stringOp]; rw [if_neg hn]; simp) (avr_str _)⟩
    · exact ⟨rfl, rfl, QRun.pure (v := .bool _) (by simp [eqGuard, binOp, Op.stringOp]; try rfl) (avr_bool _)⟩
    · exact ⟨rfl, rfl, QRun.pure (v := .bool _) (by simp [eqGuard, binOp, Op.stringOp]; try rfl) (avr_bool _)⟩
    · exact ⟨rfl, rfl, QRun.pure (v := .bool _) (by simp [eqGuard, binOp, Op.stringOp]; try rfl) (avr_bool _)⟩
    · exact ⟨rfl, rfl, QRun.pure (v := .bool _) (by simp [eqGuard, binOp, Op.stringOp]; try rfl) (avr_bool _)⟩
    · exact ⟨rfl, rfl, QRun.pure (v := .bool _) (by simp [eqGuard, binOp, Op.stringOp]; try rfl) (avr_bool _)⟩
    · exact ⟨rfl, rfl, QRun.pure (v := .bool _) (by simp [eqGuard, binOp, Op.stringOp]; try rfl) (avr_bool _)⟩
  · cases h

theorem unAV_sound {C : Ctx} {m : Mem} {op : UnOp} {a : AV1} {x : Value} {out : Out}
    (h : unAV op a = some out) (ha : AVR1 C m a x) : out.sets = [] ∧ out.news = [] ∧ QRun C m (Op.unary op x) out.av := by
  unfold unAV at h
  split at h
  · rename_i k i
    obtain rfl := Option.some.inj h
    have hx : x = .int k i := by simpa [AVR1, CR] using ha
    subst hx
    exact ⟨rfl, rfl, QRun.pure (v := .int k _) (by simp [Op.unary, Op.intArith]; try rfl) (avr_int k _)⟩
  · rename_i k i
    obtain rfl := Option.some.inj h
    obtain ⟨i', hx, hf⟩ := ha
    simp only [List.cons.injEq, and_true] at hx
    subst hx
    exact ⟨rfl, rfl, QRun.pure (v := .float k (fneg k i')) (by simp [Op.unary]; rfl) (avr_flt (fneg_congr hf))⟩
  · rename_i i
    obtain rfl := Option.some.inj h
    have hx : x = .bool i := by simpa [AVR1, CR] using ha
    subst hx
    exact ⟨rfl, rfl, QRun.pure (v := .bool (!i)) (by simp [Op.unary]) (avr_bool _)⟩
  · cases h

end Go.Proofs.Ytmlolnaannoifaa

/- Told cells and typed data: reading one out of the other. -/
namespace Go.Proofs.Ytmlolnaannoifaa

theorem cast_some {a b : Kd} {x : a.T} {y : b.T} (h : Kd.cast a b x = some y) : ∃ e : a = b, e ▸ x = y := by
  unfold Kd.cast at h
  split at h
  · rename_i e; exact ⟨e, Option.some.inj h⟩
  · cases h

theorem cast_sl {e e' : Kd} {x : List e'.T} {y : List e.T} (h : Kd.cast (.sl e') (.sl e) x = some y) : ∃ q : e' = e, q ▸ x = y := by
  obtain ⟨q, hq⟩ := cast_some h
  injection q with q
  subst q
  exact ⟨rfl, hq⟩

theorem CR_sl_nil {U : Addr → Prop} {w : World} {e : Kd} {A : Option Addr} {c : Nat} : CR U w (.sl e) [] [.slice A 0 c] :=
  ⟨A, c, rfl, Nat.zero_le _, fun i hi => absurd hi (by simp)⟩

theorem OwnAt.cr {U : Addr → Prop} {w : World} {e : Kd} {xs : List e.T} {A : Option Addr} {c g : Nat} (h : OwnAt U w e xs A c g) : CR U w (.sl e) xs [.slice A xs.length c] := by
  rcases h with ⟨hc, hx⟩ | ⟨_, _, hl, _, _, hE⟩
  · subst hx; exact CR_sl_nil
  · exact ⟨A, c, rfl, hl, hE⟩

def ViewOK (g h : View) : Prop := ∀ id e, g id = some e → h id = some e

theorem osl_own {C : Ctx} {m : Mem} (hm : MemR C m) {e0 : Kd} {id n : Nat} {v : Value} {e : Kd} {xs : List e.T} (ha : AVR1 C m (.osl e0 id n) v) (hid : m.h id = some (.vec e xs)) (hn : n = xs.length) :
    v = .slice (m.pl id).A xs.length (m.pl id).cap ∧ OwnAt m.U m.w e xs (m.pl id).A (m.pl id).cap (m.pl id).g := by
  obtain ⟨A, c, hv, e', xs', hx⟩ := ha
  rcases hx with ⟨h1, _, h3⟩ | h1
  · rw [hid] at h1
    have h1 := Option.some.inj h1
    have hl : xs.length = xs'.length := by injection h1 with q1 q2; subst q1; rw [eq_of_heq q2]
    have h3 := h3 (hn.trans hl)
    rw [hv, h3.1, h3.2, hn]
    exact ⟨rfl, hm.ents id _ hid⟩
  · rw [hid] at h1; cases h1

theorem slOf_sound {C : Ctx} {m : Mem} (hm : MemR C m) {g : View} (hg : ViewOK g m.h) {e : Kd} {a : AV1} {ps : List Prop} {xs : List e.T} {v : Value}
    (h : slOf e a g = some (ps, xs)) (hp : ∀ p ∈ ps, p) (ha : AVR1 C m a v) : CR m.U m.w (.sl e) xs [v] := by
  unfold slOf at h
  split at h
  · rename_i e' x
    cases hc : Kd.cast (.sl e') (.sl e) x with
    | none => simp [hc] at h
    | some y =>
      simp only [hc, Option.map_some, Option.some.injEq, Prod.mk.injEq] at h
      obtain ⟨rfl, rfl⟩ := h
      obtain ⟨q, hq⟩ := cast_sl hc
      subst q; subst hq
      exact ha
  · rename_i e0 id n
    split at h
    · rename_i e' xs' hid
      cases hc : Kd.cast (.sl e') (.sl e) xs' with
      | none => simp [hc] at h
      | some y =>
        simp only [hc, Option.map_some, Option.some.injEq, Prod.mk.injEq] at h
        obtain ⟨rfl, rfl⟩ := h
        obtain ⟨q, hq⟩ := cast_sl hc
        subst q; subst hq
        have hn : n = xs'.length := hp _ (by simp)
        obtain ⟨hv, ho⟩ := osl_own hm ha (hg _ _ hid) hn
        rw [hv]; exact ho.cr
    · cases h
  · simp only [Option.some.injEq, Prod.mk.injEq] at h
    obtain ⟨rfl, rfl⟩ := h
    obtain ⟨A, hv⟩ := ha
    rw [hv]; exact CR_sl_nil
  · cases h

theorem ownOf_slOf {e : Kd} {a : AV1} {g : View} {r : List Prop × List e.T} (h : ownOf e a g = some r) : slOf e a g = some r := by
  unfold ownOf at h
  unfold slOf
  split at h
  · exact h
  · exact h
  · cases h

theorem map3_some {α β γ : Type} {o : Option (α × β)} {c : γ} {p : α} {x : β} {l : γ} (h : (o.map fun r => (r.1, r.2, c)) = some (p, x, l)) : o = some (p, x) ∧ c = l := by
  cases o with
  | none => cases h
  | some r => simp only [Option.map_some, Option.some.injEq, Prod.mk.injEq] at h; obtain ⟨rfl, rfl, rfl⟩ := h; exact ⟨rfl, rfl⟩

theorem scOf_sound {C : Ctx} {m : Mem} {k : Kd} {a : AV1} {ps : List Prop} {x : k.T} {v : Value} (h : scOf k a = some (ps, x)) (ha : AVR1 C m a v) : CR m.U m.w k x [v] := by
  unfold scOf at h
  split at h
  · rename_i k' y
    cases hcc : Kd.cast k' k y with
    | none => simp [hcc] at h
    | some z =>
      simp only [hcc, Option.map_some, Option.some.injEq, Prod.mk.injEq] at h
      obtain ⟨rfl, rfl⟩ := h
      obtain ⟨q, hq⟩ := cast_some hcc
      subst q; subst hq
      exact ha
  · cases h

theorem ofCells_sound {C : Ctx} {m : Mem} (hm : MemR C m) {g : View} (hg : ViewOK g m.h) :
    ∀ {k : Kd} {l : List AV1} {ps : List Prop} {x : k.T} {l' : List AV1} {vs : List Value}, ofCells k l g = some (ps, x, l') → (∀ p ∈ ps, p) → CLs C m l vs →
      ∃ v1 v2, vs = v1 ++ v2 ∧ CR m.U m.w k x v1 ∧ CLs C m l' v2
  | .unit, l, ps, x, l', vs, h, _, hc => by
    simp only [ofCells, Option.some.injEq, Prod.mk.injEq] at h
    obtain ⟨rfl, _, rfl⟩ := h
    exact ⟨[], vs, rfl, rfl, hc⟩
  | .pair a b, l, ps, x, l', vs, h, hp, hc => by
    simp only [ofCells] at h
    split at h
    · rename_i p xa la ha
      split at h
      · rename_i q xb lb hb
        simp only [Option.some.injEq, Prod.mk.injEq] at h
        obtain ⟨rfl, rfl, rfl⟩ := h
        obtain ⟨v1, v2, rfl, h1, h2⟩ := ofCells_sound hm hg ha (fun r hr => hp r (List.mem_append.2 (.inl hr))) hc
        obtain ⟨v3, v4, rfl, h3, h4⟩ := ofCells_sound hm hg hb (fun r hr => hp r (List.mem_append.2 (.inr hr))) h2
        exact ⟨v1 ++ v3, v4, by simp, ⟨v1, v3, rfl, h1, h3⟩, h4⟩
      · cases h
    · cases h
  | .sl e, [], ps, x, l', vs, h, hp, hc => by simp [ofCells] at h
  | .sl e, a :: l, ps, x, l', vs, h, hp, hc => by
    simp only [ofCells] at h
    obtain ⟨h', rfl⟩ := map3_some h
    match vs, hc with
    | v :: vs, hc => exact ⟨[v], vs, rfl, slOf_sound hm hg h' hp hc.1.2, hc.2⟩
  | .own e, [], ps, x, l', vs, h, hp, hc => by simp [ofCells] at h
  | .own e, a :: l, ps, x, l', vs, h, hp, hc => by
    simp only [ofCells] at h
    obtain ⟨h', rfl⟩ := map3_some h
    match vs, hc with
    | v :: vs, hc => exact ⟨[v], vs, rfl, slOf_sound hm hg (ownOf_slOf h') hp hc.1.2, hc.2⟩
  | .bool, [], ps, x, l', vs, h, hp, hc => by simp [ofCells] at h
  | .bool, a :: l, ps, x, l', vs, h, hp, hc => by
    simp only [ofCells] at h
    obtain ⟨h', rfl⟩ := map3_some h
    match vs, hc with
    | v :: vs, hc => exact ⟨[v], vs, rfl, scOf_sound h' hc.1.2, hc.2⟩
  | .int k, [], ps, x, l', vs, h, hp, hc => by simp [ofCells] at h
  | .int k, a :: l, ps, x, l', vs, h, hp, hc => by
    simp only [ofCells] at h
    obtain ⟨h', rfl⟩ := map3_some h
    match vs, hc with
    | v :: vs, hc => exact ⟨[v], vs, rfl, scOf_sound h' hc.1.2, hc.2⟩
  | .flt k, [], ps, x, l', vs, h, hp, hc => by simp [ofCells] at h
  | .flt k, a :: l, ps, x, l', vs, h, hp, hc => by
    simp only [ofCells] at h
    obtain ⟨h', rfl⟩ := map3_some h
    match vs, hc with
    | v :: vs, hc => exact ⟨[v], vs, rfl, scOf_sound h' hc.1.2, hc.2⟩
  | .str, [], ps, x, l', vs, h, hp, hc => by simp [ofCells] at h
  | .str, a :: l, ps, x, l', vs, h, hp, hc => by
    simp only [ofCells] at h
    obtain ⟨h', rfl⟩ := map3_some h
    match vs, hc with
    | v :: vs, hc => exact ⟨[v], vs, rfl, scOf_sound h' hc.1.2, hc.2⟩

theorem ofCellsAll_sound {C : Ctx} {m : Mem} (hm : MemR C m) {g : View} (hg : ViewOK g m.h) {k : Kd} {l : List AV1} {ps : List Prop} {x : k.T} {vs : List Value}
    (h : ofCellsAll k l g = some (ps, x)) (hp : ∀ p ∈ ps, p) (hc : CLs C m l vs) : CR m.U m.w k x vs := by
  unfold ofCellsAll at h
  split at h
  · rename_i p y hy
    simp only [Option.some.injEq, Prod.mk.injEq] at h
    obtain ⟨rfl, rfl⟩ := h
    obtain ⟨v1, v2, rfl, h1, h2⟩ := ofCells_sound hm hg hy hp hc
    match v2, h2 with
    | [], _ => simpa using h1
  · cases h

/-- So many elements behind one another. -/
theorem ofElems_sound {C : Ctx} {m : Mem} (hm : MemR C m) {g : View} (hg : ViewOK g m.h) {e : Kd} :
    ∀ {n : Nat} {l : List AV1} {ps : List Prop} {xs : List e.T} {vs : List Value}, ofElems e g n l = some (ps, xs) → (∀ p ∈ ps, p) → CLs C m l vs →
      xs.length = n ∧ vs.length = n * e.sz ∧ ∀ (i : Nat) (hi : i < xs.length), CR m.U m.w e xs[i] ((vs.drop (i * e.sz)).take e.sz)
  | 0, [], ps, xs, vs, h, _, hc => by
    simp only [ofElems, Option.some.injEq, Prod.mk.injEq] at h
    obtain ⟨_, rfl⟩ := h
    have := hc.length
    exact ⟨rfl, by simpa using this, fun i hi => absurd hi (by simp)⟩
  | 0, _ :: _, ps, xs, vs, h, _, hc => by simp [ofElems] at h
  | n + 1, l, ps, xs, vs, h, hp, hc => by
    simp only [ofElems] at h
    split at h
    · rename_i p x l' hx
      split at h
      · rename_i q ys hys
        simp only [Option.some.injEq, Prod.mk.injEq] at h
        obtain ⟨rfl, rfl⟩ := h
        obtain ⟨v1, v2, rfl, h1, h2⟩ := ofCells_sound hm hg hx (fun r hr => hp r (List.mem_append.2 (.inl hr))) hc
        obtain ⟨hl, hlen, hR⟩ := ofElems_sound hm hg hys (fun r hr => hp r (List.mem_append.2 (.inr hr))) h2
        have hv1 := h1.length
        refine ⟨by simp [hl], by simp [hv1, hlen, Nat.add_mul]; omega, fun i hi => ?_⟩
        match i, hi with
        | 0, _ => simpa [← hv1] using h1
        | i + 1, hi =>
          have := hR i (by simpa using hi)
          have e1 : (i + 1) * e.sz = v1.length + i * e.sz := by rw [Nat.add_mul, hv1]; omega
          rw [e1, List.drop_append, List.drop_eq_nil_of_le (by omega), List.nil_append, show v1.length + i * e.sz - v1.length = i * e.sz by omega]
          simpa using this
      · cases h
    · cases h

theorem toCells_sound {C : Ctx} {m : Mem} : ∀ {k : Kd} {x : k.T} {vs : List Value}, CR m.U m.w k x vs → CLs C m (toCells k x) vs
  | .unit, _, _, h => by simp only [CR] at h; subst h; trivial
  | .pair a b, x, _, h => by
    obtain ⟨l1, l2, rfl, h1, h2⟩ := h
    exact CLs.app (toCells_sound h1) (toCells_sound h2)
  | .own e, x, vs, h => by
    obtain ⟨A, c, rfl, h'⟩ := id h
    exact ⟨⟨rfl, h⟩, trivial⟩
  | .sl e, x, vs, h => by
    obtain ⟨A, c, rfl, h'⟩ := id h
    exact ⟨⟨rfl, h⟩, trivial⟩
  | .bool, x, vs, h => by
    have h' : vs = [.bool x] := h
    subst h'; exact ⟨⟨rfl, rfl⟩, trivial⟩
  | .int k, x, vs, h => by
    have h' : vs = [.int k x] := h
    subst h'; exact ⟨⟨rfl, rfl⟩, trivial⟩
  | .flt k, x, vs, h => by
    obtain ⟨b, rfl, hb⟩ := h
    exact ⟨⟨rfl, ⟨b, rfl, hb⟩⟩, trivial⟩
  | .str, x, vs, h => by
    have h' : vs = [.string x] := h
    subst h'; exact ⟨⟨rfl, rfl⟩, trivial⟩

theorem dropCells_sound {U : Addr → Prop} {w : World} : ∀ {k : Kd} {x : k.T} {n : Nat} {r : Σ k' : Kd, k'.T} {vs : List Value}, dropCells k x n = some r → CR U w k x vs → CR U w r.1 r.2 (vs.drop n)
  | k, x, 0, r, vs, h, hc => by
    simp only [dropCells, Option.some.injEq] at h
    subst h; simpa using hc
  | .pair a b, x, n + 1, r, vs, h, hc => by
    simp only [dropCells] at h
    split at h
    · rename_i hs
      obtain ⟨l1, l2, rfl, h1, h2⟩ := hc
      have := dropCells_sound h h2
      have hl := h1.length
      rw [List.drop_append, List.drop_eq_nil_of_le (by omega), List.nil_append, hl]
      exact this
    · cases h
  | .bool, _, _ + 1, _, _, h, _ => by simp [dropCells] at h
  | .int _, _, _ + 1, _, _, h, _ => by simp [dropCells] at h
  | .flt _, _, _ + 1, _, _, h, _ => by simp [dropCells] at h
  | .str, _, _ + 1, _, _, h, _ => by simp [dropCells] at h
  | .sl _, _, _ + 1, _, _, h, _ => by simp [dropCells] at h
  | .own _, _, _ + 1, _, _, h, _ => by simp [dropCells] at h
  | .unit, _, _ + 1, _, _, h, _ => by simp [dropCells] at h

end Go.Proofs.Ytmlolnaannoifaa

/- Memory after an operation: a new block, a block written, nothing written. -/
namespace Go.Proofs.Ytmlolnaannoifaa

theorem nbeq_ne {i j : Nat} (h : i ≠ j) : Nat.beq i j = false := by
  cases hb : Nat.beq i j with
  | false => rfl
  | true => exact absurd (Nat.eq_of_beq_eq_true hb) h

def updE (h : View) (l : Ents) : View := fun id => match get1 l id with
  | some e => some e
  | none => h id

theorem updE_nil (h : View) : updE h [] = h := rfl

/-- What stands behind an operation. -/
def After (C : Ctx) (m : Mem) (av : AV) (l : Ents) (v : Value) (w' : World) : Prop :=
  ∃ U' pl', MemR C ⟨U', pl', updE m.h l, w'⟩ ∧ Ext C m ⟨U', pl', updE m.h l, w'⟩ ∧ AVR C ⟨U', pl', updE m.h l, w'⟩ av v

theorem Post.refl {io : List Nat} {U : Addr → Prop} {w : World} (hb : ∀ a, U a → a.spot = none ∧ a.block < w.heap.size) : Post io U w U w :=
  ⟨fun _ h => h, fun _ _ => rfl, fun _ _ _ => rfl, Nat.le_refl _, hb, fun _ h => .inl h, rfl, rfl, rfl⟩

/-- A later world that parts from an earlier one in blocks that may be written. -/
theorem Post.step {io io' : List Nat} {U0 U U' : Addr → Prop} {w0 w w' : World} (h : Post io U0 w0 U w) (h' : Post io' U w U' w')
    (hio : ∀ g ∈ io', w0.heap.size ≤ g ∨ g ∈ io) : Post io U0 w0 U' w' :=
  ⟨fun a x => h'.sub a (h.sub a x), fun a x => (h'.same a (h.sub a x)).trans (h.same a x),
    fun g hg hn => (h'.frame g (Nat.lt_of_lt_of_le hg h.size) (fun hin => by
      rcases hio g hin with h1 | h1
      · omega
      · exact hn h1)).trans (h.frame g hg hn),
    Nat.le_trans h.size h'.size, h'.bound,
    fun a x => by
      have hs := h.size
      rcases h'.new a x with h1 | h1 | h1
      · exact h.new a h1
      · exact .inr (.inl (by omega))
      · rcases hio _ h1 with h2 | h2
        · exact .inr (.inl h2)
        · exact .inr (.inr h2),
    h'.os.trans h.os, h'.tape.trans h.tape, h'.output.trans h.output⟩

/-- Cells that stay are the same behind a step that writes only what may be written. -/
theorem Ext.of_post {C : Ctx} {m m' : Mem} {io' : List Nat} (hm : MemR C m) (hp : Post io' m.U m.w m'.U m'.w) (hio : ∀ g ∈ io', C.w0.heap.size ≤ g ∨ g ∈ C.io)
    (he : ∀ id e, m.h id = some e → ∃ e', m'.h id = some e' ∧ EntExt (m.pl id) (m'.pl id) e e') : Ext C m m' :=
  ⟨hp.sub, hp.same, fun a hb hn => cell_of_heap (hp.frame a.block (Nat.lt_of_lt_of_le hb hm.post.size) (fun hin => by
      rcases hio _ hin with h | h
      · omega
      · exact hn h)), he⟩

theorem EntR_keep {C : Ctx} {m m' : Mem} (hx : Ext C m m') {pl : Place} {e : Ent} (h : EntR C m pl e)
    (hk : ∀ g, blkOf pl e = some g → m'.w.heap[g]? = m.w.heap[g]? ∧ ∀ a : Addr, a.block = g → (m'.U a → m.U a)) : EntR C m' pl e := by
  cases e with
  | box cells =>
    obtain ⟨cs, ty, h1, h2, h3⟩ := h
    obtain ⟨k1, k2⟩ := hk pl.g rfl
    exact ⟨cs, ty, k1.trans h1, hx.CLs h2, fun a ha hu => h3 a ha (k2 a ha hu)⟩
  | arr e n xs =>
    obtain ⟨h0, cs, ty, h1, h2, h3, h4⟩ := h
    obtain ⟨k1, k2⟩ := hk pl.g rfl
    exact ⟨h0, cs, ty, k1.trans h1, h2, fun i hi => hx.CR (h3 i hi), fun a ha hu => h4 a ha (k2 a ha hu)⟩
  | vec e xs =>
    rcases h with h | ⟨h1, h2, h3, ⟨cs, ty, h4, h5⟩, h6, h7⟩
    · exact .inl h
    · obtain ⟨k1, k2⟩ := hk pl.g (by simp [blkOf]; omega)
      refine .inr ⟨h1, h2, h3, ⟨cs, ty, k1.trans h4, h5⟩, fun a ha => ⟨fun hu => (h6 a ha).1 (k2 a ha hu), fun hu => hx.sub a ((h6 a ha).2 hu)⟩, fun i hi => ?_⟩
      obtain ⟨ad, l, hA, hl, hj, hR⟩ := h7 i hi
      exact ⟨ad, l, hA, hl, fun j hjs => ⟨hx.sub _ (hj j hjs).1, (hx.same _ (hj j hjs).1).trans (hj j hjs).2⟩, hx.CR hR⟩
  | frz _ _ _ => trivial

theorem MemR.blk_lt {C : Ctx} {m : Mem} (hm : MemR C m) {id : Nat} {e : Ent} {g : Nat} (h : m.h id = some e) (hb : blkOf (m.pl id) e = some g) : g < m.w.heap.size := by
  have he := hm.ents id e h
  cases e with
  | box cells => obtain ⟨cs, ty, h1, _⟩ := he; simp [blkOf] at hb; subst hb; exact lt_of_heap h1
  | arr e n xs => obtain ⟨_, cs, ty, h1, _⟩ := he; simp [blkOf] at hb; subst hb; exact lt_of_heap h1
  | vec e xs =>
    rcases he with h | ⟨_, _, _, ⟨cs, ty, h4, _⟩, _⟩
    · simp [blkOf, h.1] at hb
    · simp only [blkOf] at hb
      split at hb
      · cases hb
      · obtain rfl := Option.some.inj hb; exact lt_of_heap h4
  | frz _ _ _ => simp [blkOf] at hb

/- quiet -/
theorem Post.quiet {U : Addr → Prop} {w w' : World} (hq : Quiet w w') (hb : ∀ a, U a → a.spot = none ∧ a.block < w.heap.size) : Post [] U w U w' :=
  ⟨fun _ h => h, fun a _ => cell_of_heap (by rw [hq.heap]), fun g _ _ => by rw [hq.heap], by rw [hq.heap]; exact Nat.le_refl _, fun a h => by rw [hq.heap]; exact hb a h, fun _ h => .inl h, hq.os, hq.tape, hq.output⟩

theorem memR_quiet {C : Ctx} {m : Mem} (hm : MemR C m) {w' : World} (hq : Quiet m.w w') : MemR C ⟨m.U, m.pl, m.h, w'⟩ ∧ Ext C m ⟨m.U, m.pl, m.h, w'⟩ := by
  have hp := Post.quiet hq hm.post.bound
  have hx : Ext C m ⟨m.U, m.pl, m.h, w'⟩ := Ext.of_post hm hp (fun _ h => by simp at h) (fun id e h => ⟨e, h, EntExt.refl _ _⟩)
  refine ⟨⟨hm.post.step hp (fun _ h => by simp at h), fun id e h => EntR_keep hx (hm.ents id e h) (fun g _ => ⟨by show w'.heap[g]? = _; rw [hq.heap], fun _ _ h => h⟩), hm.apart, hm.where_⟩, hx⟩

theorem After.quiet {C : Ctx} {m : Mem} (hm : MemR C m) {av : AV} {v : Value} {w' : World} (hq : Quiet m.w w') (hv : AVR C m av v) : After C m av [] v w' := by
  obtain ⟨h1, h2⟩ := memR_quiet hm hq
  exact ⟨m.U, m.pl, by rw [updE_nil]; exact h1, by rw [updE_nil]; exact h2, by rw [updE_nil]; exact h2.AVR hv⟩

/- a new block -/
theorem alloc_heap_old {w : World} {o : Obj} {g : Nat} (h : g < w.heap.size) : (w.alloc o).heap[g]? = w.heap[g]? := by
  show (w.heap.push o)[g]? = _
  simp [Array.getElem?_push, Nat.ne_of_lt h]
theorem alloc_heap_new {w : World} {o : Obj} : (w.alloc o).heap[w.heap.size]? = some o := by
  show (w.heap.push o)[w.heap.size]? = _
  simp
theorem alloc_size {w : World} {o : Obj} : (w.alloc o).heap.size = w.heap.size + 1 := by
  show (w.heap.push o).size = _
  simp

theorem Post.alloc {U U' : Addr → Prop} {w : World} {o : Obj} (hb : ∀ a, U a → a.spot = none ∧ a.block < w.heap.size) (hU : ∀ a, U a → U' a)
    (hN : ∀ a, U' a → U a ∨ (a.spot = none ∧ a.block = w.heap.size)) : Post [] U w U' (w.alloc o) :=
  ⟨hU, fun a h => cell_of_heap (alloc_heap_old (hb a h).2), fun g hg _ => alloc_heap_old hg, by rw [alloc_size]; omega,
    fun a h => by
      rw [alloc_size]
      rcases hN a h with h | h
      · have := hb a h; exact ⟨this.1, by omega⟩
      · exact ⟨h.1, by omega⟩,
    fun a h => by
      rcases hN a h with h | h
      · exact .inl h
      · exact .inr (.inl (by omega)), rfl, rfl, rfl⟩

def updP (pl : Nat → Place) (c : Nat) (p : Place) : Nat → Place := fun id => if id = c then p else pl id

/-- A new block, told by a new entry (or by none: data). -/
theorem memR_alloc {C : Ctx} {m : Mem} (hm : MemR C m) {o : Obj} {U' : Addr → Prop} (hU : ∀ a, m.U a → U' a)
    (hN : ∀ a, U' a → m.U a ∨ (a.spot = none ∧ a.block = m.w.heap.size)) :
    MemR C ⟨U', m.pl, m.h, m.w.alloc o⟩ ∧ Ext C m ⟨U', m.pl, m.h, m.w.alloc o⟩ := by
  have hp := Post.alloc (o := o) hm.post.bound hU hN
  have hx : Ext C m ⟨U', m.pl, m.h, m.w.alloc o⟩ := Ext.of_post hm hp (fun _ h => by simp at h) (fun id e h => ⟨e, h, EntExt.refl _ _⟩)
  refine ⟨⟨hm.post.step hp (fun _ h => by simp at h), fun id e h => EntR_keep hx (hm.ents id e h) (fun g hg => ?_), hm.apart, hm.where_⟩, hx⟩
  have hlt := hm.blk_lt h hg
  refine ⟨alloc_heap_old hlt, fun a ha hu => ?_⟩
  rcases hN a hu with h | h
  · exact h
  · omega

/-- A new entry over memory in which its block stands already and is no other entry's. -/
theorem memR_new {C : Ctx} {m : Mem} (hm : MemR C m) {c : Nat} {p : Place} {e : Ent} (hc : m.h c = none) (he : EntR C m p e)
    (hb : ∀ g, blkOf p e = some g → (C.w0.heap.size ≤ g ∨ g ∈ C.io) ∧ ∀ id e', m.h id = some e' → blkOf (m.pl id) e' ≠ some g) :
    MemR C ⟨m.U, updP m.pl c p, updE m.h [(c, e)], m.w⟩ ∧ Ext C m ⟨m.U, updP m.pl c p, updE m.h [(c, e)], m.w⟩ := by
  have hne : ∀ id e', m.h id = some e' → id ≠ c := fun id e' h hid => by subst hid; rw [hc] at h; cases h
  have hup : ∀ id, id ≠ c → updE m.h [(c, e)] id = m.h id := fun id hid => by
    simp [updE, get1, nbeq_ne hid]
  have hcc : updE m.h [(c, e)] c = some e := by simp [updE, get1]
  have hpp : ∀ id, id ≠ c → updP m.pl c p id = m.pl id := fun id hid => if_neg hid
  have hpc : updP m.pl c p c = p := if_pos rfl
  have hx : Ext C m ⟨m.U, updP m.pl c p, updE m.h [(c, e)], m.w⟩ :=
    ⟨fun _ h => h, fun _ _ => rfl, fun _ _ _ => rfl, fun id e' h => ⟨e', (hup id (hne id e' h)).trans h, by dsimp only; rw [hpp id (hne id e' h)]; exact EntExt.refl _ _⟩⟩
  refine ⟨⟨hm.post, fun id e' h => ?_, fun i j e1 e2 g h1 h2 b1 b2 => ?_, fun id e' g h hg => ?_⟩, hx⟩
  · show EntR C _ (updP m.pl c p id) e'
    by_cases hid : id = c
    · subst hid
      have : e' = e := Option.some.inj (h.symm.trans hcc)
      subst this
      rw [hpc]
      exact EntR_keep hx he (fun g _ => ⟨rfl, fun _ _ h => h⟩)
    · rw [hpp id hid]
      exact EntR_keep hx (hm.ents id e' ((hup id hid).symm.trans h)) (fun g _ => ⟨rfl, fun _ _ h => h⟩)
  · dsimp only at h1 h2 b1 b2
    by_cases hi : i = c
    · by_cases hj : j = c
      · rw [hi, hj]
      · subst hi
        have : e1 = e := Option.some.inj (h1.symm.trans hcc)
        subst this
        rw [show updP m.pl i p i = p from hpc] at b1
        have h2' := (hup j hj).symm.trans h2
        rw [show updP m.pl i p j = m.pl j from hpp j hj] at b2
        exact absurd b2 ((hb g b1).2 j e2 h2')
    · by_cases hj : j = c
      · subst hj
        have : e2 = e := Option.some.inj (h2.symm.trans hcc)
        subst this
        rw [show updP m.pl j p j = p from hpc] at b2
        have h1' := (hup i hi).symm.trans h1
        rw [show updP m.pl j p i = m.pl i from hpp i hi] at b1
        exact absurd b1 ((hb g b2).2 i e1 h1')
      · rw [show updP m.pl c p i = m.pl i from hpp i hi] at b1
        rw [show updP m.pl c p j = m.pl j from hpp j hj] at b2
        exact hm.apart i j e1 e2 g ((hup i hi).symm.trans h1) ((hup j hj).symm.trans h2) b1 b2
  · dsimp only at h hg
    by_cases hid : id = c
    · subst hid
      have : e' = e := Option.some.inj (h.symm.trans hcc)
      subst this
      rw [show updP m.pl id p id = p from hpc] at hg
      exact (hb g hg).1
    · rw [show updP m.pl c p id = m.pl id from hpp id hid] at hg
      exact hm.where_ id e' g ((hup id hid).symm.trans h) hg

/-- A block of the call's own, and the entry that tells it. -/
theorem memR_alloc_new {C : Ctx} {m : Mem} (hm : MemR C m) {o : Obj} {c : Nat} {e : Ent} {U' : Addr → Prop} {p : Place} (hU : ∀ a, m.U a → U' a)
    (hN : ∀ a, U' a → m.U a ∨ (a.spot = none ∧ a.block = m.w.heap.size)) (hc : m.h c = none) (hpg : p.g = m.w.heap.size)
    (he : Ext C m ⟨U', m.pl, m.h, m.w.alloc o⟩ → EntR C ⟨U', m.pl, m.h, m.w.alloc o⟩ p e) :
    MemR C ⟨U', updP m.pl c p, updE m.h [(c, e)], m.w.alloc o⟩ ∧ Ext C m ⟨U', updP m.pl c p, updE m.h [(c, e)], m.w.alloc o⟩ := by
  obtain ⟨h1, h2⟩ := memR_alloc (o := o) hm hU hN
  obtain ⟨h3, h4⟩ := memR_new h1 (c := c) (p := p) (e := e) hc (he h2) (fun g hg => by
    have hgs : g = m.w.heap.size := by
      cases e with
      | box _ => simp [blkOf] at hg; omega
      | arr _ _ _ => simp [blkOf] at hg; omega
      | vec _ _ =>
        simp only [blkOf] at hg
        split at hg
        · cases hg
        · have := Option.some.inj hg; omega
      | frz _ _ _ => simp [blkOf] at hg
    have hs := hm.post.size
    exact ⟨.inl (by omega), fun id e' h hb => by have := hm.blk_lt h hb; omega⟩)
  exact ⟨h3, h2.trans h4⟩

/-- A block written, with its entry told anew. -/
theorem memR_set {C : Ctx} {m : Mem} (hm : MemR C m) {id g : Nat} {e e' : Ent} {o : Obj} {U' : Addr → Prop} {p : Place} (hid : m.h id = some e) (hb : blkOf (m.pl id) e = some g)
    (hU : ∀ a, m.U a → U' a) (hN : ∀ a, U' a → m.U a ∨ (a.spot = none ∧ a.block = g)) (hsame : ∀ a, m.U a → a.block = g → (setBlk m.w g o).cell? a = m.w.cell? a)
    (hx : EntExt (m.pl id) p e e') (hpb : blkOf p e' = some g)
    (he : Ext C m ⟨U', updP m.pl id p, updE m.h [(id, e')], setBlk m.w g o⟩ → EntR C ⟨U', updP m.pl id p, updE m.h [(id, e')], setBlk m.w g o⟩ p e') :
    MemR C ⟨U', updP m.pl id p, updE m.h [(id, e')], setBlk m.w g o⟩ ∧ Ext C m ⟨U', updP m.pl id p, updE m.h [(id, e')], setBlk m.w g o⟩ := by
  have hglt := hm.blk_lt hid hb
  have hp : Post [g] m.U m.w U' (setBlk m.w g o) :=
    ⟨hU, fun a h => by
        by_cases hg : a.block = g
        · exact hsame a h hg
        · exact cell_of_heap (setBlk_other hg),
      fun k _ hk => setBlk_other (by simpa using hk), by rw [setBlk_size]; exact Nat.le_refl _,
      fun a h => by
        rw [setBlk_size]
        rcases hN a h with h | h
        · exact hm.post.bound a h
        · exact ⟨h.1, by omega⟩,
      fun a h => by
        rcases hN a h with h | h
        · exact .inl h
        · exact .inr (.inr (by simp [h.2])), rfl, rfl, rfl⟩
  have hwh := hm.where_ id e g hid hb
  have hup : ∀ i, i ≠ id → updE m.h [(id, e')] i = m.h i := fun i hi => by
    simp [updE, get1, nbeq_ne hi]
  have hcc : updE m.h [(id, e')] id = some e' := by simp [updE, get1]
  have hpp : ∀ i, i ≠ id → updP m.pl id p i = m.pl i := fun i hi => if_neg hi
  have hpc : updP m.pl id p id = p := if_pos rfl
  have hxx : Ext C m ⟨U', updP m.pl id p, updE m.h [(id, e')], setBlk m.w g o⟩ := Ext.of_post hm hp (fun k hk => by simp at hk; subst hk; exact hwh) (fun i e1 h => by
    by_cases hi : i = id
    · subst hi
      rw [hid] at h
      obtain rfl := Option.some.inj h
      exact ⟨e', hcc, by show EntExt _ (updP m.pl i p i) _ _; rw [hpc]; exact hx⟩
    · exact ⟨e1, (hup i hi).trans h, by show EntExt _ (updP m.pl id p i) _ _; rw [hpp i hi]; exact EntExt.refl _ _⟩)
  refine ⟨⟨hm.post.step hp (fun k hk => by simp at hk; subst hk; exact hwh), fun i e1 h => ?_, fun i j e1 e2 g' h1 h2 b1 b2 => ?_, fun i e1 g' h hg => ?_⟩, hxx⟩
  · show EntR C _ (updP m.pl id p i) e1
    by_cases hi : i = id
    · subst hi
      obtain rfl := Option.some.inj (h.symm.trans hcc)
      rw [hpc]; exact he hxx
    · rw [hpp i hi]
      have h' := (hup i hi).symm.trans h
      refine EntR_keep hxx (hm.ents i e1 h') (fun g' hg' => ?_)
      have hne : g' ≠ g := fun hgg => by
        subst hgg
        exact hi (hm.apart i id e1 e g' h' hid hg' hb)
      refine ⟨setBlk_other hne, fun a ha hu => ?_⟩
      rcases hN a hu with h | h
      · exact h
      · exact absurd (ha.symm.trans h.2) hne
  · dsimp only at h1 h2 b1 b2
    by_cases hi : i = id
    · by_cases hj : j = id
      · rw [hi, hj]
      · subst hi
        obtain rfl := Option.some.inj (h1.symm.trans hcc)
        rw [show updP m.pl i p i = p from hpc] at b1
        rw [show updP m.pl i p j = m.pl j from hpp j hj] at b2
        have : g' = g := Option.some.inj (b1.symm.trans hpb)
        subst this
        exact (hm.apart j i e2 e g' ((hup j hj).symm.trans h2) hid b2 hb).symm
    · by_cases hj : j = id
      · subst hj
        obtain rfl := Option.some.inj (h2.symm.trans hcc)
        rw [show updP m.pl j p j = p from hpc] at b2
        rw [show updP m.pl j p i = m.pl i from hpp i hi] at b1
        have : g' = g := Option.some.inj (b2.symm.trans hpb)
        subst this
        exact hm.apart i j e1 e g' ((hup i hi).symm.trans h1) hid b1 hb
      · rw [show updP m.pl id p i = m.pl i from hpp i hi] at b1
        rw [show updP m.pl id p j = m.pl j from hpp j hj] at b2
        exact hm.apart i j e1 e2 g' ((hup i hi).symm.trans h1) ((hup j hj).symm.trans h2) b1 b2
  · dsimp only at h hg
    by_cases hi : i = id
    · subst hi
      obtain rfl := Option.some.inj (h.symm.trans hcc)
      rw [show updP m.pl i p i = p from hpc] at hg
      have : g' = g := Option.some.inj (hg.symm.trans hpb)
      subst this
      exact hwh
    · rw [show updP m.pl id p i = m.pl i from hpp i hi] at hg
      exact hm.where_ i e1 g' ((hup i hi).symm.trans h) hg

end Go.Proofs.Ytmlolnaannoifaa

/- Loads and stores. -/
namespace Go.Proofs.Ytmlolnaannoifaa

section types
variable {P : Program} {T : Types} {t : TypeId} {ti : TyI} {w : World}

theorem TyRow.size1 (h : TyRow P t ti) (ha : ti.td.agg = false) : ti.size = 1 := by
  obtain ⟨i, z, _, _, _, _, hz, _, hm⟩ := h.info
  have hl := h.zlen
  rw [← hz, List.length_map] at hl
  have h1 : z.cells.toList.length = 1 := by cases z <;> first | rfl | (simp [ha] at hm)
  omega

theorem TyRow.run_info (h : TyRow P t ti) : ∃ i z, (typeInfo t).run P w = .ok i w ∧ (sizeOf t).run P w = .ok ti.size w ∧ i.bytes = ti.bytes ∧ (zeroValue t).run P w = .ok z w ∧
    z.cells.toList.map ofConst = ti.zero ∧ (z.cells.toList.all oneC) = true ∧ (ti.td.agg = true → z = .agg z.cells) := by
  obtain ⟨i, z, h1, h2, h3, h4, h5, h6, h7⟩ := h.info
  have ht : (typeInfo t).run P w = .ok i w := by simp [typeInfo, h1]
  refine ⟨i, z, ht, by simp [sizeOf, ht, h2], h3, by simp [zeroValue, ht, h4], h5, h6, fun ha => ?_⟩
  cases z <;> simp_all [Value.cells]

theorem TyRow.run_size (h : TyRow P t ti) : (sizeOf t).run P w = .ok ti.size w := by
  obtain ⟨i, z, _, h2, _⟩ := h.run_info (w := w); exact h2

theorem TyRow.run_und (h : TyRow P t ti) : ∃ d, (underlying t).run P w = .ok d w ∧ P.underlying t = some d ∧ TD.of d = ti.td := by
  obtain ⟨d, h1, h2⟩ := h.und
  exact ⟨d, run_underlying h1 w, h1, h2⟩

theorem td_agg {d : TypeDesc} {x : TD} (h : TD.of d = x) : x.agg = (match d with | .struct _ => true | .array _ _ => true | _ => false) := by
  subst h; cases d <;> rfl

theorem TyRow.run_agg (h : TyRow P t ti) : (isAgg t).run P w = .ok ti.td.agg w := by
  obtain ⟨d, h1, _, h3⟩ := h.run_und (w := w)
  rw [td_agg h3]
  simp only [isAgg, Sem.run_bind, h1, Result.andThen_ok]
  cases d <;> rfl

theorem td_slice {d : TypeDesc} {e : TypeId} (h : TD.of d = .slice e) : d = .slice e := by cases d <;> simp [TD.of] at h; rw [h]
theorem td_array {d : TypeDesc} {n : Nat} {e : TypeId} (h : TD.of d = .array n e) : d = .array n e := by cases d <;> simp [TD.of] at h; rw [h.1, h.2]
theorem td_int {d : TypeDesc} {k : IntKind} (h : TD.of d = .int k) : d = .int k := by cases d <;> simp [TD.of] at h; rw [h]
theorem td_flt {d : TypeDesc} {k : FloatKind} (h : TD.of d = .flt k) : d = .float k := by cases d <;> simp [TD.of] at h; rw [h]
theorem td_str {d : TypeDesc} (h : TD.of d = .str) : d = .string := by cases d <;> simp [TD.of] at h; rfl
theorem td_struct {d : TypeDesc} {l : List (Nat × TypeId)} (h : TD.of d = .struct l) : ∃ fs, d = .struct fs ∧ fs.toList.map (fun f => (f.offset, f.type)) = l := by
  cases d <;> simp [TD.of] at h
  exact ⟨_, rfl, h⟩

/-- The value of a row of cells. -/
def rowVal (ti : TyI) (vs : List Value) : Value := if ti.td.agg then .agg vs.toArray else vs.headD undef

theorem run_loadVar (h : TyRow P t ti) {a : Addr} {vs : List Value} (hl : vs.length = ti.size) (hc : ∀ j, j < ti.size → w.cell? (a.add j) = vs[j]?) :
    (loadVar t a).run P w = .ok (rowVal ti vs) w := by
  unfold loadVar rowVal
  rw [Sem.run_bind, h.run_agg, Result.andThen_ok]
  cases ha : ti.td.agg with
  | true =>
    have hlc := run_loadCells (P := P) (w := w) (a := a) ti.size 0 #[] vs hl (fun j hj => by rw [Nat.zero_add]; exact hc j hj)
    simp only [if_true, Sem.run_bind, h.run_size, Result.andThen_ok, loadCells, hlc]
    simp
  | false =>
    have h1 := h.size1 ha
    match vs, hl with
    | [v], _ =>
      have := hc 0 (by omega)
      simp only [List.getElem?_cons_zero] at this
      have ha0 : a.add 0 = a := by simp [Addr.add]
      rw [ha0] at this
      simp [this]
    | [], hl => simp [h1] at hl
    | _ :: _ :: _, hl => simp [h1] at hl

theorem rowVal_cells (h : TyRow P t ti) {vs : List Value} (hl : vs.length = ti.size) (ho : ∀ v ∈ vs, oneC v = true) : (rowVal ti vs).cells.toList = vs := by
  unfold rowVal
  cases ha : ti.td.agg with
  | true => simp [Value.cells]
  | false =>
    have h1 := h.size1 ha
    match vs, hl with
    | [v], _ =>
      have := ho v (by simp)
      cases v <;> simp_all [Value.cells, oneC]
    | [], hl => simp [h1] at hl
    | _ :: _ :: _, hl => simp [h1] at hl

theorem run_storeVar (h : TyRow P t ti) {g o : Nat} {cs : Array Value} {ty : TypeId} {v : Value} (hh : w.heap[g]? = some (.cells cs ty (0, 0)))
    (hv : v.cells.size = ti.size) (hl : o + v.cells.size ≤ cs.size) (ho : ∀ u ∈ v.cells.toList, oneC u = true) :
    (storeVar t ⟨g, o, none⟩ v).run P w = .ok () (if v.cells.toList = [] then w else setBlk w g (.cells (putA cs o v.cells.toList) ty (0, 0))) := by
  unfold storeVar
  have hs : ¬ (v.cells.size ≠ ti.size) := by simp [hv]
  rw [Sem.run_bind, h.run_size, Result.andThen_ok, if_neg hs]
  have := run_storeCells (P := P) v.cells.toList w g o 0 cs ty hh (by simpa using hl) ho
  simpa using this
end types

theorem avr_cells {C : Ctx} {m : Mem} {av : AV} {v : Value} {l : List AV1} (h : AVR C m av v) (hl : avCells av = some l) : CLs C m l v.cells.toList := by
  cases av with
  | one a =>
    have key : avCells (.one a) = some [a] → (oneC v = true ∧ AVR1 C m a v) → CLs C m l v.cells.toList := by
      intro h1 hv
      have : [a] = l := Option.some.inj (h1.symm.trans hl)
      subst this
      have : v.cells = #[v] := by cases v <;> simp_all [oneC, Value.cells]
      rw [this]
      exact ⟨hv, trivial⟩
    cases a with
    | any => cases hl
    | _ => exact key rfl h
  | agg l' =>
    simp only [avCells, Option.some.injEq] at hl
    subst hl
    obtain ⟨cs, rfl, hc⟩ := h
    exact hc
  | tup _ => cases hl

theorem pieceOf_sound {C : Ctx} {m : Mem} {P : Program} {t : TypeId} {ti : TyI} (ht : TyRow P t ti) {l : List AV1} {off : Nat} {av : AV} {vs : List Value}
    (h : pieceOf ti l off = some av) (hc : CLs C m l vs) : ((vs.drop off).take ti.size).length = ti.size ∧ AVR C m av (rowVal ti ((vs.drop off).take ti.size)) := by
  unfold pieceOf at h
  have hlen := hc.length
  cases ha : ti.td.agg with
  | true =>
    simp only [ha, if_true] at h
    split at h
    · rename_i hle
      obtain rfl := Option.some.inj h
      refine ⟨by simp; omega, ?_⟩
      unfold rowVal; rw [ha]
      exact ⟨_, rfl, (hc.drop off).take _⟩
    · cases h
  | false =>
    simp only [ha, Bool.false_eq_true, if_false] at h
    have h1 := ht.size1 ha
    cases hl : l[off]? with
    | none => simp [hl] at h
    | some a =>
      simp only [hl, Option.map_some, Option.some.injEq] at h
      subst h
      obtain ⟨u, hu, ho, hr⟩ := hc.get hl
      have hd : vs.drop off = u :: vs.drop (off + 1) := by
        have := List.getElem?_eq_some_iff.1 hu
        obtain ⟨hlt, hh⟩ := this
        rw [List.drop_eq_getElem_cons hlt, hh]
      rw [hd, h1]
      refine ⟨by simp, ?_⟩
      unfold rowVal; rw [ha]
      cases a with
      | any => trivial
      | _ => exact ⟨ho, hr⟩

theorem elemsOfArr_sound {C : Ctx} {m : Mem} {e : Kd} {xs : List e.T} {vs : List Value} (hx : ∀ (i : Nat) (h : i < xs.length), CR m.U m.w e xs[i] ((vs.drop (i * e.sz)).take e.sz)) :
    ∀ (n i : Nat), i + n = xs.length → vs.length = xs.length * e.sz → CLs C m (elemsOfArr e xs n i) (vs.drop (i * e.sz))
  | 0, i, h, hl => by
    have : i = xs.length := by omega
    rw [this, ← hl, List.drop_length]; trivial
  | n + 1, i, h, hl => by
    have hi : i < xs.length := by omega
    have h1 := hx i hi
    have ih := elemsOfArr_sound (C := C) (m := m) hx n (i + 1) (by omega) hl
    have hsplit : vs.drop (i * e.sz) = (vs.drop (i * e.sz)).take e.sz ++ vs.drop ((i + 1) * e.sz) := by
      have := (List.take_append_drop e.sz (vs.drop (i * e.sz))).symm
      rw [List.drop_drop] at this
      rw [Nat.add_mul, Nat.one_mul]; exact this
    rw [hsplit]
    refine CLs.app ?_ ih
    rw [show xs.getD i e.dflt = xs[i] by simp [List.getD, hi]]
    exact toCells_sound h1

theorem loadAV_sound {C : Ctx} {m : Mem} (hm : MemR C m) {g : View} (hg : ViewOK g m.h) {t : TypeId} {ti : TyI} (ht : TyRow C.P t ti) {a : AV1} {ps : List Prop} {av : AV} {v : Value}
    (h : loadAV ti a g = some (ps, av)) (hp : ∀ p ∈ ps, p) (ha : AVR1 C m a v) : ∃ u, (Instr.loadAt t v).run C.P m.w = .ok u m.w ∧ AVR C m av u := by
  have key : ∀ (ad : Addr) (vs : List Value), v = .pointer (some ad) → vs.length = ti.size → (∀ j, j < ti.size → m.w.cell? (ad.add j) = vs[j]?) → AVR C m av (rowVal ti vs) →
      ∃ u, (Instr.loadAt t v).run C.P m.w = .ok u m.w ∧ AVR C m av u := by
    intro ad vs hv hl hc hr
    subst hv
    exact ⟨_, by simp only [Instr.loadAt, Instr.sureAddr, Sem.run_bind, Sem.run_pure, Result.andThen_ok]; exact run_loadVar ht hl hc, hr⟩
  unfold loadAV at h
  split at h
  · rename_i id off
    obtain ⟨hv, _⟩ := ha
    split at h
    · rename_i cells hid
      cases hpc : pieceOf ti cells off with
      | none => rw [hpc] at h; cases h
      | some av' =>
        rw [hpc] at h
        simp only [Option.map_some, Option.some.injEq, Prod.mk.injEq] at h
        obtain ⟨_, rfl⟩ := h
        obtain ⟨cs, ty, h1, h2, h3⟩ := hm.ents id _ (hg _ _ hid)
        obtain ⟨hl, hr⟩ := pieceOf_sound ht hpc h2
        refine key _ _ hv hl (fun j hj => ?_) hr
        rw [Addr.add_mk, cell_blk h1]
        rw [List.getElem?_take_of_lt hj, List.getElem?_drop]
        simp
    · rename_i e n xs hid
      split at h
      · rename_i hcond
        obtain ⟨rfl, hagg, hsz⟩ := hcond
        simp only [Option.some.injEq, Prod.mk.injEq] at h
        obtain ⟨_, rfl⟩ := h
        obtain ⟨hn, cs, ty, h1, h2, h3, h4⟩ := hm.ents id _ (hg _ _ hid)
        have hs := elemsOfArr_sound (C := C) (m := m) h3 n 0 (by omega) (by simp [h2, hn])
        simp only [Nat.zero_mul, List.drop_zero] at hs
        refine key _ cs.toList hv (by simp [h2, hsz]) (fun j hj => ?_) ?_
        · rw [Addr.add_mk, cell_blk h1]; simp
        · unfold rowVal; rw [hagg]; exact ⟨_, rfl, by simpa using hs⟩
      · cases h
    · cases h
  · rename_i id i off
    split at h
    · rename_i e n xs hid
      cases hpc : pieceOf ti (toCells e (xs.getD i e.dflt)) off with
      | none => rw [hpc] at h; cases h
      | some av' =>
        rw [hpc] at h
        simp only [Option.map_some, Option.some.injEq, Prod.mk.injEq] at h
        obtain ⟨rfl, rfl⟩ := h
        have hin : i < n := hp _ (by simp)
        have hid' := hg _ _ hid
        have hv := eptr_arr ha hid'
        obtain ⟨hn, cs, ty, h1, h2, h3, h4⟩ := hm.ents id _ hid'
        have hi : i < xs.length := by omega
        have hcr := h3 i hi
        rw [show xs.getD i e.dflt = xs[i] by simp [List.getD, hi]] at hpc
        obtain ⟨hl, hr⟩ := pieceOf_sound ht hpc (toCells_sound (C := C) hcr)
        refine key _ _ hv hl (fun j hj => ?_) hr
        rw [Addr.add_mk, cell_blk h1]
        have hlen : off + ti.size ≤ e.sz := by
          have h5 := hcr.length
          rw [List.length_take, List.length_drop, h5] at hl
          omega
        rw [List.getElem?_take_of_lt hj, List.getElem?_drop, List.getElem?_take_of_lt (by omega), List.getElem?_drop]
        rw [show i * e.sz + off + j = i * e.sz + (off + j) by omega]
        simp
    · cases h
  · rename_i k x
    obtain ⟨ad, l, hv, hc, hj⟩ := ha
    cases hpc : pieceOf ti (toCells k x) 0 with
    | none => rw [hpc] at h; cases h
    | some av' =>
      rw [hpc] at h
      simp only [Option.map_some, Option.some.injEq, Prod.mk.injEq] at h
      obtain ⟨_, rfl⟩ := h
      obtain ⟨hl, hr⟩ := pieceOf_sound ht hpc (toCells_sound (C := C) hc)
      simp only [List.drop_zero] at hl hr
      refine key _ _ hv hl (fun j hjl => ?_) hr
      have : j < l.length := by rw [List.length_take] at hl; omega
      rw [List.getElem?_take_of_lt hjl]
      exact (hj j this).2
  · cases h

end Go.Proofs.Ytmlolnaannoifaa

/- Stores; new variables. -/
namespace Go.Proofs.Ytmlolnaannoifaa

/-- The model's run of one operation, as told. -/
def ExecOK (P : Program) (ρ : Operand → Value) (o : Oper) (w : World) (R : Value → World → Prop) : Prop :=
  match (execOp ρ o).run P w with
  | .ok (.value v) w' => R v w'
  | .ok .skip w' => R undef w'
  | .ok (.enter f args) w' => Calls P f args w' fun e w'' => ∃ v, e = .returned v ∧ R v w''
  | _ => False

theorem execOK_value {P : Program} {ρ : Operand → Value} {o : Oper} {w w' : World} {R : Value → World → Prop} {e : Sem Value} {v : Value}
    (h1 : execOp ρ o = (do pure (.value (← e)))) (h2 : e.run P w = .ok v w') (h3 : R v w') : ExecOK P ρ o w R := by
  unfold ExecOK
  rw [h1]
  simp only [Sem.run_bind, h2, Result.andThen_ok, Sem.run_pure]
  exact h3

theorem execOK_skip {P : Program} {ρ : Operand → Value} {o : Oper} {w w' : World} {R : Value → World → Prop} {e : Sem Unit}
    (h1 : execOp ρ o = (do e; pure .skip)) (h2 : e.run P w = .ok () w') (h3 : R undef w') : ExecOK P ρ o w R := by
  unfold ExecOK
  rw [h1]
  simp only [Sem.run_bind, h2, Result.andThen_ok, Sem.run_pure]
  exact h3

theorem putCells_sound {C : Ctx} {m : Mem} : ∀ {l : List AV1} {us : List Value} {cells : List AV1} {cs : Array Value} (o : Nat), CLs C m l us → CLs C m cells cs.toList → CLs C m (putCells cells o l) (putA cs o us).toList
  | [], [], _, _, _, _, h => h
  | a :: l, v :: us, cells, cs, o, h, h' => by
    simp only [putCells, putA]
    refine putCells_sound (o + 1) h.2 ?_
    rw [Array.toList_setIfInBounds]
    exact h'.set h.1 o
  | [], _ :: _, _, _, _, h, _ => h.elim
  | _ :: _, [], _, _, _, h, _ => h.elim

theorem putCells_length : ∀ (l : List AV1) (cells : List AV1) (o : Nat), (putCells cells o l).length = cells.length
  | [], _, _ => rfl
  | a :: l, cells, o => by simp [putCells, putCells_length l]

theorem list_ext? {α : Type} {a b : List α} (h : ∀ i : Nat, a[i]? = b[i]?) : a = b := List.ext_getElem? h

theorem putA_in {cs : Array Value} {us : List Value} {b off sz : Nat} (h1 : off + us.length ≤ sz) (h2 : b + sz ≤ cs.size) :
    ((putA cs (b + off) us).toList.drop b).take sz = (putA ((cs.toList.drop b).take sz).toArray off us).toList := by
  apply list_ext?
  intro j
  have hL : ((cs.toList.drop b).take sz).toArray.size = sz := by simp; omega
  by_cases hj : j < sz
  · rw [List.getElem?_take_of_lt hj, List.getElem?_drop, Array.getElem?_toList, putA_get us cs _ _ (by omega), Array.getElem?_toList (xs := putA ((cs.toList.drop b).take sz).toArray off us), putA_get us _ _ _ (by rw [hL]; omega)]
    by_cases hc : off ≤ j ∧ j < off + us.length
    · rw [if_pos (by omega), if_pos hc, show b + j - (b + off) = j - off by omega]
    · rw [if_neg (by omega), if_neg hc]
      simp [List.getElem?_take_of_lt hj]
  · rw [List.getElem?_eq_none (by simp; omega), List.getElem?_eq_none (by simp [putA_size]; omega)]

theorem putA_out {cs : Array Value} {us : List Value} {o b sz : Nat} (h2 : o + us.length ≤ cs.size) (h3 : b + sz ≤ o ∨ o + us.length ≤ b) :
    ((putA cs o us).toList.drop b).take sz = (cs.toList.drop b).take sz := by
  apply list_ext?
  intro j
  by_cases hj : j < sz
  · rw [List.getElem?_take_of_lt hj, List.getElem?_drop, Array.getElem?_toList, putA_get _ _ _ _ h2, if_neg (by omega), List.getElem?_take_of_lt hj, List.getElem?_drop, Array.getElem?_toList]
  · rw [List.getElem?_eq_none (by simp; omega), List.getElem?_eq_none (by simp; omega)]

/-- A store. -/
theorem storeAV_sound {C : Ctx} {m : Mem} (hm : MemR C m) {g : View} (hg : ViewOK g m.h) {t : TypeId} {ti : TyI} (ht : TyRow C.P t ti) {a : AV1} {av : AV} {ps : List Prop} {id : Nat} {e : Ent} {v u : Value} {l : List AV1}
    (hs : storeAV a av g = some (ps, id, e)) (hp : ∀ p ∈ ps, p) (hl : avCells av = some l) (hlen : l.length = ti.size) (ha : AVR1 C m a v) (hu : AVR C m av u) :
    ∃ w', (Instr.storeAt t v u).run C.P m.w = .ok () w' ∧ After C m (.one .any) [(id, e)] undef w' := by
  have hcl := avr_cells hu hl
  have hcs : u.cells.size = ti.size := by rw [← hlen, ← hcl.length]; simp
  have hone := hcl.one
  unfold storeAV at hs
  rw [hl] at hs
  simp only at hs
  have fin : ∀ {o : Obj} {g0 : Nat}, MemR C ⟨m.U, updP m.pl id (m.pl id), updE m.h [(id, e)], setBlk m.w g0 o⟩ ∧ Ext C m ⟨m.U, updP m.pl id (m.pl id), updE m.h [(id, e)], setBlk m.w g0 o⟩ →
      After C m (.one .any) [(id, e)] undef (setBlk m.w g0 o) := fun h => ⟨_, _, h.1, h.2, trivial⟩
  have runs : ∀ {off : Nat} {g0 : Nat} {cs : Array Value} {ty : TypeId}, v = .pointer (some ⟨g0, off, none⟩) → m.w.heap[g0]? = some (.cells cs ty (0, 0)) → off + u.cells.size ≤ cs.size →
      (Instr.storeAt t v u).run C.P m.w = .ok () (if u.cells.toList = [] then m.w else setBlk m.w g0 (.cells (putA cs off u.cells.toList) ty (0, 0))) := by
    intro off g0 cs ty hv hh hle
    subst hv
    simp only [Instr.storeAt, Instr.sureAddr, Sem.run_bind, Sem.run_pure, Result.andThen_ok]
    exact run_storeVar ht hh hcs hle hone
  have nil : ∀ {g0 off : Nat} {cs : Array Value} {ty : TypeId}, m.w.heap[g0]? = some (.cells cs ty (0, 0)) →
      (if u.cells.toList = [] then m.w else setBlk m.w g0 (.cells (putA cs off u.cells.toList) ty (0, 0))) = setBlk m.w g0 (.cells (putA cs off u.cells.toList) ty (0, 0)) := by
    intro g0 off cs ty hh
    split
    · rename_i hn
      rw [hn]
      simp only [putA, setBlk]
      have hlt := lt_of_heap hh
      have : m.w.heap.setIfInBounds g0 (.cells cs ty (0, 0)) = m.w.heap := by
        apply Array.ext'
        rw [Array.toList_setIfInBounds]
        apply list_ext?
        intro j
        by_cases hj : g0 = j
        · subst hj
          rw [List.getElem?_set_self (by simpa using hlt), Array.getElem?_toList, hh]
        · rw [List.getElem?_set_ne hj]
      rw [this]
    · rfl
  split at hs
  · rename_i id' off
    obtain ⟨hv, _⟩ := ha
    split at hs
    · rename_i cells hid
      split at hs
      · rename_i hle
        simp only [Option.some.injEq, Prod.mk.injEq] at hs
        obtain ⟨_, rfl, rfl⟩ := hs
        obtain ⟨cs, ty, h1, h2, h3⟩ := hm.ents _ _ (hg _ _ hid)
        have hsz : cs.size = cells.length := by simpa using h2.length
        have hle' : off + u.cells.size ≤ cs.size := by rw [hcs, ← hlen]; omega
        refine ⟨_, (runs hv h1 hle').trans (by rw [nil h1]), fin ?_⟩
        refine memR_set hm (hg _ _ hid) rfl (fun _ h => h) (fun a h => .inl h) (fun a h hb => absurd h (h3 a hb)) rfl rfl (fun hx => ?_)
        exact ⟨_, ty, setBlk_same (lt_of_heap h1), hx.CLs (putCells_sound off hcl h2), h3⟩
      · cases hs
    · rename_i e0 n xs hid
      split at hs
      · rename_i hoff
        subst hoff
        split at hs
        · rename_i qs ys hys
          simp only [Option.some.injEq, Prod.mk.injEq] at hs
          obtain ⟨rfl, rfl, rfl⟩ := hs
          obtain ⟨hn, cs, ty, h1, h2, h3, h4⟩ := hm.ents _ _ (hg _ _ hid)
          obtain ⟨hyl, hul, hyr⟩ := ofElems_sound hm hg hys hp hcl
          have hle' : 0 + u.cells.size ≤ cs.size := by rw [h2, ← hul]; simp
          refine ⟨_, (runs hv h1 hle').trans (by rw [nil h1]), fin ?_⟩
          refine memR_set hm (hg _ _ hid) rfl (fun _ h => h) (fun a h => .inl h) (fun a h hb => absurd h (h4 a hb)) ⟨rfl, rfl, rfl⟩ rfl (fun hx => ?_)
          refine ⟨hyl, _, ty, setBlk_same (lt_of_heap h1), by rw [putA_size, h2], fun i hi => ?_, h4⟩
          have := hx.CR (hyr i hi)
          have heq : (putA cs 0 u.cells.toList).toList = u.cells.toList := by
            apply list_ext?
            intro j
            rw [Array.getElem?_toList, putA_get _ _ _ _ (by simpa using hle')]
            by_cases hj : j < u.cells.toList.length
            · rw [if_pos (by omega)]; rfl
            · rw [if_neg (by omega), Array.getElem?_eq_none (by rw [h2, ← hul]; omega), List.getElem?_eq_none (by omega)]
          rw [heq]; exact this
        · cases hs
      · cases hs
    · cases hs
  · rename_i id' i off
    split at hs
    · rename_i e0 n xs hid
      split at hs
      · rename_i hle
        split at hs
        · rename_i qs y hy
          simp only [Option.some.injEq, Prod.mk.injEq] at hs
          obtain ⟨rfl, rfl, rfl⟩ := hs
          have hin : i < n := hp _ (by simp)
          have hqs : ∀ p ∈ qs, p := fun p hpq => hp p (by simp [hpq])
          have hid' := hg _ _ hid
          have hv := eptr_arr ha hid'
          obtain ⟨hn, cs, ty, h1, h2, h3, h4⟩ := hm.ents _ _ hid'
          have hi : i < xs.length := by omega
          have hcr := h3 i hi
          have hL : ((cs.toList.drop (i * e0.sz)).take e0.sz).length = e0.sz := hcr.length
          have hold := toCells_sound (C := C) hcr
          rw [show xs.getD i e0.dflt = xs[i] by simp [List.getD, hi]] at hle hy
          have hol : (toCells e0 xs[i]).length = e0.sz := by rw [← hold.length, hL]
          have hble : i * e0.sz + e0.sz ≤ cs.size := by
            rw [h2, ← Nat.succ_mul]; exact Nat.mul_le_mul_right _ hin
          have hule : off + u.cells.toList.length ≤ e0.sz := by rw [← hol, hcl.length]; exact hle
          have hle' : i * e0.sz + off + u.cells.size ≤ cs.size := by
            have : u.cells.toList.length = u.cells.size := by simp
            omega
          refine ⟨_, (runs hv h1 hle').trans (by rw [nil h1]), fin ?_⟩
          refine memR_set hm hid' rfl (fun _ h => h) (fun a h => .inl h) (fun a h hb => absurd h (h4 a hb)) ⟨rfl, rfl, rfl⟩ rfl (fun hx => ?_)
          refine ⟨by simp [hn], _, ty, setBlk_same (lt_of_heap h1), by rw [putA_size, h2], fun j hj => ?_, h4⟩
          have hj' : j < xs.length := by simpa using hj
          by_cases hji : j = i
          · subst hji
            rw [List.getElem_set_self, putA_in hule hble]
            have hput := putCells_sound (C := C) (m := m) (cs := ((cs.toList.drop (j * e0.sz)).take e0.sz).toArray) off hcl (by simpa using hold)
            exact hx.CR (ofCellsAll_sound hm hg hy hqs hput)
          · rw [List.getElem_set_ne (by omega), putA_out (by omega) ?_]
            · exact hx.CR (h3 j hj')
            · rcases Nat.lt_or_gt_of_ne hji with hlt | hlt
              · left
                have : (j + 1) * e0.sz ≤ i * e0.sz := Nat.mul_le_mul_right _ hlt
                rw [Nat.add_mul] at this; omega
              · right
                have : (i + 1) * e0.sz ≤ j * e0.sz := Nat.mul_le_mul_right _ hlt
                rw [Nat.add_mul] at this; omega
        · cases hs
      · cases hs
    · cases hs
  · cases hs

end Go.Proofs.Ytmlolnaannoifaa

/- New variables, aggregates, slices that are made. -/
namespace Go.Proofs.Ytmlolnaannoifaa

theorem avr_one {C : Ctx} {m : Mem} {a : AV1} {v : Value} (h : AVR C m (.one a) v) (hne : a ≠ .any) : oneC v = true ∧ AVR1 C m a v := by
  cases a with
  | any => exact absurd rfl hne
  | _ => exact h

theorem avr_of_one {C : Ctx} {m : Mem} {a : AV1} {v : Value} (h : oneC v = true ∧ AVR1 C m a v) : AVR C m (.one a) v := by
  cases a with
  | any => trivial
  | _ => exact h

theorem zero_cells {C : Ctx} {m : Mem} : ∀ (l : List Value), (l.all oneC) = true → CLs C m (l.map ofConst) l
  | [], _ => trivial
  | v :: l, h => by
    simp only [List.all_cons, Bool.and_eq_true] at h
    exact ⟨⟨h.1, ofConst_sound C m v⟩, zero_cells l h.2⟩

theorem newEnt_sound {C : Ctx} {m : Mem} (hm : MemR C m) {T : Types} {ti : TyI} {cells : List AV1} {ps : List Prop} {e : Ent} {us : Array Value} {c : Nat} {ty : TypeId}
    (h : newEnt ti T cells = some (ps, e)) (hp : ∀ p ∈ ps, p) (hc : CLs C m cells us.toList) (hn : m.h c = none) :
    ∃ pl', MemR C ⟨m.U, pl', updE m.h [(c, e)], m.w.alloc (.cells us ty)⟩ ∧ Ext C m ⟨m.U, pl', updE m.h [(c, e)], m.w.alloc (.cells us ty)⟩ ∧
      AVR C ⟨m.U, pl', updE m.h [(c, e)], m.w.alloc (.cells us ty)⟩ (.one (.ptr c 0)) (.pointer (some ⟨m.w.heap.size, 0, none⟩)) := by
  have hnoU : ∀ a : Addr, a.block = m.w.heap.size → ¬ m.U a := fun a ha hu => by have := (hm.post.bound a hu).2; omega
  have hcc : updE m.h [(c, e)] c = some e := by simp [updE, get1]
  have main : ∀ (hE : Ext C m ⟨m.U, m.pl, m.h, m.w.alloc (.cells us ty)⟩ → EntR C ⟨m.U, m.pl, m.h, m.w.alloc (.cells us ty)⟩ ⟨m.w.heap.size, none, 0⟩ e)
      (_hk : (∃ cells, e = .box cells) ∨ (∃ k n xs, e = .arr k n xs)), ∃ pl', MemR C ⟨m.U, pl', updE m.h [(c, e)], m.w.alloc (.cells us ty)⟩ ∧ Ext C m ⟨m.U, pl', updE m.h [(c, e)], m.w.alloc (.cells us ty)⟩ ∧
      AVR C ⟨m.U, pl', updE m.h [(c, e)], m.w.alloc (.cells us ty)⟩ (.one (.ptr c 0)) (.pointer (some ⟨m.w.heap.size, 0, none⟩)) := fun hE hk => by
    obtain ⟨h1, h2⟩ := memR_alloc_new hm (o := .cells us ty) (c := c) (e := e) (p := ⟨m.w.heap.size, none, 0⟩) (fun _ h => h) (fun a h => .inl h) hn rfl hE
    refine ⟨_, h1, h2, rfl, by show _ = Value.pointer (some ⟨(updP m.pl c _ c).g, 0, none⟩); simp [updP], ?_⟩
    rcases hk with ⟨cells, rfl⟩ | ⟨k, n, xs, rfl⟩
    · exact .inl ⟨_, hcc⟩
    · exact .inr (.inl ⟨_, _, _, hcc⟩)
  unfold newEnt at h
  split at h
  · rename_i n et htd
    split at h
    · rename_i te hte
      split at h
      · rename_i qs xs hxs
        simp only [Option.some.injEq, Prod.mk.injEq] at h
        obtain ⟨rfl, rfl⟩ := h
        obtain ⟨h1, h2, h3⟩ := ofElems_sound hm (g := fun _ => none) (fun _ _ h => by cases h) hxs hp hc
        exact main (fun hx => ⟨h1, us, ty, alloc_heap_new, by simpa using h2, fun i hi => hx.CR (h3 i hi), hnoU⟩) (.inr ⟨_, _, _, rfl⟩)
      · cases h
    · cases h
  · simp only [Option.some.injEq, Prod.mk.injEq] at h
    obtain ⟨_, rfl⟩ := h
    exact main (fun hx => ⟨us, ty, alloc_heap_new, hx.CLs hc, hnoU⟩) (.inl ⟨_, rfl⟩)

/-- A part of an aggregate in its place. -/
def PVs (C : Ctx) (m : Mem) : List (Nat × AV) → List (Nat × Value) → Prop
  | [], [] => True
  | p :: l, q :: r => (p.1 = q.1 ∧ AVR C m p.2 q.2) ∧ PVs C m l r
  | _, _ => False

theorem fill_put {C : Ctx} {m : Mem} {sz sz' : Nat → Option (Nat × Nat)} (hsz' : ∀ i r, sz i = some r → sz' i = some r) : ∀ (parts : List (Nat × AV)) (vals : List (Nat × Value)) {l r : List AV1} {cs : Array Value},
    fillParts sz l parts = some r → PVs C m parts vals → CLs C m l cs.toList →
    ∃ cs', Instr.fill sz' cs vals = some cs' ∧ CLs C m r cs'.toList
  | [], _ :: _, _, _, _, _, hv, _ => hv.elim
  | _ :: _, [], _, _, _, _, hv, _ => hv.elim
  | [], [], l, r, cs, h, hv, hc => by
    simp only [fillParts, Option.some.injEq] at h
    subst h
    exact ⟨cs, rfl, hc⟩
  | (i, av) :: parts, (j, v) :: vals, l, r, cs, h, hb, hc => by
    obtain ⟨⟨hij, hav⟩, hv⟩ := hb
    simp only at hij hav
    subst hij
    simp only [fillParts] at h
    split at h
    · rename_i off size cl hsz hcl
      split at h
      · rename_i hcond
        have hvc := avr_cells hav hcl
        have hvl : v.cells.size = cl.length := by simpa using hvc.length
        have hcl' : cs.size = l.length := by simpa using hc.length
        have hfold : v.cells.zipIdx.foldl (fun cs (x : Value × Nat) => cs.setIfInBounds (off + x.2) x.1) cs = putA cs off v.cells.toList := by
          rw [← Array.foldl_toList]
          have : ∀ (us : List Value) (cs : Array Value) (k o : Nat), (us.zipIdx k).foldl (fun cs (x : Value × Nat) => cs.setIfInBounds (o + x.2) x.1) cs = putA cs (o + k) us := by
            intro us
            induction us with
            | nil => intro cs k o; rfl
            | cons u us ih =>
              intro cs k o
              simp only [List.zipIdx_cons, List.foldl_cons, putA]
              rw [ih]; rfl
          have h0 := this v.cells.toList cs 0 off
          simp only [Nat.add_zero] at h0
          rw [← h0]
          congr 1
          simp [Array.toList_zipIdx]
        obtain ⟨cs', h1, h2⟩ := fill_put hsz' parts vals h hv (putCells_sound off hvc hc)
        refine ⟨cs', ?_, h2⟩
        simp only [Instr.fill, hsz' _ _ hsz]
        rw [if_neg (by simp; omega)]
        rw [hfold]; exact h1
      · cases h
    · cases h

end Go.Proofs.Ytmlolnaannoifaa

/- Each operation but calls: the model's run is as told. -/
namespace Go.Proofs.Ytmlolnaannoifaa

def VRs (C : Ctx) (m : Mem) : List AV → List Value → Prop
  | [], [] => True
  | a :: l, v :: vs => AVR C m a v ∧ VRs C m l vs
  | _, _ => False

theorem VRs.length {C : Ctx} {m : Mem} : ∀ {l : List AV} {vs : List Value}, VRs C m l vs → vs.length = l.length
  | [], [], _ => rfl
  | _ :: _, _ :: _, h => by simp [VRs.length h.2]
  | [], _ :: _, h => h.elim
  | _ :: _, [], h => h.elim

theorem Ext.VRs {C : Ctx} {m m' : Mem} (h : Ext C m m') : ∀ {l : List AV} {vs : List Value}, VRs C m l vs → VRs C m' l vs
  | [], [], _ => trivial
  | _ :: _, _ :: _, hc => ⟨h.AVR hc.1, h.VRs hc.2⟩
  | [], _ :: _, hc => hc.elim
  | _ :: _, [], hc => hc.elim

section
variable {C : Ctx} {m : Mem} {T : Types} {g : View} {c : Nat} {out : Out} {ρ : Operand → Value} {dst : Option Tmp} {type : TypeId} {pos : String} {after : Array Edge} {guard : Option (Nat × Bool)} {vs : List AV}

theorem ok_eq {av : AV} {out : Out} (h : ok av = some out) : out = ⟨[], av, [], []⟩ := (Option.some.inj h).symm
theorem okp_eq {ps : List Prop} {av : AV} {out : Out} (h : okp ps av = some out) : out = ⟨ps, av, [], []⟩ := (Option.some.inj h).symm

/-- An operation that only computes. -/
theorem exec_q {o : Oper} {e : Sem Value} (hm : MemR C m) (h1 : execOp ρ o = (do pure (.value (← e)))) {av : AV} (h2 : QRun C m e av) : ExecOK C.P ρ o m.w (After C m av []) := by
  obtain ⟨v, w', hr, hq, hv⟩ := h2
  exact execOK_value h1 hr (After.quiet hm hq hv)

theorem vrs1 {a : Value} (h : VRs C m vs [a]) : ∃ x, vs = [x] ∧ AVR C m x a := by
  match vs, h with
  | [x], h => exact ⟨x, rfl, h.1⟩
  | [], h => exact h.elim
  | _ :: _ :: _, h => exact h.2.elim

theorem vrs2 {a b : Value} (h : VRs C m vs [a, b]) : ∃ x y, vs = [x, y] ∧ AVR C m x a ∧ AVR C m y b := by
  match vs, h with
  | x :: r, h =>
    obtain ⟨y, rfl, hy⟩ := vrs1 h.2
    exact ⟨x, y, rfl, h.1, hy⟩
  | [], h => exact h.elim

theorem vrs3 {a b d : Value} (h : VRs C m vs [a, b, d]) : ∃ x y z, vs = [x, y, z] ∧ AVR C m x a ∧ AVR C m y b ∧ AVR C m z d := by
  match vs, h with
  | x :: r, h =>
    obtain ⟨y, z, rfl, hy, hz⟩ := vrs2 h.2
    exact ⟨x, y, z, rfl, h.1, hy, hz⟩
  | [], h => exact h.elim

theorem core_move {x : Operand} (hm : MemR C m) (hvs : VRs C m vs [ρ x]) (h : coreId vs = some out) :
    ExecOK C.P ρ ⟨dst, .move x, type, pos, after, guard⟩ m.w (After C m out.av (out.sets ++ out.news)) := by
  obtain ⟨a, rfl, ha⟩ := vrs1 hvs
  have h := ok_eq h
  subst h
  exact (After.quiet hm (Quiet.refl _) ha : After C m a [] (ρ x) m.w)

theorem core_assign {x : Operand} (hm : MemR C m) (hvs : VRs C m vs [ρ x]) (h : coreId vs = some out) :
    ExecOK C.P ρ ⟨dst, .assign x, type, pos, after, guard⟩ m.w (After C m out.av (out.sets ++ out.news)) := by
  obtain ⟨a, rfl, ha⟩ := vrs1 hvs
  have h := ok_eq h
  subst h
  exact (After.quiet hm (Quiet.refl _) ha : After C m a [] (ρ x) m.w)

theorem avr_bool_inv {b : Bool} {v : Value} (h : AVR C m (.one (.d .bool b)) v) : v = .bool b := by
  have h := h.2
  simpa [AVR1, CR] using h

theorem avr_int_inv {k : IntKind} {n : Int} {v : Value} (h : AVR C m (.one (.d (.int k) n)) v) : v = .int k n := by
  have h := h.2
  simpa [AVR1, CR] using h

theorem avr_str_inv {s : ByteArray} {v : Value} (h : AVR C m (.one (.d .str s)) v) : v = .string s := by
  have h := h.2
  simpa [AVR1, CR] using h

theorem core_pick {x y z : Operand} (hm : MemR C m) (hvs : VRs C m vs [ρ x, ρ y, ρ z]) (h : corePick vs = some out) :
    ExecOK C.P ρ ⟨dst, .pick x y z, type, pos, after, guard⟩ m.w (After C m out.av (out.sets ++ out.news)) := by
  obtain ⟨a, b, d, rfl, ha, hb, hd⟩ := vrs3 hvs
  unfold corePick at h
  split at h
  · rename_i b' x' y' heq
    simp only [List.cons.injEq, and_true] at heq
    obtain ⟨rfl, rfl, rfl⟩ := heq
    have hx := avr_bool_inv ha
    split at h
    · have h := ok_eq h
      subst h
      have e : (execOp ρ ⟨dst, .pick x y z, type, pos, after, guard⟩).run C.P m.w = .ok (.value (ρ y)) m.w := by simp [execOp, hx, asBool]
      unfold ExecOK
      rw [e]
      exact After.quiet hm (Quiet.refl _) hb
    · have h := ok_eq h
      subst h
      have e : (execOp ρ ⟨dst, .pick x y z, type, pos, after, guard⟩).run C.P m.w = .ok (.value (ρ z)) m.w := by simp [execOp, hx, asBool]
      unfold ExecOK
      rw [e]
      exact After.quiet hm (Quiet.refl _) hd
  · cases h

theorem core_alloc (hT : TyOK C.P T) {t : TypeId} (hm : MemR C m) (h : coreAlloc T t c vs = some out) (hp : ∀ p ∈ out.ps, p) (hn : ∀ p ∈ out.news, m.h p.1 = none) :
    ExecOK C.P ρ ⟨dst, .alloc t, type, pos, after, guard⟩ m.w (After C m out.av (out.sets ++ out.news)) := by
  unfold coreAlloc at h
  split at h
  · split at h
    · rename_i ti hti
      split at h
      · rename_i ps e hne
        obtain rfl := Option.some.inj h
        have hr := hT t ti hti
        obtain ⟨i, z, _, _, _, hz, hz1, hz2, _⟩ := hr.run_info (w := m.w)
        obtain ⟨pl', h1, h2, h3⟩ := newEnt_sound hm (us := z.cells) (c := c) (ty := t) hne hp (by rw [← hz1]; exact zero_cells _ hz2) (hn (c, e) (by simp))
        refine execOK_value (e := Instr.alloc t true (.tuple #[])) rfl (w' := m.w.alloc (.cells z.cells t)) ?_ ⟨m.U, pl', h1, h2, h3⟩
        simp only [Instr.alloc, Sem.run_bind, hz, Result.andThen_ok, newVar, newRow]
        rfl
      · cases h
    · cases h
  · cases h

theorem core_box {t : TypeId} {x : Operand} (hm : MemR C m) (hvs : VRs C m vs [ρ x]) (h : coreBox T t c vs = some out) (hp : ∀ p ∈ out.ps, p) (hn : ∀ p ∈ out.news, m.h p.1 = none) :
    ExecOK C.P ρ ⟨dst, .box t x, type, pos, after, guard⟩ m.w (After C m out.av (out.sets ++ out.news)) := by
  obtain ⟨a, rfl, ha⟩ := vrs1 hvs
  unfold coreBox at h
  simp only at h
  split at h
  · rename_i ti cs hti hcs
    split at h
    · split at h
      · rename_i ps e hne
        obtain rfl := Option.some.inj h
        obtain ⟨pl', h1, h2, h3⟩ := newEnt_sound hm (us := (ρ x).cells) (c := c) (ty := t) hne hp (avr_cells ha hcs) (hn (c, e) (by simp))
        refine execOK_value (e := Instr.box t (ρ x)) rfl (w' := m.w.alloc (.cells (ρ x).cells t)) ?_ ⟨m.U, pl', h1, h2, h3⟩
        simp only [Instr.box, Sem.run_bind, newVar, newRow]
        rfl
      · cases h
    · cases h
  · cases h

theorem pvs_zip : ∀ (is : List Nat) {vs : List AV} {us : List Value}, VRs C m vs us → is.length = us.length → PVs C m (is.zip vs) (is.zip us)
  | [], [], [], _, _ => trivial
  | i :: is, v :: vs, u :: us, h, hl => ⟨⟨rfl, h.1⟩, pvs_zip is h.2 (by simpa using hl)⟩
  | [], _ :: _, _ :: _, _, hl => by simp at hl
  | _ :: _, [], [], _, hl => by simp at hl
  | _, [], _ :: _, h, _ => h.elim
  | _, _ :: _, [], h, _ => h.elim

theorem fieldPlaces_eq {fs : Array Field} {l : List (Nat × TypeId)} (hl : fs.toList.map (fun f => (f.offset, f.type)) = l) {i : Nat} {r : Nat × Nat}
    (h : fieldPlaces T l i = some r) : ∃ f, fs[i]? = some f ∧ r.1 = f.offset ∧ ∃ ti, T f.type = some ti ∧ r.2 = ti.size := by
  unfold fieldPlaces at h
  rw [← hl] at h
  simp only [List.getElem?_map] at h
  cases hf : fs.toList[i]? with
  | none => simp [hf] at h
  | some f =>
    simp only [hf, Option.map_some] at h
    cases ht : T f.type with
    | none => simp [ht] at h
    | some ti =>
      simp only [ht, Option.map_some, Option.some.injEq] at h
      subst h
      exact ⟨f, by simpa using hf, rfl, ti, ht, rfl⟩

theorem run_mapM_places (hT : TyOK C.P T) {w : World} : ∀ (fs : List Field), (∀ f ∈ fs, (T f.type).isSome) →
    ∃ ps : List (Nat × Nat), (fs.mapM (fun f => (do pure (f.offset, ← sizeOf f.type) : Sem (Nat × Nat)))).run C.P w = .ok ps w ∧ ps = fs.map fun f => (f.offset, ((T f.type).map (·.size)).getD 0)
  | [], _ => ⟨[], by simp, rfl⟩
  | f :: fs, h => by
    obtain ⟨ps, h1, h2⟩ := run_mapM_places hT (w := w) fs (fun f hf => h f (by simp [hf]))
    cases ht : T f.type with
    | none => have := h f (by simp); simp [ht] at this
    | some ti =>
      have hr := hT _ _ ht
      refine ⟨_, ?_, rfl⟩
      rw [List.mapM_cons]
      simp only [Sem.run_bind, hr.run_size, Result.andThen_ok, Sem.run_pure, h1]
      rw [h2]; simp [ht]

theorem zip_parts (ρ : Operand → Value) : ∀ l : List (Nat × Operand), (l.map fun (i, x) => (i, ρ x)) = (l.map (·.1)).zip ((l.map (·.2)).map ρ)
  | [] => rfl
  | p :: l => by simp only [List.map_cons, List.zip_cons_cons, zip_parts ρ l]

theorem core_build (hT : TyOK C.P T) {t : TypeId} {parts : Array (Nat × Operand)} (hm : MemR C m) (hvs : VRs C m vs ((parts.toList.map (·.2)).map ρ)) (h : coreBuild T t (parts.toList.map (·.1)) vs = some out) :
    ExecOK C.P ρ ⟨dst, .build t parts, type, pos, after, guard⟩ m.w (After C m out.av (out.sets ++ out.news)) := by
  have hzip : (parts.map fun (i, x) => (i, ρ x)).toList = (parts.toList.map (·.1)).zip ((parts.toList.map (·.2)).map ρ) := by
    rw [Array.toList_map]
    exact zip_parts ρ parts.toList
  have hpv := pvs_zip (parts.toList.map (·.1)) hvs (by simp)
  unfold coreBuild at h
  split at h
  · rename_i ti hti
    have hr := hT t ti hti
    obtain ⟨i, z, _, _, _, hz, hz1, hz2, _⟩ := hr.run_info (w := m.w)
    obtain ⟨d, hd, _, hd'⟩ := hr.run_und (w := m.w)
    have hcz : CLs C m ti.zero z.cells.toList := by rw [← hz1]; exact zero_cells _ hz2
    split at h
    · rename_i fs htd
      split at h
      · rename_i hall
        split at h
        · rename_i l hfill
          obtain rfl := ok_eq h
          obtain ⟨fs', rfl, hfs⟩ := td_struct (hd'.trans htd)
          have hall' : ∀ f ∈ fs'.toList, (T f.type).isSome := by
            intro f hf
            rw [← hfs] at hall
            simp only [List.all_map, List.all_eq_true, Function.comp] at hall
            exact hall f hf
          obtain ⟨ps, hps, hpse⟩ := run_mapM_places hT (w := m.w) fs'.toList hall'
          obtain ⟨cs', hf1, hf2⟩ := fill_put (sz' := (ps.toArray[·]?)) (fun j r hj => by
            obtain ⟨f, hf, h1, tf, h2, h3⟩ := fieldPlaces_eq hfs hj
            rw [hpse]
            simp [hf, h2, ← h1, ← h3]) _ _ hfill hpv hcz
          refine execOK_value (e := Instr.build t (parts.map fun (i, x) => (i, ρ x))) rfl (w' := m.w) ?_ (After.quiet hm (Quiet.refl _) ⟨cs', rfl, hf2⟩)
          simp only [Instr.build, Sem.run_bind, hz, Result.andThen_ok, hd]
          rw [Array.mapM_eq_mapM_toList]
          simp only [Sem.run_map, hps, Result.andThen_ok]
          rw [hzip, hf1]
          rfl
        · cases h
      · cases h
    · rename_i n et htd
      split at h
      · rename_i te hte
        split at h
        · rename_i l hfill
          obtain rfl := ok_eq h
          obtain rfl := td_array (hd'.trans htd)
          have hre := hT et te hte
          obtain ⟨cs', hf1, hf2⟩ := fill_put (sz' := (fun i => some (i * te.size, te.size))) (fun j r hj => hj) _ _ hfill hpv hcz
          refine execOK_value (e := Instr.build t (parts.map fun (i, x) => (i, ρ x))) rfl (w' := m.w) ?_ (After.quiet hm (Quiet.refl _) ⟨cs', rfl, hf2⟩)
          simp only [Instr.build, Sem.run_bind, hz, Result.andThen_ok, hd, hre.run_size]
          rw [hzip, hf1]
          rfl
        · cases h
      · cases h
    · cases h
  · cases h

end
end Go.Proofs.Ytmlolnaannoifaa

/- Each operation but calls, continued. -/
namespace Go.Proofs.Ytmlolnaannoifaa

section
variable {C : Ctx} {m : Mem} {T : Types} {g : View} {c : Nat} {out : Out} {ρ : Operand → Value} {dst : Option Tmp} {type : TypeId} {pos : String} {after : Array Edge} {guard : Option (Nat × Bool)} {vs : List AV}

theorem core_load (hT : TyOK C.P T) {t : TypeId} {x : Operand} (hm : MemR C m) (hg : ViewOK g m.h) (hvs : VRs C m vs [ρ x]) (h : coreLoad T t g vs = some out) (hp : ∀ p ∈ out.ps, p) :
    ExecOK C.P ρ ⟨dst, .load t x, type, pos, after, guard⟩ m.w (After C m out.av (out.sets ++ out.news)) := by
  obtain ⟨a, rfl, ha⟩ := vrs1 hvs
  unfold coreLoad at h
  split at h
  · rename_i a' heq
    simp only [List.cons.injEq, and_true] at heq
    subst heq
    split at h
    · rename_i ti hti
      split at h
      · rename_i ps v hl
        obtain rfl := okp_eq h
        have hne : a' ≠ .any := fun e => by subst e; simp [loadAV] at hl
        obtain ⟨u, h1, h2⟩ := loadAV_sound hm hg (hT t ti hti) hl hp (avr_one ha hne).2
        exact exec_q hm rfl ⟨u, m.w, h1, Quiet.refl _, h2⟩
      · cases h
    · cases h
  · cases h

theorem core_store (hT : TyOK C.P T) {t : TypeId} {x y : Operand} (hm : MemR C m) (hg : ViewOK g m.h) (hvs : VRs C m vs [ρ x, ρ y]) (h : coreStore T t g vs = some out) (hp : ∀ p ∈ out.ps, p) :
    ExecOK C.P ρ ⟨dst, .store t x y, type, pos, after, guard⟩ m.w (After C m out.av (out.sets ++ out.news)) := by
  obtain ⟨a, b, rfl, ha, hb⟩ := vrs2 hvs
  unfold coreStore at h
  split at h
  · rename_i a' v' heq
    simp only [List.cons.injEq, and_true] at heq
    obtain ⟨rfl, rfl⟩ := heq
    split at h
    · rename_i ti cs hti hcs
      split at h
      · rename_i hlen
        split at h
        · rename_i ps id e hs
          obtain rfl := Option.some.inj h
          have hne : a' ≠ .any := fun e => by subst e; simp [storeAV, hcs] at hs
          obtain ⟨w', h1, h2⟩ := storeAV_sound hm hg (hT t ti hti) hs hp hcs hlen (avr_one ha hne).2 hb
          exact execOK_skip rfl h1 h2
        · cases h
      · cases h
    · cases h
  · cases h

theorem core_nil {x : Operand} (hm : MemR C m) (hvs : VRs C m vs [ρ x]) (h : coreNil vs = some out) :
    ExecOK C.P ρ ⟨dst, .nilCheck x, type, pos, after, guard⟩ m.w (After C m out.av (out.sets ++ out.news)) := by
  obtain ⟨a, rfl, ha⟩ := vrs1 hvs
  unfold coreNil at h
  split at h
  · rename_i a' heq
    simp only [List.cons.injEq, and_true] at heq
    subst heq
    have key : ∀ ad, ρ x = .pointer (some ad) → ExecOK C.P ρ ⟨dst, .nilCheck x, type, pos, after, guard⟩ m.w (After C m (.one a') []) := by
      intro ad hx
      have e : (execOp ρ ⟨dst, .nilCheck x, type, pos, after, guard⟩).run C.P m.w = .ok (.value (ρ x)) m.w := by simp [execOp, hx]
      unfold ExecOK
      rw [e]
      exact After.quiet hm (Quiet.refl _) ha
    split at h
    · obtain rfl := ok_eq h
      exact key _ ha.2.1
    · obtain rfl := ok_eq h
      obtain ⟨_, hx, _⟩ := ha.2
      exact key _ hx
    · obtain rfl := ok_eq h
      obtain ⟨_, _, hx, _⟩ := ha.2
      exact key _ hx
    · cases h
  · cases h

theorem core_bin (hT : TyOK C.P T) {t u : TypeId} {op : BinOp} {x y : Operand} (hm : MemR C m) (hvs : VRs C m vs [ρ x, ρ y]) (h : coreBin T t op vs = some out) (hp : ∀ p ∈ out.ps, p) :
    ExecOK C.P ρ ⟨dst, .binOp op t x y u, type, pos, after, guard⟩ m.w (After C m out.av (out.sets ++ out.news)) := by
  obtain ⟨a, b, rfl, ha, hb⟩ := vrs2 hvs
  unfold coreBin at h
  split at h
  · rename_i a' b' heq
    simp only [List.cons.injEq, and_true] at heq
    obtain ⟨rfl, rfl⟩ := heq
    have hna : a' ≠ .any := fun e => by subst e; simp [binAV] at h
    have hnb : b' ≠ .any := fun e => by subst e; simp [binAV] at h
    obtain ⟨h1, h2, h3⟩ := binAV_sound hT t x y h hp (avr_one ha hna).2 (avr_one hb hnb).2
    rw [h1, h2]
    exact exec_q hm rfl h3
  · cases h

theorem core_un {t : TypeId} {op : UnOp} {x : Operand} (hm : MemR C m) (hvs : VRs C m vs [ρ x]) (h : coreUn op vs = some out) :
    ExecOK C.P ρ ⟨dst, .unOp op t x, type, pos, after, guard⟩ m.w (After C m out.av (out.sets ++ out.news)) := by
  obtain ⟨a, rfl, ha⟩ := vrs1 hvs
  unfold coreUn at h
  split at h
  · rename_i a' heq
    simp only [List.cons.injEq, and_true] at heq
    subst heq
    have hna : a' ≠ .any := fun e => by subst e; simp [unAV] at h
    obtain ⟨h1, h2, h3⟩ := unAV_sound h (avr_one ha hna).2
    rw [h1, h2]
    exact exec_q hm rfl h3
  · cases h

theorem strOf_fold (ns : List Int) : ns.foldl (fun (r : ByteArray) n => r.push (UInt8.ofNat n.toNat)) ByteArray.empty = strOf ns := by
  have : ∀ (ns : List Int) (r : ByteArray), ns.foldl (fun (r : ByteArray) n => r.push (UInt8.ofNat n.toNat)) r = ⟨r.data ++ (ns.map fun n => UInt8.ofNat n.toNat).toArray⟩ := by
    intro ns
    induction ns with
    | nil => intro r; cases r; simp
    | cons n ns ih => intro r; simp only [List.foldl_cons, ih]; cases r; simp [ByteArray.push]
  rw [this]
  simp [strOf, ByteArray.empty, ByteArray.emptyWithCapacity]
  rfl

theorem bytes_of_sl {U : Addr → Prop} {w : World} {xs : List Int} {v : Value} (h : CR U w (.sl (.int .u8)) xs [v]) :
    ∃ A c, v = .slice A xs.length c ∧ (xs = [] ∨ ∃ ad, A = some ad ∧ ∀ j, j < xs.length → w.cell? (ad.add j) = (xs.map (Value.int .u8))[j]?) := by
  obtain ⟨A, c, hv, _, hE⟩ := h
  simp only [List.cons.injEq, and_true] at hv
  refine ⟨A, c, hv, ?_⟩
  cases A with
  | none =>
    left
    cases xs with
    | nil => rfl
    | cons x xs => obtain ⟨ad, _, h, _⟩ := hE 0 (by simp); cases h
  | some ad =>
    right
    refine ⟨ad, rfl, fun j hj => ?_⟩
    obtain ⟨ad', l, h1, h2, h3, h4⟩ := hE j hj
    obtain rfl := Option.some.inj h1
    have hl : l = [.int .u8 xs[j]] := h4
    subst hl
    have := (h3 0 (by simp [Kd.sz])).2
    simp only [Kd.sz, Nat.mul_one, Nat.add_zero, List.getElem?_cons_zero] at this
    rw [this, List.getElem?_map, List.getElem?_eq_getElem hj]; rfl

theorem convAV_sound (hT : TyOK C.P T) {s d : TypeId} {a : AV1} {v : Value} (hm : MemR C m) (hg : ViewOK g m.h) (h : convAV T s d a g = some out) (hp : ∀ p ∈ out.ps, p) (ha : AVR1 C m a v) :
    out.sets = [] ∧ out.news = [] ∧ QRun C m (convert s d v) out.av := by
  unfold convAV at h
  split at h
  · rename_i ts td hts htd
    obtain ⟨ds, hds, hdsu, hdst⟩ := (hT s ts hts).run_und (w := m.w)
    obtain ⟨dd, hdd, hddu, hddt⟩ := (hT d td htd).run_und (w := m.w)
    have hsom : (C.P.underlying s).isSome = true := by rw [hdsu]; rfl
    split at h
    · rename_i k k' x htdk
      obtain rfl := ok_eq h
      have hv : v = .int k' x := by simpa [AVR1, CR] using ha
      subst hv
      obtain rfl := td_int (hddt.trans htdk)
      refine ⟨rfl, rfl, QRun.pure (v := .int k (k.wrap x)) ?_ (avr_int _ _)⟩
      simp only [convert, Sem.run_bind, hds, hdd, Result.andThen_ok]
      cases ds <;> rfl
    · rename_i k k' x htdk
      obtain rfl := ok_eq h
      have hv : v = .int k' x := by simpa [AVR1, CR] using ha
      subst hv
      obtain rfl := td_flt (hddt.trans htdk)
      refine ⟨rfl, rfl, QRun.pure (v := .float k (k.nearest x)) ?_ (avr_flt (FEq.refl _ _))⟩
      simp only [convert, Sem.run_bind, hds, hdd, Result.andThen_ok]
      cases ds <;> rfl
    · rename_i k sk x htdk
      obtain rfl := okp_eq h
      have hok : ftoiOk sk k x := hp _ (by simp)
      obtain ⟨x', hv, hf⟩ := ha
      simp only [List.cons.injEq, and_true] at hv
      subst hv
      obtain rfl := td_int (hddt.trans htdk)
      have hnn : isNaNB sk x = false := by
        cases hn : isNaNB sk x with
        | false => rfl
        | true =>
          obtain ⟨q, r, hq⟩ := read_nan hn
          unfold ftoiOk floatToIntVal FloatKind.decode at hok
          rw [hq] at hok
          simp [Ieee.Datum.toInt, Ieee.Datum.integral] at hok
      have hx := hf.eq_of_not hnn
      subst hx
      obtain ⟨n, hn⟩ := Option.isSome_iff_exists.1 hok
      refine ⟨rfl, rfl, QRun.pure (v := .int k n) (run_convert_float_int m.w s d sk k x n hsom (by rw [hddu]) hn) ?_⟩
      rw [show ftoi sk k x = n by unfold ftoi; rw [hn]; rfl]
      exact avr_int _ _
    · rename_i k sk x htdk
      obtain ⟨x', hv, hf⟩ := ha
      simp only [List.cons.injEq, and_true] at hv
      subst hv
      obtain rfl := td_flt (hddt.trans htdk)
      split at h
      · rename_i hk
        subst hk
        obtain rfl := ok_eq h
        refine ⟨rfl, rfl, QRun.pure (v := .float sk x') ?_ (avr_flt hf)⟩
        exact run_convert_float_float m.w s d sk sk x' x' hsom (by rw [hddu]) (by simp [floatToFloatBits])
      · rename_i hk
        obtain rfl := okp_eq h
        have hok : fcvOk sk k x := hp _ (by simp)
        cases hn : isNaNB sk x with
        | true =>
          have hn' : isNaNB sk x' = true := by
            rcases hf with rfl | hf
            · exact hn
            · exact hf.2
          obtain ⟨q, r, hq⟩ := read_nan hn'
          refine ⟨rfl, rfl, .float k ((Question.nanConv k x').cut (m.w.tape m.w.drawn (.nanConv k x'))), { m.w with drawn := m.w.drawn + 1 }, ?_, ⟨rfl, rfl, rfl, rfl⟩, avr_flt (.inr ⟨?_, nan_cut_conv _ _ _⟩)⟩
          · simp only [convert, Sem.run_bind, hds, hdd, Result.andThen_ok]
            have : (Conv.floatToFloat sk x' k).run C.P m.w = .ok (.float k ((Question.nanConv k x').cut (m.w.tape m.w.drawn (.nanConv k x')))) { m.w with drawn := m.w.drawn + 1 } := by
              unfold Conv.floatToFloat FloatKind.decode
              rw [if_neg hk, hq]
              simp [choose, Sem.run, Question.forced]
            cases ds <;> exact this
          · unfold fcv
            rw [fcv_nan hn hk]
            exact nan_nanB k
        | false =>
          have hx := hf.eq_of_not hn
          subst hx
          have hs : (floatToFloatBits sk x k).isSome = true := by
            rcases hok with h | h
            · rw [hn] at h; cases h
            · exact h
          obtain ⟨r, hr⟩ := Option.isSome_iff_exists.1 hs
          refine ⟨rfl, rfl, QRun.pure (v := .float k r) (run_convert_float_float m.w s d sk k x r hsom (by rw [hddu]) hr) ?_⟩
          rw [show fcv sk k x = r by unfold fcv; rw [hr]; rfl]
          exact avr_flt (FEq.refl _ _)
    · rename_i x htdk
      obtain rfl := ok_eq h
      have hv : v = .string x := by simpa [AVR1, CR] using ha
      subst hv
      obtain rfl := td_str (hddt.trans htdk)
      refine ⟨rfl, rfl, QRun.pure (v := .string x) ?_ (avr_str _)⟩
      simp only [convert, Sem.run_bind, hds, hdd, Result.andThen_ok]
      cases ds <;> rfl
    · rename_i htdk _
      split at h
      · rename_i et htde
        split at h
        · rename_i te hte
          split at h
          · rename_i hteu
            split at h
            · rename_i ps xs hsl
              obtain rfl := okp_eq h
              obtain rfl := td_str (hddt.trans htdk)
              obtain rfl := td_slice (hdst.trans htde)
              obtain ⟨de, hde, hdeu, hdet⟩ := (hT et te hte).run_und (w := m.w)
              obtain rfl := td_int (hdet.trans hteu)
              have hcr := slOf_sound hm hg hsl hp ha
              obtain ⟨A, cp, rfl, hx⟩ := bytes_of_sl hcr
              refine ⟨rfl, rfl, QRun.pure (v := .string (strOf xs)) ?_ (avr_str _)⟩
              rw [run_convert_bytes_string m.w s d et A xs.length cp hdsu hdeu hddu]
              rcases hx with rfl | ⟨ad, rfl, hx⟩
              · cases A with
                | none => simp [Conv.bytesToString]; rfl
                | some ad =>
                  have := run_bytesToString (P := C.P) m.w ad 0 cp [] (by simp [loadCells, loadCellsFrom])
                  exact this
              · have hl := run_loadCells (P := C.P) (w := m.w) (a := ad) xs.length 0 #[] (xs.map (Value.int .u8)) (by simp) (fun j hj => by rw [Nat.zero_add]; exact hx j hj)
                have := run_bytesToString (P := C.P) m.w ad xs.length cp xs (by unfold loadCells; rw [hl]; simp)
                rw [strOf_fold] at this
                exact this
            · cases h
          · cases h
        · cases h
      · cases h
    · cases h
  · cases h

end
end Go.Proofs.Ytmlolnaannoifaa

/- Each operation but calls: addresses, pieces, slices. -/
namespace Go.Proofs.Ytmlolnaannoifaa

section
variable {C : Ctx} {m : Mem} {T : Types} {g : View} {c : Nat} {out : Out} {ρ : Operand → Value} {dst : Option Tmp} {type : TypeId} {pos : String} {after : Array Edge} {guard : Option (Nat × Bool)} {vs : List AV}

theorem fieldOf_sound (hT : TyOK C.P T) {s : TypeId} {f off : Nat} {ft : TypeId} (h : fieldOf T s f = some (off, ft)) :
    ∃ fs fd, (underlying s).run C.P m.w = .ok (.struct fs) m.w ∧ fs[f]? = some fd ∧ fd.offset = off ∧ fd.type = ft := by
  unfold fieldOf at h
  split at h
  · rename_i ti hti
    split at h
    · rename_i l htd
      obtain ⟨d, hd, _, hd'⟩ := (hT s ti hti).run_und (w := m.w)
      obtain ⟨fs, rfl, hfs⟩ := td_struct (hd'.trans htd)
      rw [← hfs, List.getElem?_map] at h
      cases hf : fs.toList[f]? with
      | none => simp [hf] at h
      | some fd =>
        simp only [hf, Option.map_some, Option.some.injEq, Prod.mk.injEq] at h
        exact ⟨fs, fd, hd, by simpa using hf, h.1, h.2⟩
    · cases h
  · cases h

theorem fieldAddrAV_sound {a : AV1} {off size : Nat} {v : Value} (h : fieldAddrAV a off size = some out) (ha : AVR1 C m a v) :
    out.sets = [] ∧ out.news = [] ∧ size ≠ 0 ∧ ∃ ad, v = .pointer (some ad) ∧ AVR C m out.av (.pointer (some (ad.add off))) := by
  unfold fieldAddrAV at h
  split at h
  · cases h
  · rename_i hsz
    split at h
    · rename_i id o
      obtain rfl := ok_eq h
      obtain ⟨hv, hx⟩ := ha
      exact ⟨rfl, rfl, hsz, _, hv, rfl, by rw [Addr.add_mk], hx⟩
    · rename_i id i o
      obtain rfl := ok_eq h
      obtain ⟨ad, hv, hx⟩ := ha
      refine ⟨rfl, rfl, hsz, ad, hv, rfl, _, rfl, ?_⟩
      rcases hx with ⟨e, n, xs, hid, rfl⟩ | hx
      · exact .inl ⟨e, n, xs, hid, by rw [Addr.add_mk, Nat.add_assoc]⟩
      · exact .inr hx
    · rename_i k x
      split at h
      · rename_i r hr
        obtain rfl := ok_eq h
        obtain ⟨ad, l, hv, hc, hj⟩ := ha
        refine ⟨rfl, rfl, hsz, ad, hv, rfl, ad.add off, l.drop off, rfl, dropCells_sound hr hc, fun j hjl => ?_⟩
        rw [Addr.add_add', List.getElem?_drop]
        exact hj (off + j) (by simp at hjl; omega)
      · cases h
    · cases h

theorem core_fieldAddr (hT : TyOK C.P T) {s : TypeId} {x : Operand} {f : Nat} (hm : MemR C m) (hvs : VRs C m vs [ρ x]) (h : coreFieldAddr T s f vs = some out) :
    ExecOK C.P ρ ⟨dst, .fieldAddr s x f, type, pos, after, guard⟩ m.w (After C m out.av (out.sets ++ out.news)) := by
  obtain ⟨a, rfl, ha⟩ := vrs1 hvs
  unfold coreFieldAddr at h
  split at h
  · rename_i a' heq
    simp only [List.cons.injEq, and_true] at heq
    subst heq
    split at h
    · rename_i off ft hf
      split at h
      · rename_i ti hti
        have hne : a' ≠ .any := fun e => by subst e; simp [fieldAddrAV] at h
        obtain ⟨h1, h2, h3, ad, hv, hr⟩ := fieldAddrAV_sound h (avr_one ha hne).2
        obtain ⟨fs, fd, hu, hfd, rfl, rfl⟩ := fieldOf_sound (m := m) hT hf
        rw [h1, h2]
        refine exec_q hm rfl ⟨_, m.w, ?_, Quiet.refl _, hr⟩
        simp only [Instr.fieldAt, Sem.run_bind, hu, Result.andThen_ok, hfd, hv, Instr.sureAddr, Sem.run_pure, fieldPlace, (hT _ _ hti).run_size]
        rw [if_neg h3]; rfl
      · cases h
    · cases h
  · cases h

theorem core_field (hT : TyOK C.P T) {s : TypeId} {x : Operand} {f : Nat} (hm : MemR C m) (hvs : VRs C m vs [ρ x]) (h : coreField T s f vs = some out) :
    ExecOK C.P ρ ⟨dst, .field s x f, type, pos, after, guard⟩ m.w (After C m out.av (out.sets ++ out.news)) := by
  obtain ⟨a, rfl, ha⟩ := vrs1 hvs
  unfold coreField at h
  split at h
  · rename_i l heq
    simp only [List.cons.injEq, and_true] at heq
    subst heq
    split at h
    · rename_i off ft hf
      split at h
      · rename_i ti hti
        cases hpc : pieceOf ti l off with
        | none => rw [hpc] at h; cases h
        | some av =>
          rw [hpc] at h
          obtain rfl := ok_eq h
          obtain ⟨cs, hv, hc⟩ := ha
          obtain ⟨fs, fd, hu, hfd, rfl, rfl⟩ := fieldOf_sound (m := m) hT hf
          have hr := hT _ _ hti
          obtain ⟨hl, hav⟩ := pieceOf_sound hr hpc hc
          refine exec_q hm rfl ⟨_, m.w, ?_, Quiet.refl _, hav⟩
          simp only [Instr.field, Sem.run_bind, hu, Result.andThen_ok, hfd, hv, asAgg, Sem.run_pure, part, hr.run_agg]
          unfold rowVal
          cases hagg : ti.td.agg with
          | true =>
            simp only [if_true, Sem.run_bind, hr.run_size, Result.andThen_ok, Sem.run_pure]
            congr 2
            apply Array.ext'
            simp
          | false =>
            have h1 := hr.size1 hagg
            simp only [Bool.false_eq_true, if_false]
            rw [h1] at hl ⊢
            cases hd : cs.toList.drop fd.offset with
            | nil => rw [hd] at hl; simp at hl
            | cons v r =>
              have : cs[fd.offset]? = some v := by
                have h2 := List.getElem?_drop (xs := cs.toList) (i := fd.offset) (j := 0)
                rw [hd] at h2
                simpa using h2.symm
              simp [this]
      · cases h
    · cases h
  · cases h

theorem run_indexAt {P : Program} {w : World} {t et : TypeId} {d : TypeDesc} {v : Value} {k : IntKind} {i : Int} {ad : Addr} {n sz : Nat} (hd : (underlying t).run P w = .ok d w)
    (hv : (d = .array n et ∧ v = .pointer (some ad)) ∨ (∃ cc, d = .slice et ∧ v = .slice (some ad) n cc)) (hs : (sizeOf et).run P w = .ok sz w) (h0 : 0 ≤ i) (h1 : i < n) :
    (Instr.indexAt t v (.int k i)).run P w = .ok (.pointer (some (ad.add (i.toNat * sz)))) w := by
  rcases hv with ⟨rfl, rfl⟩ | ⟨cc, rfl, rfl⟩
  · simp only [Instr.indexAt, asIntOf, Sem.run_bind, Sem.run_pure, Result.andThen_ok, hd, Instr.sureAddr]
    rw [if_pos ⟨h0, h1⟩]
    simp only [Sem.run_bind, hs, Result.andThen_ok, Sem.run_pure]
  · simp only [Instr.indexAt, asIntOf, Sem.run_bind, Sem.run_pure, Result.andThen_ok, hd]
    rw [if_pos ⟨h0, h1⟩]
    simp only [Sem.run_bind, hs, Result.andThen_ok, Sem.run_pure]

theorem indexAddrAV_sound (hT : TyOK C.P T) {t : TypeId} {a : AV1} {k : IntKind} {i : Int} {v : Value} (hm : MemR C m) (hg : ViewOK g m.h) (h : indexAddrAV T t a i g = some out) (hp : ∀ p ∈ out.ps, p) (ha : AVR1 C m a v) :
    out.sets = [] ∧ out.news = [] ∧ QRun C m (Instr.indexAt t v (.int k i)) out.av := by
  unfold indexAddrAV at h
  split at h
  · rename_i ti hti
    obtain ⟨d, hd, _, hdt⟩ := (hT t ti hti).run_und (w := m.w)
    split at h
    · rename_i n' et htd
      split at h
      · rename_i te id hte
        split at h
        · rename_i e n xs hid
          split at h
          · rename_i hcond
            obtain ⟨rfl, hsz⟩ := hcond
            obtain rfl := okp_eq h
            have h0 : 0 ≤ i := hp _ (by simp)
            have h1 : i < n' := hp _ (by simp)
            obtain ⟨hv, _⟩ := ha
            have hs := (hT et te hte).run_size (w := m.w)
            refine ⟨rfl, rfl, _, m.w, run_indexAt hd (.inl ⟨td_array (hdt.trans htd), hv⟩) hs h0 h1, Quiet.refl _, rfl, _, rfl, .inl ⟨e, n', xs, hg _ _ hid, ?_⟩⟩
            rw [Addr.add_mk, hsz]; simp
          · cases h
        · cases h
      · cases h
    · rename_i et htd
      split at h
      · rename_i te hte
        have hs := (hT et te hte).run_size (w := m.w)
        split at h
        · rename_i id
          split at h
          · rename_i e n xs hid
            split at h
            · rename_i hsz
              obtain rfl := okp_eq h
              have h0 : 0 ≤ i := hp _ (by simp)
              have h1 : i < n := hp _ (by simp)
              have hid' := hg _ _ hid
              obtain ⟨cc, hcc, hv⟩ := msl_arr ha hid'
              refine ⟨rfl, rfl, _, m.w, run_indexAt hd (.inr ⟨cc, td_slice (hdt.trans htd), hv⟩) hs h0 h1, Quiet.refl _, rfl, _, rfl, .inl ⟨e, n, xs, hid', ?_⟩⟩
              rw [Addr.add_mk, hsz]; simp
            · cases h
          · cases h
        · split at h
          · rename_i ps xs hsl
            obtain rfl := okp_eq h
            have h0 : 0 ≤ i := hp _ (by simp)
            have h1 : i < xs.length := hp _ (by simp)
            have hcr := slOf_sound hm hg hsl (fun p hpp => hp p (by simp [hpp])) ha
            obtain ⟨A, cc, hv, hle, hE⟩ := hcr
            simp only [List.cons.injEq, and_true] at hv
            have hi : i.toNat < xs.length := by omega
            obtain ⟨ad, l, rfl, hl, hj, hR⟩ := hE i.toNat hi
            have hkd := (hT et te hte).szk
            refine ⟨rfl, rfl, _, m.w, run_indexAt hd (.inr ⟨cc, td_slice (hdt.trans htd), hv⟩) hs h0 h1, Quiet.refl _, rfl, _, l, rfl, ?_, fun j hjl => ?_⟩
            · rw [show xs.getD i.toNat te.kd.dflt = xs[i.toNat] by simp [List.getD, hi]]; exact hR
            · rw [← hkd, Addr.add_add']
              have := hj j (by omega)
              exact ⟨.inl this.1, this.2⟩
          · cases h
      · cases h
    · cases h
  · cases h

theorem core_indexAddr (hT : TyOK C.P T) {t : TypeId} {x y : Operand} (hm : MemR C m) (hg : ViewOK g m.h) (hvs : VRs C m vs [ρ x, ρ y]) (h : coreIndexAddr T t g vs = some out) (hp : ∀ p ∈ out.ps, p) :
    ExecOK C.P ρ ⟨dst, .indexAddr t x y, type, pos, after, guard⟩ m.w (After C m out.av (out.sets ++ out.news)) := by
  obtain ⟨a, b, rfl, ha, hb⟩ := vrs2 hvs
  unfold coreIndexAddr at h
  split at h
  · rename_i a' k i heq
    simp only [List.cons.injEq, and_true] at heq
    obtain ⟨rfl, rfl⟩ := heq
    have hne : a' ≠ .any := fun e => by
      subst e
      unfold indexAddrAV at h
      split at h
      · split at h
        · split at h <;> first | (cases h; done) | (rename_i _ heq; cases heq)
        · split at h
          · simp [slOf] at h
          · cases h
        · cases h
      · cases h
    obtain ⟨h1, h2, h3⟩ := indexAddrAV_sound (k := k) hT hm hg h hp (avr_one ha hne).2
    have hy := avr_int_inv hb
    rw [h1, h2]
    exact exec_q (e := Instr.indexAt t (ρ x) (ρ y)) hm rfl (by rw [hy]; exact h3)
  · cases h

theorem core_index (hT : TyOK C.P T) {t : TypeId} {x y : Operand} (hm : MemR C m) (hvs : VRs C m vs [ρ x, ρ y]) (h : coreIndex T t vs = some out) (hp : ∀ p ∈ out.ps, p) :
    ExecOK C.P ρ ⟨dst, .index t x y, type, pos, after, guard⟩ m.w (After C m out.av (out.sets ++ out.news)) := by
  obtain ⟨a, b, rfl, ha, hb⟩ := vrs2 hvs
  unfold coreIndex at h
  split at h
  · rename_i s k i heq
    simp only [List.cons.injEq, and_true] at heq
    obtain ⟨rfl, rfl⟩ := heq
    split at h
    · rename_i ti hti
      split at h
      · rename_i htd
        obtain rfl := okp_eq h
        have h0 : (0 : Int) ≤ i := hp _ (by simp)
        have h1 : (i : Int) < s.size := hp _ (by simp)
        obtain ⟨d, hd, _, hdt⟩ := (hT t ti hti).run_und (w := m.w)
        obtain rfl := td_str (hdt.trans htd)
        have hx := avr_str_inv ha
        have hy := avr_int_inv hb
        refine exec_q (e := Instr.index t (ρ x) (ρ y)) hm rfl (QRun.pure (v := .int .u8 (bt s i)) ?_ (avr_int _ _))
        rw [hx, hy]
        have hlt : Int.toNat i < s.data.size := (Int.toNat_lt h0).2 h1
        have hb : s[Int.toNat i]? = some s.data[Int.toNat i] := by
          show (if h : Int.toNat i < s.size then some s[Int.toNat i] else none) = _
          rw [dif_pos (by exact hlt)]; rfl
        simp only [Instr.index, asIntOf, Sem.run_bind, Sem.run_pure, Result.andThen_ok, hd]
        rw [if_pos h0, hb]
        simp only [Sem.run_pure]
        unfold bt
        rw [Array.getElem?_eq_getElem hlt]; rfl
      · cases h
    · cases h
  · cases h

theorem core_extract {x : Operand} {i : Nat} (hm : MemR C m) (hvs : VRs C m vs [ρ x]) (h : coreExtract i vs = some out) :
    ExecOK C.P ρ ⟨dst, .extract x i, type, pos, after, guard⟩ m.w (After C m out.av (out.sets ++ out.news)) := by
  obtain ⟨a, rfl, ha⟩ := vrs1 hvs
  unfold coreExtract at h
  split at h
  · rename_i l heq
    simp only [List.cons.injEq, and_true] at heq
    subst heq
    cases hl : l[i]? with
    | none => rw [hl] at h; cases h
    | some r =>
      rw [hl] at h
      obtain rfl := ok_eq h
      obtain ⟨us, hv, hc⟩ := ha
      have get : ∀ (l : List (Bool × List AV1)) (us : List Value) (i : Nat) (r : Bool × List AV1), TLs C m l us → l[i]? = some r → ∃ u, us[i]? = some u ∧ TL1 C m r u := by
        intro l
        induction l with
        | nil => intro us i r _ h; simp at h
        | cons b l ih =>
          intro us i r hc h
          match us, hc with
          | u :: us, hc =>
            match i, h with
            | 0, h => simp at h; subst h; exact ⟨u, rfl, hc.1⟩
            | i + 1, h => simpa using ih us i r hc.2 (by simpa using h)
      obtain ⟨u, hu, hr⟩ := get l us.toList i r hc hl
      refine exec_q (e := Instr.extract (ρ x) i) hm rfl ⟨u, m.w, ?_, Quiet.refl _, ?_⟩
      · rw [hv]
        have : us[i]? = some u := by simpa using hu
        simp [Instr.extract, this]
      · obtain ⟨b, cells⟩ := r
        cases b with
        | true => exact hr
        | false =>
          match cells, hr with
          | [], _ => trivial
          | [a], hr => exact avr_of_one hr
          | _ :: _ :: _, _ => trivial
  · cases h

end
end Go.Proofs.Ytmlolnaannoifaa

/- Slices cut, made and appended to. -/
namespace Go.Proofs.Ytmlolnaannoifaa

/-- An entry told anew (or for the first time) over memory in which its block stands and is no other entry's. -/
theorem memR_put {C : Ctx} {m : Mem} (hm : MemR C m) {c : Nat} {p : Place} {e : Ent} (hc : ∀ e', m.h c = some e' → EntExt (m.pl c) p e' e) (he : EntR C m p e)
    (hb : ∀ g, blkOf p e = some g → (C.w0.heap.size ≤ g ∨ g ∈ C.io) ∧ ∀ id e', id ≠ c → m.h id = some e' → blkOf (m.pl id) e' ≠ some g) :
    MemR C ⟨m.U, updP m.pl c p, updE m.h [(c, e)], m.w⟩ ∧ Ext C m ⟨m.U, updP m.pl c p, updE m.h [(c, e)], m.w⟩ := by
  have hup : ∀ id, id ≠ c → updE m.h [(c, e)] id = m.h id := fun id hid => by
    simp [updE, get1, nbeq_ne hid]
  have hcc : updE m.h [(c, e)] c = some e := by simp [updE, get1]
  have hpp : ∀ id, id ≠ c → updP m.pl c p id = m.pl id := fun id hid => if_neg hid
  have hpc : updP m.pl c p c = p := if_pos rfl
  have hx : Ext C m ⟨m.U, updP m.pl c p, updE m.h [(c, e)], m.w⟩ :=
    ⟨fun _ h => h, fun _ _ => rfl, fun _ _ _ => rfl, fun id e' h => by
      by_cases hid : id = c
      · subst hid
        exact ⟨e, hcc, by dsimp only; rw [hpc]; exact hc e' h⟩
      · exact ⟨e', (hup id hid).trans h, by dsimp only; rw [hpp id hid]; exact EntExt.refl _ _⟩⟩
  refine ⟨⟨hm.post, fun id e' h => ?_, fun i j e1 e2 g h1 h2 b1 b2 => ?_, fun id e' g h hg => ?_⟩, hx⟩
  · show EntR C _ (updP m.pl c p id) e'
    by_cases hid : id = c
    · subst hid
      have : e' = e := Option.some.inj (h.symm.trans hcc)
      subst this
      rw [hpc]
      exact EntR_keep hx he (fun g _ => ⟨rfl, fun _ _ h => h⟩)
    · rw [hpp id hid]
      exact EntR_keep hx (hm.ents id e' ((hup id hid).symm.trans h)) (fun g _ => ⟨rfl, fun _ _ h => h⟩)
  · dsimp only at h1 h2 b1 b2
    by_cases hi : i = c
    · by_cases hj : j = c
      · rw [hi, hj]
      · subst hi
        have : e1 = e := Option.some.inj (h1.symm.trans hcc)
        subst this
        rw [show updP m.pl i p i = p from hpc] at b1
        have h2' := (hup j hj).symm.trans h2
        rw [show updP m.pl i p j = m.pl j from hpp j hj] at b2
        exact absurd b2 ((hb g b1).2 j e2 hj h2')
    · by_cases hj : j = c
      · subst hj
        have : e2 = e := Option.some.inj (h2.symm.trans hcc)
        subst this
        rw [show updP m.pl j p j = p from hpc] at b2
        have h1' := (hup i hi).symm.trans h1
        rw [show updP m.pl j p i = m.pl i from hpp i hi] at b1
        exact absurd b1 ((hb g b2).2 i e1 hi h1')
      · rw [show updP m.pl c p i = m.pl i from hpp i hi] at b1
        rw [show updP m.pl c p j = m.pl j from hpp j hj] at b2
        exact hm.apart i j e1 e2 g ((hup i hi).symm.trans h1) ((hup j hj).symm.trans h2) b1 b2
  · dsimp only at h hg
    by_cases hid : id = c
    · subst hid
      have : e' = e := Option.some.inj (h.symm.trans hcc)
      subst this
      rw [show updP m.pl id p id = p from hpc] at hg
      exact (hb g hg).1
    · rw [show updP m.pl c p id = m.pl id from hpp id hid] at hg
      exact hm.where_ id e' g ((hup id hid).symm.trans h) hg

section
variable {C : Ctx} {m : Mem} {T : Types} {g : View} {c : Nat} {out : Out} {ρ : Operand → Value} {dst : Option Tmp} {type : TypeId} {pos : String} {after : Array Edge} {guard : Option (Nat × Bool)} {vs : List AV}

/-- The bounds of a slice, as told. -/
theorem run_bounds {P : Program} {w : World} {b : Bool} {len cap : Nat} {lo hi : Option Int} {kl kh : IntKind} (h0 : 0 ≤ lo.getD 0) (h1 : lo.getD 0 ≤ hi.getD len) (h2 : hi.getD len ≤ len) (hc : len ≤ cap) :
    (Instr.sliceBounds b len cap (lo.map (Value.int kl)) (hi.map (Value.int kh)) none).run P w = .ok ((lo.getD 0).toNat, (hi.getD len).toNat, cap) w := by
  cases hi with
  | none =>
    cases lo with
    | none => simp [Instr.sliceBounds]
    | some l =>
      simp only [Option.getD_some, Option.getD_none] at h0 h1 ⊢
      simp [Instr.sliceBounds, Instr.sliceBound, asIntOf, h0, h1]
  | some h =>
    cases lo with
    | none =>
      simp only [Option.getD_some, Option.getD_none] at h1 h2 ⊢
      have : h ≤ cap := by omega
      simp [Instr.sliceBounds, Instr.sliceBound, asIntOf, h1, this]
    | some l =>
      simp only [Option.getD_some] at h0 h1 h2 ⊢
      have h3 : h ≤ cap := by omega
      have h4 : 0 ≤ h := by omega
      have h5 : l ≤ (h.toNat : Int) := by omega
      simp [Instr.sliceBounds, Instr.sliceBound, asIntOf, h0, h3, h4]
      omega

theorem CR_cut {U : Addr → Prop} {w : World} {e : Kd} {xs : List e.T} {A : Option Addr} {cp l h : Nat} (hcr : CR U w (.sl e) xs [.slice A xs.length cp]) (h1 : l ≤ h) (h2 : h ≤ xs.length) (hcp : xs.length ≤ cp) :
    CR U w (.sl e) ((xs.take h).drop l) [.slice (if cp = l then A else A.map (·.add (l * e.sz))) (h - l) (cp - l)] := by
  obtain ⟨A', c', hv, hle, hE⟩ := hcr
  simp only [List.cons.injEq, Value.slice.injEq, and_true, true_and] at hv
  obtain ⟨rfl, rfl⟩ := hv
  have hlen : ((xs.take h).drop l).length = h - l := by simp; omega
  refine ⟨_, _, by rw [hlen], by omega, fun i hi => ?_⟩
  have hi' : l + i < xs.length := by omega
  obtain ⟨ad, r, rfl, hl, hj, hR⟩ := hE (l + i) hi'
  rw [if_neg (by omega)]
  refine ⟨ad.add (l * e.sz), r, rfl, hl, fun j hjs => ?_, ?_⟩
  · rw [Addr.add_add', show l * e.sz + (i * e.sz + j) = (l + i) * e.sz + j by rw [Nat.add_mul]; omega]
    exact hj j hjs
  · have : ((xs.take h).drop l)[i] = xs[l + i] := by simp
    rw [this]; exact hR

theorem cutAV_sound (hT : TyOK C.P T) {t : TypeId} {a : AV1} {lo hi : Option Int} {kl kh : IntKind} {v : Value} (hm : MemR C m) (hg : ViewOK g m.h) (h : cutAV T t a lo hi g = some out) (hp : ∀ p ∈ out.ps, p) (ha : AVR1 C m a v) :
    out.sets = [] ∧ out.news = [] ∧ QRun C m (Instr.sliceAt t v (lo.map (Value.int kl)) (hi.map (Value.int kh)) none) out.av := by
  unfold cutAV at h
  split at h
  · rename_i ti hti
    obtain ⟨d, hd, _, hdt⟩ := (hT t ti hti).run_und (w := m.w)
    split at h
    · rename_i htd
      split at h
      · rename_i s
        obtain rfl := okp_eq h
        have h0 : 0 ≤ lo.getD 0 := hp _ (by simp)
        have h1 : lo.getD 0 ≤ hi.getD s.size := hp _ (by simp)
        have h2 : hi.getD s.size ≤ (s.size : Int) := hp _ (by simp)
        have hv : v = .string s := by simpa [AVR1, CR] using ha
        subst hv
        obtain rfl := td_str (hdt.trans htd)
        refine ⟨rfl, rfl, QRun.pure (v := .string (s.extract (lo.getD 0).toNat (hi.getD s.size).toNat)) ?_ (avr_str _)⟩
        simp only [Instr.sliceAt, Sem.run_bind, hd, Result.andThen_ok, Instr.slice, Option.isSome_none, Bool.false_eq_true, if_false, Sem.run_pure]
        rw [run_bounds h0 h1 h2 (Nat.le_refl _)]
        rfl
      · cases h
    · rename_i n' et htd
      split at h
      · rename_i id te hte
        split at h
        · rename_i e n xs hid
          split at h
          · rename_i hn
            subst hn
            obtain rfl := ok_eq h
            obtain ⟨hv, _⟩ := ha
            subst hv
            obtain rfl := td_array (hdt.trans htd)
            refine ⟨rfl, rfl, .slice (some ⟨(m.pl id).g, 0, none⟩) n' n', m.w, ?_, Quiet.refl _, rfl, _, n', n', rfl, .inl ⟨e, xs, hg _ _ hid, Nat.le_refl _, rfl⟩⟩
            simp only [Instr.sliceAt, Sem.run_bind, hd, Result.andThen_ok, Instr.sureAddr, Sem.run_pure, Option.map_none]
            rw [show Instr.sliceBounds false n' n' none none none = pure (0, n', n') by rfl]
            simp only [Sem.run_pure, Result.andThen_ok, (hT et te hte).run_size]
            simp [Addr.add]
          · cases h
        · cases h
      · cases h
    · rename_i et htd
      split at h
      · rename_i te hte
        split at h
        · rename_i id
          split at h
          · rename_i e n xs hid
            simp only at h
            split at h
            · rename_i hsz
              obtain rfl := okp_eq h
              have h0 : 0 ≤ lo.getD 0 := hp _ (by simp)
              have h1 : lo.getD 0 ≤ hi.getD (n : Int) := hp _ (by simp)
              have h2 : hi.getD (n : Int) ≤ (n : Int) := hp _ (by simp)
              obtain ⟨cc, hcc, hv⟩ := msl_arr ha (hg _ _ hid)
              subst hv
              obtain rfl := td_slice (hdt.trans htd)
              refine ⟨rfl, rfl, .slice (if cc = (lo.getD 0).toNat then some ⟨(m.pl id).g, 0, none⟩ else (some (⟨(m.pl id).g, 0, none⟩ : Addr)).map (·.add ((lo.getD 0).toNat * te.size))) ((hi.getD (n : Int)).toNat - (lo.getD 0).toNat) (cc - (lo.getD 0).toNat), m.w, ?_, Quiet.refl _, rfl, _, cc - (lo.getD 0).toNat, rfl, .inl ⟨e, n, xs, hg _ _ hid, by omega, by omega, ?_⟩⟩
              · simp only [Instr.sliceAt, Sem.run_bind, hd, Result.andThen_ok, Instr.slice]
                rw [run_bounds h0 h1 h2 hcc]
                simp only [Result.andThen_ok, (hT et te hte).run_size, Sem.run_pure]
              · intro hn
                rw [if_neg (by omega), Option.map_some, Addr.add_mk, hsz, Nat.zero_add]
            · cases h
          · cases h
        split at h
        · rename_i ps xs hsl
          obtain rfl := okp_eq h
          have h0 : 0 ≤ lo.getD 0 := hp _ (by simp)
          have h1 : lo.getD 0 ≤ hi.getD xs.length := hp _ (by simp)
          have h2 : hi.getD xs.length ≤ (xs.length : Int) := hp _ (by simp)
          have hcr := slOf_sound hm hg hsl (fun p hpp => hp p (by simp [hpp])) ha
          obtain ⟨A, cp, hv, hle, _⟩ := id hcr
          simp only [List.cons.injEq, and_true] at hv
          subst hv
          obtain rfl := td_slice (hdt.trans htd)
          have hkd := (hT et te hte).szk
          have hcut := CR_cut hcr (l := (lo.getD 0).toNat) (h := (hi.getD xs.length).toNat) (by omega) (by omega) hle
          refine ⟨rfl, rfl, _, m.w, ?_, Quiet.refl _, rfl, hcut⟩
          simp only [Instr.sliceAt, Sem.run_bind, hd, Result.andThen_ok, Instr.slice]
          rw [run_bounds h0 h1 h2 hle]
          simp only [Result.andThen_ok, (hT et te hte).run_size, Sem.run_pure]
          rw [hkd]
        · cases h
      · cases h
    · cases h
  · cases h

theorem intOf_sound {x : AV} {n : Int} {v : Value} (h : intOf x = some n) (ha : AVR C m x v) : ∃ k, v = .int k n := by
  unfold intOf at h
  split at h
  · obtain rfl := Option.some.inj h
    exact ⟨_, avr_int_inv ha⟩
  · cases h

theorem core_slice (hT : TyOK C.P T) {t : TypeId} {x : Operand} {lo hi mx : Option Operand} (hm : MemR C m) (hg : ViewOK g m.h) (hvs : VRs C m vs ((x :: (lo.toList ++ hi.toList)).map ρ)) (h : coreSlice T t lo.isSome hi.isSome mx.isSome g vs = some out) (hp : ∀ p ∈ out.ps, p) :
    ExecOK C.P ρ ⟨dst, .slice t x lo hi mx, type, pos, after, guard⟩ m.w (After C m out.av (out.sets ++ out.news)) := by
  have hany : ∀ {a : AV1} {l h'}, cutAV T t a l h' g = some out → a ≠ .any := fun {a l h'} hc e => by
    subst e
    unfold cutAV at hc
    split at hc
    · split at hc
      · cases hc
      · split at hc <;> contradiction
      · split at hc
        · simp [slOf] at hc
        · cases hc
      · cases hc
    · cases hc
  unfold coreSlice at h
  cases mx with
  | some _ => simp at h
  | none =>
    simp only [Option.isSome_none, Bool.false_eq_true, if_false] at h
    match vs, hvs with
    | .one a :: r, hvs =>
      simp only at h
      split at h
      · rename_i l hh hb
        have hne := hany h
        have hax := (avr_one hvs.1 hne).2
        have fin : ∀ (kl kh : IntKind), lo.map ρ = l.map (Value.int kl) → hi.map ρ = hh.map (Value.int kh) → ExecOK C.P ρ ⟨dst, .slice t x lo hi none, type, pos, after, guard⟩ m.w (After C m out.av (out.sets ++ out.news)) := by
          intro kl kh e1 e2
          obtain ⟨h1, h2, h3⟩ := cutAV_sound (kl := kl) (kh := kh) hT hm hg h hp hax
          rw [h1, h2]
          refine exec_q (e := Instr.sliceAt t (ρ x) (lo.map ρ) (hi.map ρ) none) hm rfl ?_
          rw [e1, e2]; exact h3
        cases lo with
        | none =>
          cases hi with
          | none =>
            match r, hvs.2 with
            | [], _ =>
              simp only [Option.isSome_none, boundsOf, Option.some.injEq, Prod.mk.injEq] at hb
              obtain ⟨rfl, rfl⟩ := hb
              exact fin .i64 .i64 rfl rfl
          | some y =>
            obtain ⟨b, rfl, hb'⟩ := vrs1 hvs.2
            simp only [Option.isSome_none, Option.isSome_some, boundsOf] at hb
            cases hi' : intOf b with
            | none => rw [hi'] at hb; cases hb
            | some n =>
              rw [hi'] at hb
              simp only [Option.map_some, Option.some.injEq, Prod.mk.injEq] at hb
              obtain ⟨rfl, rfl⟩ := hb
              obtain ⟨k, hk⟩ := intOf_sound hi' hb'
              exact fin .i64 k rfl (by simp [hk])
        | some z =>
          cases hi with
          | none =>
            obtain ⟨b, rfl, hb'⟩ := vrs1 hvs.2
            simp only [Option.isSome_none, Option.isSome_some, boundsOf] at hb
            cases hi' : intOf b with
            | none => rw [hi'] at hb; cases hb
            | some n =>
              rw [hi'] at hb
              simp only [Option.map_some, Option.some.injEq, Prod.mk.injEq] at hb
              obtain ⟨rfl, rfl⟩ := hb
              obtain ⟨k, hk⟩ := intOf_sound hi' hb'
              exact fin k .i64 (by simp [hk]) rfl
          | some y =>
            obtain ⟨b, b2, rfl, hb', hb2⟩ := vrs2 hvs.2
            simp only [Option.isSome_some, boundsOf] at hb
            split at hb
            · rename_i n1 n2 q1 q2
              simp only [Option.some.injEq, Prod.mk.injEq] at hb
              obtain ⟨rfl, rfl⟩ := hb
              obtain ⟨k, hk⟩ := intOf_sound q1 hb'
              obtain ⟨k2, hk2⟩ := intOf_sound q2 hb2
              exact fin k k2 (by simp [hk]) (by simp [hk2])
            · cases hb
      · cases h
    | .agg _ :: _, _ => simp at h
    | .tup _ :: _, _ => simp at h
    | [], hvs => exact hvs.elim

end
end Go.Proofs.Ytmlolnaannoifaa

/- Slices made, appended to; builtins. -/
namespace Go.Proofs.Ytmlolnaannoifaa

section
variable {C : Ctx} {m : Mem} {T : Types} {g : View} {c : Nat} {out : Out} {ρ : Operand → Value} {dst : Option Tmp} {type : TypeId} {pos : String} {after : Array Edge} {guard : Option (Nat × Bool)} {vs : List AV}

theorem ptrIds_sound : ∀ {l : List AV} {us : List Value} {ids : List Nat}, ptrIds l = some ids → VRs C m l us →
    us = ids.map (fun id => Value.pointer (some ⟨(m.pl id).g, 0, none⟩)) ∧ ∀ id ∈ ids, (∃ cells, m.h id = some (.box cells)) ∨ (∃ e n xs, m.h id = some (.arr e n xs)) ∨ Gone m id
  | [], [], ids, h, _ => by
    simp only [ptrIds, Option.some.injEq] at h
    subst h
    exact ⟨rfl, fun _ h => by simp at h⟩
  | a :: l, u :: us, ids, h, hv => by
    unfold ptrIds at h
    split at h
    · rename_i heq; cases heq
    · rename_i id r heq
      simp only [List.cons.injEq] at heq
      obtain ⟨rfl, rfl⟩ := heq
      cases hr : ptrIds l with
      | none => rw [hr] at h; cases h
      | some js =>
        rw [hr] at h
        simp only [Option.map_some, Option.some.injEq] at h
        subst h
        obtain ⟨h1, h2⟩ := ptrIds_sound hr hv.2
        obtain ⟨_, hu, hx⟩ := hv.1
        refine ⟨by rw [hu, h1]; rfl, fun j hj => ?_⟩
        rcases List.mem_cons.1 hj with rfl | hj
        · exact hx
        · exact h2 j hj
    · cases h
  | [], _ :: _, _, _, h => h.elim
  | _ :: _, [], _, _, h => h.elim

theorem core_makeFunc {fn : Fn} {first captured : Array Operand} (hm : MemR C m) (hvs : VRs C m vs ((first.toList ++ captured.toList).map ρ)) (h : coreMakeFunc fn first.size vs = some out) :
    ExecOK C.P ρ ⟨dst, .makeFunc fn first captured, type, pos, after, guard⟩ m.w (After C m out.av (out.sets ++ out.news)) := by
  unfold coreMakeFunc at h
  split at h
  · rename_i f
    split at h
    · rename_i hf
      obtain rfl : first = #[] := Array.eq_empty_of_size_eq_zero hf
      cases hi : ptrIds vs with
      | none => rw [hi] at h; cases h
      | some ids =>
        rw [hi] at h
        obtain rfl := ok_eq h
        obtain ⟨h1, h2⟩ := ptrIds_sound hi hvs
        have hc : captured.map ρ = (ids.map (fun id => Value.pointer (some ⟨(m.pl id).g, 0, none⟩))).toArray := by
          apply Array.ext'
          rw [Array.toList_map]
          simpa using h1
        refine exec_q (e := Instr.makeFunc (.func f) (#[].map ρ) (captured.map ρ)) hm rfl (QRun.pure (v := .func (.func f) #[] (captured.map ρ)) (by simp [Instr.makeFunc]) ⟨rfl, ?_, h2⟩)
        rw [hc]
    · cases h
  · cases h

theorem lenOf_sound {a : AV1} {v : Value} {n : Int} (hg : ViewOK g m.h) (h : lenOf a g = some n) (hs : ∀ s, a ≠ .d .str s) (ha : AVR1 C m a v) : ∃ A k c, v = .slice A k c ∧ n = (k : Int) := by
  unfold lenOf at h
  split at h
  · rename_i s; exact absurd rfl (hs s)
  · rename_i e xs
    obtain rfl := Option.some.inj h
    obtain ⟨A, c, hv, _⟩ := ha
    simp only [List.cons.injEq, and_true] at hv
    exact ⟨A, _, c, hv, rfl⟩
  · obtain rfl := Option.some.inj h
    obtain ⟨A, c, hv, _⟩ := ha
    exact ⟨A, _, c, hv, rfl⟩
  · obtain rfl := Option.some.inj h
    obtain ⟨A, hv⟩ := ha
    exact ⟨A, 0, 0, hv, rfl⟩
  · rename_i id
    split at h
    · rename_i e n' xs hid
      obtain rfl := Option.some.inj h
      obtain ⟨cc, hcc, hv⟩ := msl_arr ha (hg _ _ hid)
      exact ⟨_, _, cc, hv, rfl⟩
    · cases h
  · obtain rfl := Option.some.inj h
    obtain ⟨A, c, hv, _⟩ := ha
    exact ⟨A, _, c, hv, rfl⟩
  · cases h

theorem core_len (hT : TyOK C.P T) {ts : Array TypeId} {args : Array Operand} (hm : MemR C m) (hg : ViewOK g m.h) (hvs : VRs C m vs (args.toList.map ρ)) (h : coreLen T ts g vs = some out) :
    ExecOK C.P ρ ⟨dst, .call ⟨.builtin .len, args, ts⟩, type, pos, after, guard⟩ m.w (After C m out.av (out.sets ++ out.news)) := by
  unfold coreLen at h
  split at h
  · rename_i a
    split at h
    · rename_i ti hti
      obtain ⟨t, ht0, hti⟩ := Option.bind_eq_some_iff.1 hti
      obtain ⟨d, hd, _, hdt⟩ := (hT t ti hti).run_und (w := m.w)
      have hargs : ∃ x, args = #[x] := by
        have := hvs.length
        simp at this
        match args, this with
        | ⟨[x]⟩, _ => exact ⟨x, rfl⟩
      obtain ⟨x, rfl⟩ := hargs
      have hx := hvs.1
      have fin : ∀ (n : Int), (Builtin.len_ ts type #[ρ x]).run C.P m.w = .ok (.int .i64 n) m.w → ExecOK C.P ρ ⟨dst, .call ⟨.builtin .len, #[x], ts⟩, type, pos, after, guard⟩ m.w (After C m (dv (.int .i64) n) []) := by
        intro n hr
        have e : (execOp ρ ⟨dst, .call ⟨.builtin .len, #[x], ts⟩, type, pos, after, guard⟩).run C.P m.w = .ok (.value (.int .i64 n)) m.w := by
          simp only [execOp, resolve, Sem.run_bind, Sem.run_pure, Result.andThen_ok, invoke, builtin]
          have : (#[x].map ρ) = #[ρ x] := by simp
          rw [this, hr]; rfl
        unfold ExecOK
        rw [e]
        exact After.quiet hm (Quiet.refl _) (avr_int _ _)
      split at h
      · rename_i htd
        split at h
        · rename_i s
          obtain rfl := ok_eq h
          have hv := avr_str_inv hx
          obtain rfl := td_str (hdt.trans htd)
          refine fin _ ?_
          simp [Builtin.len_, ht0, hv, hd, goInt]
        · cases h
      · rename_i et htd
        split at h
        · cases h
        · rename_i hns
          cases hl : lenOf a g with
          | none => rw [hl] at h; cases h
          | some n =>
            rw [hl] at h
            obtain rfl := ok_eq h
            have hne : a ≠ .any := fun e => by subst e; simp [lenOf] at hl
            obtain ⟨A, k, cc, hv, rfl⟩ := lenOf_sound hg hl hns (avr_one hx hne).2
            obtain rfl := td_slice (hdt.trans htd)
            refine fin _ ?_
            simp [Builtin.len_, ht0, hv, hd, goInt]
      · cases h
    · cases h
  · cases h

theorem core_min {ts : Array TypeId} {args : Array Operand} (hm : MemR C m) (hvs : VRs C m vs (args.toList.map ρ)) (h : coreMin vs = some out) :
    ExecOK C.P ρ ⟨dst, .call ⟨.builtin .min, args, ts⟩, type, pos, after, guard⟩ m.w (After C m out.av (out.sets ++ out.news)) := by
  unfold coreMin at h
  split at h
  · rename_i k x k' y
    split at h
    · rename_i hk
      subst hk
      obtain rfl := ok_eq h
      have hargs : ∃ a b, args = #[a, b] := by
        have := hvs.length
        simp at this
        match args, this with
        | ⟨[a, b]⟩, _ => exact ⟨a, b, rfl⟩
      obtain ⟨a, b, rfl⟩ := hargs
      have h1 := avr_int_inv hvs.1
      have h2 := avr_int_inv hvs.2.1
      have e : (execOp ρ ⟨dst, .call ⟨.builtin .min, #[a, b], ts⟩, type, pos, after, guard⟩).run C.P m.w = .ok (.value (.int k (if y < x then y else x))) m.w := by
        simp only [execOp, resolve, Sem.run_bind, Sem.run_pure, Result.andThen_ok, invoke, builtin]
        have : (#[a, b].map ρ) = #[ρ a, ρ b] := by simp
        rw [this, h1, h2]
        simp [Builtin.min_, Builtin.min2]
      unfold ExecOK
      rw [e]
      exact After.quiet hm (Quiet.refl _) (avr_int _ _)
    · cases h
  · cases h

theorem core_max {ts : Array TypeId} {args : Array Operand} (hm : MemR C m) (hvs : VRs C m vs (args.toList.map ρ)) (h : coreMax vs = some out) :
    ExecOK C.P ρ ⟨dst, .call ⟨.builtin .max, args, ts⟩, type, pos, after, guard⟩ m.w (After C m out.av (out.sets ++ out.news)) := by
  unfold coreMax at h
  split at h
  · rename_i k x k' y
    split at h
    · rename_i hk
      subst hk
      obtain rfl := ok_eq h
      have hargs : ∃ a b, args = #[a, b] := by
        have := hvs.length
        simp at this
        match args, this with
        | ⟨[a, b]⟩, _ => exact ⟨a, b, rfl⟩
      obtain ⟨a, b, rfl⟩ := hargs
      have h1 := avr_int_inv hvs.1
      have h2 := avr_int_inv hvs.2.1
      have e : (execOp ρ ⟨dst, .call ⟨.builtin .max, #[a, b], ts⟩, type, pos, after, guard⟩).run C.P m.w = .ok (.value (.int k (if y > x then y else x))) m.w := by
        simp only [execOp, resolve, Sem.run_bind, Sem.run_pure, Result.andThen_ok, invoke, builtin]
        have : (#[a, b].map ρ) = #[ρ a, ρ b] := by simp
        rw [this, h1, h2]
        simp [Builtin.max_, Builtin.max2]
      unfold ExecOK
      rw [e]
      exact After.quiet hm (Quiet.refl _) (avr_int _ _)
    · cases h
  · cases h

/- a row of zeros -/
theorem zeros_get {z : Array Value} {n j : Nat} (hj : j < n * z.size) : ((Array.range (n * z.size)).map (z[· % z.size]!))[j]? = z[j % z.size]? := by
  have hz : 0 < z.size := by
    rcases Nat.eq_zero_or_pos z.size with h | h
    · rw [h] at hj; simp at hj
    · exact h
  have hm : j % z.size < z.size := Nat.mod_lt _ hz
  rw [Array.getElem?_map, Array.getElem?_range, if_pos hj]
  simp [hm]

theorem zeros_piece {z : Array Value} {n i : Nat} (hi : i < n) : ((((Array.range (n * z.size)).map (z[· % z.size]!)).toList.drop (i * z.size)).take z.size) = z.toList := by
  apply list_ext?
  intro j
  by_cases hj : j < z.size
  · rw [List.getElem?_take_of_lt hj, List.getElem?_drop, Array.getElem?_toList]
    have hlt : i * z.size + j < n * z.size := by
      have : (i + 1) * z.size ≤ n * z.size := Nat.mul_le_mul_right _ hi
      rw [Nat.add_mul] at this; omega
    rw [zeros_get hlt, Nat.mul_comm i, Nat.mul_add_mod, Nat.mod_eq_of_lt hj, Array.getElem?_toList]
  · rw [List.getElem?_eq_none (by rw [List.length_take]; omega), List.getElem?_eq_none (by simp; omega)]

theorem core_makeSlice (hT : TyOK C.P T) {t : TypeId} {x y : Operand} (hm : MemR C m) (hvs : VRs C m vs [ρ x, ρ y]) (h : coreMakeSlice T t c vs = some out) (hp : ∀ p ∈ out.ps, p) (hn : ∀ p ∈ out.news, m.h p.1 = none) :
    ExecOK C.P ρ ⟨dst, .makeSlice t x y, type, pos, after, guard⟩ m.w (After C m out.av (out.sets ++ out.news)) := by
  obtain ⟨a, b, rfl, ha, hb⟩ := vrs2 hvs
  unfold coreMakeSlice at h
  split at h
  · rename_i k n k' mm heq
    simp only [List.cons.injEq, and_true] at heq
    obtain ⟨rfl, rfl⟩ := heq
    split at h
    · rename_i te hte
      split at h
      · cases h
      · rename_i hby
        split at h
        · rename_i ps z hz
          obtain rfl := Option.some.inj h
          have e1 : (n : Int) = mm := hp _ (by simp)
          have e2 : (0 : Int) ≤ n := hp _ (by simp)
          have e3 : (n : Int) ≤ 1099511627776 := hp _ (by simp)
          obtain ⟨N, rfl⟩ : ∃ N : Nat, n = (N : Int) := ⟨Int.toNat n, (Int.toNat_of_nonneg e2).symm⟩
          subst e1
          have hx := avr_int_inv ha
          have hy := avr_int_inv hb
          unfold elemTy at hte
          split at hte
          · rename_i ti hti
            obtain ⟨d, hd, _, hdt⟩ := (hT t ti hti).run_und (w := m.w)
            split at hte
            · rename_i et htd
              obtain rfl := td_slice (hdt.trans htd)
              have hr := hT et te hte
              obtain ⟨i, zv, hi, hsz, hib, hzv, hz1, hz2, _⟩ := hr.run_info (w := m.w)
              have hzs : zv.cells.size = te.size := by have := hr.zlen; rw [← hz1] at this; simpa using this
              have hcl : CLs C m te.zero zv.cells.toList := by rw [← hz1]; exact zero_cells _ hz2
              have hcr := ofCellsAll_sound hm (g := fun _ => none) (fun _ _ h => by cases h) hz (fun p hpp => hp p (by simp [hpp])) hcl
              have hkd := hr.szk
              have e4 : ((N : Nat) : Int) ≤ 1099511627776 := e3
              have hN : N ≤ 1099511627776 := by omega
              have hwrap : IntKind.i64.wrap (N : Int) = N := IntWalk.i64_in _ (by omega)
              have hsmall : ¬ ((i.bytes : Int) * (N : Int) > 2 ^ 48) := by
                rw [hib]
                have h1 : te.bytes ≤ 100 := by omega
                have : te.bytes * N ≤ 100 * 1099511627776 := Nat.mul_le_mul h1 hN
                have h3 : ((te.bytes * N : Nat) : Int) ≤ ((100 * 1099511627776 : Nat) : Int) := Int.ofNat_le.mpr this
                rw [Int.natCast_mul] at h3
                omega
              obtain ⟨cells, hcells⟩ : ∃ cells : Array Value, cells = (Array.range (N * zv.cells.size)).map (zv.cells[· % zv.cells.size]!) := ⟨_, rfl⟩
              have hcsz : cells.size = N * te.size := by rw [hcells, Array.size_map, Array.size_range, hzs]
              have hnc : m.h c = none := hn _ (List.mem_singleton.2 rfl)
              have hnoU : ∀ a : Addr, a.block = m.w.heap.size → ¬ m.U a := fun a ha hu => by have := (hm.post.bound a hu).2; omega
              obtain ⟨h1, h2⟩ := memR_alloc_new hm (o := .cells cells et) (c := c) (e := .arr te.kd N (List.replicate N z)) (p := ⟨m.w.heap.size, none, 0⟩) (fun _ h => h) (fun a h => .inl h) hnc rfl
                (fun hxx => ⟨by simp, cells, et, alloc_heap_new, by rw [hcsz, hkd], fun j hj => by
                  have hj' : j < N := by simpa using hj
                  have hpc : (cells.toList.drop (j * te.kd.sz)).take te.kd.sz = zv.cells.toList := by rw [hcells, hkd, ← hzs, zeros_piece hj']
                  rw [hpc]
                  simp only [List.getElem_replicate]
                  exact hxx.CR hcr, hnoU⟩)
              refine execOK_value (e := Instr.makeSlice t (ρ x) (ρ y)) rfl (w' := m.w.alloc (.cells cells et)) (v := .slice (some ⟨m.w.heap.size, 0, none⟩) N N) ?_ ⟨m.U, _, h1, h2, rfl, _, N, N, rfl, .inl ⟨te.kd, List.replicate N z, ?_, Nat.le_refl _, ?_⟩⟩
              · simp only [Instr.makeSlice, Sem.run_bind, hd, Result.andThen_ok, hx, hy, asInt, asIntOf, Sem.run_pure, hi, hwrap]
                have hneg : ¬ ((N : Int) < 0) := by omega
                have hlarge : (decide ((N : Int) < 0) || decide ((i.bytes : Int) * (N : Int) > 2 ^ 48)) = false := by
                  rw [decide_eq_false hneg, decide_eq_false hsmall]; rfl
                rw [if_neg (by rw [hlarge]; simp)]
                simp only [Int.toNat_natCast, Sem.run_bind, run_askRoom, Result.andThen_ok, hsz]
                by_cases h0 : N * te.size = 0
                · rw [if_pos h0]
                  have : cells = #[] := Array.eq_empty_of_size_eq_zero (by rw [hcsz]; exact h0)
                  simp only [Sem.run_pure, Result.andThen_ok, newRow, Sem.run_bind]
                  have e0 : ∀ f : Nat → Value, (Array.range 0).map f = #[] := fun f => by simp
                  rw [h0, this, e0]
                  rfl
                · rw [if_neg h0]
                  simp only [Sem.run_bind, hzv, Sem.run_pure, Result.andThen_ok, newRow]
                  rw [hcells, ← hzs]
                  rfl
              · simp [updE, get1]
              · show some _ = some (⟨(updP m.pl c _ c).g, 0, none⟩ : Addr)
                simp [updP]
            · cases hte
          · cases hte
        · cases h
    · cases h
  · cases h
end
end Go.Proofs.Ytmlolnaannoifaa
