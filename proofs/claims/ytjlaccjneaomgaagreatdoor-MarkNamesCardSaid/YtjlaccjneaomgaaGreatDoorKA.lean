/- A sound abstract interpreter for the code of the model: part A of five, joined of smaller texts. -/
import Derived.Calls
import Derived.Below
import Derived.Laws.Rows
import Derived.Laws.Cells
set_option linter.all false
set_option linter.unusedVariables false
set_option linter.unusedSimpArgs false
set_option linter.unusedSectionVars false

/- The abstract values, objects and states over which the firkin program's code is run, free of the tape's choices: plain definitions, no proof. -/
namespace Go.Fk

/-- What is known of a slice's room behind its end: nothing; that there is none; that it is this token's. -/
inductive Tk where
  | no
  | full
  | tok (t : Nat)
  deriving DecidableEq, Repr, Inhabited

/-- Abstract values. 'un': nothing is known. 'v': a value without an address. 'list': a slice whose cells never change any more, and hold nothing that points into the heap; 'rlist': they may. 'agg': a struct or array, cell by cell. 'ptr', 'map': into the abstract heap. 'lptr': into a list's element. 'arr': a slice over an object of the heap: the object, the first cell, how many elements, cells of each; is it known that there is no room behind it? 'sym': the n-th of the values that were given, of one cell. -/
inductive D where
  | un
  | v (x : Value)
  | list (xs : List D) (tk : Tk)
  | rlist (xs : List D)
  | agg (ds : List D)
  | tup (ds : List D)
  | ptr (id off : Nat)
  | lptr (xs : List D) (i off : Nat)
  | arr (id off len sz : Nat) (fl : Bool)
  | map (id : Nat)
  | func (fn : Fn) (first cap : List D)
  | iface (t : TypeId) (d : D)
  | sym (n : Nat)
  deriving Inhabited

def D.cells : D → List D
  | .agg ds => ds
  | d => [d]

def D.single : D → Bool
  | .agg _ | .tup _ | .un => false
  | .v (.agg _) | .v (.tuple _) => false
  | _ => true

mutual
/-- Does a value point nowhere into the heap, its tokens all below n? (A list's elements hold neither.) -/
def D.cl (n : Nat) : D → Bool
  | .v (.agg _) => false
  | .v _ => true
  | .list _ (.tok t) => decide (t < n)
  | .list _ _ => true
  | .agg ds | .tup ds => D.clL n ds
  | .func _ a b => D.clL n a && D.clL n b
  | .iface _ d => d.cl n
  | .sym _ => true
  | _ => false
def D.clL (n : Nat) : List D → Bool
  | [] => true
  | d :: r => d.cl n && D.clL n r
end

/-- Has a value as many cells as it seems? -/
def D.szOk : D → Bool
  | .un => false
  | .v (.agg _) => false
  | _ => true

/-- Without tokens, at the head and in a struct's cells. -/
def normC : D → D
  | .list xs _ => .list xs .no
  | d => d
def norm : D → D
  | .agg ds => .agg (ds.map normC)
  | .tup ds => .tup (ds.map fun | .agg cs => .agg (cs.map normC) | d => normC d)
  | d => normC d

/-- Objects of the abstract heap. -/
inductive O where
  | cells (ds : List D)
  | map (es : List (D × D))
  | siter (s : ByteArray) (pos : Nat)
  | dead
  deriving Inhabited

/-- The abstract state: the objects, the newest first, and how many; the tokens' lengths and cells an element, the newest first, and how many. -/
structure Lim where
  /-- Objects below are not turned; below the next only by what points nowhere, and has no token; tokens below 'tbase' are not turned. -/
  base : Nat
  cbase : Nat
  tbase : Nat
  deriving Inhabited

structure St where
  heap : List O
  hn : Nat
  toks : List (Nat × Nat)
  tn : Nat
  lim : Lim
  deriving Inhabited

def St.empty : St := ⟨[], 0, [], 0, ⟨0, 0, 0⟩⟩

/-- The i-th of a list that is numbered from its end. -/
def getR {α : Type} : List α → Nat → Nat → Option α
  | [], _, _ => none
  | x :: r, n, i => if i + 1 = n then some x else getR r (n - 1) i
def setR {α : Type} (y : α) : List α → Nat → Nat → List α
  | [], _, _ => []
  | x :: r, n, i => if i + 1 = n then y :: r else x :: setR y r (n - 1) i

def St.get (s : St) (id : Nat) : Option O := getR s.heap s.hn id
def St.set (s : St) (id : Nat) (o : O) : St := { s with heap := setR o s.heap s.hn id }
def St.push (s : St) (o : O) : St := { s with heap := o :: s.heap, hn := s.hn + 1 }
def St.tok (s : St) (t : Nat) : Option (Nat × Nat) := getR s.toks s.tn t
def St.setTok (s : St) (t n sz : Nat) : St := { s with toks := setR (n, sz) s.toks s.tn t }
def St.pushTok (s : St) (n sz : Nat) : St := { s with toks := (n, sz) :: s.toks, tn := s.tn + 1 }

/-- An object's cells are turned: where they may be. -/
def St.wr (s : St) (id : Nat) (new : List D) (o : O) : Option St :=
  if s.lim.base ≤ id then
    if s.lim.cbase ≤ id then some (s.set id o)
    else if D.clL 0 new then some (s.set id o) else none
  else none

/-- Paths of an environment: a number's way in a tree. -/
inductive Pth where
  | h
  | l (p : Pth)
  | r (p : Pth)
  deriving DecidableEq, Repr, Inhabited

def Pth.ofNat : Nat → Nat → Pth
  | 0, _ => .h
  | f + 1, n => if n = 0 then .h else if n % 2 = 1 then .l (Pth.ofNat f (n / 2)) else .r (Pth.ofNat f (n / 2 - 1))

inductive Env where
  | nil
  | n (l : Env) (d : D) (r : Env)
  deriving Inhabited

def Env.get : Env → Pth → D
  | .nil, _ => .un
  | .n _ d _, .h => d
  | .n l _ _, .l p => l.get p
  | .n _ _ r, .r p => r.get p
def Env.set : Env → Pth → D → Env
  | .nil, .h, x => .n .nil x .nil
  | .nil, .l p, x => .n (Env.set .nil p x) .un .nil
  | .nil, .r p, x => .n .nil .un (Env.set .nil p x)
  | .n l _ r, .h, x => .n l x r
  | .n l d r, .l p, x => .n (l.set p x) d r
  | .n l d r, .r p, x => .n l d (r.set p x)

/-- Operands. -/
inductive Opd where
  | t (p : Pth)
  | c (v : Value)
  | f (g : FuncId)
  deriving Inhabited

def zcells : Value → List D
  | .agg cs => cs.toList.map .v
  | x => [.v x]
def zval : Value → D
  | .agg cs => .agg (cs.toList.map .v)
  | x => .v x

def Opd.ev (e : Env) : Opd → D
  | .t p => e.get p
  | .c v => zval v
  | .f g => .func (.func g) [] []

/-- How equality looks at its operands. -/
inductive RefK where
  | ptr
  | map
  | func
  | slice
  | iface
  deriving DecidableEq, Repr, Inhabited
/-- Scalars that can be held against each other. -/
inductive SK where
  | b
  | i
  | s
  deriving DecidableEq, Repr, Inhabited
inductive EqK where
  | scalar
  | bools
  | cells (ks : List SK)
  | ref (k : RefK)
  deriving Repr, Inhabited
/-- A map's keys: scalars, or structs of such. -/
inductive KeyK where
  | one (k : SK)
  | cells (ks : List SK)
  deriving Repr, Inhabited

/-- Operations, their types resolved. -/
inductive IOp where
  | mv (x : Opd)
  | pick (c a b : Opd)
  | alloc (zs : List Value)
  | box (x : Opd)
  | build (zs : List Value) (parts : List (Nat × Nat × Opd))
  | lit (sz n : Nat) (zero : Value) (parts : List (Nat × Opd))
  | load (agg : Bool) (n : Nat) (a : Opd)
  | store (n : Nat) (a x : Opd)
  | nilCheck (x : Opd)
  | bin (op : BinOp) (k : EqK) (x y : Opd)
  | un (op : UnOp) (x : Opd)
  | convInt (k : IntKind) (x : Opd)
  | convSame (x : Opd)
  | convBytes (x : Opd)
  | convRunes (x : Opd)
  | convStr (runes : Bool) (x : Opd)
  | convRuneStr (x : Opd)
  | iface (t : TypeId) (x : Opd)
  | mkfunc (fn : Fn) (first cap : List Opd)
  | mkmap
  | mkslice (sz bytes : Nat) (zero : Value) (l c : Opd)
  | slice (kind : Nat) (n sz : Nat) (x : Opd) (lo hi mx : Option Opd)
  | faddr (off : Nat) (x : Opd)
  | field (agg : Bool) (off n : Nat) (x : Opd)
  | iaddr (arr : Option Nat) (sz : Nat) (x i : Opd)
  | index (arr : Option (Nat × Bool × Nat)) (x i : Opd)
  | lookup (kk : KeyK) (zero : Value) (ok : Bool) (m k : Opd)
  | mupd (kk : KeyK) (m k x : Opd)
  | mentry (zero : Value) (m k : Opd)
  | estore (m s x : Opd)
  | range (x : Opd)
  | next (x : Opd)
  | tassert (t : TypeId) (zero : Value) (ok : Bool) (x : Opd)
  | extract (i : Nat) (x : Opd)
  | call (f : Opd) (args : List Opd)
  | len (kind : Nat) (x : Opd)
  | append (mt : Bool) (sz bytes : Nat) (zero : Option Value) (s x : Opd)
  | copy (sz : Nat) (d x : Opd)
  | delete (kk : KeyK) (m k : Opd)
  | clear (sz : Nat) (zero : Value) (x : Opd)
  | minmax (max : Bool) (xs : List Opd)
  | defer (f : Opd) (args : List Opd)
  deriving Inhabited

structure IOper where
  dst : Option Pth
  op : IOp
  guard : Option (Pth × Bool)
  /-- 0: leaves the state alone and does not look at it; 1: looks at it; 2: an allocation; 3: may turn it. -/
  cls : Nat
  /-- In a region that draws: ahead of how many of the operations that turn the state it may come up, and behind how many. -/
  lo : Nat
  hi : Nat
  deriving Inhabited

/-- Code; 'bad': a piece that is not resolved: where it is come to, nothing is said. -/
inductive IC where
  | bad
  | skip
  | reg (draw : Bool) (ops : List IOper)
  | seq (a b : IC)
  | cond (c : Opd) (a b : IC)
  | block (id : Nat) (c : IC)
  | loop (c : IC)
  | exit (id : Nat)
  | ret
  deriving Inhabited

inductive IRes where
  | t (p : Pth)
  | cell (p : Pth) (agg : Bool) (n : Nat)
  deriving Inhabited

structure IFn where
  params : Nat
  results : List IRes
  body : IC
  deriving Inhabited


/-- Values that are surely the same. -/
def vsame : Value → Value → Bool
  | .bool a, .bool b => a == b
  | .int j a, .int k b => decide (j = k) && decide (a = b)
  | .string a, .string b => a.data.toList == b.data.toList
  | .pointer none, .pointer none => true
  | .slice none a b, .slice none c d => decide (a = c) && decide (b = d)
  | .map none, .map none => true
  | .nilFunc, .nilFunc => true
  | .nilIface, .nilIface => true
  | _, _ => false

mutual
def D.same : D → D → Bool
  | .un, .un => true
  | .v a, .v b => vsame a b
  | .list xs t, .list ys u => decide (t = u) && D.sameL xs ys
  | .rlist xs, .rlist ys => D.sameL xs ys
  | .agg xs, .agg ys => D.sameL xs ys
  | .tup xs, .tup ys => D.sameL xs ys
  | .ptr i o, .ptr j u => decide (i = j) && decide (o = u)
  | .lptr xs i o, .lptr ys j u => decide (i = j) && decide (o = u) && D.sameL xs ys
  | .arr i o l z f, .arr j u m y e => decide (i = j) && decide (o = u) && decide (l = m) && decide (z = y) && decide (f = e)
  | .map i, .map j => decide (i = j)
  | .func f a b, .func k c d => decide (f = k) && D.sameL a c && D.sameL b d
  | .iface t d, .iface u e => decide (t = u) && d.same e
  | .sym i, .sym j => decide (i = j)
  | _, _ => false
def D.sameL : List D → List D → Bool
  | [], [] => true
  | d :: r, e :: t => d.same e && D.sameL r t
  | _, _ => false
end

end Go.Fk

/- What the operations, and the code, of a resolved function do to abstract values and states: plain definitions, no proof. -/
namespace Go.Fk

def i64 (n : Int) : D := .v (.int .i64 n)
def nilSlice : Value := .slice none 0 0

/-- Two scalars alike, if both are of the kind. -/
def veq : SK → D → D → Option Bool
  | .b, .v (.bool a), .v (.bool b) => some (a == b)
  | .i, .v (.int k a), .v (.int k' b) => if k = k' then some (a == b) else none
  | .s, .v (.string a), .v (.string b) => some (a.data.toList == b.data.toList)
  | _, _, _ => none

def veqs : List SK → List D → List D → Option Bool
  | [], [], [] => some true
  | k :: ks, a :: r, b :: s => match veq k a b, veqs ks r s with
    | some x, some y => some (x && y)
    | _, _ => none
  | _, _, _ => none

/-- Map keys. -/
def keq : KeyK → D → D → Option Bool
  | .one k, a, b => veq k a b
  | .cells ks, .agg a, .agg b => veqs ks a b
  | _, _, _ => none

/-- Can it be a key? -/
def D.isKey : KeyK → D → Bool
  | .one _, _ => true
  | .cells ks, .agg a => a.length == ks.length && a.all fun d => match d with | .v _ => true | _ => false
  | .cells _, _ => false

def nilK : RefK → D → Option Bool
  | .ptr, .v (.pointer none) => some true
  | .ptr, .ptr _ _ => some false
  | .ptr, .lptr _ _ _ => some false
  | .map, .v (.map none) => some true
  | .map, .map _ => some false
  | .func, .v .nilFunc => some true
  | .func, .func _ _ _ => some false
  | .slice, .v (.slice none 0 0) => some true
  | .slice, .arr _ _ _ _ _ => some false
  | .slice, .rlist _ => some false
  | .slice, .list _ _ => some false
  | .iface, .v .nilIface => some true
  | .iface, .iface _ _ => some false
  | _, _ => none

/-- '==' on what are no scalars: one of both is nil; structs of scalars. -/
def eqD (k : EqK) (x y : D) : Option Bool :=
  match k with
  | .ref k => match nilK k x, nilK k y with
    | some true, some b => some b
    | some false, some true => some false
    | _, _ => none
  | .cells ks => match x, y with
    | .agg a, .agg b => veqs ks a b
    | _, _ => none
  | .bools => veq .b x y
  | .scalar => none

/-- Numbers, held against each other. -/
def ltI : Int → Int → Bool
  | .ofNat a, .ofNat b => Nat.blt a b
  | .ofNat _, .negSucc _ => false
  | .negSucc _, .ofNat _ => true
  | .negSucc a, .negSucc b => Nat.blt b a

def binV (op : BinOp) (x y : Value) : Option Value :=
  match op, x, y with
  | .shl, .int k a, .int _ b => if b < 0 then none else some (.int k (k.wrap (a * 2 ^ min b.toNat k.bits)))
  | .shr, .int k a, .int _ b => if b < 0 then none else some (.int k (a.fdiv (2 ^ min b.toNat k.bits)))
  | op, .int k a, .int k' b =>
    if k ≠ k' then none else
    match op with
    | .add => some (.int k (k.wrap (a + b)))
    | .sub => some (.int k (k.wrap (a - b)))
    | .mul => some (.int k (k.wrap (a * b)))
    | .quo => if b = 0 then none else some (.int k (k.wrap (a.tdiv b)))
    | .rem => if b = 0 then none else some (.int k (a.tmod b))
    | .and => some (.int k (k.wrap (BitVec.ofInt k.bits a &&& BitVec.ofInt k.bits b).toNat))
    | .or => some (.int k (k.wrap (BitVec.ofInt k.bits a ||| BitVec.ofInt k.bits b).toNat))
    | .xor => some (.int k (k.wrap (BitVec.ofInt k.bits a ^^^ BitVec.ofInt k.bits b).toNat))
    | .andNot => some (.int k (k.wrap (BitVec.ofInt k.bits a &&& ~~~ BitVec.ofInt k.bits b).toNat))
    | .eql => some (.bool (a == b))
    | .neq => some (.bool (a != b))
    | .lss => some (.bool (ltI a b))
    | .leq => some (.bool (!(ltI b a)))
    | .gtr => some (.bool (ltI b a))
    | .geq => some (.bool (!(ltI a b)))
    | _ => none
  | op, .string a, .string b =>
    match op with
    | .add => if a.size + b.size ≤ 1099511627776 then some (.string (a ++ b)) else none
    | .eql => some (.bool (a.data.toList == b.data.toList))
    | .neq => some (.bool (!(a.data.toList == b.data.toList)))
    | .lss => some (.bool (Op.bytesLess a.data.toList b.data.toList))
    | .leq => some (.bool (Op.bytesLess a.data.toList b.data.toList || a.data.toList == b.data.toList))
    | .gtr => some (.bool (!(Op.bytesLess a.data.toList b.data.toList || a.data.toList == b.data.toList)))
    | .geq => some (.bool (!(Op.bytesLess a.data.toList b.data.toList)))
    | _ => none
  | _, _, _ => none

def unV (op : UnOp) (x : Value) : Option Value :=
  match op, x with
  | .neg, .int k n => some (.int k (k.wrap (0 - n)))
  | .xor, .int k n => some (.int k (k.wrap (BitVec.ofInt k.bits (if k.signed then -1 else k.max) ^^^ BitVec.ofInt k.bits n).toNat))
  | .not, .bool b => some (.bool !b)
  | _, _ => none

def asNat (n : Int) : Option Nat := if 0 ≤ n then some n.toNat else none

def D.int? : D → Option Int
  | .v (.int _ n) => some n
  | _ => none

/-- Cells of a value put in the place of others. -/
def put (cs new : List D) (off : Nat) : Option (List D) :=
  if off + new.length ≤ cs.length then some (cs.take off ++ new ++ cs.drop (off + new.length)) else none

def cut (cs : List D) (off n : Nat) : Option (List D) :=
  if off + n ≤ cs.length then some ((cs.drop off).take n) else none

def loadD (agg : Bool) (n : Nat) (cs : List D) (off : Nat) : Option D :=
  if agg then (cut cs off n).map .agg else cs[off]?

/-- A list's element, or a part of it. -/
def loadE (ag : Bool) (n : Nat) (d : D) (off : Nat) : Option D :=
  if d.cells.all (·.single) then
    if ag && off == 0 && d.cells.length == n then some (.agg d.cells) else loadD ag n d.cells off
  else none

/-- Cells, so many each, as elements. -/
def group (agg : Bool) (sz : Nat) : Nat → List D → List D
  | 0, _ => []
  | n + 1, cs => (if agg then .agg (cs.take sz) else (cs[0]?).getD .un) :: group agg sz n (cs.drop sz)

def isAggV : Value → Bool
  | .agg _ => true
  | _ => false

/-- The elements of a slice: of a list, of an object, of a string's bytes; with their cells. -/
def byteD (b : UInt8) : D := .v (.int .u8 b.toNat)
def elems (s : St) (agg : Bool) : D → Option (List D)
  | .list xs _ => some xs
  | .rlist xs => some xs
  | .v (.slice none 0 0) => some []
  | .v (.string b) => some (b.data.toList.map byteD)
  | .arr id off len sz _ => match s.get id with
    | some (.cells ds) => if agg = (sz != 1) ∧ off + len * sz ≤ ds.length then some (group agg sz len (ds.drop off)) else none
    | _ => none
  | _ => none

def bytesOf : List D → Option (List UInt8)
  | [] => some []
  | .v (.int .u8 n) :: r => (bytesOf r).map (UInt8.ofNat n.toNat :: ·)
  | _ => none

def runesStr (acc : ByteArray) : List D → Option ByteArray
  | [] => some acc
  | .v (.int .i32 n) :: r => runesStr (acc ++ Utf8.encode n) r
  | _ => none

def findE (kk : KeyK) (k : D) : List (D × D) → Option (Option D)
  | [] => some none
  | (k', x) :: r => match keq kk k k' with
    | some true => some (some x)
    | some false => findE kk k r
    | none => none
def setE (kk : KeyK) (k x : D) : List (D × D) → List (D × D)
  | [] => [(k, x)]
  | (k', y) :: r => match keq kk k k' with
    | some true => (k, x) :: r
    | _ => (k', y) :: setE kk k x r
def delE (kk : KeyK) (k : D) : List (D × D) → List (D × D)
  | [] => []
  | (k', y) :: r => match keq kk k k' with
    | some true => r
    | _ => (k', y) :: delE kk k r

def mapOf (s : St) : D → Option (List (D × D))
  | .v (.map none) => some []
  | .map id => match s.get id with
    | some (.map es) => some es
    | _ => none
  | _ => none

def fillL (cs : List D) : List (Nat × Nat × D) → Option (List D)
  | [] => some cs
  | (off, n, x) :: r => if x.cells.length = n ∧ x.cells.all (·.single) = true then match put cs x.cells off with
      | some cs => fillL cs r
      | none => none
    else none

def setAll (xs : List D) : List (Nat × D) → List D
  | [] => xs
  | (i, x) :: r => setAll (xs.set i (norm x)) r

def szAt (xs : List D) (i sz : Nat) : Bool :=
  match xs[i]? with
  | some d => d.szOk && d.cells.length == sz
  | none => false

/-- Has each element so many cells? (All have as many as the first.) -/
def szOf (xs : List D) (sz : Nat) : Bool := xs.isEmpty || szAt xs 0 sz

/-- What is known of the room behind a part of a list. -/
def tkSub (mxs : Bool) (tk : Tk) (l h m len : Int) : Tk :=
  if mxs then (if h = m then .full else .no)
  else if h = len then (if l = 0 then tk else match tk with | .full => .full | _ => .no) else .no

/-- Slicing; kind 0: of a string, 1: of an array behind an address, 2: of a slice. -/
def sub (kind : Nat) (n sz : Nat) (x : D) (lo hi mx : Option Int) : Option D :=
  match x with
  | .v (.string s) =>
    if mx.isSome ∨ kind ≠ 0 then none else
    let h := (hi.getD s.size); let l := lo.getD 0
    if 0 ≤ l ∧ l ≤ h ∧ h ≤ s.size then some (.v (.string (s.extract l.toNat h.toNat))) else none
  | .list xs tk =>
    let h := hi.getD xs.length; let l := lo.getD 0; let m := mx.getD h
    if kind = 2 ∧ 0 ≤ l ∧ l ≤ h ∧ h ≤ m ∧ m ≤ xs.length ∧ (l = 0 ∨ l = h ∨ szAt xs l.toNat sz = true) then
      some (.list ((xs.take h.toNat).drop l.toNat) (tkSub mx.isSome tk l h m xs.length))
    else none
  | .v (.slice none 0 0) => if kind = 2 ∧ lo.getD 0 = 0 ∧ hi.getD 0 = 0 ∧ mx.getD 0 = 0 then some x else none
  | .arr id off len sz' fl =>
    let h := hi.getD len; let l := lo.getD 0
    if mx.isSome then none else
    if kind = 2 ∧ sz' = sz ∧ 0 ≤ l ∧ l ≤ h ∧ h ≤ len then some (if h = l then .list [] .no else .arr id (off + l.toNat * sz) (h - l).toNat sz (fl && decide (h = len))) else none
  | .ptr id off =>
    let h := hi.getD n; let l := lo.getD 0
    if mx.isSome then none else
    if kind = 1 ∧ 0 ≤ l ∧ l ≤ h ∧ h ≤ n ∧ 0 < sz then some (if h = l then .list [] .no else .arr id (off + l.toNat * sz) (h - l).toNat sz (decide (h = n))) else none
  | _ => none

def cap40 : Nat := 1099511627776

/-- append's answer, of a list's elements: what room there is behind it goes by the token. -/
def appendD (s : St) (sz bytes : Nat) (d : D) (ys : List D) : Option (D × St) :=
  let fresh (xs : List D) : Option (D × St) :=
    let zs := xs ++ ys.map norm
    if zs.length * bytes ≤ cap40 then some (.list zs (.tok s.tn), s.pushTok zs.length sz) else none
  match d with
  | .v (.slice none 0 0) => if ys.isEmpty then some (d, s) else fresh []
  | .list xs tk =>
    if ys.isEmpty then some (.list xs tk, s) else
    if szOf xs sz = false then none else
    match tk with
    | .full => fresh xs
    | .tok t => match s.tok t with
      | some (n, sz') => if n = xs.length ∧ sz' = sz ∧ s.lim.tbase ≤ t ∧ (n + ys.length) * bytes ≤ cap40 then some (.list (xs ++ ys.map norm) (.tok t), s.setTok t (n + ys.length) sz) else none
      | none => none
    | .no => none
  | .arr _ _ _ sz' true =>
    if ys.isEmpty then some (d, s) else
    if sz' = sz then match elems s (sz != 1) d with
      | some xs => if szOf xs sz && xs.all (fun y => (norm y).cl 0 && y.cells.all (·.single)) then fresh (xs.map norm) else none
      | none => none
    else none
  | _ => none

def minmaxD (mx : Bool) : D → List D → Option D
  | d, [] => some d
  | .v (.int k x), .v (.int k' y) :: r => if k = k' then minmaxD mx (.v (.int k (if mx then (if y > x then y else x) else (if y < x then y else x)))) r else none
  | _, _ => none

/-- A list's element's address. -/
def elemAt (xs : List D) (i sz : Nat) : Option D :=
  match xs[i]? with
  | some d => if d.szOk && d.cells.length == sz then some (.lptr xs i 0) else none
  | none => none

/-- What is loaded. -/
def loadQ (s : St) (agg : Bool) (n : Nat) : D → Option D
  | .ptr id off => match s.get id with
    | some (.cells ds) => loadD agg n ds off
    | _ => none
  | .lptr xs i off => match xs[i]? with
    | some d => loadE agg n d off
    | none => none
  | _ => none
def nilCheckQ : D → Option D
  | .ptr id o => some (.ptr id o)
  | .lptr xs i o => some (.lptr xs i o)
  | .func (.func f) a b => some (.func (.func f) a b)
  | .iface t d => some (.iface t d)
  | _ => none
def faddrQ (off : Nat) : D → Option D
  | .ptr id o => some (.ptr id (o + off))
  | .lptr xs i o => some (.lptr xs i (o + off))
  | _ => none
def fieldQ (agg : Bool) (off n : Nat) : D → Option D
  | .agg ds => loadD agg n ds off
  | _ => none
def iaddrQ (arr : Option Nat) (sz i : Nat) (d : D) : Option D :=
  match arr with
  | none => match d with
    | .list xs _ => elemAt xs i sz
    | .rlist xs => elemAt xs i sz
    | .arr id off len sz' _ => if i < len ∧ sz' = sz then some (.ptr id (off + i * sz)) else none
    | _ => none
  | some n => match d with
    | .ptr id off => if i < n then some (.ptr id (off + i * sz)) else none
    | .lptr xs k off => if i < n then some (.lptr xs k (off + i * sz)) else none
    | _ => none
def indexQ (arr : Option (Nat × Bool × Nat)) (i : Nat) (d : D) : Option D :=
  match arr with
  | none => match d with
    | .v (.string b) => (b.data.toList[i]?).map byteD
    | _ => none
  | some (n, agg, sz) => match d with
    | .agg ds => if i < n then loadD agg sz ds (i * sz) else none
    | _ => none
def lookupQ (s : St) (kk : KeyK) (zero : Value) (ok : Bool) (m k : D) : Option D :=
  if !D.isKey kk k then none else
  match mapOf s m with
  | some es => match findE kk k es with
    | some (some x) => some (if ok then .tup [x, .v (.bool true)] else x)
    | some none => some (if ok then .tup [zval zero, .v (.bool false)] else zval zero)
    | none => none
  | none => none
def tassertQ (t : TypeId) (zero : Value) (ok : Bool) : D → Option D
  | .iface t' d => if t' = t then some (if ok then .tup [d, .v (.bool true)] else d) else if ok then some (.tup [zval zero, .v (.bool false)]) else none
  | .v .nilIface => if ok then some (.tup [zval zero, .v (.bool false)]) else none
  | _ => none
/-- Lengths; kind 0: of a string, 1: of a slice, 2: of a map. -/
def lenQ (s : St) (kind : Nat) (d : D) : Option D :=
  match kind with
  | 0 => match d with
    | .v (.string b) => some (i64 b.size)
    | _ => none
  | 1 => match d with
    | .list xs _ => some (i64 xs.length)
    | .rlist xs => some (i64 xs.length)
    | .arr _ _ len _ _ => some (i64 len)
    | .v (.slice _ l _) => some (i64 l)
    | _ => none
  | _ => match d with
    | .v (.map none) => some (i64 0)
    | .map id => match s.get id with
      | some (.map es) => some (i64 es.length)
      | _ => none
    | _ => none
def D.isStr : D → Bool
  | .v (.string _) => true
  | _ => false
def convStrQ (s : St) (runes : Bool) (d : D) : Option D :=
  if d.isStr then none else
  match elems s false d with
  | some xs => if runes then (runesStr .empty xs).map fun b => .v (.string b) else (bytesOf xs).map fun l => .v (.string ⟨l.toArray⟩)
  | none => none
def asI (d : D) (k : Nat → Option D) : Option D :=
  match d.int? with
  | some i => if 0 ≤ i then k i.toNat else none
  | none => none
def asOI : Option D → Option (Option Int)
  | none => some none
  | some d => d.int?.map some
def sliceQ (kind n sz : Nat) (x : D) (lo hi mx : Option D) : Option D :=
  match asOI lo, asOI hi, asOI mx with
  | some l, some h, some m => sub kind n sz x l h m
  | _, _, _ => none
def binQ (op : BinOp) (k : EqK) (x y : D) : Option D :=
  match k with
  | .scalar => match x, y with
    | .v a, .v b => (binV op a b).map .v
    | _, _ => none
  | _ => match op with
    | .eql => (eqD k x y).map fun b => .v (.bool b)
    | .neq => (eqD k x y).map fun b => .v (.bool !b)
    | _ => none

/-- What an operation that does not turn the state yields. -/
def evQ (e : Env) (s : St) (call : D → List D → St → Option (D × St)) (pure : D → Bool) : IOp → Option D
  | .mv x => some (x.ev e)
  | .pick c a b => match c.ev e with
    | .v (.bool t) => some (if t then a.ev e else b.ev e)
    | _ => none
  | .build zs parts => (fillL (zs.map .v) (parts.map fun (o, n, x) => (o, n, x.ev e))).map .agg
  | .lit sz n zero parts =>
    if parts.all (fun (i, x) => decide (i < n) && (x.ev e).cells.length == sz && (x.ev e).cells.all (·.single)) then
      if parts.all (fun (_, x) => (norm (x.ev e)).cl 0) then
        some (.list (setAll (List.replicate n (norm (zval zero))) (parts.map fun (i, x) => (i, x.ev e))) .full)
      else some (.rlist (setAll (List.replicate n (norm (zval zero))) (parts.map fun (i, x) => (i, x.ev e))))
    else none
  | .load agg n a => loadQ s agg n (a.ev e)
  | .nilCheck x => nilCheckQ (x.ev e)
  | .bin op k x y => binQ op k (x.ev e) (y.ev e)
  | .un op x => match x.ev e with
    | .v a => (unV op a).map .v
    | _ => none
  | .convInt k x => match x.ev e with
    | .v (.int _ n) => some (.v (.int k (k.wrap n)))
    | _ => none
  | .convSame x => match x.ev e with
    | .v (.string b) => some (.v (.string b))
    | _ => none
  | .convStr runes x => convStrQ s runes (x.ev e)
  | .convRuneStr x => match x.ev e with
    | .v (.int _ n) => some (.v (.string (Utf8.encode n)))
    | _ => none
  | .convBytes x => match x.ev e with
    | .v (.string b) => if b.size ≤ cap40 then some (.list (b.data.toList.map byteD) .no) else none
    | _ => none
  | .convRunes x => match x.ev e with
    | .v (.string b) => if b.size ≤ cap40 then some (.list ((Conv.runesFrom b b.size 0 #[]).toList.map .v) .no) else none
    | _ => none
  | .iface t x => some (.iface t (norm (x.ev e)))
  | .mkfunc fn first cap => some (.func fn (first.map (·.ev e)) (cap.map (·.ev e)))
  | .slice kind n sz x lo hi mx => sliceQ kind n sz (x.ev e) (lo.map (·.ev e)) (hi.map (·.ev e)) (mx.map (·.ev e))
  | .faddr off x => faddrQ off (x.ev e)
  | .field agg off n x => fieldQ agg off n (x.ev e)
  | .iaddr arr sz x i => asI (i.ev e) fun i => iaddrQ arr sz i (x.ev e)
  | .index arr x i => asI (i.ev e) fun i => indexQ arr i (x.ev e)
  | .lookup kk zero ok m k => lookupQ s kk zero ok (m.ev e) (norm (k.ev e))
  | .tassert t zero ok x => tassertQ t zero ok (x.ev e)
  | .extract i x => match x.ev e with
    | .tup ds => ds[i]?
    | _ => none
  | .len k x => lenQ s k (x.ev e)
  | .minmax mx xs => match xs.map (·.ev e) with
    | d :: r => minmaxD mx d r
    | [] => none
  | .call f args => if pure (f.ev e) then (call (f.ev e) (args.map (·.ev e)) s).map (·.1) else none
  | _ => none

/-- What an operation that may turn the state yields, and the state. -/
def evM (e : Env) (s : St) (call : D → List D → St → Option (D × St)) : IOp → Option (D × St)
  | .alloc zs => some (.ptr s.hn 0, s.push (.cells (zs.map .v)))
  | .box x => if (x.ev e).cells.all (·.single) then some (.ptr s.hn 0, s.push (.cells (x.ev e).cells)) else none
  | .store n a x => match a.ev e with
    | .ptr id off => match s.get id with
      | some (.cells ds) =>
        if (x.ev e).cells.length = n ∧ (x.ev e).cells.all (·.single) then
          match put ds (x.ev e).cells off with
          | some ds => match s.wr id (x.ev e).cells (.cells ds) with
            | some s => some (.v undef, s)
            | none => none
          | none => none
        else none
      | _ => none
    | _ => none
  | .mkmap => some (.map s.hn, s.push (.map []))
  | .mkslice sz bytes zero l c => match (l.ev e).int?, (c.ev e).int? with
    | some l, some c =>
      if 0 ≤ l ∧ l ≤ c ∧ c.toNat * bytes ≤ cap40 ∧ c ≤ cap40 then
        if l = 0 ∧ c > 0 then some (.list [] (.tok s.tn), s.pushTok 0 sz)
        else if c = 0 then some (.list [] .full, s)
        else some (.arr s.hn 0 l.toNat sz (decide (l = c)), s.push (.cells ((List.replicate c.toNat (zcells zero)).flatten)))
      else none
    | _, _ => none
  | .append mt sz bytes zero d x =>
    let agg := sz != 1
    let ys := match zero with
      | some z => match (x.ev e).int? with
        | some n => if 0 ≤ n ∧ n ≤ cap40 then some (List.replicate n.toNat (zval z)) else none
        | none => none
      | none => elems s agg (x.ev e)
    match ys with
    | none => none
    | some ys =>
      if mt then none
      else if ys.all (fun y => (norm y).cl 0 && y.cells.all (·.single)) && szOf ys sz then appendD s sz bytes (d.ev e) ys else none
  | .copy sz d x => match d.ev e with
    | .arr id off len _ _ => match s.get id, elems s (sz != 1) (x.ev e) with
      | some (.cells ds), some ys =>
        let n := Nat.min ys.length len
        if szOf ys sz = false ∨ ((ys.take n).flatMap D.cells).all (·.single) = false then none else
        match put ds ((ys.take n).flatMap D.cells) off with
        | some ds => match s.wr id ((ys.take n).flatMap D.cells) (.cells ds) with
          | some s => some (i64 n, s)
          | none => none
        | none => none
      | _, _ => none
    | _ => none
  | .mupd kk m k x => if !D.isKey kk (norm (k.ev e)) then none else match m.ev e with
    | .map id => match s.get id with
      | some (.map es) => match findE kk (norm (k.ev e)) es with
        | some _ => match s.wr id [norm (k.ev e), norm (x.ev e)] (.map (setE kk (norm (k.ev e)) (norm (x.ev e)) es)) with
          | some s => some (.v undef, s)
          | none => none
        | none => none
      | _ => none
    | _ => none
  | .delete kk m k => if !D.isKey kk (norm (k.ev e)) then none else match m.ev e with
    | .v (.map none) => some (.v undef, s)
    | .map id => match s.get id with
      | some (.map es) => match findE kk (norm (k.ev e)) es with
        | some _ => match s.wr id [] (.map (delE kk (norm (k.ev e)) es)) with
          | some s => some (.v undef, s)
          | none => none
        | none => none
      | _ => none
    | _ => none
  | .clear sz zero x => match x.ev e with
    | .arr id off len sz' _ => match s.get id with
      | some (.cells ds) =>
        if sz' = sz then match put ds (List.replicate len (zcells zero)).flatten off with
          | some ds => match s.wr id (zcells zero) (.cells ds) with
            | some s => some (.v undef, s)
            | none => none
          | none => none
        else none
      | _ => none
    | .list [] _ | .v (.slice none 0 0) => some (.v undef, s)
    | _ => none
  | .range x => match x.ev e with
    | .v (.string b) => some (.ptr s.hn 0, s.push (.siter b 0))
    | _ => none
  | .next x => match x.ev e with
    | .ptr id 0 => match s.get id with
      | some (.siter b pos) =>
        if pos < b.size then
          match s.wr id [] (.siter b (pos + (Utf8.decode b pos).2)) with
          | some s => some (.tup [.v (.bool true), i64 pos, .v (.int .i32 (Utf8.decode b pos).1)], s)
          | none => none
        else some (.tup [.v (.bool false)], s)
      | _ => none
    | _ => none
  | .call f args => call (f.ev e) (args.map (·.ev e)) s
  | _ => none

/-- How a piece of code is left. -/
inductive X where
  | nrm
  | exit (id : Nat)
  | ret
  deriving DecidableEq, Inhabited

structure Fr where
  env : Env
  defers : List (D × List D)
  st : St
  deriving Inhabited

def setD (e : Env) : Option Pth → D → Env
  | some p, d => e.set p d
  | none, _ => e

def isUndef : Value → Bool
  | .tuple vs => vs.size == 0
  | _ => false

def wantedD (e : Env) : Option (Pth × Bool) → Option Bool
  | none => some true
  | some (p, b) => match e.get p with
    | .v (.bool c) => some (b == c)
    | .v x => if isUndef x then some false else none
    | _ => none

/-- What is deferred: a call of a function that is known. -/
def deferD (e : Env) : IOp → Option (D × List D)
  | .defer f args => match f.ev e with
    | .func fn a c => some (.func fn a c, args.map (·.ev e))
    | _ => none
  | _ => none

section
variable (call : D → List D → St → Option (D × St)) (pure : D → Bool)

/-- One operation, in the order of the text. -/
def step1 (o : IOper) (f : Fr) : Option Fr :=
  match wantedD f.env o.guard with
  | none => none
  | some false => some { f with env := setD f.env o.dst (.v undef) }
  | some true =>
    if o.cls ≤ 1 then match evQ f.env f.st call pure o.op with
        | some d => some { f with env := setD f.env o.dst d }
        | none => none
      else match evM f.env f.st call o.op with
        | some (d, s) => some { f with env := setD f.env o.dst d, st := s }
        | none => match deferD f.env o.op with
          | some d => some { f with env := setD f.env o.dst (.v undef), defers := d :: f.defers }
          | none => none

def runOps : List IOper → Fr → Option Fr
  | [], f => some f
  | o :: r, f => match step1 call pure o f with
    | some f => runOps r f
    | none => none

/-- In a region whose order is drawn: the objects that it makes are there from the start. -/
def preAlloc : List IOper → St → St
  | [], s => s
  | o :: r, s => match o.op with
    | .alloc zs => preAlloc r (s.push (.cells (zs.map .v)))
    | _ => preAlloc r s

/-- The operations in the order of the text: where each begins and what it yields; the states that they go through; the environment behind. -/
def lexGo : List IOper → Env → St → Nat → Option (List (Env × D) × List St × Env)
  | [], e, s, _ => some ([], [s], e)
  | o :: r, e, s, id => match wantedD e o.guard with
    | none => none
    | some false => match lexGo r (setD e o.dst (.v undef)) s (if o.cls = 2 then id + 1 else id) with
      | some (rs, ss, e') => some ((e, .v undef) :: rs, if o.cls = 3 then s :: ss else ss, e')
      | none => none
    | some true =>
      if o.cls ≤ 1 then match evQ e s call pure o.op with
        | some d => match lexGo r (setD e o.dst d) s id with
          | some (rs, ss, e') => some ((e, d) :: rs, ss, e')
          | none => none
        | none => none
      else if o.cls = 2 then match lexGo r (setD e o.dst (.ptr id 0)) s (id + 1) with
        | some (rs, ss, e') => some ((e, .ptr id 0) :: rs, ss, e')
        | none => none
      else match evM e s call o.op with
        | some (d, s1) => match lexGo r (setD e o.dst d) s1 id with
          | some (rs, ss, e') => some ((e, d) :: rs, s :: ss, e')
          | none => none
        | none => none

/-- Does an operation yield the same in this state? -/
def sameAt (o : IOper) (e : Env) (d : D) (s : St) : Bool :=
  if o.cls = 2 then match o.op, d with
    | .alloc zs, .ptr id 0 => match s.get id with
      | some (.cells cs) => D.sameL cs (zs.map .v)
      | _ => false
    | _, _ => false
  else match evQ e s call pure o.op with
    | some d' => d'.same d
    | none => false

/-- In every state that an operation may come up in, it yields the same. -/
def chkAll (ss : List St) : List IOper → List (Env × D) → Nat → Bool
  | o :: r, (e, d) :: rs, c =>
    ((o.cls == 0 || o.cls == 3 || match wantedD e o.guard with
      | some true => (List.range (o.hi + 1)).all fun k => decide (k < o.lo) || (o.cls == 1 && k == c) || match ss[k]? with
        | some s => sameAt call pure o e d s
        | none => false
      | _ => true)) && chkAll ss r rs (if o.cls = 3 then c + 1 else c)
  | _, _, _ => true

/-- A region whose operations come in an order that is drawn. -/
def runDraw (ops : List IOper) (f : Fr) : Option Fr :=
  match lexGo call pure ops f.env (preAlloc ops f.st) f.st.hn with
  | some (rs, ss, e) => if chkAll call pure ss ops rs 0 then match ss.getLast? with
      | some s => some { env := e, defers := f.defers, st := s }
      | none => none
    else none
  | none => none

def iter {α : Type} (body : Fr → Option (X × Fr)) (done : X × Fr → α) : Nat → Fr → Option α
  | 0, _ => none
  | k + 1, f => match body f with
    | some (.nrm, f) => iter body done k f
    | some r => some (done r)
    | none => none

/-- So many rounds a loop may have. -/
def LIM : Nat := 1099511627776

def evC : IC → Fr → Option (X × Fr)
  | .bad, _ => none
  | .skip, f => some (.nrm, f)
  | .reg false ops, f => (runOps call pure ops f).map fun f => (.nrm, f)
  | .reg true ops, f => (runDraw call pure ops f).map fun f => (.nrm, f)
  | .seq a b, f => match evC a f with
    | some (.nrm, f) => evC b f
    | r => r
  | .cond c a b, f => match c.ev f.env with
    | .v (.bool true) => evC a f
    | .v (.bool false) => evC b f
    | _ => none
  | .block id c, f => match evC c f with
    | some (.exit id', f) => some (if id' = id then (.nrm, f) else (.exit id', f))
    | r => r
  | .loop c, f => iter (fun f => evC c f) id LIM f
  | .exit id, f => some (.exit id, f)
  | .ret, f => some (.ret, f)
end

def resD (f : Fr) : IRes → Option D
  | .t p => some (f.env.get p)
  | .cell p agg n => match f.env.get p with
    | .ptr id off => match f.st.get id with
      | some (.cells ds) => loadD agg n ds off
      | _ => none
    | _ => none

def resAll (f : Fr) : List IRes → Option (List D)
  | [] => some []
  | r :: rs => match resD f r, resAll f rs with
    | some d, some ds => some (d :: ds)
    | _, _ => none

def envOf : List D → Nat → Env → Env
  | [], _, e => e
  | d :: r, i, e => envOf r (i + 1) (e.set (.ofNat 64 i) d)

end Go.Fk

/- How functions are run: the table, what becomes of the state behind a call: plain definitions, no proof. -/
namespace Go.Fk

/-- What is made since the n-th object as it will stay: slices over objects as lists. -/
def freeze (s : St) (n : Nat) : Nat → D → Option D
  | 0, _ => none
  | k + 1, d => match d with
    | .arr id off len sz fl =>
      if id < n then none else
      match s.get id with
      | some (.cells ds) =>
        if off + len * sz ≤ ds.length then
          match (group (sz != 1) sz len (ds.drop off)).mapM (freeze s n k) with
          | some xs => if xs.all (fun x => (norm x).cl 0) then some (.list (xs.map norm) (if fl then .full else .no)) else none
          | none => none
        else none
      | _ => none
    | .agg ds => (ds.mapM (freeze s n k)).map .agg
    | .tup ds => (ds.mapM (freeze s n k)).map .tup
    | .iface t d => (freeze s n k d).map (.iface t)
    | d => if (normC d).cl 0 then some (normC d) else none

/-- Behind a call that turns nothing: the state as it was; what it answers, as it will stay. -/
def settle (s s' : St) (d : D) : Option (D × St) :=
  match freeze s' s.hn 6 d with
  | some d => some (d, s)
  | none => none

structure Prog where
  /-- The function's code. -/
  fn : FuncId → Option IFn
  /-- 0: it turns nothing of what was; 1: so, and a list that it answers may be appended to; 2: it may turn what was. -/
  kind : FuncId → Nat
  /-- Answers that are known otherwise. -/
  ora : FuncId → Option (List D → St → Option (D × St))

def D.fid : D → Option FuncId
  | .func (.func f) _ _ => some f
  | _ => none

def Prog.pure (p : Prog) (d : D) : Bool :=
  match d.fid with
  | some f => p.kind f == 0
  | none => false

/-- Is what was there till the n-th object the same? -/
def trunc (s s' : St) : St := { heap := s'.heap.drop (s'.hn - s.hn), hn := s.hn, toks := s'.toks.drop (s'.tn - s.tn), tn := s.tn, lim := s.lim }

def runDefers (call : D → List D → St → Option (D × St)) : List (D × List D) → St → Option St
  | [], s => some s
  | (g, a) :: r, s => match call g a s with
    | some (_, s) => runDefers call r s
    | none => none

/-- A function's code, in which nothing is deferred. -/
def runFn0 (call : D → List D → St → Option (D × St)) (pure : D → Bool) (fn : IFn) (args : List D) (s : St) : Option (D × St) :=
  match evC call pure fn.body { env := envOf args 0 .nil, defers := [], st := s } with
  | some (x, f) =>
    match x with
    | .exit _ => none
    | _ =>
      if f.defers.isEmpty then
        match resAll f fn.results with
        | some [d] => some (d, f.st)
        | some ds => some (.tup ds, f.st)
        | none => none
      else none
  | none => none

/-- A call that was deferred: of a function that may turn what was, and defers nothing itself. -/
def callD (p : Prog) (call : D → List D → St → Option (D × St)) (g : D) (args : List D) (s : St) : Option (D × St) :=
  match g with
  | .func (.func f) first cap =>
    match p.ora f with
    | some _ => none
    | none => match p.fn f with
      | none => none
      | some fn =>
        if (first ++ args ++ cap).length = fn.params then
          if p.kind f = 2 then runFn0 call p.pure fn (first.map norm ++ args.map norm ++ cap) s else none
        else none
  | _ => none

def runFn (call dcall : D → List D → St → Option (D × St)) (pure : D → Bool) (fn : IFn) (args : List D) (s : St) : Option (D × St) :=
  match evC call pure fn.body { env := envOf args 0 .nil, defers := [], st := s } with
  | some (x, f) =>
    match x with
    | .exit _ => none
    | _ =>
      match runDefers dcall f.defers f.st with
      | none => none
      | some s' =>
        match resAll { f with st := s' } fn.results with
        | some [d] => some (d, s')
        | some ds => some (.tup ds, s')
        | none => none
  | none => none

def evF (p : Prog) : Nat → D → List D → St → Option (D × St)
  | 0, _, _, _ => none
  | k + 1, g, args, s =>
    match g with
    | .func (.func f) first cap =>
      match p.ora f with
      | some o => o (first.map norm ++ args.map norm ++ cap) s
      | none =>
        match p.fn f with
        | none => none
        | some fn =>
          if (first ++ args ++ cap).length = fn.params then
            if p.kind f = 2 then runFn (evF p k) (callD p (evF p k)) p.pure fn (first.map norm ++ args.map norm ++ cap) s
            else if p.kind f = 3 then
              match runFn (evF p k) (callD p (evF p k)) p.pure fn (first.map norm ++ args.map norm ++ cap) { s with lim := { s.lim with cbase := s.hn } } with
              | none => none
              | some (d, s') => match freeze s' s.hn 6 d with
                | some d => some (d, trunc s s')
                | none => none
            else
              match runFn (evF p k) (callD p (evF p k)) p.pure fn (first.map norm ++ args.map norm ++ cap) { s with lim := ⟨s.hn, s.hn, s.tn⟩ } with
              | none => none
              | some (d, s') =>
                if p.kind f = 0 then settle s s' d
                else
                  match d with
                  | .list xs (.tok t) => match s'.tok t with
                    | some (n, sz) => if n = xs.length ∧ s.tn ≤ t then some (.list xs (.tok s.tn), s.pushTok n sz) else none
                    | none => none
                  | .list xs .full => some (.list xs .full, s)
                  | d => settle s s' d
          else none
    | _ => none

end Go.Fk

/- The resolving of a function's code: what its types say is looked up once: plain definitions, no proof. -/
namespace Go.Fk

def pth (t : Nat) : Pth := .ofNat 64 t

def scalarV : Value → Bool
  | .bool _ | .int _ _ | .string _ | .float _ _ | .complex _ _ _ | .pointer none | .slice none 0 0 | .map none | .chan none | .nilFunc | .nilIface => true
  | _ => false
def constV : Value → Bool
  | .agg cs => cs.toList.all scalarV
  | v => scalarV v

def cOpd : Operand → Option Opd
  | .tmp t => some (.t (pth t))
  | .const v => if constV v then some (.c v) else none
  | .global _ => none
  | .func f => some (.f f)

def isK : Opd → Bool
  | .c _ => true
  | _ => false

def cOpds : List Operand → Option (List Opd)
  | [] => some []
  | x :: r => match cOpd x, cOpds r with
    | some a, some b => some (a :: b)
    | _, _ => none

def cOpt : Option Operand → Option (Option Opd)
  | none => some none
  | some x => (cOpd x).map some

section
variable (P : Program)

def uAgg (t : TypeId) : Option Bool :=
  match P.underlying t with
  | some (.struct _) | some (.array _ _) => some true
  | some _ => some false
  | none => none
def tSize (t : TypeId) : Option Nat := (P.info? t).map (·.size)
def tBytes (t : TypeId) : Option Nat := (P.info? t).map (·.bytes)
def tZero (t : TypeId) : Option Value := match (P.info? t).bind (·.zero) with
  | some z => if constV z then some z else none
  | none => none

/-- Is a type of scalars that can be held against each other alone: which? -/
def flatFs (fl : TypeId → Option (List SK)) : List Field → Nat → Option (List SK)
  | [], _ => some []
  | f :: r, n => if f.offset = n ∧ f.name ≠ "_" then match fl f.type with
      | some k => if tSize P f.type = some k.length then (flatFs fl r (n + k.length)).map (k ++ ·) else none
      | none => none
    else none
def flat : Nat → TypeId → Option (List SK)
  | 0, _ => none
  | d + 1, t => match P.underlying t with
    | some .bool => some [.b]
    | some (.int _) => some [.i]
    | some .string => some [.s]
    | some (.struct fs) => if P.stoodInHeld t then none else flatFs P (flat d) fs.toList 0
    | _ => none

def eqk (t : TypeId) : Option EqK :=
  match P.underlying t with
  | some .bool => some .bools
  | some (.int _) | some .string | some (.float _) => some .scalar
  | some (.pointer _) => some (.ref .ptr)
  | some (.map _ _) => some (.ref .map)
  | some (.func ..) => some (.ref .func)
  | some (.slice _) => some (.ref .slice)
  | some (.interface _) => some (.ref .iface)
  | some (.struct _) => if P.eqGuardType P.depth t then none else (flat P 20 t).map .cells
  | _ => none

def keyK (t : TypeId) : Option KeyK :=
  match P.underlying t with
  | some .bool => some (.one .b)
  | some (.int _) => some (.one .i)
  | some .string => some (.one .s)
  | some (.struct _) => (flat P 20 t).map .cells
  | _ => none

def cParts (place : Nat → Option (Nat × Nat)) : List (Nat × Operand) → Option (List (Nat × Nat × Opd))
  | [] => some []
  | (i, x) :: r => match place i, cOpd x, cParts place r with
    | some (o, n), some x, some r => some ((o, n, x) :: r)
    | _, _, _ => none
def cParts2 : List (Nat × Operand) → Option (List (Nat × Opd))
  | [] => some []
  | (i, x) :: r => match cOpd x, cParts2 r with
    | some x, some r => some ((i, x) :: r)
    | _, _ => none

def cCall (mt : Bool) (c : Call) : Option IOp :=
  match c.callee with
  | .value f => match cOpd f, cOpds c.args.toList with
    | some f, some args => some (.call f args)
    | _, _ => none
  | .invoke _ _ => none
  | .builtin b => match cOpds c.args.toList with
    | none => none
    | some args => match b, args, c.argTypes.toList with
      | .len, [x], [t] => match P.underlying t with
        | some .string => some (.len 0 x)
        | some (.slice _) => some (.len 1 x)
        | some (.map _ _) => some (.len 2 x)
        | some (.array n _) => some (.mv (.c (.int .i64 n)))
        | _ => none
      | .append, [s, x], [t, u] => match P.underlying t, P.underlying u with
        | some (.slice e), some d => match tSize P e, tBytes P e, tZero P e with
          | some sz, some by_, some z =>
            if sz = 0 ∨ by_ = 0 ∨ z.cells.size ≠ sz then none else
            match d with
            | .int _ => some (.append mt sz by_ (some z) s x)
            | _ => some (.append mt sz by_ none s x)
          | _, _, _ => none
        | _, _ => none
      | .copy, [d, x], [t, _] => match P.underlying t with
        | some (.slice e) => match tSize P e with
          | some sz => if sz = 0 then none else some (.copy sz d x)
          | none => none
        | _ => none
      | .delete, [m, k], [t, _] => match P.underlying t with
        | some (.map kt _) => (keyK P kt).map fun kk => .delete kk m k
        | _ => none
      | .clear, [x], [t] => match P.underlying t with
        | some (.slice e) => match tSize P e, tZero P e with
          | some sz, some z => if sz = 0 then none else some (.clear sz z x)
          | _, _ => none
        | _ => none
      | .min, _, _ => some (.minmax false args)
      | .max, _, _ => some (.minmax true args)
      | _, _, _ => none

def cOp (mt : Bool) (o : Op) : Option IOp :=
  match o with
  | .move x | .assign x => (cOpd x).map .mv
  | .pick c a b => match cOpd c, cOpd a, cOpd b with
    | some c, some a, some b => some (.pick c a b)
    | _, _, _ => none
  | .alloc t => (tZero P t).map fun z => .alloc (z.cells.toList)
  | .box _ x => (cOpd x).map .box
  | .build t parts => match tZero P t, P.underlying t with
    | some z, some (.struct fs) => if !fs.toList.all (fun f => (tSize P f.type).isSome) then none else (cParts (fun i => match fs[i]? with
        | some f => (tSize P f.type).map fun n => (f.offset, n)
        | none => none) parts.toList).map (.build z.cells.toList)
    | some z, some (.array _ e) => match tSize P e with
      | some n => (cParts (fun i => some (i * n, n)) parts.toList).map (.build z.cells.toList)
      | none => none
    | _, _ => none
  | .buildSlice t n parts => match P.underlying t with
    | some (.slice e) => match tSize P e, tZero P e, cParts2 parts.toList with
      | some sz, some z, some ps => if sz = 0 ∨ z.cells.size ≠ sz then none else if n * sz ≤ 16777216 then some (.lit sz n z ps) else none
      | _, _, _ => none
    | _ => none
  | .load t a => match uAgg P t, tSize P t, cOpd a with
    | some g, some n, some a => some (.load g n a)
    | _, _, _ => none
  | .store t a x => match tSize P t, cOpd a, cOpd x with
    | some n, some a, some x => some (.store n a x)
    | _, _, _ => none
  | .nilCheck x => (cOpd x).map .nilCheck
  | .binOp op t x y _ => match cOpd x, cOpd y with
    | some x, some y => match op with
      | .eql | .neq => match eqk P t with
        | some (.ref .iface) => if isK x || isK y then some (.bin op (.ref .iface) x y) else none
        | some k => some (.bin op k x y)
        | none => none
      | _ => some (.bin op .scalar x y)
    | _, _ => none
  | .unOp op _ x => (cOpd x).map (.un op)
  | .convert s d x => match P.underlying s, P.underlying d, cOpd x with
    | some (.int _), some (.int k), some x => some (.convInt k x)
    | some .string, some .string, some x => some (.convSame x)
    | some (.int _), some .string, some x => some (.convRuneStr x)
    | some .string, some (.slice e), some x => match P.underlying e with
      | some (.int .u8) => some (.convBytes x)
      | some (.int .i32) => some (.convRunes x)
      | _ => none
    | some (.slice e), some .string, some x => match P.underlying e with
      | some (.int .u8) => some (.convStr false x)
      | some (.int .i32) => some (.convStr true x)
      | _ => none
    | _, _, _ => none
  | .makeInterface t x => match P.underlying t with
    | some (.interface _) => none
    | some _ => (cOpd x).map (.iface t)
    | none => none
  | .makeFunc fn a b => match cOpds a.toList, cOpds b.toList with
    | some a, some b => some (.mkfunc fn a b)
    | _, _ => none
  | .makeMap t r => match P.underlying t with
    | some (.map _ _) => match r with
      | none => some .mkmap
      | some (.const (.int _ _)) => some .mkmap
      | _ => none
    | _ => none
  | .makeSlice t l c => match P.underlying t with
    | some (.slice e) => match tSize P e, tBytes P e, tZero P e, cOpd l, cOpd c with
      | some sz, some by_, some z, some l, some c => if sz = 0 ∨ z.cells.size ≠ sz then none else some (.mkslice sz by_ z l c)
      | _, _, _, _, _ => none
    | _ => none
  | .slice t x lo hi mx => match P.underlying t, cOpd x, cOpt lo, cOpt hi, cOpt mx with
    | some .string, some x, some lo, some hi, some mx => if mx.isSome && hi.isNone then none else some (.slice 0 0 0 x lo hi mx)
    | some (.slice e), some x, some lo, some hi, some mx => if mx.isSome && hi.isNone then none else (tSize P e).map fun sz => .slice 2 0 sz x lo hi mx
    | some (.array n e), some x, some lo, some hi, some mx => if mx.isSome && hi.isNone then none else (tSize P e).map fun sz => .slice 1 n sz x lo hi mx
    | _, _, _, _, _ => none
  | .fieldAddr t x f => match P.underlying t with
    | some (.struct fs) => match fs[f]?, cOpd x with
      | some f, some x => if tSize P f.type = some 0 then none else match tSize P f.type with
        | some _ => some (.faddr f.offset x)
        | none => none
      | _, _ => none
    | _ => none
  | .field t x f => match P.underlying t with
    | some (.struct fs) => match fs[f]?, cOpd x with
      | some f, some x => match uAgg P f.type, tSize P f.type with
        | some g, some n => some (.field g f.offset n x)
        | _, _ => none
      | _, _ => none
    | _ => none
  | .indexAddr t x i => match P.underlying t, cOpd x, cOpd i with
    | some (.slice e), some x, some i => match tSize P e with
      | some sz => if sz = 0 then none else some (.iaddr none sz x i)
      | none => none
    | some (.array n e), some x, some i => match tSize P e with
      | some sz => if sz = 0 then none else some (.iaddr (some n) sz x i)
      | none => none
    | _, _, _ => none
  | .index t x i => match P.underlying t, cOpd x, cOpd i with
    | some .string, some x, some i => some (.index none x i)
    | some (.array n e), some x, some i => match uAgg P e, tSize P e with
      | some g, some sz => some (.index (some (n, g, sz)) x i)
      | _, _ => none
    | _, _, _ => none
  | .lookup t m k ok => match P.underlying t with
    | some (.map kt e) => match keyK P kt, tZero P e, cOpd m, cOpd k with
      | some kk, some z, some m, some k => some (.lookup kk z ok m k)
      | _, _, _, _ => none
    | _ => none
  | .mapUpdate t m k x => match P.underlying t with
    | some (.map kt _) => match keyK P kt, cOpd m, cOpd k, cOpd x with
      | some kk, some m, some k, some x => some (.mupd kk m k x)
      | _, _, _, _ => none
    | _ => none
  | .range t x => match P.underlying t with
    | some .string => (cOpd x).map .range
    | _ => none
  | .next x s => if s then (cOpd x).map .next else none
  | .typeAssert x _ t ok => match P.underlying t with
    | some (.interface _) => none
    | some _ => match tZero P t, cOpd x with
      | some z, some x => some (.tassert t z ok x)
      | _, _ => none
    | none => none
  | .extract x i => (cOpd x).map (.extract i)
  | .call c => cCall P mt c
  | .defer c => match c.callee with
    | .value f => match cOpd f, cOpds c.args.toList with
      | some f, some args => some (.defer f args)
      | _, _ => none
    | _ => none
  | _ => none

/-- An operation's class. -/
def clsOf (kind : FuncId → Nat) : IOp → Nat
  | .load .. | .lookup .. | .convStr .. | .len .. => 1
  | .alloc _ => 2
  | .call (.f g) _ => if kind g = 0 then 1 else 3
  | .call .. | .box _ | .store .. | .mkmap | .mkslice .. | .append .. | .copy .. | .delete .. | .clear .. | .mupd .. | .mentry .. | .estore .. | .range _ | .next _ | .defer .. => 3
  | _ => 0

/-- A temporary that is there. -/
def dstOk (nt : Nat) : Option Tmp → Bool
  | none => true
  | some t => decide (t < nt)

def cOper (nt : Nat) (kind : FuncId → Nat) (mt : Nat → Bool) (ops : Array Oper) (i : Nat) (o : Oper) : Option IOper :=
  match cOp P (mt i) o.op with
  | none => none
  | some op =>
    let g : Option (Option (Pth × Bool)) := match o.guard with
      | none => some none
      | some (j, b) => match (ops[j]?).bind (·.dst) with
        | some t => some (some (pth t, b))
        | none => none
    match g with
    | none => none
    | some g => if dstOk nt o.dst then some { dst := o.dst.map pth, op, guard := g, cls := clsOf kind op, lo := 0, hi := 0 } else none

def cOpers (nt : Nat) (kind : FuncId → Nat) (mt : Nat → Bool) (ops : Array Oper) : Nat → List Oper → Option (List IOper)
  | _, [] => some []
  | i, o :: r => match cOper P nt kind mt ops i o, cOpers nt kind mt ops (i + 1) r with
    | some o, some r => some (o :: r)
    | _, _ => none

def optL : Option Opd → List Opd
  | some x => [x]
  | none => []

/-- What an operation looks at. -/
def IOp.opds : IOp → List Opd
  | .mv x | .box x | .nilCheck x | .un _ x | .convInt _ x | .convSame x | .convBytes x | .convRunes x | .convStr _ x | .convRuneStr x | .iface _ x | .faddr _ x | .field _ _ _ x | .range x | .next x | .tassert _ _ _ x | .extract _ x | .len _ x | .clear _ _ x => [x]
  | .load _ _ a => [a]
  | .pick c a b => [c, a, b]
  | .alloc _ | .mkmap => []
  | .build _ parts => parts.map (·.2.2)
  | .lit _ _ _ parts => parts.map (·.2)
  | .store _ a x => [a, x]
  | .bin _ _ x y => [x, y]
  | .mkfunc _ a b => a ++ b
  | .mkslice _ _ _ l c => [l, c]
  | .slice _ _ _ x lo hi mx => x :: (optL lo ++ optL hi ++ optL mx)
  | .iaddr _ _ x i | .index _ x i => [x, i]
  | .lookup _ _ _ m k => [m, k]
  | .mupd _ m k x => [m, k, x]
  | .mentry _ m k => [m, k]
  | .estore m s x => [m, s, x]
  | .call f args | .defer f args => f :: args
  | .append _ _ _ _ s x => [s, x]
  | .copy _ d x => [d, x]
  | .delete _ m k => [m, k]
  | .minmax _ xs => xs

/-- Does an operation look at a temporary? -/
def IOper.looks (o : IOper) (p : Pth) : Bool :=
  (o.op.opds.any fun | .t q => decide (q = p) | _ => false) || (match o.guard with | some (q, _) => decide (q = p) | none => false)

/-- How many of the first operations turn the state. -/
def cnt (ios : List IOper) (i : Nat) : Nat := ((ios.take i).filter fun o => o.cls == 3).length

/-- Which operations are behind which, for sure: a bit each. -/
def masks : List Oper → List Nat → List Nat
  | [], acc => acc
  | o :: r, acc => masks r (acc ++ [o.after.toList.foldl (fun m e => if Region.binds .any e then m ||| 2 ^ e.on ||| acc.getD e.on 0 else m) 0])

def bit (ms : List Nat) (j i : Nat) : Bool := (ms.getD j 0).testBit i

/-- Is the order, as far as it matters, fixed? -/
def drawChk (ops : Array Oper) (ios : List IOper) (ms : List Nat) : Bool :=
  (List.range ops.size).all fun i => match ops[i]?, ios[i]? with
    | some o, some io =>
      o.after.toList.all (fun e => !Region.binds .any e || decide (e.on < i)) &&
      (List.range ops.size).all (fun j => !bit ms i j || o.after.toList.any fun e => Region.binds .any e && (e.on == j || bit ms e.on j)) &&
      (List.range ops.size).all (fun j => j == i || match ios[j]? with
        | some jo =>
          !(io.dst.isSome && io.dst == jo.dst) &&
          (match jo.dst with
            | some p => !io.looks p || (if j < i then bit ms i j else bit ms j i)
            | none => true) &&
          (!(io.cls == 3 && jo.cls == 3 && decide (i < j)) || bit ms j i)
        | none => false) &&
      (io.cls == 0 || io.cls == 3 ||
        ((io.lo == 0 || (List.range ops.size).any fun a => (match ios[a]? with | some ao => ao.cls == 3 | none => false) && cnt ios a + 1 == io.lo && bit ms i a) &&
         (io.hi == cnt ios ops.size || (List.range ops.size).any fun b => (match ios[b]? with | some bo => bo.cls == 3 | none => false) && cnt ios b == io.hi && bit ms b i)))
    | _, _ => false

def setLH (ios : List IOper) (ms : List Nat) (n : Nat) : List IOper :=
  ios.zipIdx.map fun (o, i) => if o.cls == 0 || o.cls == 3 then o else
    { o with
      lo := (ios.zipIdx.map fun (a, j) => if a.cls == 3 && bit ms i j then cnt ios j + 1 else 0).foldl max 0
      hi := (ios.zipIdx.map fun (b, j) => if b.cls == 3 && bit ms j i then cnt ios j else cnt ios n).foldl min (cnt ios n) }

def drawSet (ops : Array Oper) (ios : List IOper) : Option (List IOper) :=
  if drawChk ops (setLH ios (masks ops.toList []) ops.size) (masks ops.toList []) then some (setLH ios (masks ops.toList []) ops.size) else none

def comp (nt : Nat) (kind : FuncId → Nat) (mt : Nat → Nat → Bool) : Code → Option IC
  | .skip => some .skip
  | .region id ops draw => match cOpers P nt kind (mt id) ops 0 ops.toList with
    | some ios => if draw then match drawSet ops ios with
        | some l => some (.reg true l)
        | none => some .bad
      else some (.reg false ios)
    | none => some .bad
  | .seq a b => match comp nt kind mt a, comp nt kind mt b with
    | some a, some b => some (.seq a b)
    | _, _ => none
  | .cond c a b => match cOpd c, comp nt kind mt a, comp nt kind mt b with
    | some c, some a, some b => some (.cond c a b)
    | _, _, _ => some .bad
  | .block id c => (comp nt kind mt c).map (.block id)
  | .loop c => (comp nt kind mt c).map .loop
  | .exit id => some (.exit id)
  | .ret => some .ret
  | _ => some .bad

def cRes : List ResultVar → Option (List IRes)
  | [] => some []
  | .tmp t :: r => (cRes r).map (.t (pth t) :: ·)
  | .cell t ty :: r => match uAgg P ty, tSize P ty, cRes r with
    | some g, some n, some r => some (.cell (pth t) g n :: r)
    | _, _, _ => none

def compFn (kind : FuncId → Nat) (mt : Nat → Nat → Bool) (f : Func) : Option IFn :=
  match f.body with
  | none => none
  | some c => if f.name = "runtime.NumGoroutine" ∨ 4294967296 < f.ntmps ∨ f.ntmps < f.params.size + f.nfree then none else
    match comp P f.ntmps kind mt c, cRes P f.results.toList with
    | some b, some r => some { params := f.params.size + f.nfree, results := r, body := b }
    | _, _ => none
end
end Go.Fk

/- What abstract values and states stand for in the model's memory; that it stays while memory grows. -/
namespace Go.Fk
open Go.RowKit (Below)

/-- The ghost: which block an object is; which cells never change, and what they hold; which slice a token stood for at a length. -/
structure G where
  blk : Nat → Option Nat
  imm : Nat → Nat → Option Value
  tok : Nat → Nat → Option Value
  sym : Nat → Option Value

/-- Where it began: the world; the values that were given. -/
structure Base where
  w : World
  sym : Nat → Option Value

structure G.le (g g' : G) : Prop where
  blk : ∀ i b, g.blk i = some b → g'.blk i = some b
  imm : ∀ b o v, g.imm b o = some v → g'.imm b o = some v
  tok : ∀ t n v, g.tok t n = some v → g'.tok t n = some v
  sym : g'.sym = g.sym

theorem G.le.refl (g : G) : g.le g := ⟨fun _ _ h => h, fun _ _ _ h => h, fun _ _ _ h => h, rfl⟩
theorem G.le.trans {a b c : G} (h : a.le b) (k : b.le c) : a.le c :=
  ⟨fun i x e => k.blk i x (h.blk i x e), fun i j x e => k.imm i j x (h.imm i j x e), fun i j x e => k.tok i j x (h.tok i j x e), k.sym.trans h.sym⟩

/-- Values that lie one behind the other in cells that never change, so many cells each. -/
def Row (g : G) (b o sz : Nat) (vs : List Value) : Prop :=
  0 < sz ∧ ∀ (i : Nat) (v : Value), vs[i]? = some v → v.cells.size = sz ∧ ∀ (j : Nat) (c : Value), v.cells[j]? = some c → g.imm b (o + i * sz + j) = some c

theorem Row.mono {g g' : G} (h : g.le g') {b o sz : Nat} {vs : List Value} (r : Row g b o sz vs) : Row g' b o sz vs :=
  ⟨r.1, fun i v e => ⟨(r.2 i v e).1, fun j c k => h.imm _ _ _ ((r.2 i v e).2 j c k)⟩⟩

def TkOk (g : G) (tk : Tk) (b o n cap : Nat) : Prop :=
  match tk with
  | .no => True
  | .full => cap = n
  | .tok t => g.tok t n = some (.slice (some ⟨b, o, none⟩) n cap)

theorem TkOk.mono {g g' : G} (h : g.le g') {tk : Tk} {b o n cap : Nat} (r : TkOk g tk b o n cap) : TkOk g' tk b o n cap := by
  cases tk with
  | tok t => exact h.tok _ _ _ r
  | _ => exact r

def notTok : Tk → Bool
  | .tok _ => false
  | _ => true

inductive Rep (g : G) : D → Value → Prop where
  | un (v : Value) : Rep g .un v
  | v (x : Value) : Rep g (.v x) x
  | list {xs : List D} {tk : Tk} (b o cap sz : Nat) (vs : List Value) (hl : vs.length = xs.length) (hcap : xs.length ≤ cap)
      (hx : ∀ (i : Nat) (d : D) (v : Value), xs[i]? = some d → vs[i]? = some v → Rep g d v) (hc : D.clL 0 xs = true) (hr : Row g b o sz vs)
      (ht : TkOk g tk b o xs.length cap) : Rep g (.list xs tk) (.slice (some ⟨b, o, none⟩) xs.length cap)
  | rlist {xs : List D} (b o cap sz : Nat) (vs : List Value) (hl : vs.length = xs.length) (hcap : xs.length ≤ cap)
      (hx : ∀ (i : Nat) (d : D) (v : Value), xs[i]? = some d → vs[i]? = some v → Rep g d v) (hr : Row g b o sz vs) :
      Rep g (.rlist xs) (.slice (some ⟨b, o, none⟩) xs.length cap)
  | agg {ds : List D} (vs : List Value) (hl : vs.length = ds.length) (hx : ∀ (i : Nat) (d : D) (v : Value), ds[i]? = some d → vs[i]? = some v → Rep g d v)
      (hs : ds.all (·.single) = true) : Rep g (.agg ds) (.agg vs.toArray)
  | tup {ds : List D} (vs : List Value) (hl : vs.length = ds.length) (hx : ∀ (i : Nat) (d : D) (v : Value), ds[i]? = some d → vs[i]? = some v → Rep g d v) :
      Rep g (.tup ds) (.tuple vs.toArray)
  | ptr {id off : Nat} (b : Nat) (h : g.blk id = some b) : Rep g (.ptr id off) (.pointer (some ⟨b, off, none⟩))
  | lptr {xs : List D} {i off : Nat} (b o sz : Nat) (vs : List Value) (hl : vs.length = xs.length)
      (hx : ∀ (i : Nat) (d : D) (v : Value), xs[i]? = some d → vs[i]? = some v → Rep g d v) (hr : Row g b o sz vs) :
      Rep g (.lptr xs i off) (.pointer (some ⟨b, o + i * sz + off, none⟩))
  | arr {id off len sz : Nat} {fl : Bool} (b cap : Nat) (h : g.blk id = some b) (hcap : len ≤ cap) (hsz : 0 < sz) (hfl : fl = true → cap = len) :
      Rep g (.arr id off len sz fl) (.slice (some ⟨b, off, none⟩) len cap)
  | map {id : Nat} (b : Nat) (h : g.blk id = some b) : Rep g (.map id) (.map (some b))
  | func {fn : Fn} {as cs : List D} (us vs : List Value) (hl : us.length = as.length) (hx : ∀ (i : Nat) (d : D) (v : Value), as[i]? = some d → us[i]? = some v → Rep g d v)
      (kl : vs.length = cs.length) (ky : ∀ (i : Nat) (d : D) (v : Value), cs[i]? = some d → vs[i]? = some v → Rep g d v) :
      Rep g (.func fn as cs) (.func fn us.toArray vs.toArray)
  | iface {t : TypeId} {d : D} (v : Value) (h : Rep g d v) : Rep g (.iface t d) (.iface t v)
  | sym {n : Nat} (v : Value) (h : g.sym n = some v) (h1 : v.oneCell' = true) : Rep g (.sym n) v

theorem Rep.mono {g g' : G} (h : g.le g') {d : D} {v : Value} (r : Rep g d v) : Rep g' d v := by
  induction r with
  | un v => exact .un v
  | v x => exact .v x
  | list b o cap sz vs hl hcap hx hc hr ht ih => exact .list b o cap sz vs hl hcap ih hc (hr.mono h) (ht.mono h)
  | rlist b o cap sz vs hl hcap hx hr ih => exact .rlist b o cap sz vs hl hcap ih (hr.mono h)
  | agg vs hl hx hs ih => exact .agg vs hl ih hs
  | tup vs hl hx ih => exact .tup vs hl ih
  | ptr b k => exact .ptr b (h.blk _ _ k)
  | lptr b o sz vs hl hx hr ih => exact .lptr b o sz vs hl ih (hr.mono h)
  | arr b cap k hcap hsz hfl => exact .arr b cap (h.blk _ _ k) hcap hsz hfl
  | map b k => exact .map b (h.blk _ _ k)
  | func us vs hl hx kl ky ih1 ih2 => exact .func us vs hl ih1 kl ih2
  | iface v k ih => exact .iface v ih
  | sym v k k1 => exact .sym v (by rw [h.sym]; exact k) k1

/-- Lists of values. -/
def RepL (g : G) (ds : List D) (vs : List Value) : Prop := vs.length = ds.length ∧ ∀ (i : Nat) (d : D) (v : Value), ds[i]? = some d → vs[i]? = some v → Rep g d v

theorem RepL.mono {g g' : G} (h : g.le g') {ds : List D} {vs : List Value} (r : RepL g ds vs) : RepL g' ds vs :=
  ⟨r.1, fun i d v a b => (r.2 i d v a b).mono h⟩
theorem RepL.nil {g : G} : RepL g [] [] := ⟨rfl, fun i d v a => by simp at a⟩
theorem RepL.cons {g : G} {d : D} {v : Value} {ds : List D} {vs : List Value} (h : Rep g d v) (r : RepL g ds vs) : RepL g (d :: ds) (v :: vs) :=
  ⟨by simp [r.1], fun i d' v' a b => by
    cases i with
    | zero => simp at a b; subst a; subst b; exact h
    | succ i => simp at a b; exact r.2 i d' v' a b⟩
theorem RepL.cons_inv {g : G} {d : D} {ds : List D} {vs : List Value} (r : RepL g (d :: ds) vs) : ∃ v ws, vs = v :: ws ∧ Rep g d v ∧ RepL g ds ws := by
  cases vs with
  | nil => exact absurd r.1 (by simp)
  | cons v ws => exact ⟨v, ws, rfl, r.2 0 d v (by simp) (by simp), by have := r.1; simpa using this, fun i d' v' a b => r.2 (i + 1) d' v' (by simpa using a) (by simpa using b)⟩
theorem RepL.nil_inv {g : G} {vs : List Value} (r : RepL g [] vs) : vs = [] := by
  have := r.1
  simpa using this
theorem RepL.append {g : G} {as bs : List D} {us vs : List Value} (h : RepL g as us) (k : RepL g bs vs) : RepL g (as ++ bs) (us ++ vs) := by
  induction as generalizing us with
  | nil => rw [h.nil_inv]; exact k
  | cons d as ih =>
    obtain ⟨v, ws, rfl, h1, h2⟩ := h.cons_inv
    exact .cons h1 (ih h2)
theorem RepL.get {g : G} {ds : List D} {vs : List Value} (r : RepL g ds vs) {i : Nat} {d : D} (h : ds[i]? = some d) : ∃ v, vs[i]? = some v ∧ Rep g d v := by
  have hlt : i < vs.length := by
    rw [r.1]
    rcases Nat.lt_or_ge i ds.length with h' | h'
    · exact h'
    · simp [List.getElem?_eq_none h'] at h
  exact ⟨vs[i], List.getElem?_eq_getElem hlt, r.2 i d _ h (List.getElem?_eq_getElem hlt)⟩
theorem RepL.take {g : G} {ds : List D} {vs : List Value} (r : RepL g ds vs) (n : Nat) : RepL g (ds.take n) (vs.take n) :=
  ⟨by simp [r.1], fun i d v a b => by
    simp only [List.getElem?_take] at a b
    split at a
    · rename_i hi; simp only [hi, if_true] at b; exact r.2 i d v a b
    · cases a⟩
theorem RepL.drop {g : G} {ds : List D} {vs : List Value} (r : RepL g ds vs) (n : Nat) : RepL g (ds.drop n) (vs.drop n) :=
  ⟨by simp [r.1], fun i d v a b => by
    simp only [List.getElem?_drop] at a b
    exact r.2 _ d v a b⟩
theorem RepL.map {g : G} {ds : List D} {vs : List Value} (r : RepL g ds vs) (f : D → D) (h : ∀ d v, Rep g d v → Rep g (f d) v) : RepL g (ds.map f) vs :=
  ⟨by simp [r.1], fun i d v a b => by
    simp only [List.getElem?_map, Option.map_eq_some_iff] at a
    obtain ⟨d', h', rfl⟩ := a
    exact h _ _ (r.2 i d' v h' b)⟩
theorem RepL.set {g : G} {ds : List D} {vs : List Value} (r : RepL g ds vs) (i : Nat) {d : D} {v : Value} (h : Rep g d v) : RepL g (ds.set i d) (vs.set i v) :=
  ⟨by simp [r.1], fun j d' v' a b => by
    simp only [List.getElem?_set] at a b
    by_cases hij : i = j
    · subst hij
      by_cases hlt : i < ds.length
      · have h2 : i < vs.length := by rw [r.1]; exact hlt
        simp only [if_true, hlt, h2] at a b
        cases a; cases b; exact h
      · simp only [if_true, hlt, if_false] at a
        cases a
    · simp only [hij, if_false] at a b
      exact r.2 j d' v' a b⟩
theorem RepL.v {g : G} (vs : List Value) : RepL g (vs.map .v) vs :=
  ⟨by simp, fun i d v a b => by simp only [List.getElem?_map, b, Option.map_some, Option.some.injEq] at a; subst a; exact .v _⟩

/-! ### The shapes -/
theorem Rep.single_val {g : G} {d : D} {v : Value} (r : Rep g d v) (h : d.single = true) : v.oneCell' = true := by
  cases r with
  | v _ => cases v <;> first | rfl | cases h
  | agg => cases h
  | tup => cases h
  | un => cases h
  | sym _ _ h1 => exact h1
  | _ => rfl

theorem Rep.cells {g : G} {d : D} {v : Value} (r : Rep g d v) (h : d.cells.all (·.single) = true) : RepL g d.cells v.cells.toList := by
  have one : ∀ {d : D} {v : Value}, d.cells = [d] → v.cells = #[v] → Rep g d v → RepL g d.cells v.cells.toList := fun {d v} e1 e2 r => by
    rw [e1, e2]; exact .cons r .nil
  cases r with
  | agg vs hl hx hs => exact ⟨by simp [Value.cells, D.cells, hl], fun i d v a b => hx i d v a (by simpa [Value.cells] using b)⟩
  | v _ => cases v <;> first | exact one rfl rfl (.v _) | (simp [D.cells, D.single] at h)
  | un x => simp [D.cells, D.single] at h
  | tup => simp [D.cells, D.single] at h
  | list b o cap sz vs hl hcap hx hc hr ht => exact one rfl rfl (.list b o cap sz vs hl hcap hx hc hr ht)
  | rlist b o cap sz vs hl hcap hx hr => exact one rfl rfl (.rlist b o cap sz vs hl hcap hx hr)
  | ptr b k => exact one rfl rfl (.ptr b k)
  | lptr b o sz vs hl hx hr => exact one rfl rfl (.lptr b o sz vs hl hx hr)
  | arr b cap k hcap hsz hfl => exact one rfl rfl (.arr b cap k hcap hsz hfl)
  | map b k => exact one rfl rfl (.map b k)
  | func us vs hl hx kl ky => exact one rfl rfl (.func us vs hl hx kl ky)
  | iface v k => exact one rfl rfl (.iface v k)
  | sym v k k1 => exact one rfl (by cases v <;> first | rfl | cases k1) (.sym v k k1)

theorem Rep.normC {g : G} {d : D} {v : Value} (r : Rep g d v) : Rep g (normC d) v := by
  cases r with
  | list b o cap sz vs hl hcap hx hc hr ht => exact .list b o cap sz vs hl hcap hx hc hr trivial
  | v _ => exact .v _
  | un _ => exact .un _
  | rlist b o cap sz vs hl hcap hx hr => exact .rlist b o cap sz vs hl hcap hx hr
  | agg vs hl hx hs => exact .agg vs hl hx hs
  | tup vs hl hx => exact .tup vs hl hx
  | ptr b k => exact .ptr b k
  | lptr b o sz vs hl hx hr => exact .lptr b o sz vs hl hx hr
  | arr b cap k hcap hsz hfl => exact .arr b cap k hcap hsz hfl
  | map b k => exact .map b k
  | func us vs hl hx kl ky => exact .func us vs hl hx kl ky
  | iface v k => exact .iface v k
  | sym v k k1 => exact .sym v k k1

theorem single_normC (d : D) : (normC d).single = d.single := by
  cases d with
  | v x =>
    cases x with
    | slice a l c =>
      cases a with
      | some a => rfl
      | none => cases l with
        | zero => cases c <;> rfl
        | succ l => rfl
    | _ => rfl
  | _ => rfl

theorem Rep.norm {g : G} {d : D} {v : Value} (r : Rep g d v) : Rep g (norm d) v := by
  cases r with
  | agg vs hl hx hs =>
    have := RepL.map (g := g) ⟨hl, hx⟩ Fk.normC (fun d v h => h.normC)
    refine .agg vs this.1 this.2 ?_
    simpa [List.all_map, Function.comp_def, single_normC] using hs
  | tup vs hl hx =>
    have := RepL.map (g := g) ⟨hl, hx⟩ (fun | .agg cs => .agg (cs.map Fk.normC) | d => Fk.normC d) (fun d v h => by
      cases h with
      | agg vs hl hx hs =>
        have := RepL.map (g := g) ⟨hl, hx⟩ Fk.normC (fun d v h => h.normC)
        refine .agg vs this.1 this.2 ?_
        simpa [List.all_map, Function.comp_def, single_normC] using hs
      | list b o cap sz vs hl hcap hx hc hr ht => exact Rep.normC (.list b o cap sz vs hl hcap hx hc hr ht)
      | v _ => exact Rep.normC (.v _)
      | un _ => exact .un _
      | rlist b o cap sz vs hl hcap hx hr => exact .rlist b o cap sz vs hl hcap hx hr
      | tup vs hl hx => exact .tup vs hl hx
      | ptr b k => exact .ptr b k
      | lptr b o sz vs hl hx hr => exact .lptr b o sz vs hl hx hr
      | arr b cap k hcap hsz hfl => exact .arr b cap k hcap hsz hfl
      | map b k => exact .map b k
      | func us vs hl hx kl ky => exact .func us vs hl hx kl ky
      | iface v k => exact .iface v k
      | sym v k k1 => exact .sym v k k1)
    exact .tup vs this.1 this.2
  | list b o cap sz vs hl hcap hx hc hr ht => exact Rep.normC (.list b o cap sz vs hl hcap hx hc hr ht)
  | v _ => exact Rep.normC (.v _)
  | un _ => exact .un _
  | rlist b o cap sz vs hl hcap hx hr => exact .rlist b o cap sz vs hl hcap hx hr
  | ptr b k => exact .ptr b k
  | lptr b o sz vs hl hx hr => exact .lptr b o sz vs hl hx hr
  | arr b cap k hcap hsz hfl => exact .arr b cap k hcap hsz hfl
  | map b k => exact .map b k
  | func us vs hl hx kl ky => exact .func us vs hl hx kl ky
  | iface v k => exact .iface v k
  | sym v k k1 => exact .sym v k k1

theorem clL_get {n : Nat} {ds : List D} (h : D.clL n ds = true) {i : Nat} {d : D} (e : ds[i]? = some d) : d.cl n = true := by
  induction ds generalizing i with
  | nil => simp at e
  | cons x r ih =>
    simp only [D.clL, Bool.and_eq_true] at h
    cases i with
    | zero => simp at e; subst e; exact h.1
    | succ i => exact ih h.2 (by simpa using e)
theorem clL_of {n : Nat} {ds : List D} (h : ∀ d ∈ ds, d.cl n = true) : D.clL n ds = true := by
  induction ds with
  | nil => rfl
  | cons x r ih => simp only [D.clL, Bool.and_eq_true]; exact ⟨h x (by simp), ih fun d hd => h d (by simp [hd])⟩
theorem clL_append {n : Nat} {a b : List D} : D.clL n (a ++ b) = (D.clL n a && D.clL n b) := by
  induction a with
  | nil => rfl
  | cons x r ih => simp [D.clL, ih, Bool.and_assoc]

/-- What points nowhere stands for the same whatever becomes of objects, and of tokens from n on. -/
theorem Rep.cl {g g' : G} {n : Nat} (hs : g'.sym = g.sym) (hi : ∀ b o v, g.imm b o = some v → g'.imm b o = some v) (ht : ∀ t m v, t < n → g.tok t m = some v → g'.tok t m = some v)
    {d : D} {v : Value} (r : Rep g d v) : d.cl n = true → Rep g' d v := by
  have row : ∀ {b o sz vs}, Row g b o sz vs → Row g' b o sz vs := fun {b o sz vs} r =>
    ⟨r.1, fun i v e => ⟨(r.2 i v e).1, fun j c k => hi _ _ _ ((r.2 i v e).2 j c k)⟩⟩
  have lift : ∀ {d : D}, d.cl 0 = true → d.cl n = true := by
    intro d
    have : (∀ d : D, d.cl 0 = true → d.cl n = true) ∧ (∀ ds : List D, D.clL 0 ds = true → D.clL n ds = true) := by
      constructor
      · intro d
        exact D.rec (motive_1 := fun d => d.cl 0 = true → d.cl n = true) (motive_2 := fun ds => D.clL 0 ds = true → D.clL n ds = true)
          (fun h => by simp [D.cl] at h) (fun x h => by cases x <;> first | rfl | (simp [D.cl] at h))
          (fun xs tk _ h => by cases tk <;> simp [D.cl] at h ⊢)
          (fun _ _ h => by simp [D.cl] at h) (fun ds ih h => by simp only [D.cl] at *; exact ih h) (fun ds ih h => by simp only [D.cl] at *; exact ih h)
          (fun _ _ h => by simp [D.cl] at h) (fun _ _ _ _ h => by simp [D.cl] at h) (fun _ _ _ _ _ h => by simp [D.cl] at h) (fun _ h => by simp [D.cl] at h)
          (fun _ a b iha ihb h => by simp only [D.cl, Bool.and_eq_true] at *; exact ⟨iha h.1, ihb h.2⟩)
          (fun _ d ih h => by simp only [D.cl] at *; exact ih h) (fun _ _ => rfl) (fun _ => rfl)
          (fun d r ihd ihr h => by simp only [D.clL, Bool.and_eq_true] at *; exact ⟨ihd h.1, ihr h.2⟩) d
      · intro ds
        induction ds with
        | nil => intro _; rfl
        | cons d r ih =>
          intro h
          simp only [D.clL, Bool.and_eq_true] at *
          refine ⟨?_, ih h.2⟩
          exact D.rec (motive_1 := fun d => d.cl 0 = true → d.cl n = true) (motive_2 := fun ds => D.clL 0 ds = true → D.clL n ds = true)
            (fun h => by simp [D.cl] at h) (fun x h => by cases x <;> first | rfl | (simp [D.cl] at h))
            (fun xs tk _ h => by cases tk <;> simp [D.cl] at h ⊢)
            (fun _ _ h => by simp [D.cl] at h) (fun ds ih h => by simp only [D.cl] at *; exact ih h) (fun ds ih h => by simp only [D.cl] at *; exact ih h)
            (fun _ _ h => by simp [D.cl] at h) (fun _ _ _ _ h => by simp [D.cl] at h) (fun _ _ _ _ _ h => by simp [D.cl] at h) (fun _ h => by simp [D.cl] at h)
            (fun _ a b iha ihb h => by simp only [D.cl, Bool.and_eq_true] at *; exact ⟨iha h.1, ihb h.2⟩)
            (fun _ d ih h => by simp only [D.cl] at *; exact ih h) (fun _ _ => rfl) (fun _ => rfl)
            (fun d r ihd ihr h => by simp only [D.clL, Bool.and_eq_true] at *; exact ⟨ihd h.1, ihr h.2⟩) d h.1
    exact this.1 d
  induction r with
  | un v => intro h; simp [D.cl] at h
  | v x => intro _; exact .v x
  | list b o cap sz vs hl hcap hx hc hr htk ih =>
    intro h
    refine .list b o cap sz vs hl hcap (fun i d v a e => ih i d v a e (lift (clL_get hc a))) hc (row hr) ?_
    rename_i xs tk
    cases tk with
    | tok t => simp only [D.cl, decide_eq_true_eq] at h; exact ht _ _ _ h htk
    | _ => exact htk
  | rlist => intro h; simp [D.cl] at h
  | agg vs hl hx hs ih => intro h; exact .agg vs hl (fun i d v a e => ih i d v a e (clL_get (by simpa [D.cl] using h) a)) hs
  | tup vs hl hx ih => intro h; exact .tup vs hl (fun i d v a e => ih i d v a e (clL_get (by simpa [D.cl] using h) a))
  | ptr => intro h; simp [D.cl] at h
  | lptr => intro h; simp [D.cl] at h
  | arr => intro h; simp [D.cl] at h
  | map => intro h; simp [D.cl] at h
  | func us vs hl hx kl ky ih1 ih2 =>
    intro h
    simp only [D.cl, Bool.and_eq_true] at h
    exact .func us vs hl (fun i d v a e => ih1 i d v a e (clL_get h.1 a)) kl (fun i d v a e => ih2 i d v a e (clL_get h.2 a))
  | iface v k ih => intro h; exact .iface v (ih (by simpa [D.cl] using h))
  | sym v k k1 => intro _; exact .sym v (by rw [hs]; exact k) k1

end Go.Fk

/- What holds of memory while an abstract state stands for it; how it goes on by a new block, a store, a draw. -/
namespace Go.Fk
open Go.RowKit (Below)

theorem getR_cons {α : Type} (x : α) (l : List α) (n i : Nat) : getR (x :: l) (n + 1) i = if i = n then some x else getR l n i := by
  simp [getR]
theorem getR_ge {α : Type} (l : List α) : ∀ (n i : Nat), n ≤ i → getR l n i = none := by
  induction l with
  | nil => intros; rfl
  | cons x r ih =>
    intro n i h
    simp only [getR]
    rw [if_neg (by omega)]
    exact ih _ _ (by omega)
theorem getR_lt {α : Type} (l : List α) : ∀ (n i : Nat), l.length = n → i < n → ∃ x, getR l n i = some x := by
  induction l with
  | nil => intro n i h k; simp at h; omega
  | cons x r ih =>
    intro n i h k
    simp only [getR]
    by_cases e : i + 1 = n
    · exact ⟨x, by simp [e]⟩
    · rw [if_neg e]
      exact ih _ _ (by simp at h; omega) (by omega)
theorem setR_length {α : Type} (y : α) (l : List α) : ∀ (n i : Nat), (setR y l n i).length = l.length := by
  induction l with
  | nil => intros; rfl
  | cons x r ih => intro n i; simp only [setR]; split <;> simp [ih]
theorem getR_setR {α : Type} (y : α) (l : List α) : ∀ (n i j : Nat), l.length = n → getR (setR y l n i) n j = if j = i ∧ i < n then some y else getR l n j := by
  induction l with
  | nil => intro n i j h; simp at h; subst h; simp [setR, getR]
  | cons x r ih =>
    intro n i j h
    simp only [List.length_cons] at h
    subst h
    simp only [setR]
    by_cases e : i + 1 = r.length + 1
    · simp only [e, if_true]
      have ei : i = r.length := by omega
      subst ei
      simp only [getR]
      by_cases f : j = r.length
      · simp [f]
      · simp [f]
    · simp only [e, if_false]
      simp only [getR]
      by_cases f : j + 1 = r.length + 1
      · have : j = r.length := by omega
        subst this
        rw [if_pos rfl]
        have : ¬ (r.length = i ∧ i < r.length + 1) := by omega
        simp [this]
      · simp only [f, if_false]
        have := ih r.length i j rfl
        simp only [Nat.add_sub_cancel] at *
        rw [this]
        by_cases g : j = i
        · subst g
          have : j < r.length ↔ j < r.length + 1 := by omega
          simp [this]
        · simp [g]
theorem getR_drop {α : Type} (l : List α) : ∀ (n m i : Nat), l.length = n → m ≤ n → i < m → getR (l.drop (n - m)) m i = getR l n i := by
  induction l with
  | nil => intro n m i h k j; simp at h; omega
  | cons x r ih =>
    intro n m i h k j
    simp only [List.length_cons] at h
    subst h
    by_cases e : m = r.length + 1
    · subst e; simp
    · have e1 : r.length + 1 - m = (r.length - m) + 1 := by omega
      rw [e1, List.drop_succ_cons, ih r.length m i rfl (by omega) j]
      simp only [getR]
      rw [if_neg (by omega)]
      simp

def blkOf : Value → Option Nat
  | .slice (some a) _ _ => some a.block
  | _ => none

def ObjOk (g : G) : O → World → Nat → Prop
  | .cells ds, w, b => ∃ cs elem, w.heap[b]? = some (.cells cs elem (0, 0)) ∧ RepL g ds cs.toList ∧ ds.all (·.single) = true
  | .map es, w, b => ∃ ents clock, w.heap[b]? = some (.map ents clock) ∧ RepL g (es.map (·.1)) (ents.toList.map (·.key)) ∧ RepL g (es.map (·.2)) (ents.toList.map (·.val)) ∧
      (ents.toList.map (·.born)).Nodup ∧ ∀ e ∈ ents.toList, e.born < clock
  | .siter s p, w, b => w.heap[b]? = some (.stringIter s p)
  | .dead, _, _ => True

theorem ObjOk.block {g : G} {o : O} {w w' : World} {b : Nat} (h : ObjOk g o w b) (e : w'.heap[b]? = w.heap[b]?) : ObjOk g o w' b := by
  cases o <;> simp only [ObjOk] at * <;> first | (rw [e]; exact h) | trivial
theorem ObjOk.mono {g g' : G} (k : g.le g') {o : O} {w : World} {b : Nat} (h : ObjOk g o w b) : ObjOk g' o w b := by
  cases o with
  | cells ds => obtain ⟨cs, e, a, r, s⟩ := h; exact ⟨cs, e, a, r.mono k, s⟩
  | map es => obtain ⟨en, c, a, r, s, t⟩ := h; exact ⟨en, c, a, r.mono k, s.mono k, t⟩
  | siter s p => exact h
  | dead => trivial

def TokOk (g : G) (w : World) (t n sz : Nat) : Prop :=
  ∃ b o cap, g.tok t n = some (.slice (some ⟨b, o, none⟩) n cap) ∧ n ≤ cap ∧ 0 < sz ∧ (∀ m, n < m → g.tok t m = none) ∧
    ∃ cs elem, w.heap[b]? = some (.cells cs elem (0, 0)) ∧ o + cap * sz ≤ cs.size ∧ ∀ j, o + n * sz ≤ j → j < o + cap * sz → g.imm b j = none

structure Inv (g : G) (B : Nat) (w0 : Base) (s : St) (w : World) : Prop where
  hl : s.heap.length = s.hn
  tl : s.toks.length = s.tn
  imm : ∀ b o v, g.imm b o = some v → w.cell? ⟨b, o, none⟩ = some v
  obj : ∀ i o b, s.get i = some o → g.blk i = some b → ObjOk g o w b
  inj : ∀ i j b, g.blk i = some b → g.blk j = some b → i = j
  immblk : ∀ i b o v, g.blk i = some b → g.imm b o = some v → False
  dom : ∀ i b, g.blk i = some b → i < s.hn ∧ B ≤ b ∧ b < w.heap.size
  tokdom : ∀ t n v, g.tok t n = some v → t < s.tn
  tokok : ∀ t n sz, s.tok t = some (n, sz) → TokOk g w t n sz
  tokblk : ∀ t n sz v b, s.tok t = some (n, sz) → g.tok t n = some v → blkOf v = some b → B ≤ b ∧ (∀ i, g.blk i ≠ some b) ∧
    ∀ t' n' sz' v', s.tok t' = some (n', sz') → g.tok t' n' = some v' → blkOf v' = some b → t' = t
  hB : B ≤ w0.w.heap.size
  below : Below B w0.w w
  sym : g.sym = w0.sym

variable {g : G} {B : Nat} {w0 : Base} {s : St} {w : World}

theorem Inv.B_le (h : Inv g B w0 s w) : B ≤ w.heap.size := Nat.le_trans h.hB h.below.size
theorem Inv.get_ge (_ : Inv g B w0 s w) {i : Nat} (k : s.hn ≤ i) : s.get i = none := getR_ge _ _ _ k
theorem Inv.blk_ge (h : Inv g B w0 s w) {i : Nat} (k : s.hn ≤ i) : g.blk i = none := by
  cases e : g.blk i with
  | none => rfl
  | some b => exact absurd (h.dom i b e).1 (by omega)
theorem Inv.imm_lt (h : Inv g B w0 s w) {b o : Nat} {v : Value} (k : g.imm b o = some v) : b < w.heap.size :=
  block_lt_of_cell (h.imm b o v k)
theorem Inv.tok_ge (h : Inv g B w0 s w) {t n : Nat} (k : s.tn ≤ t) : g.tok t n = none := by
  cases e : g.tok t n with
  | none => rfl
  | some v => exact absurd (h.tokdom t n v e) (by omega)
theorem tok_heap {t n sz : Nat} (h : TokOk g w t n sz) {v : Value} {b : Nat} (e : g.tok t n = some v) (k : blkOf v = some b) : b < w.heap.size := by
  obtain ⟨b', o, cap, e1, _, _, _, cs, el, e2, _⟩ := h
  rw [e1] at e
  cases e
  cases k
  rcases Nat.lt_or_ge b' w.heap.size with h' | h'
  · exact h'
  · simp [Array.getElem?_eq_none h'] at e2

/-- A draw. -/
theorem Inv.drew (h : Inv g B w0 s w) : Inv g B w0 s w.drew :=
  { h with
    imm := h.imm, obj := fun i o b e k => (h.obj i o b e k).block rfl, tokok := h.tokok, below := h.below.drew }

theorem getElem?_alloc_lt (w : World) (o : Obj) {b : Nat} (h : b < w.heap.size) : (w.alloc o).heap[b]? = w.heap[b]? := heap_alloc_old w o b h

/-- A new block that nothing speaks of yet. -/
theorem Inv.alloc (h : Inv g B w0 s w) (o : Obj) : Inv g B w0 s (w.alloc o) :=
  { h with
    imm := fun b i v e => by rw [World.cell?_alloc_lt w o _ (h.imm_lt e)]; exact h.imm b i v e
    obj := fun i x b e k => (h.obj i x b e k).block (getElem?_alloc_lt w o (h.dom i b k).2.2)
    dom := fun i b e => ⟨(h.dom i b e).1, (h.dom i b e).2.1, by have := (h.dom i b e).2.2; simp; omega⟩
    tokok := fun t n sz e => by
      have hh := h.tokok t n sz e
      obtain ⟨b, o', cap, e1, e2, e3, e4, cs, el, e5, e6⟩ := hh
      exact ⟨b, o', cap, e1, e2, e3, e4, cs, el, by rw [getElem?_alloc_lt w o (tok_heap (h.tokok t n sz e) e1 rfl)]; exact e5, e6⟩
    below := h.below.alloc h.B_le o }

/-! ### The ghost's own steps -/
def G.bind (g : G) (i b : Nat) : G := { g with blk := fun j => if j = i then some b else g.blk j }
def G.freeze (g : G) (b : Nat) (f : Nat → Option Value) : G := { g with imm := fun b' o => match g.imm b' o with | some v => some v | none => if b' = b then f o else none }
def G.setTok (g : G) (t n : Nat) (v : Value) : G := { g with tok := fun t' n' => if t' = t ∧ n' = n then some v else g.tok t' n' }

theorem G.le_bind {i b : Nat} (h : g.blk i = none) : g.le (g.bind i b) :=
  ⟨fun j x e => by simp only [G.bind]; rw [if_neg (fun k => by subst k; rw [h] at e; cases e)]; exact e, fun _ _ _ e => e, fun _ _ _ e => e, rfl⟩
theorem G.le_freeze {b : Nat} {f : Nat → Option Value} : g.le (g.freeze b f) :=
  ⟨fun _ _ e => e, fun b' o v e => by simp only [G.freeze, e], fun _ _ _ e => e, rfl⟩
theorem G.le_setTok {t n : Nat} {v : Value} (h : g.tok t n = none) : g.le (g.setTok t n v) :=
  ⟨fun _ _ e => e, fun _ _ _ e => e, fun t' n' x e => by simp only [G.setTok]; rw [if_neg (fun k => by rw [k.1, k.2] at e; rw [h] at e; cases e)]; exact e, rfl⟩

theorem TokOk.imm_mono {g g' : G} {w w' : World} {t n sz : Nat} (h : TokOk g w t n sz) (ht : ∀ m, g'.tok t m = g.tok t m)
    (hi : ∀ b o cap, g.tok t n = some (.slice (some ⟨b, o, none⟩) n cap) → (∀ j, o + n * sz ≤ j → j < o + cap * sz → g.imm b j = none → g'.imm b j = none) ∧ w'.heap[b]? = w.heap[b]?) :
    TokOk g' w' t n sz := by
  obtain ⟨b, o, cap, e1, e2, e3, e4, cs, el, e5, e6, e7⟩ := h
  have := hi b o cap e1
  exact ⟨b, o, cap, by rw [ht]; exact e1, e2, e3, fun m hm => by rw [ht]; exact e4 m hm, cs, el, by rw [this.2]; exact e5, e6, fun j a c => this.1 j a c (e7 j a c)⟩

/-- A new object, its block made now. -/
theorem Inv.push (h : Inv g B w0 s w) (x : O) (o : Obj) (hx : ObjOk (g.bind s.hn w.heap.size) x (w.alloc o) w.heap.size) :
    Inv (g.bind s.hn w.heap.size) B w0 (s.push x) (w.alloc o) := by
  have hle : g.le (g.bind s.hn w.heap.size) := G.le_bind (h.blk_ge (Nat.le_refl _))
  have ha := h.alloc o
  have tokn : ∀ t, (s.push x).tok t = s.tok t := fun t => rfl
  refine { hl := by simp [St.push, h.hl], tl := h.tl, imm := ha.imm, obj := ?_, inj := ?_, immblk := ?_, dom := ?_, tokdom := h.tokdom, tokok := fun t n sz e => ?_, tokblk := ?_, hB := h.hB, sym := h.sym, below := ha.below }
  · intro i y b e k
    simp only [St.get, St.push, getR_cons] at e
    simp only [G.bind] at k
    by_cases hi : i = s.hn
    · subst hi
      simp only [if_true] at e k
      cases e; cases k
      exact hx
    · simp only [hi, if_false] at e k
      exact (ha.obj i y b e k).mono hle
  · intro i j b e k
    simp only [G.bind] at e k
    by_cases hi : i = s.hn <;> by_cases hj : j = s.hn
    · omega
    · simp only [hi, hj, if_true, if_false] at e k
      cases e
      exact absurd (h.dom j _ k).2.2 (Nat.lt_irrefl _)
    · simp only [hi, hj, if_true, if_false] at e k
      cases k
      exact absurd (h.dom i _ e).2.2 (Nat.lt_irrefl _)
    · simp only [hi, hj, if_false] at e k
      exact h.inj i j b e k
  · intro i b j v e k
    simp only [G.bind] at e
    by_cases hi : i = s.hn
    · simp only [hi, if_true] at e
      cases e
      exact absurd (h.imm_lt k) (Nat.lt_irrefl _)
    · simp only [hi, if_false] at e
      exact h.immblk i b j v e k
  · intro i b e
    simp only [G.bind] at e
    by_cases hi : i = s.hn
    · simp only [hi, if_true] at e
      cases e
      exact ⟨by simp [St.push, hi], h.B_le, by simp⟩
    · simp only [hi, if_false] at e
      have := h.dom i b e
      exact ⟨by simp [St.push]; omega, this.2.1, by simp; omega⟩
  · exact (ha.tokok t n sz e).imm_mono (fun _ => rfl) (fun _ _ _ _ => ⟨fun _ _ _ k => k, rfl⟩)
  · intro t n sz v b e k l
    have := h.tokblk t n sz v b e k l
    refine ⟨this.1, fun i hi => ?_, this.2.2⟩
    simp only [G.bind] at hi
    by_cases hh : i = s.hn
    · simp only [hh, if_true] at hi
      cases hi
      exact absurd (tok_heap (h.tokok t n sz e) k l) (Nat.lt_irrefl _)
    · simp only [hh, if_false] at hi
      exact this.2.1 i hi

/-- A new block whose first cells stay as they are for good. -/
theorem Inv.newImm (h : Inv g B w0 s w) (cs : Array Value) (e : TypeId) (fr : Nat × Nat) (n : Nat) (w' : World)
    (hw : w'.heap[w.heap.size]? = some (.cells cs e fr)) (hbl : Below w.heap.size w w') :
    Inv (g.freeze w.heap.size fun o => if o < n then cs[o]? else none) B w0 s w' := by
  have hsz : w.heap.size < w'.heap.size := by
    rcases Nat.lt_or_ge w.heap.size w'.heap.size with h' | h'
    · exact h'
    · simp [Array.getElem?_eq_none h'] at hw
  have old : ∀ b, b < w.heap.size → w'.heap[b]? = w.heap[b]? := fun b hb => hbl.block b hb
  have hle : g.le (g.freeze w.heap.size fun o => if o < n then cs[o]? else none) := G.le_freeze
  refine { hl := h.hl, tl := h.tl, imm := ?_, obj := ?_, inj := h.inj, immblk := ?_, dom := ?_, tokdom := h.tokdom, tokok := ?_, tokblk := h.tokblk, hB := h.hB, sym := h.sym, below := ?_ }
  · intro b o v k
    simp only [G.freeze] at k
    cases k1 : g.imm b o with
    | some u =>
      simp only [k1, Option.some.injEq] at k
      subst k
      have := h.imm b o u k1
      have hb := h.imm_lt k1
      rw [World.cell?_of_block (w := w) (a := ⟨b, o, none⟩) (old b hb)]
      exact this
    | none =>
      simp only [k1] at k
      by_cases hb : b = w.heap.size
      · subst hb
        simp only [if_true] at k
        split at k
        · rw [cell_of_row _ _ _ _ _ _ hw]; exact k
        · cases k
      · simp [hb] at k
  · intro i o b k l
    exact ((h.obj i o b k l).block (old b (h.dom i b l).2.2)).mono hle
  · intro i b o v k l
    simp only [G.freeze] at l
    cases k1 : g.imm b o with
    | some u => exact h.immblk i b o u k k1
    | none =>
      simp only [k1] at l
      have := (h.dom i b k).2.2
      rw [if_neg (by omega)] at l
      cases l
  · intro i b k
    have := h.dom i b k
    exact ⟨this.1, this.2.1, by omega⟩
  · intro t m sz k
    refine (h.tokok t m sz k).imm_mono (fun _ => rfl) (fun b o cap k2 => ?_)
    have hb := tok_heap (h.tokok t m sz k) k2 rfl
    refine ⟨fun j _ _ k3 => ?_, old b hb⟩
    simp only [G.freeze, k3]
    rw [if_neg (by simp at hb; omega)]
  · have : B ≤ w.heap.size := h.B_le
    exact h.below.trans (hbl.mono this)

/-- An object is turned in its block. -/
theorem Inv.turn (h : Inv g B w0 s w) {i b : Nat} (hi : g.blk i = some b) (x : O) (w' : World) (hbel : Below B w w')
    (hoth : ∀ k, k ≠ b → w'.heap[k]? = w.heap[k]?) (hx : ObjOk g x w' b) : Inv g B w0 (s.set i x) w' := by
  refine { hl := by simp [St.set, setR_length, h.hl], tl := h.tl, imm := ?_, obj := ?_, inj := h.inj, immblk := h.immblk, dom := ?_, tokdom := h.tokdom, tokok := ?_, tokblk := h.tokblk, hB := h.hB, sym := h.sym, below := h.below.trans hbel }
  · intro c o v k
    have hc : c ≠ b := fun e => by subst e; exact h.immblk i c o v hi k
    rw [World.cell?_of_block (w := w) (a := ⟨c, o, none⟩) (hoth c hc)]
    exact h.imm c o v k
  · intro j y c k l
    simp only [St.get, St.set] at k
    rw [getR_setR _ _ _ _ _ h.hl] at k
    by_cases hj : j = i
    · subst hj
      rw [hi] at l
      cases l
      simp only [true_and, (h.dom _ _ hi).1, if_true] at k
      cases k
      exact hx
    · simp only [hj, false_and, if_false] at k
      have hc : c ≠ b := fun e => by subst e; exact hj (h.inj j i c l hi)
      exact (h.obj j y c k l).block (hoth c hc)
  · intro j c k
    have := h.dom j c k
    exact ⟨this.1, this.2.1, Nat.lt_of_lt_of_le this.2.2 hbel.size⟩
  · intro t n sz k
    refine (h.tokok t n sz k).imm_mono (fun _ => rfl) (fun c o cap k2 => ⟨fun _ _ _ k => k, hoth c fun e => ?_⟩)
    subst e
    exact (h.tokblk t n sz _ c k k2 rfl).2.1 i hi

/-- A token comes to stand for another length: in its own block, or in one that nothing speaks of. -/
theorem Inv.retok (h : Inv g B w0 s w) {s' : St} {t n' sz b o cap : Nat} (f : Nat → Option Value) (w' : World)
    (hsh : s'.heap = s.heap) (hsn : s'.hn = s.hn) (htl : s'.toks.length = s'.tn) (htn : s.tn ≤ s'.tn) (ht : t < s'.tn)
    (hst : ∀ t', s'.tok t' = if t' = t then some (n', sz) else s.tok t') (hg : ∀ m, n' ≤ m → g.tok t m = none)
    (hbel : Below B w w') (hoth : ∀ k, k < w.heap.size → k ≠ b → w'.heap[k]? = w.heap[k]?) (hB : B ≤ b) (hnb : ∀ i, g.blk i ≠ some b)
    (hnt : ∀ t1 n1 sz1 v1, t1 ≠ t → s.tok t1 = some (n1, sz1) → g.tok t1 n1 = some v1 → blkOf v1 ≠ some b)
    (himm : ∀ j v, g.imm b j = some v → w'.cell? ⟨b, j, none⟩ = some v) (hf : ∀ j v, f j = some v → w'.cell? ⟨b, j, none⟩ = some v)
    (hcap : n' ≤ cap) (hsz : 0 < sz) (cs : Array Value) (el : TypeId) (hb : w'.heap[b]? = some (.cells cs el (0, 0))) (hc : o + cap * sz ≤ cs.size)
    (htail : ∀ j, o + n' * sz ≤ j → j < o + cap * sz → g.imm b j = none ∧ f j = none) :
    Inv ((g.freeze b f).setTok t n' (.slice (some ⟨b, o, none⟩) n' cap)) B w0 s' w' := by
  have hle : g.le ((g.freeze b f).setTok t n' (.slice (some ⟨b, o, none⟩) n' cap)) := G.le_freeze.trans (G.le_setTok (g := g.freeze b f) (hg n' (Nat.le_refl _)))
  have hget : ∀ i, s'.get i = s.get i := fun i => by simp only [St.get, hsh, hsn]
  have tokne : ∀ t1 m, t1 ≠ t → ((g.freeze b f).setTok t n' (.slice (some ⟨b, o, none⟩) n' cap)).tok t1 m = g.tok t1 m := fun t1 m k => by
    simp [G.setTok, G.freeze, k]
  have immne : ∀ b1 j, b1 ≠ b → ((g.freeze b f).setTok t n' (.slice (some ⟨b, o, none⟩) n' cap)).imm b1 j = g.imm b1 j := fun b1 j k => by
    simp only [G.setTok, G.freeze]
    cases g.imm b1 j <;> simp [k]
  refine { hl := by rw [hsh, hsn]; exact h.hl, tl := htl, imm := ?_, obj := ?_, inj := h.inj, immblk := ?_, dom := ?_, tokdom := ?_, tokok := ?_, tokblk := ?_, hB := h.hB, sym := h.sym, below := h.below.trans hbel }
  · intro b1 j v k
    by_cases e : b1 = b
    · subst e
      simp only [G.setTok, G.freeze, if_true] at k
      cases k1 : g.imm b1 j with
      | some u => simp only [k1, Option.some.injEq] at k; subst k; exact himm j u k1
      | none => simp only [k1] at k; exact hf j v k
    · rw [immne b1 j e] at k
      rw [World.cell?_of_block (w := w) (a := ⟨b1, j, none⟩) (hoth b1 (h.imm_lt k) e)]
      exact h.imm b1 j v k
  · intro i x c k l
    rw [hget] at k
    have l' : g.blk i = some c := l
    have e : c ≠ b := fun e => by subst e; exact hnb i l'
    exact ((h.obj i x c k l').block (hoth c (h.dom i c l').2.2 e)).mono hle
  · intro i c j v k l
    have k' : g.blk i = some c := k
    by_cases e : c = b
    · subst e; exact hnb i k'
    · rw [immne c j e] at l; exact h.immblk i c j v k' l
  · intro i c k
    have := h.dom i c k
    exact ⟨by rw [hsn]; exact this.1, this.2.1, Nat.lt_of_lt_of_le this.2.2 hbel.size⟩
  · intro t1 m v k
    by_cases e : t1 = t
    · subst e; exact ht
    · rw [tokne t1 m e] at k; exact Nat.lt_of_lt_of_le (h.tokdom t1 m v k) htn
  · intro t1 m sz1 k
    rw [hst] at k
    by_cases e : t1 = t
    · subst e
      simp only [if_true, Option.some.injEq, Prod.mk.injEq] at k
      obtain ⟨rfl, rfl⟩ := k
      refine ⟨b, o, cap, by simp [G.setTok], hcap, hsz, fun m hm => ?_, cs, el, hb, hc, fun j a c => ?_⟩
      · simp only [G.setTok, G.freeze]
        rw [if_neg (by omega)]
        exact hg m (by omega)
      · obtain ⟨x, y⟩ := htail j a c
        simp only [G.setTok, G.freeze, x, if_true, y]
    · simp only [e, if_false] at k
      refine (h.tokok t1 m sz1 k).imm_mono (fun m => tokne t1 m e) (fun b1 o1 cap1 k2 => ?_)
      have hne : b1 ≠ b := fun e1 => hnt t1 m sz1 _ e k k2 (by simp [blkOf, e1])
      exact ⟨fun j _ _ k3 => by rw [immne b1 j hne]; exact k3, hoth b1 (tok_heap (h.tokok t1 m sz1 k) k2 rfl) hne⟩
  · intro t1 m sz1 v b1 k l r
    rw [hst] at k
    have other : ∀ t2 n2 sz2 v2, t2 ≠ t → s'.tok t2 = some (n2, sz2) → ((g.freeze b f).setTok t n' (.slice (some ⟨b, o, none⟩) n' cap)).tok t2 n2 = some v2 →
        s.tok t2 = some (n2, sz2) ∧ g.tok t2 n2 = some v2 := fun t2 n2 sz2 v2 e a c => by
      rw [hst, if_neg e] at a
      rw [tokne t2 n2 e] at c
      exact ⟨a, c⟩
    by_cases e : t1 = t
    · subst e
      simp only [if_true, Option.some.injEq, Prod.mk.injEq] at k
      obtain ⟨rfl, rfl⟩ := k
      have : v = .slice (some ⟨b, o, none⟩) n' cap := by simpa [G.setTok] using l.symm
      subst this
      simp only [blkOf, Option.some.injEq] at r
      subst r
      refine ⟨hB, hnb, fun t2 n2 sz2 v2 a c d => ?_⟩
      rcases Nat.decEq t2 t1 with e2 | e2
      · obtain ⟨a', c'⟩ := other t2 n2 sz2 v2 e2 a c
        exact absurd d (hnt t2 n2 sz2 v2 e2 a' c')
      · exact e2
    · simp only [e, if_false] at k
      rw [tokne t1 m e] at l
      have h1 := h.tokblk t1 m sz1 v b1 k l r
      refine ⟨h1.1, h1.2.1, fun t2 n2 sz2 v2 a c d => ?_⟩
      rcases Nat.decEq t2 t with e2 | e2
      · obtain ⟨a', c'⟩ := other t2 n2 sz2 v2 e2 a c
        exact h1.2.2 t2 n2 sz2 v2 a' c' d
      · subst e2
        rw [hst, if_pos rfl] at a
        simp only [Option.some.injEq, Prod.mk.injEq] at a
        obtain ⟨rfl, rfl⟩ := a
        have : v2 = .slice (some ⟨b, o, none⟩) n' cap := by simpa [G.setTok] using c.symm
        subst this
        simp only [blkOf, Option.some.injEq] at d
        subst d
        exact absurd r (hnt t1 m sz1 v e k l)

end Go.Fk

/- What stays of a state behind a call: objects and tokens made within it are let go of. -/
namespace Go.Fk
open Go.RowKit (Below)

mutual
/-- A value speaks of objects below n, and of tokens below m, alone. -/
def D.wf (n m : Nat) : D → Prop
  | .list _ (.tok t) => t < m
  | .rlist xs => D.wfL n m xs
  | .agg ds | .tup ds => D.wfL n m ds
  | .ptr id _ => id < n
  | .lptr xs _ _ => D.wfL n m xs
  | .arr id _ _ _ _ => id < n
  | .map id => id < n
  | .func _ a b => D.wfL n m a ∧ D.wfL n m b
  | .iface _ d => d.wf n m
  | _ => True
def D.wfL (n m : Nat) : List D → Prop
  | [] => True
  | d :: r => d.wf n m ∧ D.wfL n m r
end

theorem wfL_get {n m : Nat} {ds : List D} (h : D.wfL n m ds) {i : Nat} {d : D} (e : ds[i]? = some d) : d.wf n m := by
  induction ds generalizing i with
  | nil => simp at e
  | cons x r ih =>
    simp only [D.wfL] at h
    cases i with
    | zero => simp at e; subst e; exact h.1
    | succ i => exact ih h.2 (by simpa using e)
theorem wfL_of {n m : Nat} {ds : List D} (h : ∀ (i : Nat) (d : D), ds[i]? = some d → d.wf n m) : D.wfL n m ds := by
  induction ds with
  | nil => trivial
  | cons x r ih => exact ⟨h 0 x (by simp), ih fun i d e => h (i + 1) d (by simpa using e)⟩
theorem wfL_append {n m : Nat} {a b : List D} : D.wfL n m (a ++ b) ↔ D.wfL n m a ∧ D.wfL n m b := by
  induction a with
  | nil => simp [D.wfL]
  | cons x r ih => simp [D.wfL, ih, and_assoc]
theorem wfL_take {n m : Nat} {a : List D} (k : Nat) (h : D.wfL n m a) : D.wfL n m (a.take k) :=
  wfL_of fun i d e => by
    rw [List.getElem?_take] at e
    split at e
    · exact wfL_get h e
    · cases e
theorem wfL_drop {n m : Nat} {a : List D} (k : Nat) (h : D.wfL n m a) : D.wfL n m (a.drop k) :=
  wfL_of fun i d e => by rw [List.getElem?_drop] at e; exact wfL_get h e

theorem cl_wf (n m : Nat) : ∀ d : D, d.cl 0 = true → d.wf n m := fun d =>
  D.rec (motive_1 := fun d => d.cl 0 = true → d.wf n m) (motive_2 := fun ds => D.clL 0 ds = true → D.wfL n m ds)
    (fun h => by simp [D.cl] at h) (fun _ _ => trivial) (fun xs tk _ h => by cases tk <;> simp [D.cl, D.wf] at h ⊢)
    (fun _ _ h => by simp [D.cl] at h) (fun ds ih h => by simp only [D.cl, D.wf] at *; exact ih h) (fun ds ih h => by simp only [D.cl, D.wf] at *; exact ih h)
    (fun _ _ h => by simp [D.cl] at h) (fun _ _ _ _ h => by simp [D.cl] at h) (fun _ _ _ _ _ h => by simp [D.cl] at h) (fun _ h => by simp [D.cl] at h)
    (fun _ a b iha ihb h => by simp only [D.cl, Bool.and_eq_true] at h; exact ⟨iha h.1, ihb h.2⟩)
    (fun _ d ih h => by simp only [D.cl, D.wf] at *; exact ih h) (fun _ _ => trivial) (fun _ => trivial)
    (fun d r ihd ihr h => by simp only [D.clL, Bool.and_eq_true] at h; exact ⟨ihd h.1, ihr h.2⟩) d
theorem clL_wf {n m : Nat} {ds : List D} (h : D.clL 0 ds = true) : D.wfL n m ds := wfL_of fun _ d e => cl_wf n m d (clL_get h e)

theorem Rep.wf {g : G} {n m : Nat} (hn : ∀ i b, g.blk i = some b → i < n) (hm : ∀ t k v, g.tok t k = some v → t < m) {d : D} {v : Value} (r : Rep g d v) : d.wf n m := by
  induction r with
  | un => trivial
  | v => trivial
  | @list xs tk b o cap sz vs hl hcap hx hc hr ht ih => cases tk <;> first | trivial | exact hm _ _ _ ht
  | rlist b o cap sz vs hl hcap hx hr ih =>
    exact wfL_of fun i d e => by
      have : i < vs.length := by rw [hl]; exact (List.getElem?_eq_some_iff.1 e).1
      exact ih i d _ e (List.getElem?_eq_getElem this)
  | agg vs hl hx hs ih =>
    exact wfL_of fun i d e => by
      have : i < vs.length := by rw [hl]; exact (List.getElem?_eq_some_iff.1 e).1
      exact ih i d _ e (List.getElem?_eq_getElem this)
  | tup vs hl hx ih =>
    exact wfL_of fun i d e => by
      have : i < vs.length := by rw [hl]; exact (List.getElem?_eq_some_iff.1 e).1
      exact ih i d _ e (List.getElem?_eq_getElem this)
  | ptr b h => exact hn _ _ h
  | lptr b o sz vs hl hx hr ih =>
    exact wfL_of fun i d e => by
      have : i < vs.length := by rw [hl]; exact (List.getElem?_eq_some_iff.1 e).1
      exact ih i d _ e (List.getElem?_eq_getElem this)
  | arr b cap h hcap hsz hfl => exact hn _ _ h
  | map b h => exact hn _ _ h
  | func us vs hl hx kl ky ih1 ih2 =>
    refine ⟨wfL_of fun i d e => ?_, wfL_of fun i d e => ?_⟩
    · have : i < us.length := by rw [hl]; exact (List.getElem?_eq_some_iff.1 e).1
      exact ih1 i d _ e (List.getElem?_eq_getElem this)
    · have : i < vs.length := by rw [kl]; exact (List.getElem?_eq_some_iff.1 e).1
      exact ih2 i d _ e (List.getElem?_eq_getElem this)
  | iface v h ih => exact ih
  | sym v h h1 => trivial

def G.cut (g : G) (n m : Nat) : G := { g with blk := fun i => if i < n then g.blk i else none, tok := fun t k => if t < m then g.tok t k else none }

theorem Rep.cut {g : G} {n m : Nat} {d : D} {v : Value} (r : Rep g d v) : d.wf n m → Rep (g.cut n m) d v := by
  have row : ∀ {b o sz vs}, Row g b o sz vs → Row (g.cut n m) b o sz vs := fun r => r
  have all : ∀ {ds : List D} {i : Nat} {d : D}, ds[i]? = some d → D.wfL n m ds → d.wf n m := fun e h => wfL_get h e
  induction r with
  | un => intro _; exact .un _
  | v => intro _; exact .v _
  | @list xs tk b o cap sz vs hl hcap hx hc hr ht ih =>
    intro h
    refine .list b o cap sz vs hl hcap (fun i d v a e => ih i d v a e (cl_wf n m d (clL_get hc a))) hc (row hr) ?_
    cases tk with
    | tok t =>
      have h' : t < m := h
      show (if t < m then _ else _) = _
      rw [if_pos h']; exact ht
    | _ => exact ht
  | rlist b o cap sz vs hl hcap hx hr ih => intro h; exact .rlist b o cap sz vs hl hcap (fun i d v a e => ih i d v a e (all a h)) (row hr)
  | agg vs hl hx hs ih => intro h; exact .agg vs hl (fun i d v a e => ih i d v a e (all a h)) hs
  | tup vs hl hx ih => intro h; exact .tup vs hl (fun i d v a e => ih i d v a e (all a h))
  | @ptr id off b k => intro h; refine .ptr b ?_; have h' : id < n := h; show (if id < n then _ else _) = _; rw [if_pos h']; exact k
  | lptr b o sz vs hl hx hr ih => intro h; exact .lptr b o sz vs hl (fun i d v a e => ih i d v a e (all a h)) (row hr)
  | @arr id off len sz fl b cap k hcap hsz hfl => intro h; refine .arr b cap ?_ hcap hsz hfl; have h' : id < n := h; show (if id < n then _ else _) = _; rw [if_pos h']; exact k
  | @map id b k => intro h; refine .map b ?_; have h' : id < n := h; show (if id < n then _ else _) = _; rw [if_pos h']; exact k
  | func us vs hl hx kl ky ih1 ih2 => intro h; exact .func us vs hl (fun i d v a e => ih1 i d v a e (all a h.1)) kl (fun i d v a e => ih2 i d v a e (all a h.2))
  | iface v k ih => intro h; exact .iface v (ih h)
  | sym v k k1 => intro _; exact .sym v k k1

def O.wf (n m : Nat) : O → Prop
  | .cells ds => D.wfL n m ds
  | .map es => D.wfL n m (es.map (·.1)) ∧ D.wfL n m (es.map (·.2))
  | _ => True

theorem RepL.wf {g : G} {n m : Nat} (hn : ∀ i b, g.blk i = some b → i < n) (hm : ∀ t k v, g.tok t k = some v → t < m) {ds : List D} {vs : List Value} (r : RepL g ds vs) : D.wfL n m ds :=
  wfL_of fun _ _ e => by obtain ⟨v, _, h⟩ := r.get e; exact h.wf hn hm
theorem RepL.cut {g : G} {n m : Nat} {ds : List D} {vs : List Value} (r : RepL g ds vs) (h : D.wfL n m ds) : RepL (g.cut n m) ds vs :=
  ⟨r.1, fun i d v a b => (r.2 i d v a b).cut (wfL_get h a)⟩

theorem ObjOk.wf {g : G} {n m : Nat} (hn : ∀ i b, g.blk i = some b → i < n) (hm : ∀ t k v, g.tok t k = some v → t < m) {o : O} {w : World} {b : Nat} (r : ObjOk g o w b) : o.wf n m := by
  cases o with
  | cells ds => obtain ⟨cs, e, _, h, _⟩ := r; exact h.wf hn hm
  | map es => obtain ⟨en, c, _, h, k, _⟩ := r; exact ⟨h.wf hn hm, k.wf hn hm⟩
  | _ => trivial
theorem ObjOk.cut {g : G} {n m : Nat} {o : O} {w : World} {b : Nat} (r : ObjOk g o w b) (h : o.wf n m) : ObjOk (g.cut n m) o w b := by
  cases o with
  | cells ds => obtain ⟨cs, e, a, r, s⟩ := r; exact ⟨cs, e, a, r.cut h, s⟩
  | map es => obtain ⟨en, c, a, r, s, t⟩ := r; exact ⟨en, c, a, r.cut h.1, s.cut h.2, t⟩
  | siter s p => exact r
  | dead => trivial

variable {g g' : G} {B : Nat} {w0 : Base} {w w' : World} {s s' : St}

theorem Inv.wf (h : Inv g B w0 s w) {d : D} {v : Value} (r : Rep g d v) : d.wf s.hn s.tn := r.wf (fun i b e => (h.dom i b e).1) h.tokdom
theorem Inv.obj_wf (h : Inv g B w0 s w) {i b : Nat} {o : O} (e : s.get i = some o) (k : g.blk i = some b) : o.wf s.hn s.tn :=
  (h.obj i o b e k).wf (fun i b e => (h.dom i b e).1) h.tokdom

/-- What an invariant speaks of. -/
theorem Inv.congr (h : Inv g B w0 s w) (s' : St) (hl : s'.heap.length = s'.hn) (tl : s'.toks.length = s'.tn) (hn : s'.hn = s.hn) (tn : s'.tn = s.tn)
    (hg : ∀ i, s'.get i = s.get i) (ht : ∀ t, s'.tok t = s.tok t) : Inv g B w0 s' w :=
  { hl, tl, imm := h.imm, obj := fun i o b e k => h.obj i o b (by rw [← hg]; exact e) k, inj := h.inj, immblk := h.immblk,
    dom := fun i b e => by rw [hn]; exact h.dom i b e, tokdom := fun t n v e => by rw [tn]; exact h.tokdom t n v e,
    tokok := fun t n sz e => h.tokok t n sz (by rw [← ht]; exact e),
    tokblk := fun t n sz v b e k l => by
      have := h.tokblk t n sz v b (by rw [← ht]; exact e) k l
      exact ⟨this.1, this.2.1, fun t' n' sz' v' a => this.2.2 t' n' sz' v' (by rw [← ht]; exact a)⟩,
    hB := h.hB, sym := h.sym, below := h.below }

/-- The ghost goes on, and binds no object that was there already. -/
structure Ext (n : Nat) (g g' : G) : Prop where
  le : g.le g'
  blk : ∀ i, i < n → g'.blk i = g.blk i

theorem Ext.refl (n : Nat) (g : G) : Ext n g g := ⟨G.le.refl g, fun _ _ => rfl⟩
theorem Ext.trans {n n' : Nat} {a b c : G} (h : Ext n a b) (k : Ext n' b c) (hn : n ≤ n') : Ext n a c :=
  ⟨h.le.trans k.le, fun i hi => by rw [k.blk i (by omega), h.blk i hi]⟩

theorem trunc_get (hl : s'.heap.length = s'.hn) (hn : s.hn ≤ s'.hn) (i : Nat) : (trunc s s').get i = if i < s.hn then s'.get i else none := by
  simp only [St.get, trunc]
  by_cases h : i < s.hn
  · rw [if_pos h]; exact getR_drop _ _ _ _ hl hn h
  · rw [if_neg h]; exact getR_ge _ _ _ (by omega)
theorem trunc_tok (tl : s'.toks.length = s'.tn) (tn : s.tn ≤ s'.tn) (t : Nat) : (trunc s s').tok t = if t < s.tn then s'.tok t else none := by
  simp only [St.tok, trunc]
  by_cases h : t < s.tn
  · rw [if_pos h]; exact getR_drop _ _ _ _ tl tn h
  · rw [if_neg h]; exact getR_ge _ _ _ (by omega)

theorem cut_ext (h0 : Inv g B w0 s w) (he : Ext s.hn g g') : Ext s.hn g (g'.cut s.hn s.tn) :=
  ⟨⟨fun i b e => by simp only [G.cut]; rw [if_pos (h0.dom i b e).1]; exact he.le.blk i b e, he.le.imm,
    fun t n v e => by simp only [G.cut]; rw [if_pos (h0.tokdom t n v e)]; exact he.le.tok t n v e, he.le.sym⟩,
   fun i hi => by simp only [G.cut]; rw [if_pos hi]; exact he.blk i hi⟩

/-- Objects and tokens made within a call are let go of. -/
theorem Inv.trunc (h : Inv g' B w0 s' w') (he : Ext s.hn g g') (hn : s.hn ≤ s'.hn) (tn : s.tn ≤ s'.tn)
    (hwf : ∀ i o b, s'.get i = some o → g.blk i = some b → o.wf s.hn s.tn) : Inv (g'.cut s.hn s.tn) B w0 (trunc s s') w' := by
  have bl : ∀ i b, (g'.cut s.hn s.tn).blk i = some b → i < s.hn ∧ g'.blk i = some b := fun i b e => by
    simp only [G.cut] at e
    split at e
    · exact ⟨by assumption, e⟩
    · cases e
  have tk : ∀ t n v, (g'.cut s.hn s.tn).tok t n = some v → t < s.tn ∧ g'.tok t n = some v := fun t n v e => by
    simp only [G.cut] at e
    split at e
    · exact ⟨by assumption, e⟩
    · cases e
  have tok : ∀ t x, (Fk.trunc s s').tok t = some x → t < s.tn ∧ s'.tok t = some x := fun t x e => by
    rw [trunc_tok h.tl tn] at e
    split at e
    · exact ⟨by assumption, e⟩
    · cases e
  refine { hl := by simp [Fk.trunc, h.hl]; omega, tl := by simp [Fk.trunc, h.tl]; omega, imm := h.imm, obj := ?_, inj := ?_, immblk := ?_, dom := ?_, tokdom := ?_, tokok := ?_, tokblk := ?_, hB := h.hB, sym := h.sym, below := h.below }
  · intro i o b e k
    obtain ⟨hi, k'⟩ := bl i b k
    rw [trunc_get h.hl hn, if_pos hi] at e
    exact (h.obj i o b e k').cut (hwf i o b e (by rw [← he.blk i hi]; exact k'))
  · intro i j b e k; exact h.inj i j b (bl i b e).2 (bl j b k).2
  · intro i b o v e k; exact h.immblk i b o v (bl i b e).2 k
  · intro i b e; exact ⟨(bl i b e).1, (h.dom i b (bl i b e).2).2⟩
  · intro t n v e; exact (tk t n v e).1
  · intro t n sz e
    obtain ⟨hlt, e'⟩ := tok t _ e
    exact (h.tokok t n sz e').imm_mono (fun m => by simp only [G.cut]; rw [if_pos hlt]) (fun _ _ _ _ => ⟨fun _ _ _ k => k, rfl⟩)
  · intro t n sz v b e k l
    obtain ⟨hlt, e'⟩ := tok t _ e
    have := h.tokblk t n sz v b e' (tk t n v k).2 l
    refine ⟨this.1, fun i hi => this.2.1 i (bl i b hi).2, fun t' n' sz' v' a c d => ?_⟩
    exact this.2.2 t' n' sz' v' (tok t' _ a).2 (tk t' n' v' c).2 d

end Go.Fk

/- What evaluation leaves as it was: objects below 'base', tokens below 'tbase'; below 'cbase' it lays nothing but what points nowhere. -/
namespace Go.Fk

structure Keep (s s' : St) : Prop where
  hn : s.hn ≤ s'.hn
  tn : s.tn ≤ s'.tn
  lim : s'.lim = s.lim
  hl : s.heap.length = s.hn → s'.heap.length = s'.hn
  tl : s.toks.length = s.tn → s'.toks.length = s'.tn
  base : s.heap.length = s.hn → ∀ i, i < s.lim.base → i < s.hn → s'.get i = s.get i
  tbase : s.toks.length = s.tn → ∀ t, t < s.lim.tbase → t < s.tn → s'.tok t = s.tok t
  wf : s.heap.length = s.hn → ∀ i n m o', i < s.lim.cbase → i < s.hn → s'.get i = some o' → ∃ o, s.get i = some o ∧ (o.wf n m → o'.wf n m)

theorem Keep.refl (s : St) : Keep s s :=
  ⟨Nat.le_refl _, Nat.le_refl _, rfl, fun h => h, fun h => h, fun _ _ _ _ => rfl, fun _ _ _ _ => rfl, fun _ _ _ _ o' _ _ e => ⟨o', e, fun h => h⟩⟩
theorem Keep.trans {a b c : St} (h : Keep a b) (k : Keep b c) : Keep a c where
  hn := Nat.le_trans h.hn k.hn
  tn := Nat.le_trans h.tn k.tn
  lim := k.lim.trans h.lim
  hl := fun e => k.hl (h.hl e)
  tl := fun e => k.tl (h.tl e)
  base := fun e i hi hj => by rw [k.base (h.hl e) i (by rw [h.lim]; exact hi) (Nat.lt_of_lt_of_le hj h.hn)]; exact h.base e i hi hj
  tbase := fun e i hi hj => by rw [k.tbase (h.tl e) i (by rw [h.lim]; exact hi) (Nat.lt_of_lt_of_le hj h.tn)]; exact h.tbase e i hi hj
  wf := fun e i n m o' hi hj x => by
    obtain ⟨o, a, f⟩ := k.wf (h.hl e) i n m o' (by rw [h.lim]; exact hi) (Nat.lt_of_lt_of_le hj h.hn) x
    obtain ⟨o1, b, f1⟩ := h.wf e i n m o hi hj a
    exact ⟨o1, b, fun z => f (f1 z)⟩

theorem Keep.push (s : St) (o : O) : Keep s (s.push o) where
  hn := by simp [St.push]
  tn := Nat.le_refl _
  lim := rfl
  hl := fun e => by simp [St.push, e]
  tl := fun e => e
  base := fun _ i _ hj => by simp only [St.get, St.push, getR_cons]; rw [if_neg (by omega)]
  tbase := fun _ _ _ _ => rfl
  wf := fun _ i n m o' _ hj x => by
    simp only [St.get, St.push, getR_cons] at x
    rw [if_neg (by omega)] at x
    exact ⟨o', x, fun h => h⟩
theorem Keep.pushTok (s : St) (n sz : Nat) : Keep s (s.pushTok n sz) where
  hn := Nat.le_refl _
  tn := by simp [St.pushTok]
  lim := rfl
  hl := fun e => e
  tl := fun e => by simp [St.pushTok, e]
  base := fun _ _ _ _ => rfl
  tbase := fun _ i _ hj => by simp only [St.tok, St.pushTok, getR_cons]; rw [if_neg (by omega)]
  wf := fun _ _ _ _ o' _ _ x => ⟨o', x, fun h => h⟩
theorem Keep.setTok (s : St) (t n sz : Nat) (h : s.lim.tbase ≤ t) : Keep s (s.setTok t n sz) where
  hn := Nat.le_refl _
  tn := Nat.le_refl _
  lim := rfl
  hl := fun e => e
  tl := fun e => by simp [St.setTok, setR_length, e]
  base := fun _ _ _ _ => rfl
  tbase := fun e i hi hj => by simp only [St.tok, St.setTok]; rw [getR_setR _ _ _ _ _ e, if_neg (by omega)]
  wf := fun _ _ _ _ o' _ _ x => ⟨o', x, fun h => h⟩
theorem Keep.wr {s s' : St} {i : Nat} {new : List D} {o o' : O} (h : s.wr i new o' = some s') (hi : s.get i = some o) (hwf : ∀ n m, D.wfL n m new → o.wf n m → o'.wf n m) : Keep s s' := by
  have e : s' = s.set i o' ∧ s.lim.base ≤ i ∧ (i < s.lim.cbase → D.clL 0 new = true) := by
    unfold St.wr at h
    split at h
    · split at h
      · cases h; exact ⟨rfl, by assumption, fun k => by omega⟩
      · split at h
        · cases h; exact ⟨rfl, by assumption, fun _ => by assumption⟩
        · cases h
    · cases h
  obtain ⟨rfl, hb, hc⟩ := e
  exact {
    hn := Nat.le_refl _, tn := Nat.le_refl _, lim := rfl, hl := fun e => by simp [St.set, setR_length, e], tl := fun e => e
    base := fun e j hj _ => by simp only [St.get, St.set]; rw [getR_setR _ _ _ _ _ e, if_neg (by omega)]
    tbase := fun _ _ _ _ => rfl
    wf := fun e j n m y hj hk x => by
      simp only [St.get, St.set] at x
      rw [getR_setR _ _ _ _ _ e] at x
      by_cases hij : j = i
      · subst hij
        rw [if_pos ⟨rfl, hk⟩] at x
        cases x
        exact ⟨o, hi, hwf n m (clL_wf (hc hj))⟩
      · rw [if_neg (by omega)] at x
        exact ⟨y, x, fun h => h⟩ }

theorem put_wf {n m : Nat} {cs new ds : List D} {off : Nat} (h : put cs new off = some ds) (a : D.wfL n m new) (b : D.wfL n m cs) : D.wfL n m ds := by
  unfold put at h
  split at h
  · cases h
    exact wfL_append.2 ⟨wfL_append.2 ⟨wfL_take _ b, a⟩, wfL_drop _ b⟩
  · cases h

theorem setE_wf1 {n m : Nat} {kk : KeyK} {k x : D} (a : k.wf n m) : ∀ {es : List (D × D)}, D.wfL n m (es.map (·.1)) → D.wfL n m ((setE kk k x es).map (·.1))
  | [], _ => ⟨a, trivial⟩
  | (k', y) :: r, h => by
    simp only [setE]
    split
    · exact ⟨a, h.2⟩
    · exact ⟨h.1, setE_wf1 a h.2⟩
theorem setE_wf2 {n m : Nat} {kk : KeyK} {k x : D} (a : x.wf n m) : ∀ {es : List (D × D)}, D.wfL n m (es.map (·.2)) → D.wfL n m ((setE kk k x es).map (·.2))
  | [], _ => ⟨a, trivial⟩
  | (k', y) :: r, h => by
    simp only [setE]
    split
    · exact ⟨a, h.2⟩
    · exact ⟨h.1, setE_wf2 a h.2⟩
theorem delE_wf1 {n m : Nat} {kk : KeyK} {k : D} : ∀ {es : List (D × D)}, D.wfL n m (es.map (·.1)) → D.wfL n m ((delE kk k es).map (·.1))
  | [], _ => trivial
  | (k', y) :: r, h => by
    simp only [delE]
    split
    · exact h.2
    · exact ⟨h.1, delE_wf1 h.2⟩
theorem delE_wf2 {n m : Nat} {kk : KeyK} {k : D} : ∀ {es : List (D × D)}, D.wfL n m (es.map (·.2)) → D.wfL n m ((delE kk k es).map (·.2))
  | [], _ => trivial
  | (k', y) :: r, h => by
    simp only [delE]
    split
    · exact h.2
    · exact ⟨h.1, delE_wf2 h.2⟩

theorem appendD_keep {s s' : St} {sz bytes : Nat} {d r : D} {ys : List D} (h : appendD s sz bytes d ys = some (r, s')) : Keep s s' := by
  unfold appendD at h
  simp only at h
  repeat' (split at h)
  all_goals first
    | (cases h; done)
    | (cases h; exact Keep.refl _)
    | (cases h; exact Keep.pushTok _ _ _)
    | (cases h; rename_i k; exact Keep.setTok _ _ _ _ k.2.2.1)

theorem zc_wf {n m : Nat} (z : Value) : D.wfL n m (zcells z) := by
  cases z with
  | agg cs =>
    refine wfL_of fun i d e => ?_
    simp only [zcells, List.getElem?_map, Option.map_eq_some_iff] at e
    obtain ⟨v, _, rfl⟩ := e
    trivial
  | _ => exact ⟨trivial, trivial⟩

theorem evM_keep {e : Env} {s : St} {call : D → List D → St → Option (D × St)} (hcall : ∀ d a s r s', call d a s = some (r, s') → Keep s s')
    {op : IOp} {d : D} {s' : St} (h : evM e s call op = some (d, s')) : Keep s s' := by
  cases op <;> simp only [evM] at h
  case alloc => cases h; exact Keep.push _ _
  case box x => split at h <;> cases h; exact Keep.push _ _
  case store n a x =>
    (repeat' (split at h)) <;> first | (cases h; done) | skip
    cases h
    have hw := ‹St.wr _ _ _ _ = some _›
    have hg := ‹St.get _ _ = some _›
    refine Keep.wr hw hg fun n m a b => ?_
    exact put_wf ‹put _ _ _ = some _› a b
  case mkmap => cases h; exact Keep.push _ _
  case mkslice =>
    (repeat' (split at h)) <;> first | (cases h; done) | (cases h; exact Keep.pushTok _ _ _) | (cases h; exact Keep.refl _) | (cases h; exact Keep.push _ _)
  case append =>
    split at h
    · cases h
    · split at h
      · cases h
      · split at h
        · exact appendD_keep h
        · cases h
  case copy =>
    (repeat' (split at h)) <;> first | (cases h; done) | skip
    cases h
    have hw := ‹St.wr _ _ _ _ = some _›
    have hg := ‹St.get _ _ = some _›
    refine Keep.wr hw hg fun n m a b => ?_
    exact put_wf ‹put _ _ _ = some _› a b
  case mupd =>
    split at h
    · cases h
    (repeat' (split at h)) <;> first | (cases h; done) | skip
    cases h
    have hw := ‹St.wr _ _ _ _ = some _›
    have hg := ‹St.get _ _ = some _›
    refine Keep.wr hw hg fun n m a b => ?_
    exact ⟨setE_wf1 a.1 b.1, setE_wf2 a.2.1 b.2⟩
  case delete =>
    split at h
    · cases h
    (repeat' (split at h)) <;> first | (cases h; done) | skip
    · cases h; exact Keep.refl _
    · cases h
      have hw := ‹St.wr _ _ _ _ = some _›
      have hg := ‹St.get _ _ = some _›
      refine Keep.wr hw hg fun n m a b => ?_
      exact ⟨delE_wf1 b.1, delE_wf2 b.2⟩
  case clear =>
    (repeat' (split at h)) <;> first | (cases h; done) | skip
    · cases h
      have hw := ‹St.wr _ _ _ _ = some _›
      have hg := ‹St.get _ _ = some _›
      refine Keep.wr hw hg fun n m a b => ?_
      refine put_wf ‹put _ _ _ = some _› ?_ b
      refine wfL_of fun i d e => ?_
      have hm := List.mem_of_getElem? e
      simp only [List.mem_flatten, List.mem_replicate] at hm
      obtain ⟨l, ⟨_, rfl⟩, hm⟩ := hm
      obtain ⟨j, hj⟩ := List.mem_iff_getElem?.1 hm
      exact wfL_get (zc_wf _) hj
    · cases h; exact Keep.refl _
    · cases h; exact Keep.refl _
  case range =>
    split at h <;> cases h
    exact Keep.push _ _
  case next =>
    (repeat' (split at h)) <;> first | (cases h; done) | skip
    · cases h
      have hw := ‹St.wr _ _ _ _ = some _›
      have hg := ‹St.get _ _ = some _›
      refine Keep.wr hw hg fun n m a b => ?_
      trivial
    · cases h; exact Keep.refl _
  case call => exact hcall _ _ _ _ _ h
  all_goals cases h

section
variable {call : D → List D → St → Option (D × St)} {pure : D → Bool} (hcall : ∀ d a s r s', call d a s = some (r, s') → Keep s s')
include hcall

theorem step1_keep {o : IOper} {f f' : Fr} (h : step1 call pure o f = some f') : Keep f.st f'.st := by
  unfold step1 at h
  split at h
  · cases h
  · cases h; exact Keep.refl _
  · split at h
    · split at h
      · cases h; exact Keep.refl _
      · cases h
    · split at h
      · rename_i hm; cases h; exact evM_keep hcall hm
      · split at h
        · cases h; exact Keep.refl _
        · cases h

theorem runOps_keep : ∀ {ops : List IOper} {f f' : Fr}, runOps call pure ops f = some f' → Keep f.st f'.st
  | [], f, f', h => by cases h; exact Keep.refl _
  | o :: r, f, f', h => by
    simp only [runOps] at h
    split at h
    · rename_i h1; exact (step1_keep hcall h1).trans (runOps_keep h)
    · cases h

omit hcall in
theorem preAlloc_keep : ∀ (ops : List IOper) (s : St), Keep s (preAlloc ops s)
  | [], s => Keep.refl s
  | o :: r, s => by
    simp only [preAlloc]
    split
    · exact (Keep.push _ _).trans (preAlloc_keep r _)
    · exact preAlloc_keep r s

theorem lexGo_keep : ∀ (ops : List IOper) (e : Env) (s : St) (id : Nat) (rs : List (Env × D)) (ss : List St) (e' : Env), lexGo call pure ops e s id = some (rs, ss, e') → ss[0]? = some s ∧ (∀ s' ∈ ss, Keep s s')
  | [], e, s, id, rs, ss, e', h => by
    cases h
    exact ⟨rfl, fun s' hs => by simp at hs; subst hs; exact Keep.refl _⟩
  | o :: r, e, s, id, rs, ss, e', h => by
    simp only [lexGo] at h
    split at h
    · cases h
    · split at h
      · rename_i h1
        cases h
        obtain ⟨a, b⟩ := lexGo_keep r _ _ _ _ _ _ h1
        split
        · exact ⟨rfl, fun s' hs => by
            rcases List.mem_cons.1 hs with rfl | hs
            · exact Keep.refl _
            · exact b s' hs⟩
        · exact ⟨a, b⟩
      · cases h
    · split at h
      · split at h
        · split at h
          · rename_i h1
            cases h
            exact lexGo_keep r _ _ _ _ _ _ h1
          · cases h
        · cases h
      · split at h
        · split at h
          · rename_i h1
            cases h
            exact lexGo_keep r _ _ _ _ _ _ h1
          · cases h
        · split at h
          · rename_i hm
            split at h
            · rename_i h1
              cases h
              have k := evM_keep hcall hm
              obtain ⟨a, b⟩ := lexGo_keep r _ _ _ _ _ _ h1
              exact ⟨rfl, fun s' hs => by
                rcases List.mem_cons.1 hs with rfl | hs
                · exact Keep.refl _
                · exact k.trans (b s' hs)⟩
            · cases h
          · cases h

theorem runDraw_keep {ops : List IOper} {f f' : Fr} (h : runDraw call pure ops f = some f') : Keep f.st f'.st := by
  unfold runDraw at h
  split at h
  · rename_i h1
    split at h
    · split at h
      · rename_i s hs
        cases h
        exact (preAlloc_keep ops f.st).trans ((lexGo_keep hcall ops _ _ _ _ _ _ h1).2 s (List.mem_of_getLast? hs))
      · cases h
    · cases h
  · cases h

omit hcall in
theorem iter_keep {body : Fr → Option (X × Fr)} (hb : ∀ f x f', body f = some (x, f') → Keep f.st f'.st) : ∀ (k : Nat) {f f' : Fr} {x : X}, iter body id k f = some (x, f') → Keep f.st f'.st
  | 0, _, _, _, h => by cases h
  | k + 1, f, f', x, h => by
    simp only [iter] at h
    split at h
    · rename_i f1 h1; exact (hb _ _ _ h1).trans (iter_keep hb k h)
    · rename_i r h1
      simp only [id, Option.some.injEq] at h
      subst h
      exact hb _ _ _ h1
    · cases h

theorem evC_keep : ∀ (c : IC) {f f' : Fr} {x : X}, evC call pure c f = some (x, f') → Keep f.st f'.st
  | .bad, f, f', x, h => by cases h
  | .skip, f, f', x, h => by cases h; exact Keep.refl _
  | .reg false ops, f, f', x, h => by
    simp only [evC, Option.map_eq_some_iff] at h
    obtain ⟨f1, h1, h2⟩ := h
    cases h2
    exact runOps_keep hcall h1
  | .reg true ops, f, f', x, h => by
    simp only [evC, Option.map_eq_some_iff] at h
    obtain ⟨f1, h1, h2⟩ := h
    cases h2
    exact runDraw_keep hcall h1
  | .seq a b, f, f', x, h => by
    simp only [evC] at h
    split at h
    · rename_i f1 h1; exact (evC_keep a h1).trans (evC_keep b h)
    · rename_i h1; exact evC_keep a h
  | .cond c a b, f, f', x, h => by
    simp only [evC] at h
    split at h
    · exact evC_keep a h
    · exact evC_keep b h
    · cases h
  | .block id c, f, f', x, h => by
    simp only [evC] at h
    split at h
    · rename_i id' f1 h1
      have := evC_keep c h1
      simp only [Option.some.injEq] at h
      split at h <;> (cases h; exact this)
    · exact evC_keep c h
  | .loop c, f, f', x, h => by
    simp only [evC] at h
    exact iter_keep (fun f x f' e => evC_keep c e) _ h
  | .exit id, f, f', x, h => by cases h; exact Keep.refl _
  | .ret, f, f', x, h => by cases h; exact Keep.refl _

theorem runDefers_keep : ∀ {l : List (D × List D)} {s s' : St}, runDefers call l s = some s' → Keep s s'
  | [], s, s', h => by cases h; exact Keep.refl _
  | (g, a) :: r, s, s', h => by
    simp only [runDefers] at h
    split at h
    · rename_i h1; exact (hcall _ _ _ _ _ h1).trans (runDefers_keep h)
    · cases h

theorem runFn0_keep {fn : IFn} {args : List D} {s s' : St} {d : D} (h : runFn0 call pure fn args s = some (d, s')) : Keep s s' := by
  unfold runFn0 at h
  split at h
  · rename_i x f h1
    have k1 := evC_keep hcall _ h1
    split at h
    · cases h
    · split at h
      · split at h <;> first | (cases h; exact k1) | cases h
      · cases h
  · cases h

theorem callD_keep {p : Prog} {d : D} {a : List D} {s : St} {r : D} {s' : St} (h : callD p call d a s = some (r, s')) : Keep s s' := by
  unfold callD at h
  split at h
  · split at h
    · cases h
    · split at h
      · cases h
      · split at h
        · split at h
          · exact runFn0_keep hcall h
          · cases h
        · cases h
  · cases h

theorem runFn_keep {dcall : D → List D → St → Option (D × St)} (hd : ∀ d a s r s', dcall d a s = some (r, s') → Keep s s') {fn : IFn} {args : List D} {s s' : St} {d : D} (h : runFn call dcall pure fn args s = some (d, s')) : Keep s s' := by
  unfold runFn at h
  split at h
  · rename_i x f h1
    have k1 := evC_keep hcall _ h1
    split at h
    · cases h
    · split at h
      · cases h
      · rename_i s2 h2
        have k2 := runDefers_keep hd h2
        split at h <;> first | (cases h; exact k1.trans k2) | cases h
  · cases h
end

/-- A state let go of what was made within a call. -/
theorem Keep.cut {s s' : St} {l : Lim} (h : Keep { s with lim := l } s') (hb : s.lim.base ≤ l.base) (hc : l.cbase = s.hn) (ht : s.lim.tbase ≤ l.tbase) :
    Keep s (trunc s s') := by
  have hn : s.hn ≤ s'.hn := h.hn
  have tn : s.tn ≤ s'.tn := h.tn
  exact {
    hn := Nat.le_refl _, tn := Nat.le_refl _, lim := rfl
    hl := fun e => by have h1 : s'.heap.length = s'.hn := h.hl e; simp [trunc, h1]; omega
    tl := fun e => by have h2 : s'.toks.length = s'.tn := h.tl e; simp [trunc, h2]; omega
    base := fun e i hi hj => by rw [trunc_get (h.hl e) hn, if_pos hj]; exact h.base e i (Nat.lt_of_lt_of_le hi hb) hj
    tbase := fun e i hi hj => by rw [trunc_tok (h.tl e) tn, if_pos hj]; exact h.tbase e i (Nat.lt_of_lt_of_le hi ht) hj
    wf := fun e i n m o' _ hj x => by
      rw [trunc_get (h.hl e) hn, if_pos hj] at x
      exact h.wf e i n m o' (by show i < l.cbase; omega) hj x }

end Go.Fk

