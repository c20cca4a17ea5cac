/- The evaluator and what it gives of the functions, part 0. No conditions of ours: a law's row is in YtanlmanifpknoaaLFnCouplesCalm. -/
import Derived.Below
import Derived.Calls
import Derived.KernelRfl
import Derived.Laws.Cells
import Derived.Laws.Sem
import Derived.Laws.Small
import Derived.Laws.World
namespace Go.Proofs.Ytanlmanifpknoaa.Ev
open Go
inductive T where
  | int (k : IntKind) (n : Int)
  | bool (b : Bool)
  | str (s : ByteArray)
  | lst (sz : Nat) (xs : List T)
  | agg (xs : List T)
  | nil
  | nilf
  | clo (f : FuncId) (first captured : List T)
  | ptr (t : T)
  deriving Inhabited
inductive V where
  | any
  | t (t : T)
  | ref (id off len : Nat)
  | ptr (id idx c : Nat)
  | rptr (t : T) (c : Nat)
  | agg (vs : List V)
  | tup (vs : List V)
  | clo (f : FuncId) (first captured : List V)
  | map (id : Nat)
  deriving Inhabited

inductive Blk where
  | dead
  | pure (sz : Nat) (xs : List T)
  | froz (sz : Nat) (xs : List T)
  | box (sz : Nat) (vs : List V)
  | map (es : List (T × T))
  deriving Inhabited

abbrev Heap := List Blk
abbrev Fr := List (Nat × V)

def T.cells : T → List T
  | .agg xs => xs
  | t => [t]

def V.cells : V → Option (List V)
  | .agg vs => some vs
  | .t (.agg ts) => some (ts.map .t)
  | .t x => some [.t x]
  | .any => none
  | .tup _ => none
  | v => some [v]
def T.one : T → Bool
  | .agg _ => false
  | _ => true
def V.one : V → Bool
  | .t x => x.one
  | .ref .. | .ptr .. | .rptr .. | .clo .. | .map _ => true
  | _ => false
def T.el (sz : Nat) (x : T) : Bool := x.cells.length == sz && x.cells.all T.one

def Fr.get : Fr → Nat → V
  | [], _ => .any
  | (s, v) :: r, t => if s = t then v else Fr.get r t

def Fr.put : Fr → Nat → V → Fr
  | [], t, v => [(t, v)]
  | (s, u) :: r, t, v => if s = t then (t, v) :: r else (s, u) :: Fr.put r t v


inductive A where
  | v (t : Nat)
  | k (x : T)
  deriving Inhabited

inductive Cnv where
  | int (k : IntKind) | same | s2b | b2s | i2s
  deriving Inhabited
inductive EqK where
  | none | bool | slice | func
  deriving DecidableEq, Inhabited

inductive O where
  | mv (x : A)
  | pick (c a b : A)
  | alc (sz : Nat) (zero : List T)
  | box (x : A)
  | bld (zero : List T) (parts : List (Nat × Nat × A))
  | bsl (mix : Bool) (sz n : Nat) (zero : T) (parts : List (Nat × A))
  | bsf (sz n : Nat) (zero : T) (parts : List (Nat × A))
  | msf (sz : Nat) (zero : T) (l c : A)
  | ld (agg : Bool) (size : Nat) (a : A)
  | st (size : Nat) (a x : A)
  | nck (x : A)
  | bin (op : BinOp) (kd : EqK) (x y : A)
  | un (op : UnOp) (x : A)
  | cnv (c : Cnv) (x : A)
  | mkf (f : FuncId) (first caps : List A)
  | mks (sz : Nat) (zero : T) (l c : A)
  | slc (sz : Nat) (x : A) (lo hi : Option A)
  | sls (x : A) (lo hi : Option A)
  | fad (off : Nat) (a : A)
  | fld (agg : Bool) (off size : Nat) (x : A)
  | ixa (sz : Nat) (x i : A)
  | idx (x i : A)
  | ext (x : A) (i : Nat)
  | call (f : FuncId) (args : List A)
  | callv (f : A) (args : List A)
  | len (k : Nat) (x : A)
  | app (mix : Bool) (sz : Nat) (x y : A)
  | cpy (sz : Nat) (x y : A)
  | clr (sz : Nat) (z : T) (x : A)
  | mx (isMax : Bool) (x y : A)
  | mkm
  | lkp (kk : Nat) (ok : Bool) (zero : T) (m k : A)
  | mup (kk : Nat) (m k x : A)
  | bad
  deriving Inhabited

structure I where
  dst : Option Nat
  grd : Option (Nat × Bool)
  op : O
  deriving Inhabited

inductive C where
  | skip
  | reg (draw : Bool) (bits : List Nat) (is : List I)
  | seq (a b : C)
  | cond (c : A) (a b : C)
  | block (id : Nat) (c : C)
  | loop (gc : Bool) (live : List Nat) (c : C)
  | exit (id : Nat)
  | ret
  | bad
  deriving Inhabited

inductive R where
  | tmp (t : Nat)
  | cell (a : Nat) (agg : Bool) (size : Nat)
  deriving Inhabited
inductive Mode where
  | own | ownF | ref | refM
  deriving DecidableEq, Inhabited

structure Fn where
  mode : Mode
  nargs : Nat
  ntmps : Nat
  res : List R
  body : C
  deriving Inhabited

abbrev Prim := List V → Heap → Option (V × Heap)
inductive Fun where
  | ir (f : Fn)
  | prim (m : Mode) (s : Prim)

def Fun.mode : Fun → Mode
  | .ir F => F.mode
  | .prim m _ => m

abbrev Env := FuncId → Option Fun
abbrev Rec := FuncId → List V → Heap → Option (V × Heap)


mutual
def V.ren (r : Nat → Option Nat) : V → V
  | .any => .any
  | .t x => .t x
  | .ref id off len => match r id with | some j => .ref j off len | none => .any
  | .ptr id idx c => match r id with | some j => .ptr j idx c | none => .any
  | .rptr x c => .rptr x c
  | .agg vs => .agg (V.rens r vs)
  | .tup vs => .tup (V.rens r vs)
  | .clo f a b => .clo f (V.rens r a) (V.rens r b)
  | .map id => match r id with | some j => .map j | none => .any
def V.rens (r : Nat → Option Nat) : List V → List V
  | [] => []
  | v :: vs => V.ren r v :: V.rens r vs
end

def Blk.ren (r : Nat → Option Nat) : Blk → Blk
  | .box sz vs => .box sz (V.rens r vs)
  | b => b

mutual
def V.ids : V → List Nat
  | .ref id _ _ => [id]
  | .ptr id _ _ => [id]
  | .map id => [id]
  | .agg vs => V.idss vs
  | .tup vs => V.idss vs
  | .clo _ a b => V.idss a ++ V.idss b
  | _ => []
def V.idss : List V → List Nat
  | [] => []
  | v :: vs => V.ids v ++ V.idss vs
end

def Blk.ids : Blk → List Nat
  | .box _ vs => V.idss vs
  | _ => []

def Blk.live : Blk → Bool
  | .dead => false
  | _ => true
def close (H : Heap) : Nat → List Nat → List Nat → List Nat
  | 0, _, acc => acc
  | _ + 1, [], acc => acc
  | n + 1, id :: todo, acc =>
    if acc.contains id then close H n todo acc
    else match H[id]? with
      | some .dead => close H n todo acc
      | some b => close H n (todo ++ b.ids) (acc ++ [id])
      | none => close H n todo acc

def rho (ids : List Nat) (id : Nat) : Option Nat := ids.idxOf? id

def pickB (H : Heap) (ids : List Nat) : List Nat → List Blk
  | [] => []
  | id :: r => (match H[id]? with | some b => b.ren (rho ids) | none => .dead) :: pickB H ids r
def keep (live : List Nat) : Fr → Fr
  | [] => []
  | (s, v) :: r => if live.contains s then (s, v) :: keep live r else keep live r

def Fr.vals : Fr → List V
  | [] => []
  | (_, v) :: r => v :: Fr.vals r

def Fr.ren (r : Nat → Option Nat) : Fr → Fr
  | [] => []
  | (s, v) :: q => (s, V.ren r v) :: Fr.ren r q

def gcIds (H : Heap) (vs : List V) : List Nat := close H 60 (V.idss vs) []

def gcFr (gc : Bool) (live : List Nat) (s : Fr × Heap) : Fr × Heap :=
  let fr := keep live s.1
  if gc then
    let ids := gcIds s.2 fr.vals
    (fr.ren (rho ids), pickB s.2 ids ids)
  else (fr, s.2)

def gcV (v : V) (H : Heap) : V × Heap :=
  let ids := gcIds H [v]
  (v.ren (rho ids), pickB H ids ids)


def one : List T → T
  | [t] => t
  | ts => .agg ts

def rdL (g : V → Option (T × List (Nat × Blk))) : List V → Option (List T × List (Nat × Blk))
  | [] => some ([], [])
  | v :: vs => match g v with
    | none => none
    | some (t, l) => match rdL g vs with
      | none => none
      | some (ts, l') => some (t :: ts, l ++ l')

def rd (H : Heap) : Nat → V → Option (T × List (Nat × Blk))
  | 0, _ => none
  | n + 1, v =>
    match v with
    | .t t => some (t, [])
    | .ref id off len => match H[id]? with
      | some (.pure sz xs) => some (.lst sz ((xs.drop off).take len), [(id, .froz sz xs)])
      | some (.froz sz xs) => some (.lst sz ((xs.drop off).take len), [])
      | _ => none
    | .ptr id 0 0 => match H[id]? with
      | some (.box sz vs) => match rdL (rd H n) vs with
        | some (ts, l) => if 0 < sz ∧ sz = ts.length ∧ ts.all T.one then some (.ptr (one ts), (id, .froz sz [one ts]) :: l) else none
        | none => none
      | some (.froz sz [t]) => if sz = t.cells.length then some (.ptr t, []) else none
      | _ => none
    | .rptr t 0 => some (.ptr t, [])
    | .agg vs => match rdL (rd H n) vs with
      | some (ts, l) => some (.agg ts, l)
      | none => none
    | .clo f a b => match rdL (rd H n) a with
      | none => none
      | some (ta, l) => match rdL (rd H n) b with
        | none => none
        | some (tb, l') => some (.clo f ta tb, l ++ l')
    | _ => none

def frz (H : Heap) : List (Nat × Blk) → Heap
  | [] => H
  | (id, b) :: l => frz (H.set id b) l

def depth : Nat := 6


def T.sc : T → Bool
  | .int .. | .bool _ | .str _ | .nil | .nilf => true
  | _ => false
def T.flat : T → Bool
  | .agg xs => xs.all T.sc
  | t => t.sc
def V.fl0 : V → Bool
  | .any => true
  | .t x => x.flat
  | .ref .. => true
  | _ => false
def V.fl1 : V → Bool
  | .agg vs => vs.all V.fl0
  | v => v.fl0
def V.flat : V → Bool
  | .tup vs => vs.all V.fl1
  | v => v.fl1
def Blk.flat : Blk → Bool
  | .dead => true
  | .pure _ xs => xs.all T.flat
  | .box _ vs => vs.all V.fl0
  | _ => false


def A.ev (fr : Fr) : A → V
  | .v t => fr.get t
  | .k x => .t x

def A.evs (fr : Fr) : List A → List V
  | [] => []
  | a :: as => a.ev fr :: A.evs fr as

def evInt (op : BinOp) (k : IntKind) (a b : Int) : Option T :=
  match op with
  | .add => some (.int k (k.wrap (a + b)))
  | .sub => some (.int k (k.wrap (a - b)))
  | .mul => some (.int k (k.wrap (a * b)))
  | .quo => if b = 0 then none else some (.int k (k.wrap (a.tdiv b)))
  | .rem => if b = 0 then none else some (.int k (a.tmod b))
  | .and => some (.int k (k.wrap (BitVec.ofInt k.bits a &&& BitVec.ofInt k.bits b).toNat))
  | .or => some (.int k (k.wrap (BitVec.ofInt k.bits a ||| BitVec.ofInt k.bits b).toNat))
  | .xor => some (.int k (k.wrap (BitVec.ofInt k.bits a ^^^ BitVec.ofInt k.bits b).toNat))
  | .andNot => some (.int k (k.wrap (BitVec.ofInt k.bits a &&& ~~~(BitVec.ofInt k.bits b)).toNat))
  | .eql => some (.bool (a == b))
  | .neq => some (.bool (a != b))
  | .lss => some (.bool (decide (a < b)))
  | .leq => some (.bool (decide (a ≤ b)))
  | .gtr => some (.bool (decide (a > b)))
  | .geq => some (.bool (decide (a ≥ b)))
  | _ => none

def evStr (op : BinOp) (a b : ByteArray) : Option T :=
  match op with
  | .add => if a.size + b.size ≤ 2 ^ 40 then some (.str (a ++ b)) else none
  | .eql => some (.bool (a.toList == b.toList))
  | .neq => some (.bool (!(a.toList == b.toList)))
  | _ => none
def V.isNil : V → Option Bool
  | .t .nil => some true
  | .t (.lst _ xs) => if xs.length = 0 then none else some false
  | .ref _ _ n => if n = 0 then none else some false
  | _ => none
def V.isNilf : V → Option Bool
  | .t .nilf => some true
  | .t (.clo ..) => some false
  | .clo .. => some false
  | _ => none

def evEq (kd : EqK) (x y : V) : Option Bool :=
  match kd, x, y with
  | .bool, .t (.bool a), .t (.bool b) => some (a == b)
  | .slice, x, .t .nil => x.isNil
  | .func, x, .t .nilf => x.isNilf
  | .slice, .t .nil, y => y.isNil
  | .func, .t .nilf, y => y.isNilf
  | _, _, _ => none

def evBin (op : BinOp) (kd : EqK) (x y : V) : Option T :=
  match x, y with
  | .t (.int k a), .t (.int k' b) =>
    match op with
    | .shl => if b < 0 then none else some (.int k (k.wrap (a * 2 ^ (min b.toNat k.bits))))
    | .shr => if b < 0 then none else some (.int k (a.fdiv (2 ^ (min b.toNat k.bits))))
    | op => if k = k' then evInt op k a b else none
  | .t (.str a), .t (.str b) => evStr op a b
  | x, y => match op with
    | .eql => (evEq kd x y).map .bool
    | .neq => (evEq kd x y).map fun b => .bool (!b)
    | _ => none

def evUn (op : UnOp) (x : V) : Option T :=
  match op, x with
  | .neg, .t (.int k n) => some (.int k (k.wrap (0 - n)))
  | .not, .t (.bool b) => some (.bool (!b))
  | _, _ => none

def bytesT (s : ByteArray) : List T := s.data.toList.map fun b => .int .u8 b.toNat

def splice {α : Type} (cs : List α) (o : Nat) (xs : List α) : List α := cs.take o ++ xs ++ cs.drop (o + xs.length)

def T.upd (u : T) (c : Nat) (xs : List T) : T :=
  match u with
  | .agg cs => .agg (splice cs c xs)
  | u => match xs with | [x] => x | _ => u
def T.part (t : T) (agg : Bool) (c size : Nat) : Option V :=
  if agg then (if c + size ≤ t.cells.length then some (.t (.agg ((t.cells.drop c).take size))) else none)
  else t.cells[c]?.map .t

def evLd (H : Heap) (agg : Bool) (size : Nat) : V → Option V
  | .rptr t c => t.part agg c size
  | .t (.ptr t) => t.part agg 0 size
  | .ptr id i c => match H[id]? with
    | some (.pure _ xs) => match xs[i]? with | some t => t.part agg c size | none => none
    | some (.froz _ xs) => match xs[i]? with | some t => t.part agg c size | none => none
    | some (.box sz vs) =>
      if agg then (if i * sz + c + size ≤ vs.length then some (.agg ((vs.drop (i * sz + c)).take size)) else none)
      else vs[i * sz + c]?
    | _ => none
  | _ => none

def evSt (H : Heap) (size : Nat) (a x : V) : Option Heap :=
  match a with
  | .ptr id i c => match H[id]? with
    | some (.box sz vs) => match x.cells with
      | some cs => if cs.length = size ∧ i * sz + c + size ≤ vs.length ∧ cs.all V.one then some (H.set id (.box sz (splice vs (i * sz + c) cs))) else none
      | none => none
    | some (.pure sz xs) => match rd H depth x, xs[i]? with
      | some (t, l), some u =>
        if t.cells.length = size ∧ c + size ≤ u.cells.length ∧ t.cells.all T.one ∧ (l.map (·.1)).contains id = false then some ((frz H l).set id (.pure sz (xs.set i (u.upd c t.cells)))) else none
      | _, _ => none
    | _ => none
  | _ => none

def fillV : List V → List (Nat × Nat × V) → Option (List V)
  | vs, [] => some vs
  | vs, (o, n, x) :: r => match x.cells with
    | some cs => if cs.length = n ∧ o + n ≤ vs.length then fillV (splice vs o cs) r else none
    | none => none

def fillT (sz : Nat) : List T → List (Nat × T) → Option (List T)
  | xs, [] => some xs
  | xs, (i, t) :: r => if t.el sz ∧ i < xs.length then fillT sz (xs.set i t) r else none

def lim : Nat := 2 ^ 36
def elems (H : Heap) (sz : Nat) : V → Option (List T)
  | .t .nil => some []
  | .t (.lst s xs) => if s = sz then some xs else none
  | .t (.str s) => if sz = 1 then some (bytesT s) else none
  | .ref id off len => match H[id]? with
    | some (.pure s xs) => if s = sz then some ((xs.drop off).take len) else none
    | some (.froz s xs) => if s = sz then some ((xs.drop off).take len) else none
    | _ => none
  | _ => none
def elemsV (H : Heap) (sz : Nat) : V → Option (List V)
  | .ref id off len => match H[id]? with
    | some (.box s vs) => if s = sz then some ((vs.drop (off * sz)).take (len * sz)) else none
    | _ => none
  | _ => none

def evApp (H : Heap) (sz : Nat) (x y : V) : Option (V × Heap) :=
  match elems H sz y with
  | none => none
  | some ys => match x with
    | .t .nil => if ys.length ≤ lim then some (.ref H.length 0 ys.length, H ++ [.pure sz ys]) else none
    | .ref id 0 len => match H[id]? with
      | some (.pure s xs) =>
        if s = sz then
          if len = xs.length then
            if xs.length + ys.length ≤ lim then some (.ref H.length 0 (xs.length + ys.length), H.set id .dead ++ [.pure sz (xs ++ ys)]) else none
          else if len + ys.length ≤ xs.length then some (.ref id 0 (len + ys.length), H.set id (.pure sz (splice xs len ys))) else none
        else none
      | _ => none
    | _ => none

def evAppM (H : Heap) (sz : Nat) (x y : V) : Option (V × Heap) :=
  match elemsV H sz y with
  | none => none
  | some ys => match x with
    | .ref id 0 len => match H[id]? with
      | some (.box s vs) =>
        if s = sz ∧ len * sz = vs.length ∧ ys.length % sz = 0 ∧ vs.length + ys.length ≤ lim ∧ ys.all V.one ∧ 0 < ys.length then some (.ref H.length 0 (len + ys.length / sz), H.set id .dead ++ [.box sz (vs ++ ys)]) else none
      | _ => none
    | _ => none

def evCpy (H : Heap) (sz : Nat) (x y : V) : Option (V × Heap) :=
  match elems H sz y with
  | none => none
  | some ys => match x with
    | .ref id off len => match H[id]? with
      | some (.pure s xs) =>
        if s = sz ∧ off + len ≤ xs.length then some (.t (.int .i64 (min ys.length len : Nat)), H.set id (.pure sz (splice xs off (ys.take len)))) else none
      | _ => none
    | _ => none

def evClr (H : Heap) (sz : Nat) (z : T) (x : V) : Option (V × Heap) :=
  match x with
  | .ref id off len => match H[id]? with
    | some (.pure s xs) => if s = sz ∧ off + len ≤ xs.length then some (.tup [], H.set id (.pure sz (splice xs off (List.replicate len z)))) else none
    | _ => none
  | _ => none

def Blk.sz : Blk → Option Nat
  | .pure s _ => some s
  | .froz s _ => some s
  | .box s _ => some s
  | _ => none

def evIxa (H : Heap) (sz : Nat) (x i : V) : Option V :=
  match i with
  | .t (.int _ n) => match x with
    | .ref id off len => match H[id]? with
      | some b => match b.sz with
        | some s => if s = sz ∧ 0 ≤ n ∧ n < len then some (.ptr id (off + n.toNat) 0) else none
        | none => none
      | none => none
    | .t (.lst s xs) => if s = sz ∧ 0 ≤ n then (match xs[n.toNat]? with | some t => some (.rptr t 0) | none => none) else none
    | _ => none
  | _ => none

def bound (d : Nat) : Option V → Option Nat
  | none => some d
  | some (.t (.int _ n)) => if 0 ≤ n then some n.toNat else none
  | _ => none

def evSlc (H : Heap) (sz : Nat) (x : V) (lo hi : Option V) : Option V :=
  match x with
  | .ref id off len => match H[id]? with
    | some b => match b.sz with
      | some s => match bound 0 lo, bound len hi with
        | some l, some h => if s = sz ∧ l ≤ h ∧ h ≤ len then some (.ref id (off + l) (h - l)) else none
        | _, _ => none
      | none => none
    | none => none
  | .t (.lst s xs) => match bound 0 lo, bound xs.length hi with
    | some l, some h => if s = sz ∧ l ≤ h ∧ h ≤ xs.length then some (.t (.lst sz ((xs.drop l).take (h - l)))) else none
    | _, _ => none
  | .t .nil => match bound 0 lo, bound 0 hi with
    | some 0, some 0 => some (.t .nil)
    | _, _ => none
  | _ => none

def evSls (x : V) (lo hi : Option V) : Option V :=
  match x with
  | .t (.str s) => match bound 0 lo, bound s.size hi with
    | some l, some h => if l ≤ h ∧ h ≤ s.size then some (.t (.str (s.extract l h))) else none
    | _, _ => none
  | _ => none

def evFad (off : Nat) : V → Option V
  | .ptr id i c => some (.ptr id i (c + off))
  | .rptr t c => some (.rptr t (c + off))
  | .t (.ptr t) => some (.rptr t off)
  | _ => none

def evFld (agg : Bool) (off size : Nat) : V → Option V
  | .t (.agg xs) => (T.agg xs).part agg off size
  | .agg vs => if agg then (if off + size ≤ vs.length then some (.agg ((vs.drop off).take size)) else none) else vs[off]?
  | _ => none

def evLen (H : Heap) (k : Nat) : V → Option Int
  | .ref _ _ len => if k = 1 then some len else none
  | .t (.lst _ xs) => if k = 1 then some xs.length else none
  | .t .nil => if k = 1 then some 0 else none
  | .t (.str s) => if k = 0 then some s.size else none
  | .map id => if k = 2 then (match H[id]? with
    | some (.map es) => some es.length
    | _ => none) else none
  | _ => none

def keyEq : Nat → T → T → Option Bool
  | 0, .int k a, .int k' b => if k = k' then some (a == b) else none
  | 1, .str a, .str b => some (a == b)
  | 2, .bool a, .bool b => some (a == b)
  | _, _, _ => none

def findT (kk : Nat) (k : T) : List (T × T) → Nat → Option (Option (Nat × T))
  | [], _ => some none
  | (k', x) :: r, i => match keyEq kk k k' with
    | some true => some (some (i, x))
    | some false => findT kk k r (i + 1)
    | none => none

def keyOk : Nat → T → Bool
  | 0, .int .. => true
  | 1, .str _ => true
  | 2, .bool _ => true
  | _, _ => false

def callM (m : Mode) (g : List V → Heap → Option (V × Heap)) (args : List V) (H : Heap) : Option (V × Heap) :=
  match m with
  | .refM => g args H
  | .ref => match rdArgs args with
    | none => none
    | some (as, l) => g as (frz H l)
  | .own => match rdL (rd H depth) args with
    | none => none
    | some (ts, _) => match g (ts.map .t) [] with
      | none => none
      | some (v, H1) => if (gcV v H1).1.flat && (gcV v H1).2.all Blk.flat then
          some ((gcV v H1).1.ren (fun i => some (H.length + i)), H ++ (gcV v H1).2.map (Blk.ren fun i => some (H.length + i))) else none
  | .ownF => match rdL (rd H depth) args with
    | none => none
    | some (ts, l) => match g (ts.map .t) [] with
      | none => none
      | some (v, H1) => some ((gcV v H1).1.ren (fun i => some (H.length + i)), frz H l ++ (gcV v H1).2.map (Blk.ren fun i => some (H.length + i)))
where
  rdArgs : List V → Option (List V × List (Nat × Blk))
    | [] => some ([], [])
    | v :: vs =>
      match (match v with
        | .t _ | .ref .. | .agg _ => (match rd H depth v with | some (t, l) => some (V.t t, l) | none => none)
        | v => some (v, [])) with
      | none => none
      | some (u, l) => match rdArgs vs with
        | none => none
        | some (us, l') => some (u :: us, l ++ l')

def evCall (E : Env) (rec : Rec) (f : FuncId) (args : List V) (H : Heap) : Option (V × Heap) :=
  match E f with
  | none => none
  | some (.prim m s) => callM m s args H
  | some (.ir F) => callM F.mode (rec f) args H
def tsF : List V → Option (List T)
  | [] => some []
  | .t x :: vs => match tsF vs with
    | some ts => some (x :: ts)
    | none => none
  | _ :: _ => none
def tsAll : List V → Option (List T)
  | [] => some []
  | .t x :: vs => match tsAll vs with
    | some ts => some (x :: ts)
    | none => none
  | .agg us :: vs => match tsF us with
    | some xs => match tsAll vs with
      | some ts => some (.agg xs :: ts)
      | none => none
    | none => none
  | _ :: _ => none

def evO (E : Env) (rec : Rec) (fr : Fr) (H : Heap) : O → Option (V × Heap)
  | .mv x => some (x.ev fr, H)
  | .pick c a b => match c.ev fr with
    | .t (.bool c) => some (bif c then a.ev fr else b.ev fr, H)
    | _ => none
  | .alc sz zero => some (.ptr H.length 0 0, H ++ [.box sz (zero.map .t)])
  | .box x => match (x.ev fr).cells with
    | some cs => some (.ptr H.length 0 0, H ++ [.box cs.length cs])
    | none => none
  | .bld zero parts => match fillV (zero.map .t) (parts.map fun p => (p.1, p.2.1, p.2.2.ev fr)) with
    | some vs => some (.agg vs, H)
    | none => none
  | .bsl false sz n zero parts => match rdL (rd H depth) (parts.map fun p => p.2.ev fr) with
    | none => none
    | some (ts, l) => match fillT sz (List.replicate n zero) ((parts.map (·.1)).zip ts) with
      | none => none
      | some xs => some (.ref H.length 0 n, frz H l ++ [.pure sz xs])
  | .bsl true sz n zero parts => match fillV (List.replicate n (zero.cells.map V.t)).flatten (parts.map fun p => (p.1 * sz, sz, p.2.ev fr)) with
    | none => none
    | some vs => some (.ref H.length 0 n, H ++ [.box sz vs])
  | .bsf sz n zero parts => match tsAll (parts.map fun p => p.2.ev fr) with
    | none => none
    | some ts => match fillT sz (List.replicate n zero) ((parts.map (·.1)).zip ts) with
      | none => none
      | some xs => some (.t (.lst sz xs), H)
  | .msf sz zero l c => match l.ev fr, c.ev fr with
    | .t (.int _ l), .t (.int _ c) => if 0 ≤ l ∧ l ≤ c ∧ c ≤ lim then some (.t (.lst sz (List.replicate l.toNat zero)), H) else none
    | _, _ => none
  | .ld agg size a => match evLd H agg size (a.ev fr) with
    | some v => some (v, H)
    | none => none
  | .st size a x => match evSt H size (a.ev fr) (x.ev fr) with
    | some H' => some (.any, H')
    | none => none
  | .nck x => match x.ev fr with
    | .ptr id i c => some (.ptr id i c, H)
    | .rptr t c => some (.rptr t c, H)
    | .t (.ptr t) => some (.t (.ptr t), H)
    | _ => none
  | .bin op kd x y => match evBin op kd (x.ev fr) (y.ev fr) with
    | some t => some (.t t, H)
    | none => none
  | .un op x => match evUn op (x.ev fr) with
    | some t => some (.t t, H)
    | none => none
  | .cnv c x => match c, x.ev fr with
    | .int k, .t (.int _ n) => some (.t (.int k (k.wrap n)), H)
    | .same, .t (.str s) => some (.t (.str s), H)
    | _, _ => none
  | .mkf f a b => some (.clo f (A.evs fr a) (A.evs fr b), H)
  | .mks sz zero l c => match l.ev fr, c.ev fr with
    | .t (.int _ l), .t (.int _ c) => if 0 ≤ l ∧ l ≤ c ∧ c ≤ lim then some (.ref H.length 0 l.toNat, H ++ [.pure sz (List.replicate l.toNat zero)]) else none
    | _, _ => none
  | .slc sz x lo hi => match evSlc H sz (x.ev fr) (lo.map (·.ev fr)) (hi.map (·.ev fr)) with
    | some v => some (v, H)
    | none => none
  | .sls x lo hi => match evSls (x.ev fr) (lo.map (·.ev fr)) (hi.map (·.ev fr)) with
    | some v => some (v, H)
    | none => none
  | .fad off a => match evFad off (a.ev fr) with
    | some v => some (v, H)
    | none => none
  | .fld agg off size x => match evFld agg off size (x.ev fr) with
    | some v => some (v, H)
    | none => none
  | .ixa sz x i => match evIxa H sz (x.ev fr) (i.ev fr) with
    | some v => some (v, H)
    | none => none
  | .idx x i => match x.ev fr, i.ev fr with
    | .t (.str s), .t (.int _ n) => if 0 ≤ n then (match s[n.toNat]? with | some b => some (.t (.int .u8 b.toNat), H) | none => none) else none
    | _, _ => none
  | .ext x i => match x.ev fr with
    | .tup vs => match vs[i]? with
      | some v => some (v, H)
      | none => none
    | _ => none
  | .call f args => evCall E rec f (A.evs fr args) H
  | .callv f args => match f.ev fr with
    | .clo f a b => evCall E rec f (a ++ A.evs fr args ++ b) H
    | .t (.clo f a b) => evCall E rec f (a.map .t ++ A.evs fr args ++ b.map .t) H
    | _ => none
  | .len k x => match evLen H k (x.ev fr) with
    | some n => some (.t (.int .i64 n), H)
    | none => none
  | .app false sz x y => evApp H sz (x.ev fr) (y.ev fr)
  | .app true sz x y => evAppM H sz (x.ev fr) (y.ev fr)
  | .cpy sz x y => evCpy H sz (x.ev fr) (y.ev fr)
  | .clr sz z x => evClr H sz z (x.ev fr)
  | .mx isMax x y => match x.ev fr, y.ev fr with
    | .t (.int k a), .t (.int _ b) => some (.t (.int k (if isMax then (if b > a then b else a) else (if b < a then b else a))), H)
    | _, _ => none
  | .mkm => some (.map H.length, H ++ [.map []])
  | .lkp kk ok zero m k => match m.ev fr, k.ev fr with
    | .map id, .t k => match H[id]? with
      | some (.map es) => if keyOk kk k = false then none else match findT kk k es 0 with
        | some (some (_, x)) => some (if ok then .tup [.t x, .t (.bool true)] else .t x, H)
        | some none => some (if ok then .tup [.t zero, .t (.bool false)] else .t zero, H)
        | none => none
      | _ => none
    | _, _ => none
  | .mup kk m k x => match m.ev fr, k.ev fr, x.ev fr with
    | .map id, .t k, .t x => match H[id]? with
      | some (.map es) => if keyOk kk k = false then none else match findT kk k es 0 with
        | some (some (i, _)) => some (.any, H.set id (.map (es.set i (k, x))))
        | some none => some (.any, H.set id (.map (es ++ [(k, x)])))
        | none => none
      | _ => none
    | _, _, _ => none
  | .bad => none

inductive Cls where
  | p | rd (id : Nat) | q | w (id : Nat) | l | x (same : Nat → Bool) | f
  deriving Inhabited

def cls (E : Env) (fr : Fr) (H : Heap) : O → Cls
  | .bsf .. | .msf .. => .f
  | .alc .. | .box _ | .mks .. | .mkm => .q
  | .bsl true .. => .q
  | .bsl false _ _ _ parts => match rdL (rd H depth) (parts.map fun p => p.2.ev fr) with
    | some (_, []) => .q
    | _ => .l
  | .ld _ _ a => match a.ev fr with
    | .ptr id _ _ => .rd id
    | _ => .p
  | .len _ a => match a.ev fr with
    | .map id => .rd id
    | _ => .p
  | .ixa _ x _ | .slc _ x _ _ => match x.ev fr with
    | .ref id _ _ => .rd id
    | _ => .p
  | .lkp _ _ _ m _ => match m.ev fr with
    | .map id => .rd id
    | _ => .p
  | .call f _ => match E f with
    | some F => match F.mode with
      | .own => .q
      | _ => .l
    | none => .l
  | .app false _ x _ => match x.ev fr with
    | .ref id _ _ => .w id
    | .t .nil => .q
    | _ => .l
  | .st _ a x => match a.ev fr with
    | .ptr id _ _ => match H[id]? with
      | some (.box ..) => .w id
      | some (.pure ..) => match x.ev fr with
        | .t _ => .w id
        | _ => .l
      | _ => .l
    | _ => .l
  | .callv .. | .app .. | .cpy .. | .clr .. | .mup .. | .bad => .l
  | _ => .p

def wantedI (fr : Fr) (i : I) : Option Bool :=
  match i.grd with
  | none => some true
  | some (s, b) => match fr.get s with
    | .t (.bool c) => some (c == b)
    | .tup _ => some false
    | _ => none

def putD (fr : Fr) : Option Nat → V → Fr
  | none, _ => fr
  | some d, v => fr.put d v

def evI (E : Env) (rec : Rec) (s : Fr × Heap) (i : I) : Option (Fr × Heap) :=
  match wantedI s.1 i with
  | none => none
  | some false => some (putD s.1 i.dst (.tup []), s.2)
  | some true => match evO E rec s.1 s.2 i.op with
    | none => none
    | some (v, H) => some (putD s.1 i.dst v, H)

def evIs (E : Env) (rec : Rec) : List I → Fr × Heap → Option (Fr × Heap)
  | [], s => some s
  | i :: is, s => match evI E rec s i with
    | none => none
    | some s' => evIs E rec is s'

open Classical in
noncomputable def sameB (H H' : Heap) (id : Nat) : Bool := decide (∀ x, H[id]? = some x → H'[id]? = some x)
theorem sameB_get {H H' : Heap} {id : Nat} (h : sameB H H' id = true) {x : Blk} (hx : H[id]? = some x) : H'[id]? = some x := by
  unfold sameB at h
  exact (by simpa using h : ∀ x, H[id]? = some x → H'[id]? = some x) x hx
theorem sameB_of {H H' : Heap} {id : Nat} {x : Blk} (h : H[id]? = some x) (h' : H'[id]? = some x) : sameB H H' id = true := by
  unfold sameB
  simp only [decide_eq_true_eq]
  intro y hy
  rw [h] at hy; cases hy; exact h'
noncomputable def dynC (H H' : Heap) : Cls → Cls
  | .l => .x (sameB H H')
  | .x _ => .x (sameB H H')
  | c => c
noncomputable def clsI (E : Env) (s s' : Fr × Heap) (i : I) : Cls :=
  dynC s.2 s'.2 (match wantedI s.1 i with
  | some true => cls E s.1 s.2 i.op
  | _ => .p)
noncomputable def evT (E : Env) (rec : Rec) : List I → Fr × Heap → Option ((Fr × Heap) × List Cls)
  | [], s => some (s, [])
  | i :: is, s => match evI E rec s i with
    | none => none
    | some s' => match evT E rec is s' with
      | none => none
      | some (s'', cs) => some (s'', clsI E s s' i :: cs)
def Cls.free : Cls → Cls → Bool
  | .p, _ | _, .p => true
  | .f, _ | _, .f => true
  | .rd _, .rd _ | .rd _, .q | .q, .rd _ | .q, .q => true
  | .rd a, .w b | .w b, .rd a => a != b
  | .rd a, .x s | .x s, .rd a => s a
  | _, _ => false
def okWith (c : Cls) (i : Nat) : List Nat → List Cls → Bool
  | b :: bs, d :: ds => (c.free d || b.testBit i) && okWith c i bs ds
  | _, _ => true
def okDraw : Nat → List Nat → List Cls → Bool
  | i, _ :: bs, c :: cs => okWith c i bs cs && okDraw (i + 1) bs cs
  | _, _, _ => true


inductive Ex where
  | norm | exit (id : Nat) | ret
  deriving DecidableEq, Inhabited

abbrev Out := Ex × Fr × Heap

def iter (gc : Bool) (live : List Nat) (g : Fr × Heap → Option Out) : Nat → Fr × Heap → Option Out
  | 0, _ => none
  | n + 1, s => match g s with
    | some (.norm, s') => iter gc live g n (gcFr gc live s')
    | r => r

noncomputable def exec (E : Env) (rec : Rec) (n : Nat) : C → Fr × Heap → Option Out
  | .skip, s => some (.norm, s)
  | .reg false _ is, s => match evIs E rec is s with
    | none => none
    | some s' => some (.norm, s')
  | .reg true bits is, s => match evT E rec is s with
    | none => none
    | some (s', cs) => if okDraw 0 bits cs then some (.norm, s') else none
  | .seq a b, s => match exec E rec n a s with
    | some (.norm, s') => exec E rec n b s'
    | r => r
  | .cond c a b, s => match c.ev s.1 with
    | .t (.bool t) => if t then exec E rec n a s else exec E rec n b s
    | _ => none
  | .block id c, s => match exec E rec n c s with
    | some (.exit j, s') => if j = id then some (.norm, s') else some (.exit j, s')
    | r => r
  | .loop gc live c, s => iter gc live (exec E rec n c) n (gcFr gc live s)
  | .exit id, s => some (.exit id, s)
  | .ret, s => some (.ret, s)
  | .bad, _ => none

def resV (fr : Fr) (H : Heap) : List R → Option (List V)
  | [] => some []
  | .tmp t :: r => match resV fr H r with
    | some vs => some (fr.get t :: vs)
    | none => none
  | .cell a agg size :: r => match evLd H agg size (fr.get a), resV fr H r with
    | some v, some vs => some (v :: vs)
    | _, _ => none

def resOf : List V → V
  | [v] => v
  | vs => .tup vs

def frameOf : Nat → List V → Fr
  | _, [] => []
  | i, v :: vs => (i, v) :: frameOf (i + 1) vs

noncomputable def run (E : Env) : Nat → Rec
  | 0 => fun _ _ _ => none
  | n + 1 => fun f args H => match E f with
    | some (.ir F) =>
      if args.length = F.nargs ∧ ((F.mode == .own || F.mode == .ownF) = false ∨ H.length = 0) then
        match exec E (run E n) n F.body (frameOf 0 args, H) with
        | some (.norm, fr, H') | some (.ret, fr, H') => match resV fr H' F.res with
          | some vs => some (resOf vs, H')
          | none => none
        | _ => none
      else none
    | _ => none

end Go.Proofs.Ytanlmanifpknoaa.Ev
namespace Go.Proofs.Ytanlmanifpknoaa.Ev
inductive Mx where
  | no | yes | fz
  deriving DecidableEq, Inhabited
def Mx.m : Mx → Bool
  | .yes => true
  | _ => false
def Mx.at (mix : Mx) (draw : Bool) : Mx := match mix with
  | .fz => if draw then .fz else .no
  | m => m
def Mx.f : Mx → Bool
  | .fz => true
  | _ => false
open Go

def tOf : Value → Option T
  | .int k n => some (.int k n)
  | .bool b => some (.bool b)
  | .string s => some (.str s)
  | .slice none 0 0 => some .nil
  | .nilFunc => some .nilf
  | _ => none

def tsOf : List Value → Option (List T)
  | [] => some []
  | v :: vs => match tOf v, tsOf vs with
    | some t, some ts => some (t :: ts)
    | _, _ => none

def tOfV : Value → Option T
  | .agg cs => (tsOf cs.toList).map .agg
  | v => tOf v

def opd : Operand → Option A
  | .tmp t => some (.v t)
  | .const v => (tOfV v).map .k
  | .func f => some (.k (.clo f [] []))
  | .global _ => none

def opds : List Operand → Option (List A)
  | [] => some []
  | x :: xs => match opd x, opds xs with
    | some a, some as => some (a :: as)
    | _, _ => none

section
variable (P : Program)

def aggD : TypeDesc → Bool
  | .struct _ | .array .. => true
  | _ => false
def aggT (t : TypeId) : Option Bool := (P.underlying t).map aggD
def szT (t : TypeId) : Option Nat := (P.info? t).map (·.size)
def zeroT (t : TypeId) : Option (List T) := match (P.info? t).bind (·.zero) with
  | some z => tsOf z.cells.toList
  | none => none
def elemT (t : TypeId) : Option T := match (P.info? t).bind (·.zero) with
  | some z => tOfV z
  | none => none
def okBytes (t : TypeId) : Bool := match P.info? t with | some i => decide (i.bytes ≤ 1024) | none => false

def eqk (op : BinOp) (t : TypeId) : Option EqK := match op with
  | .eql | .neq => match P.underlying t with
    | some (.int _) | some .string => some .none
    | some .bool => some .bool
    | some (.slice _) => some .slice
    | some (.func ..) => some .func
    | _ => Option.none
  | _ => some .none

def placesT : List Field → Option (List (Nat × Nat))
  | [] => some []
  | f :: r => match szT P f.type, placesT r with
    | some n, some q => some ((f.offset, n) :: q)
    | _, _ => none

def partsB (places : List (Nat × Nat)) : List (Nat × Operand) → Option (List (Nat × Nat × A))
  | [] => some []
  | (i, x) :: r => match places[i]?, opd x, partsB places r with
    | some p, some a, some q => some ((p.1, p.2, a) :: q)
    | _, _, _ => none

def partsS : List (Nat × Operand) → Option (List (Nat × A))
  | [] => some []
  | (i, x) :: r => match opd x, partsS r with
    | some a, some q => some ((i, a) :: q)
    | _, _ => none

def keyK (t : TypeId) : Option Nat := match P.underlying t with | some (.int _) => some 0 | some .string => some 1 | some .bool => some 2 | _ => none
def keyB (t : TypeId) : Bool := (keyK P t).isSome
def compO (mix : Mx) (o : Oper) : Option O :=
  match o.op with
  | .move x | .assign x => (opd x).map .mv
  | .pick c a b => match opd c, opd a, opd b with
    | some c, some a, some b => some (.pick c a b)
    | _, _, _ => none
  | .alloc e => match szT P e, zeroT P e with
    | some n, some z => if z.length = n then some (.alc n z) else none
    | _, _ => none
  | .box _ x => (opd x).map .box
  | .build t ps => match P.underlying t, zeroT P t with
    | some (.struct fs), some z => match placesT P fs.toList with
      | some pl => (partsB pl ps.toList).map (.bld z)
      | none => none
    | _, _ => none
  | .buildSlice t n ps => match P.underlying t with
    | some (.slice e) => match szT P e, elemT P e, partsS ps.toList with
      | some s, some z, some q => if 0 < s ∧ z.el s ∧ n * s ≤ 2 ^ 24 then some (if mix.f then .bsf s n z q else .bsl (mix.m && !keyB P e) s n z q) else none
      | _, _, _ => none
    | _ => none
  | .load t a => match opd a, szT P t, aggT P t with
    | some a, some n, some g => some (.ld g n a)
    | _, _, _ => none
  | .store t a x => match opd a, opd x, szT P t with
    | some a, some x, some n => some (.st n a x)
    | _, _, _ => none
  | .nilCheck x => (opd x).map .nck
  | .binOp op t x y _ => match opd x, opd y, eqk P op t with
    | some x, some y, some k => some (.bin op k x y)
    | _, _, _ => none
  | .unOp op _ x => (opd x).map (.un op)
  | .convert s d x => match P.underlying s, P.underlying d, opd x with
    | some (.int _), some (.int k), some x => some (.cnv (.int k) x)
    | some .string, some .string, some x => some (.cnv .same x)
    | _, _, _ => none
  | .makeFunc (.func f) a b => match opds a.toList, opds b.toList with
    | some a, some b => some (.mkf f a b)
    | _, _ => none
  | .makeSlice t l c => match P.underlying t with
    | some (.slice e) => match szT P e, elemT P e, opd l, opd c with
      | some s, some z, some l, some c => if 0 < s ∧ z.el s ∧ okBytes P e then some (if mix.f then .msf s z l c else .mks s z l c) else none
      | _, _, _, _ => none
    | _ => none
  | .slice t x lo hi none => match opd x, lo.map opd, hi.map opd with
    | some x, lo, hi => match P.underlying t with
      | some (.slice e) => match (szT P e).filter (0 < ·), lo, hi with
        | some s, none, none => some (.slc s x none none)
        | some s, some (some l), none => some (.slc s x (some l) none)
        | some s, none, some (some h) => some (.slc s x none (some h))
        | some s, some (some l), some (some h) => some (.slc s x (some l) (some h))
        | _, _, _ => none
      | some .string => match lo, hi with
        | none, none => some (.sls x none none)
        | some (some l), none => some (.sls x (some l) none)
        | none, some (some h) => some (.sls x none (some h))
        | some (some l), some (some h) => some (.sls x (some l) (some h))
        | _, _ => none
      | _ => none
    | _, _, _ => none
  | .fieldAddr s x f => match P.underlying s, opd x with
    | some (.struct fs), some x => match fs[f]? with
      | some f => match szT P f.type with
        | some n => if 0 < n then some (.fad f.offset x) else none
        | none => none
      | none => none
    | _, _ => none
  | .field s x f => match P.underlying s, opd x with
    | some (.struct fs), some x => match fs[f]? with
      | some f => match szT P f.type, aggT P f.type with
        | some n, some g => some (.fld g f.offset n x)
        | _, _ => none
      | none => none
    | _, _ => none
  | .indexAddr t x i => match P.underlying t, opd x, opd i with
    | some (.slice e), some x, some i => (szT P e).map fun s => .ixa s x i
    | _, _, _ => none
  | .index t x i => match P.underlying t, opd x, opd i with
    | some .string, some x, some i => some (.idx x i)
    | _, _, _ => none
  | .extract x i => (opd x).map (.ext · i)
  | .lookup t x k ok => match P.underlying t, opd x, opd k with
    | some (.map kt et), some x, some k => match elemT P et, keyK P kt with
      | some z, some kk => some (.lkp kk ok z x k)
      | _, _ => none
    | _, _, _ => none
  | .mapUpdate t m k x => match P.underlying t, opd m, opd k, opd x with
    | some (.map kt _), some m, some k, some x => (keyK P kt).map fun kk => .mup kk m k x
    | _, _, _, _ => none
  | .makeMap _ none => some .mkm
  | .call c => match c.callee with
    | .value (.func f) => match P.funcs[f]?, opds c.args.toList with
      | some fn, some as => if fn.name == "runtime.NumGoroutine" || fn.body.isNone then none else some (.call f as)
      | _, _ => none
    | .value x => match opd x, opds c.args.toList with
      | some x, some as => some (.callv x as)
      | _, _ => none
    | .builtin .len => match c.argTypes[0]?.bind P.underlying, c.args.toList with
      | some .string, [x] => (opd x).map (.len 0)
      | some (.slice _), [x] => (opd x).map (.len 1)
      | some (.map ..), [x] => (opd x).map (.len 2)
      | _, _ => none
    | .builtin .append => match c.argTypes[0]?.bind P.underlying, c.argTypes[1]?.bind P.underlying, c.args.toList with
      | some (.slice e), some d, [x, y] => match szT P e, opd x, opd y, d with
        | _, _, _, .int _ => none
        | some s, some x, some y, _ => if 0 < s ∧ okBytes P e ∧ (zeroT P e).map (·.length) = some s then some (.app (mix.m && !keyB P e) s x y) else none
        | _, _, _, _ => none
      | _, _, _ => none
    | .builtin .copy => match c.argTypes[0]?.bind P.underlying, c.args.toList with
      | some (.slice e), [x, y] => match szT P e, opd x, opd y with
        | some s, some x, some y => if 0 < s then some (.cpy s x y) else none
        | _, _, _ => none
      | _, _ => none
    | .builtin .clear => match c.argTypes[0]?.bind P.underlying, c.args.toList with
      | some (.slice e), [x] => match szT P e, elemT P e, opd x with
        | some s, some z, some x => if 0 < s ∧ z.el s then some (.clr s z x) else none
        | _, _, _ => none
      | _, _ => none
    | .builtin .max => match opds c.args.toList with
      | some [x, y] => some (.mx true x y)
      | _ => none
    | .builtin .min => match opds c.args.toList with
      | some [x, y] => some (.mx false x y)
      | _ => none
    | _ => none
  | _ => none

def A.tmps : A → List Nat
  | .v t => [t]
  | .k _ => []

def O.reads : O → List A
  | .mv x | .box x | .ld _ _ x | .nck x | .un _ x | .cnv _ x | .fad _ x | .fld _ _ _ x | .ext x _ | .len _ x | .clr _ _ x => [x]
  | .pick a b c => [a, b, c]
  | .bld _ ps => ps.map (·.2.2)
  | .bsl _ _ _ _ ps | .bsf _ _ _ ps => ps.map (·.2)
  | .st _ a x | .bin _ _ a x | .mks _ _ a x | .msf _ _ a x | .ixa _ a x | .idx a x | .app _ _ a x | .cpy _ a x | .mx _ a x | .lkp _ _ _ a x => [a, x]
  | .mkf _ a b => a ++ b
  | .slc _ x l h => x :: (l.toList ++ h.toList)
  | .sls x l h => x :: (l.toList ++ h.toList)
  | .call _ as => as
  | .callv f as => f :: as
  | .mup _ a b c => [a, b, c]
  | .alc .. | .mkm | .bad => []

def I.reads (i : I) : List Nat := (match i.grd with | some (s, _) => [s] | none => []) ++ i.op.reads.flatMap A.tmps

def guardOf (ops : Array Oper) (o : Oper) : Option (Option (Nat × Bool)) :=
  match o.guard with
  | none => some none
  | some (j, b) => match (ops[j]?).bind (·.dst) with
    | some s => some (some (s, b))
    | none => none

def compI (mix : Mx) (ops : Array Oper) (o : Oper) : I :=
  match guardOf ops o, compO P mix o with
  | some g, some op => ⟨o.dst, g, op⟩
  | some g, none => ⟨o.dst, g, .bad⟩
  | none, _ => ⟨o.dst, none, .bad⟩
def slotsOk (bits : List Nat) (is : List I) : Bool :=
  is.zipIdx.all fun (i, a) => match i.dst with
    | none => true
    | some d => is.zipIdx.all fun (j, b) => a == b || !(j.dst == some d || j.reads.contains d) || (bits.getD (max a b) 0).testBit (min a b)

def ltN (n : Nat) (is : List I) : Bool := is.all fun i => (match i.dst with | some d => decide (d < n) | none => true)
def edgesOk (ops : Array Oper) : Bool := ops.toList.zipIdx.all fun (o, i) => o.after.all fun e => !Region.binds .any e || decide (e.on < i)

def compC (mix : Mx) (gc : Bool) (n : Nat) : Code → C
  | .skip => .skip
  | .region _ ops draw =>
    let bits := (Region.before ops).toList
    let is := ops.toList.map (compI P (mix.at draw) ops)
    if ltN n is && (!draw || (edgesOk ops && slotsOk bits is && P.follows .mixedOrders)) then .reg draw (if draw then bits else []) is else .bad
  | .seq a b => .seq (compC mix gc n a) (compC mix gc n b)
  | .cond c a b => match opd c with
    | some c => .cond c (compC mix gc n a) (compC mix gc n b)
    | none => .bad
  | .block id c => .block id (compC mix gc n c)
  | .loop c => .loop gc [] (compC mix gc n c)
  | .exit id => .exit id
  | .ret => .ret
  | _ => .bad

end


def ins (x : Nat) : List Nat → List Nat
  | [] => [x]
  | y :: r => if x < y then x :: y :: r else if x = y then y :: r else y :: ins x r
def uni (xs ys : List Nat) : List Nat := xs.foldl (fun l x => ins x l) ys

def liveI (i : I) (out : List Nat) : List Nat :=
  let o := match i.dst with
    | some d => out.filter (· != d)
    | none => out
  uni i.reads o

def liveC (ret : List Nat) : C → List Nat → List (Nat × List Nat) → List Nat
  | .skip, out, _ => out
  | .reg _ _ is, out, _ => is.foldr liveI out
  | .seq a b, out, env => liveC ret a (liveC ret b out env) env
  | .cond c a b, out, env => uni c.tmps (uni (liveC ret a out env) (liveC ret b out env))
  | .block id c, out, env => liveC ret c out ((id, out) :: env)
  | .loop _ _ c, _, env =>
    let x := liveC ret c [] env
    liveC ret c x env
  | .exit id, _, env => (env.lookup id).getD []
  | .ret, _, _ => ret
  | .bad, _, _ => []

def annot (ret : List Nat) : C → List Nat → List (Nat × List Nat) → C
  | .seq a b, out, env => .seq (annot ret a (liveC ret b out env) env) (annot ret b out env)
  | .cond c a b, out, env => .cond c (annot ret a out env) (annot ret b out env)
  | .block id c, out, env => .block id (annot ret c out ((id, out) :: env))
  | .loop gc _ c, _, env =>
    let x := liveC ret c [] env
    let y := liveC ret c x env
    .loop gc y (annot ret c y env)
  | c, _, _ => c

def compR (P : Program) : ResultVar → Option R
  | .tmp t => some (.tmp t)
  | .cell a t => match szT P t, aggT P t with
    | some n, some g => some (.cell a g n)
    | _, _ => none

def compRs (P : Program) : List ResultVar → Option (List R)
  | [] => some []
  | r :: rs => match compR P r, compRs P rs with
    | some x, some xs => some (x :: xs)
    | _, _ => none

def retSlots (rs : List R) : List Nat := uni (rs.map fun | .tmp t => t | .cell a _ _ => a) []

def compF (P : Program) (mode : Mode) (mix : Mx) (f : Func) : Option Fn :=
  match f.body, compRs P f.results.toList with
  | some c, some rs =>
    let gc := mode == .own || mode == .ownF
    let c' := compC P mix gc f.ntmps c
    if f.params.size + f.nfree ≤ f.ntmps then some ⟨mode, f.params.size + f.nfree, f.ntmps, rs, annot (retSlots rs) c' (retSlots rs) []⟩ else none
  | _, _ => none

end Go.Proofs.Ytanlmanifpknoaa.Ev
namespace Go.Proofs.Ytanlmanifpknoaa.Ev
open Go Go.RowKit

structure Loc where
  m : Nat
  sz : Nat
  n : Nat
  room : Nat
  real : Bool := true
def Cel (w : World) (m : Nat) (cs : Array Value) : Prop := ∃ el fr, w.heap[m]? = some (.cells cs el fr)
def Wri (w : World) (m : Nat) (cs : Array Value) : Prop := ∃ el fr, w.heap[m]? = some (.cells cs el fr) ∧ ∀ i, i < cs.size → ¬ (fr.1 ≤ i ∧ i < fr.2)

theorem Wri.cel {w : World} {m : Nat} {cs : Array Value} (h : Wri w m cs) : Cel w m cs := let ⟨el, fr, h, _⟩ := h; ⟨el, fr, h⟩
theorem Cel.same {w w' : World} {m : Nat} {cs : Array Value} (h : Cel w m cs) (e : w'.heap[m]? = w.heap[m]?) : Cel w' m cs := by
  obtain ⟨el, fr, h⟩ := h; exact ⟨el, fr, e.trans h⟩
theorem Wri.same {w w' : World} {m : Nat} {cs : Array Value} (h : Wri w m cs) (e : w'.heap[m]? = w.heap[m]?) : Wri w' m cs := by
  obtain ⟨el, fr, h, k⟩ := h; exact ⟨el, fr, e.trans h, k⟩
theorem Cel.lt {w : World} {m : Nat} {cs : Array Value} (h : Cel w m cs) : m < w.heap.size := by
  obtain ⟨el, fr, h⟩ := h
  rcases Nat.lt_or_ge m w.heap.size with h' | h'
  · exact h'
  · simp [Array.getElem?_eq_none h'] at h
theorem Cel.cell {w : World} {m : Nat} {cs : Array Value} (h : Cel w m cs) (o : Nat) : w.cell? ⟨m, o, none⟩ = cs[o]? := by
  obtain ⟨el, fr, h⟩ := h
  simp [World.cell?, h]
theorem Cel.inj {w : World} {m : Nat} {cs cs' : Array Value} (h : Cel w m cs) (h' : Cel w m cs') : cs = cs' := by
  obtain ⟨el, fr, h⟩ := h; obtain ⟨el', fr', h'⟩ := h'
  rw [h] at h'; cases h'; rfl
theorem Wri.frozen {w : World} {m : Nat} {cs : Array Value} (h : Wri w m cs) (o : Nat) (ho : o < cs.size) : w.frozen? ⟨m, o, none⟩ = false := by
  obtain ⟨el, fr, h, k⟩ := h
  have := k o ho
  simp only [World.frozen?, h]
  rcases fr with ⟨lo, hi⟩
  simp only [Bool.and_eq_false_iff, decide_eq_false_iff_not]
  simp only at this
  omega

inductive TR (w : World) (F : Nat → Prop) : T → Value → Prop
  | int (k : IntKind) (n : Int) : TR w F (.int k n) (.int k n)
  | bool (b : Bool) : TR w F (.bool b) (.bool b)
  | str (s : ByteArray) : TR w F (.str s) (.string s)
  | nil : TR w F .nil (.slice none 0 0)
  | nilf : TR w F .nilf .nilFunc
  | lst0 (sz : Nat) (a : Option Addr) (cap : Nat) : TR w F (.lst sz []) (.slice a 0 cap)
  | lst (sz : Nat) (xs : List T) (m off cap : Nat) (cs : Array Value) (hF : F m) (hm : Cel w m cs) (hb : off + xs.length * sz ≤ cs.size) (hc : xs.length ≤ cap)
      (he : ∀ (i : Nat) (x : T), xs[i]? = some x → x.el sz = true) (h : ∀ (i : Nat) (x : T) (j : Nat) (y : T), xs[i]? = some x → x.cells[j]? = some y → TR w F y (cs.getD (off + i * sz + j) undef)) :
      TR w F (.lst sz xs) (.slice (some ⟨m, off, none⟩) xs.length cap)
  | agg (xs : List T) (as : List Value) (hl : as.length = xs.length) (h : ∀ (i : Nat) x a, xs[i]? = some x → as[i]? = some a → TR w F x a) : TR w F (.agg xs) (.agg as.toArray)
  | clo (f : FuncId) (xs ys : List T) (as bs : List Value) (hx : as.length = xs.length) (hy : bs.length = ys.length) (h : ∀ (i : Nat) x a, xs[i]? = some x → as[i]? = some a → TR w F x a)
      (h' : ∀ (i : Nat) y b, ys[i]? = some y → bs[i]? = some b → TR w F y b) : TR w F (.clo f xs ys) (.func (.func f) as.toArray bs.toArray)
  | ptr (t : T) (m off : Nat) (cs : Array Value) (hF : F m) (hm : Cel w m cs) (hb : off + t.cells.length ≤ cs.size) (h : ∀ (j : Nat) (y : T), t.cells[j]? = some y → TR w F y (cs.getD (off + j) undef)) :
      TR w F (.ptr t) (.pointer (some ⟨m, off, none⟩))
def Pres (F : Nat → Prop) (w w' : World) : Prop := ∀ m, F m → w'.heap[m]? = w.heap[m]?
theorem Pres.refl (F : Nat → Prop) (w : World) : Pres F w w := fun _ _ => rfl
theorem Pres.trans {F F' : Nat → Prop} {a b c : World} (h : Pres F a b) (hF : ∀ m, F m → F' m) (k : Pres F' b c) : Pres F a c := fun m hm => (k m (hF m hm)).trans (h m hm)

theorem TR.mono {w w' : World} {F F' : Nat → Prop} (hp : Pres F w w') (hF : ∀ m, F m → F' m) {t : T} {v : Value} (h : TR w F t v) : TR w' F' t v := by
  induction h with
  | int k n => exact .int k n
  | bool b => exact .bool b
  | str s => exact .str s
  | nil => exact .nil
  | nilf => exact .nilf
  | lst0 sz a cap => exact .lst0 sz a cap
  | lst sz xs m off cap cs hm hc hb hcap he _ ih => exact .lst sz xs m off cap cs (hF m hm) (hc.same (hp m hm)) hb hcap he ih
  | agg xs as hl _ ih => exact .agg xs as hl ih
  | clo f xs ys as bs hx hy _ _ ih ih' => exact .clo f xs ys as bs hx hy ih ih'
  | ptr t m off cs hm hc hb _ ih => exact .ptr t m off cs (hF m hm) (hc.same (hp m hm)) hb ih
theorem TR.sc {w w' : World} {F F' : Nat → Prop} {t : T} {v : Value} (h : TR w F t v) (hs : t.sc = true) : TR w' F' t v := by
  cases h <;> first | (constructor; done) | (simp [T.sc] at hs)
theorem TR.flat {w w' : World} {F F' : Nat → Prop} {t : T} {v : Value} (h : TR w F t v) (hs : t.flat = true) : TR w' F' t v := by
  cases h with
  | agg xs as hl h =>
    refine .agg xs as hl fun i x a hx ha => (h i x a hx ha).sc ?_
    simp only [T.flat, List.all_eq_true] at hs
    exact hs x (List.mem_of_getElem? hx)
  | _ => first | (constructor; done) | (simp [T.flat, T.sc] at hs)

inductive VR (μ : Nat → Option Loc) (w : World) (F : Nat → Prop) : V → Value → Prop
  | any (v : Value) : VR μ w F .any v
  | t {x : T} {v : Value} (h : TR w F x v) : VR μ w F (.t x) v
  | ref (id off len cap : Nat) (l : Loc) (hl : μ id = some l) (hr : l.real = true) (h1 : off + len ≤ l.n) (h2 : l.n ≤ off + cap) (h3 : (off + cap) * l.sz ≤ l.room) : VR μ w F (.ref id off len) (.slice (some ⟨l.m, off * l.sz, none⟩) len cap)
  | ref0 (id off : Nat) (a : Option Addr) (l : Loc) (hl : μ id = some l) (h0 : l.n ≤ off) : VR μ w F (.ref id off 0) (.slice a 0 0)
  | ptr (id idx c : Nat) (l : Loc) (hl : μ id = some l) (hr : l.real = true) : VR μ w F (.ptr id idx c) (.pointer (some ⟨l.m, idx * l.sz + c, none⟩))
  | rptr (t : T) (c m off : Nat) (cs : Array Value) (hF : F m) (hm : Cel w m cs) (hb : off + t.cells.length ≤ cs.size) (h : ∀ (j : Nat) (y : T), t.cells[j]? = some y → TR w F y (cs.getD (off + j) undef)) :
      VR μ w F (.rptr t c) (.pointer (some ⟨m, off + c, none⟩))
  | agg (vs : List V) (as : List Value) (hl : as.length = vs.length) (h : ∀ (i : Nat) v a, vs[i]? = some v → as[i]? = some a → VR μ w F v a) : VR μ w F (.agg vs) (.agg as.toArray)
  | tup (vs : List V) (as : List Value) (hl : as.length = vs.length) (h : ∀ (i : Nat) v a, vs[i]? = some v → as[i]? = some a → VR μ w F v a) : VR μ w F (.tup vs) (.tuple as.toArray)
  | clo (f : FuncId) (xs ys : List V) (as bs : List Value) (hx : as.length = xs.length) (hy : bs.length = ys.length) (h : ∀ (i : Nat) x a, xs[i]? = some x → as[i]? = some a → VR μ w F x a)
      (h' : ∀ (i : Nat) y b, ys[i]? = some y → bs[i]? = some b → VR μ w F y b) : VR μ w F (.clo f xs ys) (.func (.func f) as.toArray bs.toArray)
  | map (id : Nat) (l : Loc) (hl : μ id = some l) (hr : l.real = true) : VR μ w F (.map id) (.map (some l.m))

theorem VR.mono {μ μ' : Nat → Option Loc} {w w' : World} {F F' : Nat → Prop} (hμ : ∀ id l, μ id = some l → μ' id = some l) (hp : Pres F w w') (hF : ∀ m, F m → F' m) {v : V} {a : Value}
    (h : VR μ w F v a) : VR μ' w' F' v a := by
  induction h with
  | any v => exact .any v
  | t h => exact .t (h.mono hp hF)
  | ref id off len cap l hl hr h1 h2 h3 => exact .ref id off len cap l (hμ _ _ hl) hr h1 h2 h3
  | ref0 id off a l hl h0 => exact .ref0 id off a l (hμ _ _ hl) h0
  | ptr id idx c l hl hr => exact .ptr id idx c l (hμ _ _ hl) hr
  | rptr t c m off cs hm hc hb h => exact .rptr t c m off cs (hF m hm) (hc.same (hp m hm)) hb fun j y hy => (h j y hy).mono hp hF
  | agg vs as hl _ ih => exact .agg vs as hl ih
  | tup vs as hl _ ih => exact .tup vs as hl ih
  | clo f xs ys as bs hx hy _ _ ih ih' => exact .clo f xs ys as bs hx hy ih ih'
  | map id l hl hr => exact .map id l (hμ _ _ hl) hr
def EL (w : World) (F : Nat → Prop) (cs : Array Value) (o : Nat) (x : T) : Prop := ∀ (j : Nat) (y : T), x.cells[j]? = some y → TR w F y (cs.getD (o + j) undef)
theorem EL.mono {w w' : World} {F F' : Nat → Prop} {cs : Array Value} {o : Nat} {x : T} (h : EL w F cs o x) (hp : Pres F w w') (hF : ∀ m, F m → F' m) : EL w' F' cs o x :=
  fun j y hy => (h j y hy).mono hp hF
structure ELs (w : World) (F : Nat → Prop) (cs : Array Value) (o sz : Nat) (xs : List T) : Prop where
  size : o + xs.length * sz ≤ cs.size
  el : ∀ (i : Nat) (x : T), xs[i]? = some x → x.el sz = true
  rd : ∀ (i : Nat) (x : T), xs[i]? = some x → EL w F cs (o + i * sz) x
theorem ELs.mono {w w' : World} {F F' : Nat → Prop} {cs : Array Value} {o sz : Nat} {xs : List T} (h : ELs w F cs o sz xs) (hp : Pres F w w') (hF : ∀ m, F m → F' m) : ELs w' F' cs o sz xs :=
  ⟨h.size, h.el, fun i x hx => (h.rd i x hx).mono hp hF⟩

def KR (w : World) (F : Nat → Prop) (e : MapEntry) (k : T × T) : Prop := TR w F k.1 e.key ∧ TR w F k.2 e.val ∧ k.1.sc = true

def BR (μ : Nat → Option Loc) (w : World) (F : Nat → Prop) (id : Nat) : Blk → Prop
  | .dead => True
  | .pure sz xs => ∃ l cs, (μ id = some l ∧ l.real = true) ∧ Wri w l.m cs ∧ ¬ F l.m ∧ l.sz = sz ∧ l.n = xs.length ∧ l.room = cs.size ∧ 0 < sz ∧ ELs w F cs 0 sz xs
  | .froz sz xs => ∃ l cs, (μ id = some l ∧ l.real = true) ∧ Cel w l.m cs ∧ F l.m ∧ l.sz = sz ∧ l.n = xs.length ∧ l.room = cs.size ∧ ELs w F cs 0 sz xs
  | .box sz vs => ∃ l cs, (μ id = some l ∧ l.real = true) ∧ Wri w l.m cs ∧ ¬ F l.m ∧ l.sz = sz ∧ l.n * sz = vs.length ∧ l.room = cs.size ∧ vs.length ≤ cs.size ∧ ∀ (i : Nat) (v : V), vs[i]? = some v → VR μ w F v (cs.getD i undef)
  | .map es => ∃ l mes clock, (μ id = some l ∧ l.real = true) ∧ w.heap[l.m]? = some (.map mes clock) ∧ ¬ F l.m ∧ mes.size = es.length ∧ ∀ (i : Nat) (e : MapEntry) (k : T × T), mes[i]? = some e → es[i]? = some k → KR w F e k

def Blk.own : Blk → Bool
  | .pure .. | .box .. | .map _ => true
  | _ => false

structure Rel (μ : Nat → Option Loc) (D F : Nat → Prop) (H : Heap) (w : World) : Prop where
  blk : ∀ id b, D id → H[id]? = some b → BR μ w F id b
  inj : ∀ i j li lj bi bj, D i → D j → H[i]? = some bi → H[j]? = some bj → bi.own = true → bj.own = true → μ i = some li → μ j = some lj → li.m = lj.m → i = j
  frz : ∀ m, F m → m < w.heap.size
  lt : ∀ id, D id → id < H.length
  non : ∀ id b l, H[id]? = some b → μ id = some l → l.real = false → b.own = true → ∃ sz, b = .pure sz []
def RelB (μ : Nat → Option Loc) (D F : Nat → Prop) (H : Heap) (w : World) : Prop := ∀ id b, D id → H[id]? = some b → BR μ w F id b

theorem BR.own_lt {μ : Nat → Option Loc} {w : World} {F : Nat → Prop} {id : Nat} {b : Blk} (h : BR μ w F id b) (ho : b.own = true) : ∃ l, μ id = some l ∧ l.m < w.heap.size ∧ ¬ F l.m := by
  cases b with
  | dead => simp [Blk.own] at ho
  | froz => simp [Blk.own] at ho
  | pure sz xs => obtain ⟨l, cs, h1, h2, h3, _⟩ := h; exact ⟨l, h1.1, h2.cel.lt, h3⟩
  | box sz vs => obtain ⟨l, cs, h1, h2, h3, _⟩ := h; exact ⟨l, h1.1, h2.cel.lt, h3⟩
  | map es =>
    obtain ⟨l, mes, c, h1, h2, h3, _⟩ := h
    refine ⟨l, h1.1, ?_, h3⟩
    rcases Nat.lt_or_ge l.m w.heap.size with h' | h'
    · exact h'
    · simp [Array.getElem?_eq_none h'] at h2
theorem BR.mono {μ μ' : Nat → Option Loc} {w w' : World} {F F' : Nat → Prop} (hμ : ∀ id l, μ id = some l → μ' id = some l) (hp : Pres F w w') (hF : ∀ m, F m → F' m) {id : Nat} {b : Blk}
    (h : BR μ w F id b) (hs : ∀ l, μ id = some l → b.own = true → w'.heap[l.m]? = w.heap[l.m]? ∧ ¬ F' l.m) : BR μ' w' F' id b := by
  cases b with
  | dead => trivial
  | pure sz xs =>
    obtain ⟨l, cs, h1, h2, h3, h4, h5, h6, h7, h8⟩ := h
    obtain ⟨e, hn⟩ := hs l h1.1 rfl
    exact ⟨l, cs, ⟨hμ _ _ h1.1, h1.2⟩, h2.same e, hn, h4, h5, h6, h7, h8.mono hp hF⟩
  | froz sz xs =>
    obtain ⟨l, cs, h1, h2, h3, h4, h5, h6, h8⟩ := h
    exact ⟨l, cs, ⟨hμ _ _ h1.1, h1.2⟩, h2.same (hp _ h3), hF _ h3, h4, h5, h6, h8.mono hp hF⟩
  | box sz vs =>
    obtain ⟨l, cs, h1, h2, h3, h4, h5, h6, h7, h8⟩ := h
    obtain ⟨e, hn⟩ := hs l h1.1 rfl
    exact ⟨l, cs, ⟨hμ _ _ h1.1, h1.2⟩, h2.same e, hn, h4, h5, h6, h7, fun i v hv => (h8 i v hv).mono hμ hp hF⟩
  | map es =>
    obtain ⟨l, mes, c, h1, h2, h3, h4, h5⟩ := h
    obtain ⟨e, hn⟩ := hs l h1.1 rfl
    exact ⟨l, mes, c, ⟨hμ _ _ h1.1, h1.2⟩, e.trans h2, hn, h4, fun i e k he hk => ⟨(h5 i e k he hk).1.mono hp hF, (h5 i e k he hk).2.1.mono hp hF, (h5 i e k he hk).2.2⟩⟩

structure FR (μ : Nat → Option Loc) (w : World) (F : Nat → Prop) (n : Nat) (fr : Fr) (a : Act) : Prop where
  size : a.tmps.size = n
  defers : a.defers = []
  slot : ∀ t, VR μ w F (fr.get t) (a.tmps.getD t undef)

theorem Fr.get_put (fr : Fr) (d t : Nat) (v : V) : (fr.put d v).get t = if t = d then v else fr.get t := by
  induction fr with
  | nil => simp only [Fr.put, Fr.get]; by_cases h : d = t <;> simp [h, eq_comm]
  | cons p r ih =>
    obtain ⟨s, u⟩ := p
    simp only [Fr.put]
    by_cases hs : s = d
    · simp only [hs, if_true, Fr.get]
      by_cases ht : d = t
      · simp [ht]
      · simp [ht, Ne.symm ht]
    · simp only [hs, if_false, Fr.get, ih]
      by_cases ht : s = t
      · have : t ≠ d := fun e => hs (ht.trans e)
        simp [ht, this]
      · simp [ht]

theorem FR.mono {μ μ' : Nat → Option Loc} {w w' : World} {F F' : Nat → Prop} {n : Nat} {fr : Fr} {a : Act} (h : FR μ w F n fr a) (hμ : ∀ id l, μ id = some l → μ' id = some l) (hp : Pres F w w') (hF : ∀ m, F m → F' m) :
    FR μ' w' F' n fr a := ⟨h.size, h.defers, fun t => (h.slot t).mono hμ hp hF⟩

theorem FR.put {μ : Nat → Option Loc} {w : World} {F : Nat → Prop} {n : Nat} {fr : Fr} {a : Act} (h : FR μ w F n fr a) (d : Option Nat) (hd : ∀ t, d = some t → t < n) {v : V} {x : Value} (hv : VR μ w F v x) :
    FR μ w F n (putD fr d v) (a.put d x) := by
  cases d with
  | none => exact h
  | some d =>
    have hd := hd d rfl
    refine ⟨by simp [Act.put, h.size], h.defers, fun t => ?_⟩
    simp only [putD, Fr.get_put, Act.put]
    by_cases ht : t = d
    · subst ht
      simp only [if_true]
      have : (a.tmps.setIfInBounds t x).getD t undef = x := by
        simp [Array.getD_eq_getD_getElem?, h.size, hd]
      rw [this]; exact hv
    · simp only [ht, if_false]
      have : (a.tmps.setIfInBounds d x).getD t undef = a.tmps.getD t undef := by
        simp [Array.getD_eq_getD_getElem?, Ne.symm ht]
      rw [this]; exact h.slot t


theorem tOf_TR {w : World} {F : Nat → Prop} {v : Value} {t : T} (h : tOf v = some t) : TR w F t v := by
  unfold tOf at h
  split at h <;> first | (cases h; constructor) | cases h

theorem tsOf_TR {w : World} {F : Nat → Prop} : ∀ {vs : List Value} {ts : List T}, tsOf vs = some ts → vs.length = ts.length ∧ ∀ (i : Nat) x a, ts[i]? = some x → vs[i]? = some a → TR w F x a
  | [], ts, h => by simp only [tsOf] at h; cases h; exact ⟨rfl, fun i x a hx => by simp at hx⟩
  | v :: vs, ts, h => by
    simp only [tsOf] at h
    cases h1 : tOf v with
    | none => simp [h1] at h
    | some t =>
      cases h2 : tsOf vs with
      | none => simp [h1, h2] at h
      | some us =>
        simp only [h1, h2] at h
        cases h
        obtain ⟨hl, hh⟩ := tsOf_TR (w := w) (F := F) h2
        refine ⟨by simp [hl], fun i x a hx ha => ?_⟩
        cases i with
        | zero => simp at hx ha; subst hx ha; exact tOf_TR h1
        | succ i => simp at hx ha; exact hh i x a hx ha

theorem tOfV_TR {w : World} {F : Nat → Prop} {v : Value} {t : T} (h : tOfV v = some t) : TR w F t v := by
  unfold tOfV at h
  split at h
  · rename_i cs
    cases h1 : tsOf cs.toList with
    | none => simp [h1] at h
    | some ts =>
      simp only [h1, Option.map_some] at h
      cases h
      obtain ⟨hl, hh⟩ := tsOf_TR (w := w) (F := F) h1
      have := TR.agg (w := w) (F := F) ts cs.toList hl hh
      simpa using this
  · exact tOf_TR h

theorem opd_VR {μ : Nat → Option Loc} {w : World} {F : Nat → Prop} {n : Nat} {fr : Fr} {a : Act} (h : FR μ w F n fr a) {x : Operand} {o : A} (ho : opd x = some o) : VR μ w F (o.ev fr) (a.eval x) := by
  cases x with
  | tmp t => simp only [opd] at ho; cases ho; exact h.slot t
  | const v =>
    simp only [opd] at ho
    cases hv : tOfV v with
    | none => simp [hv] at ho
    | some t => simp only [hv, Option.map_some] at ho; cases ho; exact .t (tOfV_TR hv)
  | func f =>
    simp only [opd] at ho; cases ho
    exact .t (.clo f [] [] [] [] rfl rfl (fun i x a hx => by simp at hx) (fun i x a hx => by simp at hx))
  | global g => simp [opd] at ho
def VRs (μ : Nat → Option Loc) (w : World) (F : Nat → Prop) (vs : List V) (as : List Value) : Prop := as.length = vs.length ∧ ∀ (i : Nat) v a, vs[i]? = some v → as[i]? = some a → VR μ w F v a
theorem VRs.nil {μ : Nat → Option Loc} {w : World} {F : Nat → Prop} : VRs μ w F [] [] := ⟨rfl, fun i v a h => by simp at h⟩
theorem VRs.cons {μ : Nat → Option Loc} {w : World} {F : Nat → Prop} {v : V} {a : Value} {vs : List V} {as : List Value} (h : VR μ w F v a) (k : VRs μ w F vs as) : VRs μ w F (v :: vs) (a :: as) := by
  refine ⟨by simp [k.1], fun i u b hu hb => ?_⟩
  cases i with
  | zero => simp at hu hb; subst hu hb; exact h
  | succ i => simp at hu hb; exact k.2 i u b hu hb
theorem VRs.head {μ : Nat → Option Loc} {w : World} {F : Nat → Prop} {v : V} {vs : List V} {as : List Value} (h : VRs μ w F (v :: vs) as) : ∃ a bs, as = a :: bs ∧ VR μ w F v a ∧ VRs μ w F vs bs := by
  obtain ⟨hl, hh⟩ := h
  cases as with
  | nil => simp at hl
  | cons a bs => exact ⟨a, bs, rfl, hh 0 v a rfl rfl, by simpa using hl, fun i u b hu hb => hh (i + 1) u b (by simpa using hu) (by simpa using hb)⟩
theorem VRs.app {μ : Nat → Option Loc} {w : World} {F : Nat → Prop} : ∀ {vs us : List V} {as bs : List Value}, VRs μ w F vs as → VRs μ w F us bs → VRs μ w F (vs ++ us) (as ++ bs)
  | [], _, as, _, h, k => by
    have : as = [] := by have := h.1; simpa using this
    subst this; exact k
  | v :: vs, us, as, bs, h, k => by
    obtain ⟨a, cs, rfl, h1, h2⟩ := h.head
    exact .cons h1 (h2.app k)
theorem VRs.mono {μ μ' : Nat → Option Loc} {w w' : World} {F F' : Nat → Prop} {vs : List V} {as : List Value} (h : VRs μ w F vs as) (hμ : ∀ id l, μ id = some l → μ' id = some l) (hp : Pres F w w') (hF : ∀ m, F m → F' m) :
    VRs μ' w' F' vs as := ⟨h.1, fun i v a hv ha => (h.2 i v a hv ha).mono hμ hp hF⟩
theorem VRs.ofT {μ : Nat → Option Loc} {w : World} {F : Nat → Prop} {ts : List T} {as : List Value} (hl : as.length = ts.length) (h : ∀ (i : Nat) x a, ts[i]? = some x → as[i]? = some a → TR w F x a) : VRs μ w F (ts.map .t) as := by
  refine ⟨by simpa using hl, fun i v a hv ha => ?_⟩
  simp only [List.getElem?_map, Option.map_eq_some_iff] at hv
  obtain ⟨x, hx, rfl⟩ := hv
  exact .t (h i x a hx ha)

theorem opds_VRs {μ : Nat → Option Loc} {w : World} {F : Nat → Prop} {n : Nat} {fr : Fr} {a : Act} (h : FR μ w F n fr a) : ∀ {xs : List Operand} {os : List A}, opds xs = some os → VRs μ w F (A.evs fr os) (xs.map a.eval)
  | [], os, ho => by simp only [opds] at ho; cases ho; exact .nil
  | x :: xs, os, ho => by
    simp only [opds] at ho
    cases h1 : opd x with
    | none => simp [h1] at ho
    | some o =>
      cases h2 : opds xs with
      | none => simp [h1, h2] at ho
      | some us =>
        simp only [h1, h2] at ho
        cases ho
        exact .cons (opd_VR h h1) (opds_VRs h h2)

theorem VR.tT {μ : Nat → Option Loc} {w : World} {F : Nat → Prop} {x : T} {a : Value} (h : VR μ w F (.t x) a) : TR w F x a := by cases h; assumption
theorem cells_VRs {μ : Nat → Option Loc} {w : World} {F : Nat → Prop} {v : V} {a : Value} {cs : List V} (h : VR μ w F v a) (hc : v.cells = some cs) : VRs μ w F cs a.cells.toList := by
  cases h with
  | any => simp [V.cells] at hc
  | tup => simp [V.cells] at hc
  | agg vs as hl h => simp only [V.cells] at hc; cases hc; exact ⟨by simpa [Value.cells] using hl, by simpa [Value.cells] using h⟩
  | t h =>
    cases h with
    | agg xs as hl h =>
      simp only [V.cells] at hc; cases hc
      simpa [Value.cells] using VRs.ofT hl h
    | _ => simp only [V.cells] at hc; cases hc; exact .cons (.t (by constructor <;> assumption)) .nil
  | ref id off len cap l hl hr h1 h2 h3 => simp only [V.cells] at hc; cases hc; exact .cons (.ref id off len cap l hl hr h1 h2 h3) .nil
  | ref0 id off a l hl h0 => simp only [V.cells] at hc; cases hc; exact .cons (.ref0 id off a l hl h0) .nil
  | ptr id idx c l hl hr => simp only [V.cells] at hc; cases hc; exact .cons (.ptr id idx c l hl hr) .nil
  | rptr t c m off cs hF hm hb h => simp only [V.cells] at hc; cases hc; exact .cons (.rptr t c m off cs hF hm hb h) .nil
  | clo f xs ys as bs hx hy h h' => simp only [V.cells] at hc; cases hc; exact .cons (.clo f xs ys as bs hx hy h h') .nil
  | map id l hl hr => simp only [V.cells] at hc; cases hc; exact .cons (.map id l hl hr) .nil

theorem one_T {w : World} {F : Nat → Prop} {x : T} {a : Value} (h : TR w F x a) (ho : x.one = true) : a.oneCell' = true := by
  cases h <;> first | rfl | (simp [T.one] at ho)
theorem one_V {μ : Nat → Option Loc} {w : World} {F : Nat → Prop} {x : V} {a : Value} (h : VR μ w F x a) (ho : x.one = true) : a.oneCell' = true := by
  cases h with
  | t h => exact one_T h ho
  | _ => first | rfl | (simp [V.one] at ho)

end Go.Proofs.Ytanlmanifpknoaa.Ev
namespace Go.Proofs.Ytanlmanifpknoaa.Ev
open Go Go.RowKit
def OwnS (μ : Nat → Option Loc) (D : Nat → Prop) (H : Heap) (m : Nat) : Prop := ∃ id b l, D id ∧ H[id]? = some b ∧ b.own = true ∧ μ id = some l ∧ l.m = m

structure Post (μ : Nat → Option Loc) (D F : Nat → Prop) (H : Heap) (w : World) (μ' : Nat → Option Loc) (D' F' : Nat → Prop) (H' : Heap) (w' : World) : Prop where
  mu : ∀ id, id < H.length ∨ H'.length ≤ id → μ' id = μ id
  mono : ∀ id l, μ id = some l → μ' id = some l
  len : H.length ≤ H'.length
  dom : ∀ id, D' id ↔ D id ∨ (H.length ≤ id ∧ id < H'.length ∧ ∃ l, μ' id = some l ∧ l.real = true)
  old : ∀ m, F m → F' m
  new : ∀ m, F' m → F m ∨ w.heap.size ≤ m ∨ OwnS μ D H m
  rel : Rel μ' D' F' H' w'
  frame : ∀ m, m < w.heap.size → ¬ OwnS μ D H m → w'.heap[m]? = w.heap[m]?
  own : ∀ m, OwnS μ' D' H' m → w.heap.size ≤ m ∨ OwnS μ D H m
  size : w.heap.size ≤ w'.heap.size
  os : w'.os = w.os
  tape : w'.tape = w.tape
  output : w'.output = w.output

theorem BR.real {μ : Nat → Option Loc} {w : World} {F : Nat → Prop} {id : Nat} {b : Blk} (h : BR μ w F id b) (ho : b.own = true) {l : Loc} (hl : μ id = some l) : l.real = true := by
  cases b with
  | pure sz xs => obtain ⟨l', cs, h1, _⟩ := h; rw [hl] at h1; cases h1.1; exact h1.2
  | box sz xs => obtain ⟨l', cs, h1, _⟩ := h; rw [hl] at h1; cases h1.1; exact h1.2
  | map es => obtain ⟨l', mes, c, h1, _⟩ := h; rw [hl] at h1; cases h1.1; exact h1.2
  | _ => simp [Blk.own] at ho

theorem Rel.own_notF {μ : Nat → Option Loc} {D F : Nat → Prop} {H : Heap} {w : World} (h : Rel μ D F H w) {m : Nat} (ho : OwnS μ D H m) : m < w.heap.size ∧ ¬ F m := by
  obtain ⟨id, b, l, h1, h2, h3, h4, rfl⟩ := ho
  obtain ⟨l', h5, h6, h7⟩ := (h.blk id b h1 h2).own_lt h3
  rw [h4] at h5; cases h5
  exact ⟨h6, h7⟩

theorem Rel.pres {μ : Nat → Option Loc} {D F : Nat → Prop} {H : Heap} {w w' : World} (h : Rel μ D F H w) (hf : ∀ m, m < w.heap.size → ¬ OwnS μ D H m → w'.heap[m]? = w.heap[m]?) : Pres F w w' :=
  fun m hm => hf m (h.frz m hm) fun ho => (h.own_notF ho).2 hm

theorem Post.pres {μ μ' : Nat → Option Loc} {D D' F F' : Nat → Prop} {H H' : Heap} {w w' : World} (h : Post μ D F H w μ' D' F' H' w') (hr : Rel μ D F H w) : Pres F w w' := hr.pres h.frame

set_option linter.unusedVariables false
theorem Post.refl {μ : Nat → Option Loc} {D F : Nat → Prop} {H : Heap} {w : World} (h : Rel μ D F H w) : Post μ D F H w μ D F H w :=
  ⟨fun _ _ => rfl, fun _ _ h => h, Nat.le_refl _, fun id => ⟨.inl, fun h => h.elim (fun h => h) fun ⟨a, b, _⟩ => absurd (Nat.lt_of_le_of_lt a b) (Nat.lt_irrefl _)⟩,
   fun _ h => h, fun _ h => .inl h, h, fun _ _ _ => rfl, fun _ h => .inr h, Nat.le_refl _, rfl, rfl, rfl⟩

theorem Post.trans {μ μ' μ'' : Nat → Option Loc} {D D' D'' F F' F'' : Nat → Prop} {H H' H'' : Heap} {w w' w'' : World} (h : Post μ D F H w μ' D' F' H' w') (k : Post μ' D' F' H' w' μ'' D'' F'' H'' w'') :
    Post μ D F H w μ'' D'' F'' H'' w'' where
  mu id hid := by
    rw [k.mu id (hid.elim (fun a => .inl (Nat.lt_of_lt_of_le a h.len)) .inr), h.mu id (hid.elim .inl fun a => .inr (Nat.le_trans k.len a))]
  mono id l hl := k.mono id l (h.mono id l hl)
  len := Nat.le_trans h.len k.len
  dom id := by
    rw [k.dom, h.dom]
    constructor
    · rintro ((a | ⟨a, b, c⟩) | ⟨a, b, c⟩)
      · exact .inl a
      · refine .inr ⟨a, Nat.lt_of_lt_of_le b k.len, ?_⟩
        rw [k.mu id (.inl b)]; exact c
      · exact .inr ⟨Nat.le_trans h.len a, b, c⟩
    · rintro (a | ⟨a, b, c⟩)
      · exact .inl (.inl a)
      · rcases Nat.lt_or_ge id H'.length with hl | hl
        · refine .inl (.inr ⟨a, hl, ?_⟩)
          rw [k.mu id (.inl hl)] at c; exact c
        · exact .inr ⟨hl, b, c⟩
  old m hm := k.old m (h.old m hm)
  new m hm := by
    rcases k.new m hm with a | a | a
    · exact h.new m a
    · exact .inr (.inl (Nat.le_trans h.size a))
    · exact (h.own m a).elim (fun a => .inr (.inl a)) fun a => .inr (.inr a)
  rel := k.rel
  frame m hm ho := by
    rw [k.frame m (Nat.lt_of_lt_of_le hm h.size) fun a => (h.own m a).elim (fun b => absurd hm (Nat.not_lt.2 b)) ho, h.frame m hm ho]
  own m hm := by
    rcases k.own m hm with a | a
    · exact .inl (Nat.le_trans h.size a)
    · exact h.own m a
  size := Nat.le_trans h.size k.size
  os := k.os.trans h.os
  tape := k.tape.trans h.tape
  output := k.output.trans h.output
structure OnlyAt (w w' : World) (m : Nat) : Prop where
  size : w'.heap.size = w.heap.size
  same : ∀ k, k ≠ m → w'.heap[k]? = w.heap[k]?
  os : w'.os = w.os
  tape : w'.tape = w.tape
  output : w'.output = w.output

theorem OnlyAt.refl (w : World) (m : Nat) : OnlyAt w w m := ⟨rfl, fun _ _ => rfl, rfl, rfl, rfl⟩
theorem OnlyAt.trans {w w' w'' : World} {m : Nat} (h : OnlyAt w w' m) (k : OnlyAt w' w'' m) : OnlyAt w w'' m :=
  ⟨k.size.trans h.size, fun i hi => (k.same i hi).trans (h.same i hi), k.os.trans h.os, k.tape.trans h.tape, k.output.trans h.output⟩
theorem OnlyAt.setCell (w : World) (m o : Nat) (v : Value) : OnlyAt w (w.setCell ⟨m, o, none⟩ v) m :=
  ⟨by simp [World.setCell], fun k hk => Below.heap_setCell w ⟨m, o, none⟩ v k hk, rfl, rfl, rfl⟩
theorem Post.write {μ : Nat → Option Loc} {D F : Nat → Prop} {H : Heap} {w w' : World} (h : Rel μ D F H w) {id : Nat} {b b' : Blk} {l : Loc} (hd : D id) (hb : H[id]? = some b) (ho : b.own = true) (hl : μ id = some l)
    (hw : OnlyAt w w' l.m) (hb' : b'.own = true) (hn : Pres F w w' → BR μ w' F id b') : Post μ D F H w μ D F (H.set id b') w' := by
  have hown : OwnS μ D H l.m := ⟨id, b, l, hd, hb, ho, hl, rfl⟩
  have hfr : ∀ m, m < w.heap.size → ¬ OwnS μ D H m → w'.heap[m]? = w.heap[m]? := fun m _ hno => hw.same m fun e => hno (e ▸ hown)
  have hp : Pres F w w' := h.pres hfr
  have hlt : id < H.length := (List.getElem?_eq_some_iff.1 hb).1
  have hget : ∀ j bj, (H.set id b')[j]? = some bj → (j = id ∧ bj = b') ∨ (j ≠ id ∧ H[j]? = some bj) := fun j bj hj => by
    by_cases e : j = id
    · subst e
      rw [List.getElem?_set_self hlt] at hj
      cases hj; exact .inl ⟨rfl, rfl⟩
    · rw [List.getElem?_set_ne (Ne.symm e)] at hj
      exact .inr ⟨e, hj⟩
  refine ⟨fun _ _ => rfl, fun _ _ h => h, by simp, fun j => ⟨.inl, fun h => h.elim (fun h => h) fun ⟨a, b, _⟩ => absurd (Nat.lt_of_le_of_lt a (by simpa using b)) (Nat.lt_irrefl _)⟩, fun _ h => h, fun _ h => .inl h, ⟨?_, ?_, ?_, fun j hj => by simpa using h.lt j hj, ?_⟩, hfr, ?_,
    Nat.le_of_eq hw.size.symm, hw.os, hw.tape, hw.output⟩
  · intro j bj hj hbj
    rcases hget j bj hbj with ⟨rfl, rfl⟩ | ⟨hne, hbj⟩
    · exact hn hp
    · refine (h.blk j bj hj hbj).mono (fun _ _ h => h) hp (fun _ h => h) fun lj hlj hoj => ⟨hw.same _ fun e => hne (h.inj j id lj l bj b hj hd hbj hb hoj ho hlj hl e), ?_⟩
      exact (h.own_notF ⟨j, bj, lj, hj, hbj, hoj, hlj, rfl⟩).2
  · intro i j li lj bi bj hi hj hbi hbj hoi hoj hli hlj e
    obtain ⟨ci, hci, hoci⟩ : ∃ c, H[i]? = some c ∧ c.own = true := by
      rcases hget i bi hbi with ⟨rfl, _⟩ | ⟨_, k⟩
      · exact ⟨b, hb, ho⟩
      · exact ⟨bi, k, hoi⟩
    obtain ⟨cj, hcj, hocj⟩ : ∃ c, H[j]? = some c ∧ c.own = true := by
      rcases hget j bj hbj with ⟨rfl, _⟩ | ⟨_, k⟩
      · exact ⟨b, hb, ho⟩
      · exact ⟨bj, k, hoj⟩
    exact h.inj i j li lj ci cj hi hj hci hcj hoci hocj hli hlj e
  · intro m hm; rw [hw.size]; exact h.frz m hm
  · intro j bj lj hbj hlj hr hoj
    rcases hget j bj hbj with ⟨rfl, rfl⟩ | ⟨_, hbj⟩
    · have := (hn hp).real hoj hlj; rw [this] at hr; cases hr
    · exact h.non j bj lj hbj hlj hr hoj
  · rintro m ⟨j, bj, lj, hj, hbj, hoj, hlj, rfl⟩
    rcases hget j bj hbj with ⟨rfl, rfl⟩ | ⟨_, hbj⟩
    · rw [hl] at hlj; cases hlj; exact .inr hown
    · exact .inr ⟨j, bj, lj, hj, hbj, hoj, hlj, rfl⟩
theorem Rel.same {μ : Nat → Option Loc} {D F : Nat → Prop} {H : Heap} {w w' : World} (h : Rel μ D F H w) (e : w'.heap = w.heap) : Rel μ D F H w' := by
  have hp : Pres F w w' := fun m _ => by rw [e]
  exact ⟨fun id b hd hb => (h.blk id b hd hb).mono (fun _ _ h => h) hp (fun _ h => h) fun l hl ho => ⟨by rw [e], (h.own_notF ⟨id, b, l, hd, hb, ho, hl, rfl⟩).2⟩, h.inj, fun m hm => by rw [e]; exact h.frz m hm, h.lt, h.non⟩
theorem Post.same {μ : Nat → Option Loc} {D F : Nat → Prop} {H : Heap} {w w' : World} (h : Rel μ D F H w) (e : w'.heap = w.heap) (os : w'.os = w.os) (tp : w'.tape = w.tape) (out : w'.output = w.output) : Post μ D F H w μ D F H w' :=
  ⟨fun _ _ => rfl, fun _ _ h => h, Nat.le_refl _, fun id => ⟨.inl, fun h => h.elim (fun h => h) fun ⟨a, b, _⟩ => absurd (Nat.lt_of_le_of_lt a b) (Nat.lt_irrefl _)⟩,
   fun _ h => h, fun _ h => .inl h, h.same e, fun _ _ _ => by rw [e], fun _ h => .inr h, by rw [e]; exact Nat.le_refl _, os, tp, out⟩

def upd (μ : Nat → Option Loc) (i : Nat) (l : Option Loc) : Nat → Option Loc := fun id => if id = i then l else μ id
theorem upd_same (μ : Nat → Option Loc) (i : Nat) (l : Option Loc) : upd μ i l i = l := by simp [upd]
theorem upd_mono {μ : Nat → Option Loc} {i : Nat} (l : Option Loc) (h : μ i = none) : ∀ id x, μ id = some x → upd μ i l id = some x := fun id x hx => by
  unfold upd; split
  · rename_i e; subst e; rw [h] at hx; cases hx
  · exact hx
theorem Post.add {μ : Nat → Option Loc} {D F : Nat → Prop} {H : Heap} {w w' : World} (h : Rel μ D F H w) (hf : μ H.length = none) {b : Blk} {l : Option Loc}
    (hm : ∀ x, l = some x → x.real = true → w.heap.size ≤ x.m) (hq : ∀ x, l = some x → x.real = false → ∃ sz, b = .pure sz []) (hs : w.heap.size ≤ w'.heap.size) (hk : ∀ k, k < w.heap.size → w'.heap[k]? = w.heap[k]?) (os : w'.os = w.os) (tp : w'.tape = w.tape) (out : w'.output = w.output)
    (hb : ∀ x, l = some x → x.real = true → Pres F w w' → (∀ id y, μ id = some y → upd μ H.length l id = some y) → BR (upd μ H.length l) w' F H.length b) :
    Post μ D F H w (upd μ H.length l) (fun id => D id ∨ (id = H.length ∧ ∃ x, l = some x ∧ x.real = true)) F (H ++ [b]) w' := by
  have hfr : ∀ m, m < w.heap.size → ¬ OwnS μ D H m → w'.heap[m]? = w.heap[m]? := fun m hm _ => hk m hm
  have hp : Pres F w w' := h.pres hfr
  have hmo := upd_mono l hf
  have hget : ∀ j bj, (H ++ [b])[j]? = some bj → (j = H.length ∧ bj = b) ∨ (j < H.length ∧ H[j]? = some bj) := fun j bj hj => by
    rcases Nat.lt_or_ge j H.length with hl | hl
    · rw [List.getElem?_append_left hl] at hj; exact .inr ⟨hl, hj⟩
    · rw [List.getElem?_append_right hl] at hj
      have : j - H.length = 0 := by
        have := (List.getElem?_eq_some_iff.1 hj).1
        simp at this; omega
      rw [this] at hj
      simp at hj
      exact .inl ⟨by omega, hj.symm⟩
  have hne : ∀ j, j < H.length → upd μ H.length l j = μ j := fun j hj => by unfold upd; rw [if_neg (by omega)]
  have hbig : ∀ x, l = some x → x.real = true → ∀ i bi li, D i → H[i]? = some bi → bi.own = true → μ i = some li → x.m ≠ li.m := fun x hx hxr i bi li hi hbi hoi hli e => by
    have h1 := hm x hx hxr
    have h2 := (h.own_notF ⟨i, bi, li, hi, hbi, hoi, hli, rfl⟩).1
    omega
  have hD : ∀ {j : Nat}, j < H.length → (D j ∨ (j = H.length ∧ ∃ x, l = some x ∧ x.real = true)) → D j := fun hj a => a.elim (fun x => x) fun e => absurd e.1 (Nat.ne_of_lt hj)
  have hN : (D H.length ∨ (H.length = H.length ∧ ∃ x, l = some x ∧ x.real = true)) → ∃ x, l = some x ∧ x.real = true := fun a => a.elim (fun x => absurd (h.lt _ x) (Nat.lt_irrefl _)) (·.2)
  refine ⟨fun id hid => ?_, hmo, by simp, fun id => ?_, fun _ h => h, fun _ h => .inl h, ⟨?_, ?_, ?_, ?_, ?_⟩, hfr, ?_, hs, os, tp, out⟩
  · unfold upd; rw [if_neg]; simp at hid; omega
  · simp only [List.length_append, List.length_singleton]
    constructor
    · rintro (a | ⟨rfl, a⟩)
      · exact .inl a
      · exact .inr ⟨Nat.le_refl _, Nat.lt_succ_self _, by rw [upd_same]; exact a⟩
    · rintro (a | ⟨a, b, c⟩)
      · exact .inl a
      · have : id = H.length := by omega
        subst this; rw [upd_same] at c; exact .inr ⟨rfl, c⟩
  · intro j bj hj hbj
    rcases hget j bj hbj with ⟨rfl, rfl⟩ | ⟨hlt, hbj⟩
    · obtain ⟨x, hx, hxr⟩ := hN hj
      exact hb x hx hxr hp hmo
    · exact (h.blk j bj (hD hlt hj) hbj).mono hmo hp (fun _ h => h) fun lj hlj hoj => ⟨hk _ (h.own_notF ⟨j, bj, lj, hD hlt hj, hbj, hoj, hlj, rfl⟩).1, (h.own_notF ⟨j, bj, lj, hD hlt hj, hbj, hoj, hlj, rfl⟩).2⟩
  · intro i j li lj bi bj hi hj hbi hbj hoi hoj hli hlj e
    rcases hget i bi hbi with ⟨ei, _⟩ | ⟨ei, hbi⟩ <;> rcases hget j bj hbj with ⟨ej, _⟩ | ⟨ej, hbj⟩
    · rw [ei, ej]
    · subst ei
      rw [upd_same] at hli
      rw [hne j ej] at hlj
      obtain ⟨x, hx, hxr⟩ := hN hi
      rw [hli] at hx; cases hx
      exact absurd e (hbig li hli hxr j bj lj (hD ej hj) hbj hoj hlj)
    · subst ej
      rw [upd_same] at hlj
      rw [hne i ei] at hli
      obtain ⟨x, hx, hxr⟩ := hN hj
      rw [hlj] at hx; cases hx
      exact absurd e.symm (hbig lj hlj hxr i bi li (hD ei hi) hbi hoi hli)
    · rw [hne i ei] at hli
      rw [hne j ej] at hlj
      exact h.inj i j li lj bi bj (hD ei hi) (hD ej hj) hbi hbj hoi hoj hli hlj e
  · intro m hm; exact Nat.lt_of_lt_of_le (h.frz m hm) hs
  · intro j hj
    simp only [List.length_append, List.length_singleton]
    rcases hj with hj | ⟨rfl, _⟩
    · exact Nat.lt_succ_of_lt (h.lt j hj)
    · exact Nat.lt_succ_self _
  · intro j bj lj hbj hlj hr hoj
    rcases hget j bj hbj with ⟨ej, rfl⟩ | ⟨ej, hbj⟩
    · subst ej
      rw [upd_same] at hlj
      exact hq lj hlj hr
    · rw [hne j ej] at hlj
      exact h.non j bj lj hbj hlj hr hoj
  · rintro m ⟨j, bj, lj, hj, hbj, hoj, hlj, rfl⟩
    rcases hget j bj hbj with ⟨ej, _⟩ | ⟨ej, hbj⟩
    · subst ej
      rw [upd_same] at hlj
      obtain ⟨x, hx, hxr⟩ := hN hj
      rw [hlj] at hx; cases hx
      exact .inl (hm lj hlj hxr)
    · rw [hne j ej] at hlj
      exact .inr ⟨j, bj, lj, hD ej hj, hbj, hoj, hlj, rfl⟩
theorem Post.kill {μ : Nat → Option Loc} {D F : Nat → Prop} {H : Heap} {w : World} (h : Rel μ D F H w) (id : Nat) : Post μ D F H w μ D F (H.set id .dead) w := by
  have hget : ∀ (j : Nat) (bj : Blk), (H.set id .dead)[j]? = some bj → bj = .dead ∨ H[j]? = some bj := fun j bj hj => by
    rw [List.getElem?_set] at hj
    split at hj
    · split at hj
      · cases hj; exact .inl rfl
      · cases hj
    · exact .inr hj
  have hgo : ∀ (j : Nat) (bj : Blk), (H.set id .dead)[j]? = some bj → bj.own = true → H[j]? = some bj := fun j bj hj ho => (hget j bj hj).elim (fun e => by subst e; simp [Blk.own] at ho) fun h => h
  refine ⟨fun _ _ => rfl, fun _ _ h => h, by simp, fun j => ⟨.inl, fun h => h.elim (fun h => h) fun ⟨a, b, _⟩ => absurd (Nat.lt_of_le_of_lt a (by simpa using b)) (Nat.lt_irrefl _)⟩, fun _ h => h, fun _ h => .inl h,
    ⟨?_, ?_, h.frz, fun j hj => by simpa using h.lt j hj, ?_⟩, fun _ _ _ => rfl, ?_, Nat.le_refl _, rfl, rfl, rfl⟩
  · intro j bj hj hbj
    rcases hget j bj hbj with rfl | hbj
    · trivial
    · exact h.blk j bj hj hbj
  · intro i j li lj bi bj hi hj hbi hbj hoi hoj
    exact h.inj i j li lj bi bj hi hj (hgo i bi hbi hoi) (hgo j bj hbj hoj) hoi hoj
  · intro j bj lj hbj hlj hr hoj
    exact h.non j bj lj (hgo j bj hbj hoj) hlj hr hoj
  · rintro m ⟨j, bj, lj, hj, hbj, hoj, hlj, rfl⟩
    exact .inr ⟨j, bj, lj, hj, hgo j bj hbj hoj, hoj, hlj, rfl⟩
theorem Post.replace {μ : Nat → Option Loc} {D F : Nat → Prop} {H : Heap} {w w' : World} (h : Rel μ D F H w) (hf : μ H.length = none) {id : Nat} {b0 b : Blk} {l x : Loc} (hd : D id) (hb0 : H[id]? = some b0) (ho : b0.own = true) (hl : μ id = some l)
    (hm : w.heap.size ≤ x.m ∨ x.m = l.m) (hxr : x.real = true) (hs : w.heap.size ≤ w'.heap.size) (hk : ∀ k, k < w.heap.size → k ≠ l.m → w'.heap[k]? = w.heap[k]?) (os : w'.os = w.os) (tp : w'.tape = w.tape) (out : w'.output = w.output)
    (hb : Pres F w w' → (∀ id y, μ id = some y → upd μ H.length (some x) id = some y) → BR (upd μ H.length (some x)) w' F H.length b) :
    Post μ D F H w (upd μ H.length (some x)) (fun i => D i ∨ i = H.length) F (H.set id .dead ++ [b]) w' := by
  have hown : OwnS μ D H l.m := ⟨id, b0, l, hd, hb0, ho, hl, rfl⟩
  have hfr : ∀ m, m < w.heap.size → ¬ OwnS μ D H m → w'.heap[m]? = w.heap[m]? := fun m hm hn => hk m hm fun e => hn (e ▸ hown)
  have hp : Pres F w w' := h.pres hfr
  have hmo := upd_mono (some x) hf
  have hlt : id < H.length := (List.getElem?_eq_some_iff.1 hb0).1
  have hget : ∀ j bj, (H.set id .dead ++ [b])[j]? = some bj → (j = H.length ∧ bj = b) ∨ (j < H.length ∧ j ≠ id ∧ H[j]? = some bj) ∨ (j = id ∧ bj = .dead) := fun j bj hj => by
    rcases Nat.lt_or_ge j H.length with hlj | hl
    · rw [List.getElem?_append_left (by simpa using hlj)] at hj
      by_cases e : j = id
      · subst e
        rw [List.getElem?_set_self hlj] at hj
        cases hj; exact .inr (.inr ⟨rfl, rfl⟩)
      · rw [List.getElem?_set_ne (Ne.symm e)] at hj
        exact .inr (.inl ⟨hlj, e, hj⟩)
    · rw [List.getElem?_append_right (by simpa using hl)] at hj
      have h0 := (List.getElem?_eq_some_iff.1 hj).1
      simp only [List.length_set, List.length_singleton] at h0
      have : j - (H.set id .dead).length = 0 := by simp; omega
      rw [this] at hj
      simp at hj
      exact .inl ⟨by omega, hj.symm⟩
  have hne : ∀ j, j < H.length → upd μ H.length (some x) j = μ j := fun j hj => by unfold upd; rw [if_neg (by omega)]
  have hbig : ∀ i bi li, i ≠ id → D i → H[i]? = some bi → bi.own = true → μ i = some li → x.m ≠ li.m := fun i bi li hne hi hbi hoi hli e => by
    have h2 := (h.own_notF ⟨i, bi, li, hi, hbi, hoi, hli, rfl⟩).1
    rcases hm with hm | hm
    · omega
    · exact hne (h.inj i id li l bi b0 hi hd hbi hb0 hoi ho hli hl (by omega))
  have hD : ∀ {j}, j < H.length → (D j ∨ j = H.length) → D j := fun hj a => a.elim (fun x => x) fun e => absurd e (Nat.ne_of_lt hj)
  refine ⟨fun i hid => ?_, hmo, by simp, fun i => ?_, fun _ h => h, fun _ h => .inl h, ⟨?_, ?_, ?_, ?_, ?_⟩, hfr, ?_, hs, os, tp, out⟩
  · unfold upd; rw [if_neg]; simp at hid; omega
  · simp only [List.length_append, List.length_singleton, List.length_set]
    constructor
    · rintro (a | rfl)
      · exact .inl a
      · exact .inr ⟨Nat.le_refl _, Nat.lt_succ_self _, x, upd_same _ _ _, hxr⟩
    · rintro (a | ⟨a, b, c⟩)
      · exact .inl a
      · exact .inr (by omega)
  · intro j bj hj hbj
    rcases hget j bj hbj with ⟨rfl, rfl⟩ | ⟨hlt, hne', hbj⟩ | ⟨_, rfl⟩
    · exact hb hp hmo
    · exact (h.blk j bj (hD hlt hj) hbj).mono hmo hp (fun _ h => h) fun lj hlj hoj => ⟨hk _ (h.own_notF ⟨j, bj, lj, hD hlt hj, hbj, hoj, hlj, rfl⟩).1 fun e => hne' (h.inj j id lj l bj b0 (hD hlt hj) hd hbj hb0 hoj ho hlj hl e),
        (h.own_notF ⟨j, bj, lj, hD hlt hj, hbj, hoj, hlj, rfl⟩).2⟩
    · trivial
  · intro i j li lj bi bj hi hj hbi hbj hoi hoj hli hlj e
    rcases hget i bi hbi with ⟨ei, _⟩ | ⟨ei, ni, hbi⟩ | ⟨_, ei⟩
    · rcases hget j bj hbj with ⟨ej, _⟩ | ⟨ej, nj, hbj⟩ | ⟨_, ej⟩
      · rw [ei, ej]
      · subst ei
        rw [upd_same] at hli
        rw [hne j ej] at hlj
        cases hli
        exact absurd e (hbig j bj lj nj (hD ej hj) hbj hoj hlj)
      · subst ej; simp [Blk.own] at hoj
    · rcases hget j bj hbj with ⟨ej, _⟩ | ⟨ej, nj, hbj⟩ | ⟨_, ej⟩
      · subst ej
        rw [upd_same] at hlj
        rw [hne i ei] at hli
        cases hlj
        exact absurd e.symm (hbig i bi li ni (hD ei hi) hbi hoi hli)
      · rw [hne i ei] at hli
        rw [hne j ej] at hlj
        exact h.inj i j li lj bi bj (hD ei hi) (hD ej hj) hbi hbj hoi hoj hli hlj e
      · subst ej; simp [Blk.own] at hoj
    · subst ei; simp [Blk.own] at hoi
  · intro m hm; exact Nat.lt_of_lt_of_le (h.frz m hm) hs
  · intro j hj
    simp only [List.length_append, List.length_singleton, List.length_set]
    rcases hj with hj | rfl
    · exact Nat.lt_succ_of_lt (h.lt j hj)
    · exact Nat.lt_succ_self _
  · intro j bj lj hbj hlj hr hoj
    rcases hget j bj hbj with ⟨ej, _⟩ | ⟨ej, _, hbj⟩ | ⟨_, ej⟩
    · subst ej
      rw [upd_same] at hlj
      cases hlj
      rw [hxr] at hr; cases hr
    · rw [hne j ej] at hlj
      exact h.non j bj lj hbj hlj hr hoj
    · subst ej; simp [Blk.own] at hoj
  · rintro m ⟨j, bj, lj, hj, hbj, hoj, hlj, rfl⟩
    rcases hget j bj hbj with ⟨ej, _⟩ | ⟨ej, _, hbj⟩ | ⟨_, ej⟩
    · subst ej
      rw [upd_same] at hlj
      cases hlj
      rcases hm with hm | hm
      · exact .inl hm
      · rw [hm]; exact .inr hown
    · rw [hne j ej] at hlj
      exact .inr ⟨j, bj, lj, hD ej hj, hbj, hoj, hlj, rfl⟩
    · subst ej; simp [Blk.own] at hoj

def LF (μ : Nat → Option Loc) (F : Nat → Prop) (L : List (Nat × Blk)) (m : Nat) : Prop := F m ∨ ∃ p ∈ L, ∃ l, μ p.1 = some l ∧ l.real = true ∧ l.m = m
def LOk (μ : Nat → Option Loc) (D : Nat → Prop) (H : Heap) (w : World) (F' : Nat → Prop) (L : List (Nat × Blk)) : Prop :=
  ∀ p ∈ L, (∃ b, H[p.1]? = some b ∧ b.own = true) ∧ ∃ sz xs, p.2 = .froz sz xs ∧ (D p.1 → ∃ l cs, (μ p.1 = some l ∧ l.real = true) ∧ Cel w l.m cs ∧ F' l.m ∧ l.sz = sz ∧ l.n = xs.length ∧ l.room = cs.size ∧ ELs w F' cs 0 sz xs)

theorem LOk.nil {μ : Nat → Option Loc} {D : Nat → Prop} {H : Heap} {w : World} {F' : Nat → Prop} : LOk μ D H w F' [] := fun p hp => by simp at hp
theorem LOk.append {μ : Nat → Option Loc} {D : Nat → Prop} {H : Heap} {w : World} {F' : Nat → Prop} {L L' : List (Nat × Blk)} (h : LOk μ D H w F' L) (h' : LOk μ D H w F' L') : LOk μ D H w F' (L ++ L') := fun p hp => by
  rcases List.mem_append.1 hp with a | a
  · exact h p a
  · exact h' p a

theorem ELs.lstTR {w : World} {F : Nat → Prop} {m : Nat} {cs : Array Value} {sz off len cap : Nat} {xs : List T} (h : ELs w F cs 0 sz xs) (hF : F m) (hm : Cel w m cs) (hl : off + len ≤ xs.length) (hc : len ≤ cap) :
    TR w F (.lst sz ((xs.drop off).take len)) (.slice (some ⟨m, off * sz, none⟩) len cap) := by
  have hlen : ((xs.drop off).take len).length = len := by simp; omega
  have := TR.lst (w := w) (F := F) sz ((xs.drop off).take len) m (off * sz) cap cs hF hm ?_ (by rw [hlen]; exact hc) ?_ ?_
  · rw [hlen] at this; exact this
  · rw [hlen]
    have h1 := h.size
    have h2 : (off + len) * sz ≤ xs.length * sz := Nat.mul_le_mul_right _ hl
    rw [Nat.add_mul] at h2
    omega
  · intro i x hx
    rw [List.getElem?_take] at hx
    split at hx
    · rw [List.getElem?_drop] at hx; exact h.el _ x hx
    · cases hx
  · intro i x j y hx hy
    rw [List.getElem?_take] at hx
    split at hx
    · rw [List.getElem?_drop] at hx
      have := h.rd _ x hx j y hy
      rw [show off * sz + i * sz + j = 0 + (off + i) * sz + j by rw [Nat.add_mul]; omega]
      exact this
    · cases hx

theorem one_cells (ts : List T) (h : ts.all T.one = true) (h0 : 0 < ts.length) : (one ts).cells = ts := by
  match ts, h, h0 with
  | [t], h, _ => cases t <;> first | rfl | (simp [T.one] at h)
  | a :: b :: r, _, _ => rfl

def RdOk (μ : Nat → Option Loc) (D F : Nat → Prop) (H : Heap) (w : World) (g : V → Option (T × List (Nat × Blk))) : Prop :=
  ∀ v t L a, g v = some (t, L) → VR μ w F v a → ∀ F' : Nat → Prop, (∀ m, F m → F' m) → (∀ p ∈ L, ∀ l, μ p.1 = some l → l.real = true → F' l.m) → TR w F' t a ∧ LOk μ D H w F' L

theorem rdL_ok {μ : Nat → Option Loc} {D F : Nat → Prop} {H : Heap} {w : World} {g : V → Option (T × List (Nat × Blk))} (hg : RdOk μ D F H w g) :
    ∀ (vs : List V) (ts : List T) (L : List (Nat × Blk)) (as : List Value), rdL g vs = some (ts, L) → VRs μ w F vs as → ∀ F' : Nat → Prop, (∀ m, F m → F' m) → (∀ p ∈ L, ∀ l, μ p.1 = some l → l.real = true → F' l.m) →
      (as.length = ts.length ∧ ∀ (i : Nat) x a, ts[i]? = some x → as[i]? = some a → TR w F' x a) ∧ LOk μ D H w F' L
  | [], ts, L, as, h, hv, F', hF, hL => by
    simp only [rdL] at h; cases h
    have := hv.1
    simp at this; subst this
    exact ⟨⟨rfl, fun i x a hx => by simp at hx⟩, .nil⟩
  | v :: vs, ts, L, as, h, hv, F', hF, hL => by
    simp only [rdL] at h
    cases h1 : g v with
    | none => simp [h1] at h
    | some p =>
      obtain ⟨t, l⟩ := p
      cases h2 : rdL g vs with
      | none => simp [h1, h2] at h
      | some q =>
        obtain ⟨us, l'⟩ := q
        simp only [h1, h2] at h
        cases h
        obtain ⟨a, bs, rfl, ha, hbs⟩ := hv.head
        obtain ⟨k1, k2⟩ := hg v t l a h1 ha F' hF fun p hp => hL p (List.mem_append.2 (.inl hp))
        obtain ⟨⟨k3, k4⟩, k5⟩ := rdL_ok hg vs us l' bs h2 hbs F' hF fun p hp => hL p (List.mem_append.2 (.inr hp))
        refine ⟨⟨by simp [k3], fun i x b hx hb => ?_⟩, k2.append k5⟩
        cases i with
        | zero => simp at hx hb; subst hx hb; exact k1
        | succ i => simp at hx hb; exact k4 i x b hx hb

theorem List.all_of_all {α : Type} {p : α → Bool} {l : List α} (h : l.all p = true) {i : Nat} {x : α} (hx : l[i]? = some x) : p x = true := by
  rw [List.all_eq_true] at h; exact h x (List.mem_of_getElem? hx)

theorem rd_ok {μ : Nat → Option Loc} {D F : Nat → Prop} {H : Heap} {w : World} (h : Rel μ D F H w) (hD : ∀ id l, id < H.length → μ id = some l → l.real = true → D id) : ∀ n, RdOk μ D F H w (rd H n)
  | 0, v, t, L, a, hr, _, _, _, _ => by simp [rd] at hr
  | n + 1, v, t, L, a, hr, hv, F', hF, hL => by
    have hp : Pres F w w := .refl _ _
    have hlt : ∀ {id : Nat} {b : Blk}, H[id]? = some b → id < H.length := fun hb => (List.getElem?_eq_some_iff.1 hb).1
    cases hv with
    | any => simp [rd] at hr
    | tup => simp [rd] at hr
    | map => simp [rd] at hr
    | t hx => simp only [rd] at hr; cases hr; exact ⟨hx.mono hp hF, .nil⟩
    | ref0 id off a l0 hl0 h0 =>
      simp only [rd] at hr
      split at hr
      · rename_i sz xs hb
        cases hr
        rw [List.take_zero]
        refine ⟨.lst0 _ _ _, fun p hp' => ?_⟩
        rw [List.mem_singleton] at hp'; subst hp'
        refine ⟨⟨_, hb, rfl⟩, sz, xs, rfl, fun hd => ?_⟩
        obtain ⟨l, cs, k1, k2, k3, k4, k5, k6, k7, k8⟩ := h.blk id _ hd hb
        exact ⟨l, cs, k1, k2.cel, hL _ (List.mem_singleton.2 rfl) l k1.1 k1.2, k4, k5, k6, k8.mono hp hF⟩
      · cases hr; rw [List.take_zero]; exact ⟨.lst0 _ _ _, .nil⟩
      · cases hr
    | ref id off len cap l hl hre h1 h2 h3 =>
      simp only [rd] at hr
      split at hr
      · rename_i sz xs hb
        cases hr
        obtain ⟨l', cs, k1, k2, k3, k4, k5, k6, k7, k8⟩ := h.blk id _ (hD id l (hlt hb) hl hre) hb
        rw [hl] at k1; cases k1.1
        have hFm : F' l.m := hL _ (List.mem_singleton.2 rfl) l hl hre
        refine ⟨?_, fun p hp' => ?_⟩
        · rw [k4]; exact (k8.mono hp hF).lstTR hFm k2.cel (by omega) (by omega)
        · rw [List.mem_singleton] at hp'; subst hp'
          exact ⟨⟨_, hb, rfl⟩, sz, xs, rfl, fun _ => ⟨l, cs, ⟨hl, hre⟩, k2.cel, hFm, k4, k5, k6, k8.mono hp hF⟩⟩
      · rename_i sz xs hb
        cases hr
        obtain ⟨l', cs, k1, k2, k3, k4, k5, k6, k8⟩ := h.blk id _ (hD id l (hlt hb) hl hre) hb
        rw [hl] at k1; cases k1.1
        refine ⟨?_, .nil⟩
        rw [k4]; exact (k8.mono hp hF).lstTR (hF _ k3) k2 (by omega) (by omega)
      · cases hr
    | ptr id idx c l hl hre =>
      match idx, c, hr with
      | 0, 0, hr =>
        simp only [rd] at hr
        split at hr
        · rename_i sz vs hb
          split at hr
          · rename_i ts l' hrd
            split at hr
            · rename_i hc
              obtain ⟨hs0, hs1, hs2⟩ := hc
              cases hr
              have hd : D id := hD id l (hlt hb) hl hre
              obtain ⟨l2, cs, k1, k2, k3, k4, k5, k6, k7, k8⟩ := h.blk id _ hd hb
              rw [hl] at k1; cases k1.1
              have hFm : F' l.m := hL _ (List.mem_cons_self ..) l hl hre
              have hvs : VRs μ w F vs (cs.toList.take vs.length) := by
                refine ⟨by simp; omega, fun i v a hv ha => ?_⟩
                have := k8 i v hv
                rw [List.getElem?_take] at ha
                split at ha
                · rw [Array.getElem?_toList] at ha
                  rw [Array.getD_eq_getD_getElem?, ha] at this
                  exact this
                · cases ha
              obtain ⟨⟨q1, q2⟩, q3⟩ := rdL_ok (rd_ok h hD n) vs ts l' _ hrd hvs F' hF fun p hp => hL p (List.mem_cons_of_mem _ hp)
              have hlen : vs.length = ts.length := by simp at q1; omega
              have hcl := one_cells ts hs2 (by omega)
              have hel : EL w F' cs 0 (one ts) := by
                intro j y hy
                rw [hcl] at hy
                have hj : j < ts.length := (List.getElem?_eq_some_iff.1 hy).1
                refine q2 j y _ hy ?_
                rw [List.getElem?_take, if_pos (by omega), Array.getElem?_toList, Nat.zero_add, Array.getD_eq_getD_getElem?]
                rw [Array.getElem?_eq_getElem (by omega)]; rfl
              have hels : ELs w F' cs 0 sz [one ts] := by
                refine ⟨by simp; omega, fun i x hx => ?_, fun i x hx => ?_⟩
                · cases i with
                  | zero => simp at hx; subst hx; simp [T.el, hcl, hs1]; simpa using hs2
                  | succ i => simp at hx
                · cases i with
                  | zero => simp at hx; subst hx; simpa using hel
                  | succ i => simp at hx
              refine ⟨?_, fun p hp' => ?_⟩
              · have := TR.ptr (w := w) (F := F') (one ts) l.m 0 cs hFm k2.cel (by rw [hcl]; omega) hel
                simpa using this
              · rcases List.mem_cons.1 hp' with rfl | hp'
                · refine ⟨⟨_, hb, rfl⟩, sz, _, rfl, fun _ => ⟨l, cs, ⟨hl, hre⟩, k2.cel, hFm, k4, ?_, k6, hels⟩⟩
                  have : l.n * sz = 1 * sz := by omega
                  exact Nat.eq_of_mul_eq_mul_right hs0 this
                · exact q3 p hp'
            · cases hr
          · cases hr
        · rename_i sz t hb
          split at hr
          · rename_i hc
            cases hr
            obtain ⟨l2, cs, k1, k2, k3, k4, k5, k6, k8⟩ := h.blk id _ (hD id l (hlt hb) hl hre) hb
            rw [hl] at k1; cases k1.1
            refine ⟨?_, .nil⟩
            have h8 := k8.mono hp hF
            have := TR.ptr (w := w) (F := F') t l.m 0 cs (hF _ k3) k2 (by have := h8.size; simp at this; omega) (by simpa [EL] using h8.rd 0 t rfl)
            simpa using this
          · cases hr
        · cases hr
      | 0, c + 1, hr => simp [rd] at hr
      | i + 1, c, hr => simp [rd] at hr
    | rptr t c m off cs hFm hm hb hh =>
      match c, hr with
      | 0, hr =>
        simp only [rd] at hr
        cases hr
        exact ⟨.ptr t m off cs (hF m hFm) hm hb fun j y hy => (hh j y hy).mono hp hF, .nil⟩
      | c + 1, hr => simp [rd] at hr
    | agg vs as hl hh =>
      simp only [rd] at hr
      split at hr
      · rename_i ts l hrd
        cases hr
        obtain ⟨⟨k1, k2⟩, k3⟩ := rdL_ok (rd_ok h hD n) vs ts L as hrd ⟨hl, hh⟩ F' hF hL
        exact ⟨.agg ts as k1 k2, k3⟩
      · cases hr
    | clo f xs ys as bs hx hy hh hh' =>
      simp only [rd] at hr
      split at hr
      · cases hr
      · rename_i ta l hrd
        split at hr
        · cases hr
        · rename_i tb l' hrd'
          cases hr
          obtain ⟨⟨k1, k2⟩, k3⟩ := rdL_ok (rd_ok h hD n) xs ta l as hrd ⟨hx, hh⟩ F' hF fun p hp => hL p (List.mem_append.2 (.inl hp))
          obtain ⟨⟨k4, k5⟩, k6⟩ := rdL_ok (rd_ok h hD n) ys tb l' bs hrd' ⟨hy, hh'⟩ F' hF fun p hp => hL p (List.mem_append.2 (.inr hp))
          exact ⟨.clo f ta tb as bs k1 k4 k2 k5, k3.append k6⟩


theorem frz_length : ∀ (L : List (Nat × Blk)) (H : Heap), (frz H L).length = H.length
  | [], H => rfl
  | (id, b) :: L, H => by simp [frz, frz_length L]

theorem frz_get : ∀ (L : List (Nat × Blk)) (H : Heap) (j : Nat) (b : Blk), (frz H L)[j]? = some b → (∃ p ∈ L, p.1 = j ∧ p.2 = b) ∨ (H[j]? = some b ∧ ∀ p ∈ L, p.1 ≠ j)
  | [], H, j, b, h => .inr ⟨h, fun p hp => by simp at hp⟩
  | (id, c) :: L, H, j, b, h => by
    simp only [frz] at h
    rcases frz_get L _ j b h with ⟨p, hp, h1, h2⟩ | ⟨h1, h2⟩
    · exact .inl ⟨p, List.mem_cons_of_mem _ hp, h1, h2⟩
    · by_cases e : id = j
      · subst e
        rw [List.getElem?_set] at h1
        simp only [if_true] at h1
        split at h1
        · cases h1; exact .inl ⟨(id, c), List.mem_cons_self .., rfl, rfl⟩
        · cases h1
      · rw [List.getElem?_set_ne e] at h1
        refine .inr ⟨h1, fun p hp => ?_⟩
        rcases List.mem_cons.1 hp with rfl | hp
        · exact e
        · exact h2 p hp

theorem Post.freeze {μ : Nat → Option Loc} {D F : Nat → Prop} {H : Heap} {w : World} (h : Rel μ D F H w) (hD : ∀ id l, id < H.length → μ id = some l → l.real = true → D id) {L : List (Nat × Blk)} (hL : LOk μ D H w (LF μ F L) L) :
    Post μ D F H w μ D (LF μ F L) (frz H L) w := by
  have hF : ∀ m, F m → LF μ F L m := fun m hm => .inl hm
  have hLo : ∀ p ∈ L, ∀ l, μ p.1 = some l → l.real = true → D p.1 ∧ OwnS μ D H l.m := fun p hp l hl hre => by
    obtain ⟨⟨b, hb, ho⟩, _⟩ := hL p hp
    have hd := hD p.1 l (List.getElem?_eq_some_iff.1 hb).1 hl hre
    exact ⟨hd, p.1, b, l, hd, hb, ho, hl, rfl⟩
  have hpd : ∀ j b, (frz H L)[j]? = some b → b.own = true → H[j]? = some b ∧ ∀ p ∈ L, p.1 ≠ j := fun j b hb ho => by
    rcases frz_get L H j b hb with ⟨p, hp, rfl, rfl⟩ | h
    · obtain ⟨_, sz, xs, e, _⟩ := hL p hp
      rw [e] at ho; simp [Blk.own] at ho
    · exact h
  refine ⟨fun _ _ => rfl, fun _ _ h => h, by rw [frz_length]; exact Nat.le_refl _, fun j => ⟨.inl, fun h => h.elim (fun h => h) fun ⟨a, b, _⟩ => absurd (Nat.lt_of_le_of_lt a (by rwa [frz_length] at b)) (Nat.lt_irrefl _)⟩, hF, ?_, ⟨?_, ?_, ?_, ?_, ?_⟩,
    fun _ _ _ => rfl, ?_, Nat.le_refl _, rfl, rfl, rfl⟩
  · rintro m (hm | ⟨p, hp, l, hl, hre, rfl⟩)
    · exact .inl hm
    · exact .inr (.inr (hLo p hp l hl hre).2)
  · intro j b hd hb
    rcases frz_get L H j b hb with ⟨p, hp, rfl, rfl⟩ | ⟨hb, hne⟩
    · obtain ⟨_, sz, xs, e, k⟩ := hL p hp
      obtain ⟨l, cs, k1, k2, k3, k4, k5, k6, k7⟩ := k hd
      rw [e]
      exact ⟨l, cs, k1, k2, k3, k4, k5, k6, k7⟩
    · refine (h.blk j b hd hb).mono (fun _ _ h => h) (.refl _ _) hF fun lj hlj hoj => ⟨rfl, ?_⟩
      rintro (hm | ⟨p, hp, l, hl, hre, e⟩)
      · exact (h.own_notF ⟨j, b, lj, hd, hb, hoj, hlj, rfl⟩).2 hm
      · obtain ⟨hdp, _⟩ := hLo p hp l hl hre
        obtain ⟨⟨c, hc, hoc⟩, _⟩ := hL p hp
        exact hne p hp (h.inj p.1 j l lj c b hdp hd hc hb hoc hoj hl hlj e)
  · intro i j li lj bi bj hi hj hbi hbj hoi hoj
    exact h.inj i j li lj bi bj hi hj (hpd i bi hbi hoi).1 (hpd j bj hbj hoj).1 hoi hoj
  · rintro m (hm | ⟨p, hp, l, hl, hre, rfl⟩)
    · exact h.frz m hm
    · exact (h.own_notF (hLo p hp l hl hre).2).1
  · intro j hj; rw [frz_length]; exact h.lt j hj
  · intro j b l hb hl hre ho
    exact h.non j b l (hpd j b hb ho).1 hl hre ho
  · rintro m ⟨j, b, l, hd, hb, ho, hl, rfl⟩
    exact .inr ⟨j, b, l, hd, (hpd j b hb ho).1, ho, hl, rfl⟩

end Go.Proofs.Ytanlmanifpknoaa.Ev
namespace Go.Proofs.Ytanlmanifpknoaa.Ev
open Go Go.RowKit
set_option linter.unusedVariables false
set_option linter.unusedSimpArgs false
def Does (P : Program) (o : Oper) (a : Act) (w : World) (R : Value → World → Prop) : Prop :=
  ∀ (next : Act → World → Prop) (Q : Exit → Act → World → Prop), (∀ x w', R x w' → next (a.put o.dst x) w') → o.wp P a w next Q

section
variable {P : Program} {o : Oper} {a : Act} {w w' : World} {R : Value → World → Prop}
theorem Does.value {x : Value} (h : (execOp a.eval o).run P w = .ok (.value x) w') (hR : R x w') : Does P o a w R := fun next Q hn => by
  unfold Oper.wp; rw [h]; exact hn x w' hR
theorem Does.skip (h : (execOp a.eval o).run P w = .ok .skip w') (hR : R undef w') : Does P o a w R := fun next Q hn => by
  unfold Oper.wp; rw [h]; exact hn undef w' hR
theorem Does.enter {f : FuncId} {args : Array Value} (h : (execOp a.eval o).run P w = .ok (.enter f args) w') (hc : Calls P f args w' fun e w'' => ∃ x, e = .returned x ∧ R x w'') : Does P o a w R := fun next Q hn => by
  unfold Oper.wp; rw [h]
  show Calls P f args w' _
  refine hc.mono fun e w'' ⟨x, he, hx⟩ => ?_
  subst he
  exact hn x w'' hx
theorem Does.mono {R' : Value → World → Prop} (h : Does P o a w R) (hr : ∀ x w', R x w' → R' x w') : Does P o a w R' := fun next Q hn => h next Q fun x w' hx => hn x w' (hr x w' hx)

theorem run_underlying {t : TypeId} {d : TypeDesc} (h : P.underlying t = some d) : (underlying t).run P w = .ok d w := by
  unfold underlying
  simp [Sem.run_bind, run_program, h]
theorem run_sizeOf {t : TypeId} {n : Nat} (h : szT P t = some n) : (sizeOf t).run P w = .ok n w := by
  unfold szT at h
  unfold sizeOf typeInfo
  cases hi : P.info? t with
  | none => simp [hi] at h
  | some i => simp [hi] at h; simp [Sem.run_bind, run_program, hi, h]
theorem run_isAgg {t : TypeId} {g : Bool} (h : aggT P t = some g) : (isAgg t).run P w = .ok g w := by
  unfold aggT at h
  cases hu : P.underlying t with
  | none => simp [hu] at h
  | some d =>
    simp [hu] at h
    unfold isAgg
    simp only [Sem.run_bind, run_underlying hu, Result.andThen_ok]
    subst h
    cases d <;> rfl
end


theorem run_loads {P : Program} {w : World} {m o n : Nat} {cs : Array Value} (h : Cel w m cs) (hb : o + n ≤ cs.size) :
    (loadCells ⟨m, o, none⟩ n).run P w = .ok ((List.range n).map fun j => cs.getD (o + j) undef).toArray w :=
  run_loadCells w _ n _ fun j hj => by
    rw [Addr.add_lit, h.cell, Array.getD_eq_getD_getElem?, Array.getElem?_eq_getElem (by omega)]; rfl

section
variable {P : Program} {μ : Nat → Option Loc} {D F : Nat → Prop} {H : Heap} {w : World}

theorem run_loadVar_agg {t : TypeId} {m o n : Nat} {cs : Array Value} (hg : aggT P t = some true) (hs : szT P t = some n) (h : Cel w m cs) (hb : o + n ≤ cs.size) :
    (loadVar t ⟨m, o, none⟩).run P w = .ok (.agg ((List.range n).map fun j => cs.getD (o + j) undef).toArray) w := by
  unfold loadVar
  simp only [Sem.run_bind, run_isAgg hg, Result.andThen_ok, if_true, run_sizeOf hs, run_loads h hb, Sem.run_pure]
theorem run_loadVar_one {t : TypeId} {m o : Nat} {cs : Array Value} (hg : aggT P t = some false) (h : Cel w m cs) (hb : o < cs.size) :
    (loadVar t ⟨m, o, none⟩).run P w = .ok (cs.getD o undef) w := by
  unfold loadVar
  have hc : w.cell? ⟨m, o, none⟩ = some (cs.getD o undef) := by rw [h.cell, Array.getD_eq_getD_getElem?, Array.getElem?_eq_getElem hb]; rfl
  simp only [Sem.run_bind, run_isAgg hg, Result.andThen_ok, Bool.false_eq_true, if_false, run_load, hc]

theorem range_get (f : Nat → Value) (n i : Nat) (a : Value) (h : ((List.range n).map f)[i]? = some a) : i < n ∧ a = f i := by
  rw [List.getElem?_map] at h
  by_cases hi : i < n
  · rw [List.getElem?_range hi] at h; simp at h; exact ⟨hi, h.symm⟩
  · rw [List.getElem?_eq_none (by simpa using hi)] at h; cases h

theorem part_ok {t : TypeId} {g : Bool} {n m off c : Nat} {cs : Array Value} {x : T} {u : V} (hg : aggT P t = some g) (hs : szT P t = some n) (hm : Cel w m cs) (hb : off + x.cells.length ≤ cs.size)
    (he : EL w F cs off x) (hp : x.part g c n = some u) : ∃ y, (loadVar t ⟨m, off + c, none⟩).run P w = .ok y w ∧ VR μ w F u y := by
  unfold T.part at hp
  cases g with
  | true =>
    simp only [if_true] at hp
    split at hp
    · rename_i hc
      cases hp
      refine ⟨_, run_loadVar_agg hg hs hm (by omega), .t (.agg _ _ (by simp; omega) fun i y a hy ha => ?_)⟩
      obtain ⟨hi, rfl⟩ := range_get _ _ _ _ ha
      rw [List.getElem?_take, if_pos hi, List.getElem?_drop] at hy
      have := he _ y hy
      rwa [show off + c + i = off + (c + i) by omega]
    · cases hp
  | false =>
    simp only [Bool.false_eq_true, if_false] at hp
    cases hc : x.cells[c]? with
    | none => simp [hc] at hp
    | some y =>
      simp [hc] at hp; subst hp
      have hlt := (List.getElem?_eq_some_iff.1 hc).1
      exact ⟨_, run_loadVar_one hg hm (by omega), .t (he c y hc)⟩

theorem ld_ok {t : TypeId} {g : Bool} {n : Nat} {v u : V} {x : Value} (h : RelB μ D F H w) (hg : aggT P t = some g) (hs : szT P t = some n) (he : evLd H g n v = some u) (hv : VR μ w F v x)
    (hd : ∀ id i c l, v = .ptr id i c → μ id = some l → l.real = true → D id) : ∃ y, (Instr.loadAt t x).run P w = .ok y w ∧ VR μ w F u y := by
  have hgo : ∀ (ad : Addr), (Instr.loadAt t (.pointer (some ad))).run P w = (loadVar t ad).run P w := fun ad => by
    unfold Instr.loadAt Instr.sureAddr
    simp only [Sem.run_bind, Sem.run_pure, Result.andThen_ok]
  cases hv with
  | rptr y c m off cs hF hm hb hh =>
    simp only [evLd] at he
    rw [hgo]; exact part_ok hg hs hm hb hh he
  | t hx =>
    cases hx with
    | ptr y m off cs hF hm hb hh =>
      simp only [evLd] at he
      rw [hgo]; exact part_ok (c := 0) hg hs hm hb hh he
    | _ => simp [evLd] at he
  | ptr id i c l hl hre =>
    have hdi : D id := hd id i c l rfl hl hre
    rw [hgo]
    simp only [evLd] at he
    split at he
    · rename_i sz xs hb
      obtain ⟨l', cs, k1, k2, k3, k4, k5, k6, k7, k8⟩ := h id _ hdi hb
      rw [hl] at k1; cases k1.1
      split at he
      · rename_i y hy
        have hr := k8.rd i y hy
        rw [Nat.zero_add, ← k4] at hr
        refine part_ok hg hs k2.cel ?_ hr he
        have h1 := k8.size
        have h2 := k8.el i y hy
        have hlt := (List.getElem?_eq_some_iff.1 hy).1
        simp only [T.el, Bool.and_eq_true, beq_iff_eq] at h2
        have h3 : (i + 1) * sz ≤ xs.length * sz := Nat.mul_le_mul_right _ hlt
        rw [Nat.add_mul] at h3
        rw [k4]; omega
      · cases he
    · rename_i sz xs hb
      obtain ⟨l', cs, k1, k2, k3, k4, k5, k6, k8⟩ := h id _ hdi hb
      rw [hl] at k1; cases k1.1
      split at he
      · rename_i y hy
        have hr := k8.rd i y hy
        rw [Nat.zero_add, ← k4] at hr
        refine part_ok hg hs k2 ?_ hr he
        have h1 := k8.size
        have h2 := k8.el i y hy
        have hlt := (List.getElem?_eq_some_iff.1 hy).1
        simp only [T.el, Bool.and_eq_true, beq_iff_eq] at h2
        have h3 : (i + 1) * sz ≤ xs.length * sz := Nat.mul_le_mul_right _ hlt
        rw [Nat.add_mul] at h3
        rw [k4]; omega
      · cases he
    · rename_i sz vs hb
      obtain ⟨l', cs, k1, k2, k3, k4, k5, k6, k7, k8⟩ := h id _ hdi hb
      rw [hl] at k1; cases k1.1
      subst k4
      cases g with
      | true =>
        simp only [if_true] at he
        split at he
        · rename_i hc
          cases he
          refine ⟨_, run_loadVar_agg hg hs k2.cel (by omega), .agg _ _ (by simp; omega) fun j y a hy ha => ?_⟩
          obtain ⟨hj, rfl⟩ := range_get _ _ _ _ ha
          rw [List.getElem?_take, if_pos hj, List.getElem?_drop] at hy
          exact k8 _ y hy
        · cases he
      | false =>
        simp only [Bool.false_eq_true, if_false] at he
        have hlt := (List.getElem?_eq_some_iff.1 he).1
        exact ⟨_, run_loadVar_one hg k2.cel (by omega), k8 _ u he⟩
    · cases he
  | _ => simp [evLd] at he

theorem fad_ok {s : TypeId} {f : Nat} {fs : Array Field} {fd : Field} {n : Nat} {v u : V} {x : Value} (hu : P.underlying s = some (.struct fs)) (hf : fs[f]? = some fd) (hs : szT P fd.type = some n) (hn : 0 < n)
    (he : evFad fd.offset v = some u) (hv : VR μ w F v x) : ∃ y, (Instr.fieldAt s x f).run P w = .ok y w ∧ VR μ w F u y := by
  have hgo : ∀ (m o : Nat), (Instr.fieldAt s (.pointer (some ⟨m, o, none⟩)) f).run P w = .ok (.pointer (some ⟨m, o + fd.offset, none⟩)) w := fun m o => by
    unfold Instr.fieldAt Instr.sureAddr fieldPlace
    simp only [Sem.run_bind, run_underlying hu, Result.andThen_ok, hf, Sem.run_pure, run_sizeOf hs, if_neg (Nat.pos_iff_ne_zero.1 hn), Addr.add_lit]
  cases hv with
  | rptr y c m off cs hF hm hb hh =>
    simp only [evFad] at he; cases he
    rw [hgo]
    exact ⟨_, rfl, by rw [Nat.add_assoc]; exact .rptr y _ m off cs hF hm hb hh⟩
  | t hx =>
    cases hx with
    | ptr y m off cs hF hm hb hh =>
      simp only [evFad] at he; cases he
      rw [hgo]
      exact ⟨_, rfl, .rptr y _ m off cs hF hm hb hh⟩
    | _ => simp [evFad] at he
  | ptr id i c l hl hre =>
    simp only [evFad] at he; cases he
    rw [hgo]
    exact ⟨_, rfl, by rw [Nat.add_assoc]; exact .ptr id i _ l hl hre⟩
  | _ => simp [evFad] at he

theorem fld_ok {s : TypeId} {f : Nat} {fs : Array Field} {fd : Field} {g : Bool} {n : Nat} {v u : V} {x : Value} (hu : P.underlying s = some (.struct fs)) (hf : fs[f]? = some fd) (hs : szT P fd.type = some n) (hg : aggT P fd.type = some g)
    (he : evFld g fd.offset n v = some u) (hv : VR μ w F v x) : ∃ y, (Instr.field s x f).run P w = .ok y w ∧ VR μ w F u y := by
  have hgo : ∀ (cs : List V) (as : List Value), VRs μ w F cs as → (if g then (if fd.offset + n ≤ cs.length then some (V.agg ((cs.drop fd.offset).take n)) else none) else cs[fd.offset]?) = some u ∨
      ((∃ ts : List T, cs = ts.map .t ∧ (T.agg ts).part g fd.offset n = some u)) → ∃ y, (Instr.field s (.agg as.toArray) f).run P w = .ok y w ∧ VR μ w F u y := fun cs as hvs hc => by
    have hr : (Instr.field s (.agg as.toArray) f).run P w = (part fd.type as.toArray fd.offset).run P w := by
      unfold Instr.field
      simp only [Sem.run_bind, run_underlying hu, Result.andThen_ok, hf, asAgg, Sem.run_pure]
    rw [hr]
    unfold part
    simp only [Sem.run_bind, run_isAgg hg, Result.andThen_ok]
    cases g with
    | true =>
      simp only [if_true, Sem.run_bind, run_sizeOf hs, Result.andThen_ok, Sem.run_pure]
      have hex : as.toArray.extract fd.offset (fd.offset + n) = ((as.drop fd.offset).take n).toArray := by
        simp [List.extract_toArray, List.extract_eq_take_drop]
      rw [hex]
      refine ⟨_, rfl, ?_⟩
      rcases hc with hc | ⟨ts, rfl, hc⟩
      · simp only [if_true] at hc
        split at hc
        · cases hc
          refine .agg _ _ (by simp [hvs.1]) fun i y b hy hb => ?_
          rw [List.getElem?_take] at hy hb
          split at hy
          · rename_i hi
            rw [if_pos hi] at hb
            rw [List.getElem?_drop] at hy hb
            exact hvs.2 _ y b hy hb
          · cases hy
        · cases hc
      · simp only [T.part, if_true] at hc
        by_cases hq : fd.offset + n ≤ (T.agg ts).cells.length
        · rw [if_pos hq] at hc
          cases hc
          refine .t (.agg _ _ (by have := hvs.1; simp at this; simp [this, T.cells]) fun i y b hy hb => ?_)
          rw [List.getElem?_take] at hy hb
          split at hy
          · rename_i hi
            rw [if_pos hi] at hb
            rw [List.getElem?_drop] at hy hb
            have hy' : ts[fd.offset + i]? = some y := hy
            exact (hvs.2 _ (.t y) b (by simp [hy']) hb).tT
          · cases hy
        · rw [if_neg hq] at hc; cases hc
    | false =>
      simp only [Bool.false_eq_true, if_false]
      have hlt : fd.offset < as.length ∧ ∀ y, as[fd.offset]? = some y → VR μ w F u y := by
        rcases hc with hc | ⟨ts, rfl, hc⟩
        · simp only [Bool.false_eq_true, if_false] at hc
          exact ⟨by rw [hvs.1]; exact (List.getElem?_eq_some_iff.1 hc).1, fun y hy => hvs.2 _ u y hc hy⟩
        · simp only [T.part, T.cells, Bool.false_eq_true, if_false] at hc
          cases hx : ts[fd.offset]? with
          | none => simp [hx] at hc
          | some y =>
            simp [hx] at hc; subst hc
            refine ⟨by rw [hvs.1]; simpa using (List.getElem?_eq_some_iff.1 hx).1, fun z hz => hvs.2 _ (.t y) z (by simp [hx]) hz⟩
      have hget : as.toArray[fd.offset]? = some (as[fd.offset]'hlt.1) := by simp [hlt.1]
      simp only [hget, Sem.run_pure]
      exact ⟨_, rfl, hlt.2 _ (List.getElem?_eq_getElem hlt.1)⟩
  cases hv with
  | t hx =>
    cases hx with
    | agg xs as hl h =>
      simp only [evFld] at he
      exact hgo (xs.map .t) as (VRs.ofT hl h) (.inr ⟨xs, rfl, he⟩)
    | _ => simp [evFld] at he
  | agg vs as hl h =>
    simp only [evFld] at he
    exact hgo vs as ⟨hl, h⟩ (.inl he)
  | _ => simp [evFld] at he

end
end Go.Proofs.Ytanlmanifpknoaa.Ev
namespace Go.Proofs.Ytanlmanifpknoaa.Ev
open Go Go.RowKit
set_option linter.unusedVariables false
set_option linter.unusedSimpArgs false

section
variable {P : Program} {μ : Nat → Option Loc} {D F : Nat → Prop} {H : Heap} {w : World}

theorem RelB.sz (h : RelB μ D F H w) {id : Nat} {b : Blk} {s : Nat} {l : Loc} (hd : D id) (hb : H[id]? = some b) (hs : b.sz = some s) (hl : μ id = some l) : l.sz = s := by
  have := h id b hd hb
  cases b with
  | pure z xs => obtain ⟨l', cs, k1, k2, k3, k4, _⟩ := this; rw [hl] at k1; cases k1.1; simp [Blk.sz] at hs; omega
  | froz z xs => obtain ⟨l', cs, k1, k2, k3, k4, _⟩ := this; rw [hl] at k1; cases k1.1; simp [Blk.sz] at hs; omega
  | box z xs => obtain ⟨l', cs, k1, k2, k3, k4, _⟩ := this; rw [hl] at k1; cases k1.1; simp [Blk.sz] at hs; omega
  | _ => simp [Blk.sz] at hs

theorem VR.int {k : IntKind} {n : Int} {x : Value} (h : VR μ w F (.t (.int k n)) x) : x = .int k n := by cases h.tT; rfl
theorem VR.boolv {b : Bool} {x : Value} (h : VR μ w F (.t (.bool b)) x) : x = .bool b := by cases h.tT; rfl
theorem VR.strv {s : ByteArray} {x : Value} (h : VR μ w F (.t (.str s)) x) : x = .string s := by cases h.tT; rfl

theorem ixa_ok {t e : TypeId} {sz : Nat} {v i u : V} {x y : Value} (h : RelB μ D F H w) (hu : P.underlying t = some (.slice e)) (hs : szT P e = some sz) (he : evIxa H sz v i = some u) (hv : VR μ w F v x) (hi : VR μ w F i y)
    (hd : ∀ id o n l, v = .ref id o n → μ id = some l → l.real = true → D id) : ∃ z, (Instr.indexAt t x y).run P w = .ok z w ∧ VR μ w F u z := by
  unfold evIxa at he
  split at he
  · rename_i k n
    have := hi.int; subst this
    have hgo : ∀ (m o len cap : Nat), 0 ≤ n → n < len → (Instr.indexAt t (.slice (some ⟨m, o, none⟩) len cap) (.int k n)).run P w = .ok (.pointer (some ⟨m, o + n.toNat * sz, none⟩)) w := fun m o len cap h0 h1 => by
      unfold Instr.indexAt
      simp only [asIntOf, Sem.run_bind, Sem.run_pure, Result.andThen_ok, run_underlying hu, run_sizeOf hs, if_pos (And.intro h0 h1), Addr.add_lit, Sem.run_ite]
    cases hv with
    | ref id off len cap l hl hre h1 h2 h3 =>
      simp only at he
      split at he
      · rename_i b hb
        split at he
        · rename_i s hbs
          split at he
          · rename_i hc
            obtain ⟨rfl, h0, hn⟩ := hc
            cases he
            have hz := h.sz (hd id off len l rfl hl hre) hb hbs hl
            refine ⟨_, hgo _ _ _ _ h0 hn, ?_⟩
            rw [← hz, ← Nat.add_mul]
            exact .ptr id (off + n.toNat) 0 l hl hre
          · cases he
        · cases he
      · cases he
    | ref0 id off a l0 hl0 h0' =>
      simp only at he
      split at he
      · split at he
        · split at he
          · rename_i hc; obtain ⟨_, _, hc⟩ := hc; exfalso; simp at hc; omega
          · cases he
        · cases he
      · cases he
    | t hx =>
      cases hx with
      | lst s xs m off cap cs hF hm hb hcap hel hh =>
        simp only at he
        split at he
        · rename_i hc
          obtain ⟨rfl, h0⟩ := hc
          split at he
          · rename_i z hz
            cases he
            have hlt := (List.getElem?_eq_some_iff.1 hz).1
            refine ⟨_, hgo _ _ _ _ h0 (by omega), ?_⟩
            have he2 := hel _ z hz
            simp only [T.el, Bool.and_eq_true, beq_iff_eq] at he2
            have h3 : (n.toNat + 1) * s ≤ xs.length * s := Nat.mul_le_mul_right _ hlt
            rw [Nat.add_mul] at h3
            exact .rptr z 0 m (off + n.toNat * s) cs hF hm (by omega) fun j q hq => hh _ z j q hz hq
          · cases he
        · cases he
      | lst0 s a cap =>
        simp only at he
        split at he
        · simp at he
        · cases he
      | _ => simp at he
    | _ => simp at he
  · cases he
inductive OR (μ : Nat → Option Loc) (w : World) (F : Nat → Prop) : Option V → Option Value → Prop
  | none : OR μ w F none none
  | some {v : V} {x : Value} (h : VR μ w F v x) : OR μ w F (some v) (some x)

theorem sbs_ok {b : Bool} {d cap l h : Nat} {lo hi : Option V} {xl xh : Option Value} (h1 : OR μ w F lo xl) (h2 : OR μ w F hi xh) (hl : bound 0 lo = some l) (hh : bound d hi = some h) (hlh : l ≤ h) (hc : h ≤ cap) :
    (Instr.sliceBounds b d cap xl xh none).run P w = .ok (l, h, cap) w := by
  have hsb : ∀ {v : V} {x : Value} {n y : Nat} {code : BoundsCode}, VR μ w F v x → bound d (some v) = some n ∨ bound 0 (some v) = some n → n ≤ y → (Instr.sliceBound x y code).run P w = .ok n w := by
    intro v x n y code hv hb hy
    have : ∃ k q, v = .t (.int k q) ∧ 0 ≤ q ∧ q.toNat = n := by
      rcases hb with hb | hb
      all_goals
        unfold bound at hb
        split at hb
        · rename_i e; cases e
        · rename_i k q e
          cases e
          split at hb
          · cases hb; exact ⟨k, q, rfl, by assumption, rfl⟩
          · cases hb
        · cases hb
    obtain ⟨k, q, rfl, hq, rfl⟩ := this
    have := hv.int; subst this
    unfold Instr.sliceBound
    simp only [asIntOf, Sem.run_bind, Sem.run_pure, Result.andThen_ok, if_pos (show 0 ≤ q ∧ q ≤ (y : Int) from ⟨hq, by omega⟩)]
  unfold Instr.sliceBounds
  cases h1 with
  | none =>
    simp only [bound] at hl; cases hl
    cases h2 with
    | none => simp only [bound] at hh; cases hh; simp only [Sem.run_bind, Sem.run_pure, Result.andThen_ok]
    | some k2 => simp only [Sem.run_bind, Sem.run_pure, Result.andThen_ok, hsb k2 (.inl hh) hc]
  | some k1 =>
    cases h2 with
    | none => simp only [bound] at hh; cases hh; simp only [Sem.run_bind, Sem.run_pure, Result.andThen_ok, hsb k1 (.inr hl) hlh]
    | some k2 => simp only [Sem.run_bind, Sem.run_pure, Result.andThen_ok, hsb k2 (.inl hh) hc, hsb k1 (.inr hl) hlh]

theorem slc_ok {t e : TypeId} {sz : Nat} {v u : V} {x : Value} {lo hi : Option V} {xl xh : Option Value} (h : RelB μ D F H w) (hu : P.underlying t = some (.slice e)) (hs : szT P e = some sz) (hs0 : 0 < sz) (he : evSlc H sz v lo hi = some u) (hv : VR μ w F v x)
    (h1 : OR μ w F lo xl) (h2 : OR μ w F hi xh) (hd : ∀ id o n l, v = .ref id o n → μ id = some l → l.real = true → D id) : ∃ z, (Instr.sliceAt t x xl xh none).run P w = .ok z w ∧ VR μ w F u z := by
  have hgo : ∀ (a : Option Addr) (len cap l h : Nat), bound 0 lo = some l → bound len hi = some h → l ≤ h → h ≤ cap →
      (Instr.sliceAt t (.slice a len cap) xl xh none).run P w = .ok (.slice (if cap = l then a else a.map (·.add (l * sz))) (h - l) (cap - l)) w := fun a len cap l h k1 k2 k3 k4 => by
    unfold Instr.sliceAt
    simp only [Sem.run_bind, run_underlying hu, Result.andThen_ok]
    unfold Instr.slice
    simp only [Sem.run_bind, run_underlying hu, Result.andThen_ok, sbs_ok h1 h2 k1 k2 k3 k4, run_sizeOf hs, Sem.run_pure]
  unfold evSlc at he
  cases hv with
  | ref id off len cap l hl hre k1 k2 k3 =>
    simp only at he
    split at he
    · rename_i b hb
      split at he
      · rename_i s hbs
        split at he
        · rename_i lo' hi' hlo hhi
          split at he
          · rename_i hc
            obtain ⟨rfl, hc1, hc2⟩ := hc
            cases he
            have hz := h.sz (hd id off len l rfl hl hre) hb hbs hl
            refine ⟨_, hgo _ _ _ _ _ hlo hhi hc1 (by omega), ?_⟩
            by_cases hcap : cap = lo'
            · rw [if_pos hcap]
              rw [show hi' - lo' = 0 by omega, show cap - lo' = 0 by omega]
              exact .ref0 id _ _ l hl (by omega)
            · rw [if_neg hcap]
              simp only [Option.map_some, Addr.add_lit]
              rw [← hz, ← Nat.add_mul]
              refine .ref id (off + lo') (hi' - lo') (cap - lo') l hl hre (by omega) (by omega) ?_
              rw [show off + lo' + (cap - lo') = off + cap by omega]; exact k3
          · cases he
        · cases he
      · cases he
    · cases he
  | ref0 id off a l0 hl0 h0' =>
    simp only at he
    split at he
    · split at he
      · split at he
        · rename_i lo' hi' hlo hhi
          split at he
          · rename_i hc
            obtain ⟨rfl, hc1, hc2⟩ := hc
            cases he
            have e1 : hi' = 0 := by omega
            have e2 : lo' = 0 := by omega
            subst e1 e2
            exact ⟨_, hgo _ _ _ _ _ hlo hhi (Nat.le_refl _) (Nat.le_refl _), by simp; exact .ref0 id _ _ l0 hl0 h0'⟩
          · cases he
        · cases he
      · cases he
    · cases he
  | t hx =>
    cases hx with
    | lst s xs m off cap cs hF hm hb hcap hel hh =>
      simp only at he
      split at he
      · rename_i lo' hi' hlo hhi
        split at he
        · rename_i hc
          obtain ⟨rfl, hc1, hc2⟩ := hc
          cases he
          refine ⟨_, hgo _ _ _ _ _ hlo hhi hc1 (by omega), .t ?_⟩
          have hlen : ((xs.drop lo').take (hi' - lo')).length = hi' - lo' := by simp; omega
          by_cases hcap' : cap = lo'
          · rw [if_pos hcap']
            have e1 : hi' - lo' = 0 := by omega
            rw [e1, List.take_zero]
            exact .lst0 _ _ _
          · rw [if_neg hcap']
            simp only [Option.map_some, Addr.add_lit]
            have := TR.lst (w := w) (F := F) s ((xs.drop lo').take (hi' - lo')) m (off + lo' * s) (cap - lo') cs hF hm ?_ (by rw [hlen]; omega) ?_ ?_
            · rw [hlen] at this; exact this
            · rw [hlen]
              have h2 : (lo' + (hi' - lo')) * s ≤ xs.length * s := Nat.mul_le_mul_right _ (by omega)
              rw [Nat.add_mul] at h2
              omega
            · intro i x hx
              rw [List.getElem?_take] at hx
              split at hx
              · rw [List.getElem?_drop] at hx; exact hel _ x hx
              · cases hx
            · intro i x j y hx hy
              rw [List.getElem?_take] at hx
              split at hx
              · rw [List.getElem?_drop] at hx
                have := hh _ x j y hx hy
                rw [show off + lo' * s + i * s + j = off + (lo' + i) * s + j by rw [Nat.add_mul]; omega]
                exact this
              · cases hx
        · cases he
      · cases he
    | lst0 s a cap =>
      simp only at he
      split at he
      · rename_i lo' hi' hlo hhi
        split at he
        · rename_i hc
          obtain ⟨rfl, hc1, hc2⟩ := hc
          cases he
          simp only [List.length_nil] at hhi hc2
          have e1 : hi' = 0 := by omega
          have e2 : lo' = 0 := by omega
          subst e1 e2
          refine ⟨_, hgo _ _ _ _ _ hlo hhi (Nat.le_refl _) (Nat.zero_le _), .t ?_⟩
          exact .lst0 _ _ _
        · cases he
      · cases he
    | nil =>
      simp only at he
      split at he
      · rename_i hlo hhi
        cases he
        refine ⟨_, hgo _ _ _ _ _ hlo hhi (Nat.le_refl _) (Nat.le_refl _), ?_⟩
        simp; exact .t .nil
      · cases he
    | _ => simp at he
  | _ => simp at he

theorem sls_ok {t : TypeId} {v u : V} {x : Value} {lo hi : Option V} {xl xh : Option Value} (hu : P.underlying t = some .string) (he : evSls v lo hi = some u) (hv : VR μ w F v x)
    (h1 : OR μ w F lo xl) (h2 : OR μ w F hi xh) : ∃ z, (Instr.sliceAt t x xl xh none).run P w = .ok z w ∧ VR μ w F u z := by
  unfold evSls at he
  split at he
  · rename_i s
    have := hv.strv; subst this
    split at he
    · rename_i lo' hi' hlo hhi
      split at he
      · rename_i hc
        cases he
        refine ⟨.string (s.extract lo' hi'), ?_, .t (.str _)⟩
        unfold Instr.sliceAt
        simp only [Sem.run_bind, run_underlying hu, Result.andThen_ok]
        unfold Instr.slice
        simp only [Sem.run_bind, run_underlying hu, Result.andThen_ok, Option.isSome_none, Bool.false_eq_true, if_false, Sem.run_pure, sbs_ok h1 h2 hlo hhi hc.1 hc.2]
      · cases he
    · cases he
  · cases he

theorem evInt_ok {op : BinOp} {k : IntKind} {x y : Int} {t : T} (he : evInt op k x y = some t) (t' : TypeId) : ∃ z, (binOp op t' (.int k x) (.int k y)).run P w = .ok z w ∧ TR w F t z := by
  cases op <;> simp only [evInt] at he
  case shl => cases he
  case shr => cases he
  case quo =>
    split at he
    · cases he
    · rename_i h0
      cases he
      refine ⟨_, ?_, .int _ _⟩
      simp [binOp, Op.intDiv, h0]
  case rem =>
    split at he
    · cases he
    · rename_i h0
      cases he
      refine ⟨_, ?_, .int _ _⟩
      simp [binOp, Op.intDiv, h0]
  all_goals
    cases he
    refine ⟨_, ?_, by constructor⟩
    simp [binOp, Op.intArith, Op.intBits, Op.intCmp]

theorem size_max {a b : ByteArray} (h : a.size + b.size ≤ 2 ^ 40) : ¬ ((a.size + b.size : Nat) : Int) > IntKind.i64.max := by
  have : IntKind.i64.max = 9223372036854775807 := by decide
  rw [this]
  have : (2 : Nat) ^ 40 = 1099511627776 := by decide
  omega

theorem evStr_ok {op : BinOp} {x y : ByteArray} {t : T} (he : evStr op x y = some t) (t' : TypeId) : ∃ z, (binOp op t' (.string x) (.string y)).run P w = .ok z w ∧ TR w F t z := by
  cases op <;> simp only [evStr] at he
  case add =>
    split at he
    · rename_i hs
      cases he
      refine ⟨_, ?_, .str _⟩
      simp only [binOp, Op.stringOp, if_neg (size_max hs), Sem.run_pure]
    · cases he
  case eql => cases he; exact ⟨_, by simp only [binOp, Op.stringOp, Sem.run_pure], .bool _⟩
  case neq => cases he; exact ⟨_, by simp only [binOp, Op.stringOp, Sem.run_pure], .bool _⟩
  all_goals cases he

end
end Go.Proofs.Ytanlmanifpknoaa.Ev
namespace Go.Proofs.Ytanlmanifpknoaa.Ev
open Go Go.RowKit
set_option linter.unusedVariables false
set_option linter.unusedSimpArgs false

section
variable {P : Program} {μ : Nat → Option Loc} {D F : Nat → Prop} {H : Heap} {w : World}

def Value.plainCmp : Value → Bool
  | .nilIface | .agg _ => false
  | _ => true
theorem guard_plain (op : BinOp) (t : TypeId) (X Y : Operand) (x y : Value) (h : Value.plainCmp x = true) : eqGuard op t X Y x y = pure () := by
  cases x <;> first | (cases op <;> rfl) | (simp [Value.plainCmp] at h)

theorem isNil_ok {v : V} {x : Value} {b : Bool} (hv : VR μ w F v x) (h : v.isNil = some b) : ∃ a n c, x = .slice a n c ∧ a.isNone = b := by
  cases hv with
  | t hx =>
    cases hx with
    | nil => simp [V.isNil] at h; subst h; exact ⟨_, _, _, rfl, rfl⟩
    | lst sz xs m off cap cs => simp only [V.isNil] at h; split at h <;> cases h; exact ⟨_, _, _, rfl, rfl⟩
    | lst0 => simp [V.isNil] at h
    | _ => simp [V.isNil] at h
  | ref id off len cap l hl => simp only [V.isNil] at h; split at h <;> cases h; exact ⟨_, _, _, rfl, rfl⟩
  | ref0 => simp [V.isNil] at h
  | _ => simp [V.isNil] at h

theorem isNilf_ok {v : V} {x : Value} {b : Bool} (hv : VR μ w F v x) (h : v.isNilf = some b) : (x = .nilFunc ∧ b = true) ∨ (∃ f a c, x = .func f a c ∧ b = false) := by
  cases hv with
  | t hx =>
    cases hx with
    | nilf => simp [V.isNilf] at h; subst h; exact .inl ⟨rfl, rfl⟩
    | clo => simp [V.isNilf] at h; subst h; exact .inr ⟨_, _, _, rfl, rfl⟩
    | _ => simp [V.isNilf] at h
  | clo => simp [V.isNilf] at h; subst h; exact .inr ⟨_, _, _, rfl, rfl⟩
  | _ => simp [V.isNilf] at h

theorem run_eqS (d : Nat) {t e : TypeId} (he : P.underlying t = some (.slice e)) (a : Option Addr) (n c : Nat) : (Op.equalIn (d + 1) t (.slice a n c) (.slice none 0 0)).run P w = .ok a.isNone w := by
  unfold Op.equalIn
  simp only [Sem.run_bind, run_underlying he, Result.andThen_ok]
  cases a <;> rfl
theorem run_eqS' (d : Nat) {t e : TypeId} (he : P.underlying t = some (.slice e)) (a : Option Addr) (n c : Nat) : (Op.equalIn (d + 1) t (.slice none 0 0) (.slice a n c)).run P w = .ok a.isNone w := by
  unfold Op.equalIn
  simp only [Sem.run_bind, run_underlying he, Result.andThen_ok]
  cases a <;> rfl
theorem run_eqF (d : Nat) {t : TypeId} {p q : Array TypeId} {r : Bool} (he : P.underlying t = some (.func p q r)) (x : Value) (b : Bool) (h : (x = .nilFunc ∧ b = true) ∨ (∃ f a c, x = .func f a c ∧ b = false)) :
    (Op.equalIn (d + 1) t x .nilFunc).run P w = .ok b w ∧ (Op.equalIn (d + 1) t .nilFunc x).run P w = .ok b w := by
  unfold Op.equalIn
  simp only [Sem.run_bind, run_underlying he, Result.andThen_ok]
  rcases h with ⟨rfl, rfl⟩ | ⟨f, a, c, rfl, rfl⟩ <;> exact ⟨rfl, rfl⟩

theorem run_both {t : TypeId} {x y : Value} {b : Bool} (hx : (∃ a n c, x = .slice a n c) ∨ x = .nilFunc ∨ ∃ f a c, x = .func f a c) (hy : (∃ a n c, y = .slice a n c) ∨ y = .nilFunc ∨ ∃ f a c, y = .func f a c)
    (h : (Op.equalIn (9999 + 1) t x y).run P w = .ok b w) : (binOp .eql t x y).run P w = .ok (.bool b) w ∧ (binOp .neq t x y).run P w = .ok (.bool (!b)) w := by
  have h' : (Op.equal t x y).run P w = .ok b w := h
  have e1 : binOp .eql t x y = (do pure (.bool (← Op.equal t x y))) := by
    rcases hx with ⟨a, n, c, rfl⟩ | rfl | ⟨f, a, c, rfl⟩ <;> rcases hy with ⟨a', n', c', rfl⟩ | rfl | ⟨f', a', c', rfl⟩ <;> rfl
  have e2 : binOp .neq t x y = (do pure (.bool (!(← Op.equal t x y)))) := by
    rcases hx with ⟨a, n, c, rfl⟩ | rfl | ⟨f, a, c, rfl⟩ <;> rcases hy with ⟨a', n', c', rfl⟩ | rfl | ⟨f', a', c', rfl⟩ <;> rfl
  rw [e1, e2]
  simp only [Sem.run_bind, h', Result.andThen_ok, Sem.run_pure, and_self]

theorem evEq_ok {kd : EqK} {t : TypeId} {v u : V} {x y : Value} {b : Bool} (hv : VR μ w F v x) (hu : VR μ w F u y) (h : evEq kd v u = some b)
    (h1 : kd = .bool → P.underlying t = some .bool) (h2 : kd = .slice → ∃ e, P.underlying t = some (.slice e)) (h3 : kd = .func → ∃ a b c, P.underlying t = some (.func a b c)) :
    Value.plainCmp x = true ∧ (binOp .eql t x y).run P w = .ok (.bool b) w ∧ (binOp .neq t x y).run P w = .ok (.bool (!b)) w := by
  unfold evEq at h
  split at h
  · cases h
    have := hv.boolv; subst this
    have := hu.boolv; subst this
    exact ⟨rfl, run_eql_bool w t _ _ (h1 rfl), run_neq_bool w t _ _ (h1 rfl)⟩
  · obtain ⟨e, he⟩ := h2 rfl
    obtain ⟨a, n, c, rfl, rfl⟩ := isNil_ok hv h
    cases hu.tT
    exact ⟨rfl, run_both (.inl ⟨_, _, _, rfl⟩) (.inl ⟨_, _, _, rfl⟩) (run_eqS 9999 he a n c)⟩
  · obtain ⟨_, _, _, he⟩ := h3 rfl
    cases hu.tT
    have k := isNilf_ok hv h
    have k2 := (run_eqF (P := P) (w := w) 9999 he x b k).1
    rcases k with ⟨rfl, rfl⟩ | ⟨f, a, c, rfl, rfl⟩
    · exact ⟨rfl, run_both (.inr (.inl rfl)) (.inr (.inl rfl)) k2⟩
    · exact ⟨rfl, run_both (.inr (.inr ⟨_, _, _, rfl⟩)) (.inr (.inl rfl)) k2⟩
  · obtain ⟨e, he⟩ := h2 rfl
    obtain ⟨a, n, c, rfl, rfl⟩ := isNil_ok hu h
    cases hv.tT
    exact ⟨rfl, run_both (.inl ⟨_, _, _, rfl⟩) (.inl ⟨_, _, _, rfl⟩) (run_eqS' 9999 he a n c)⟩
  · obtain ⟨_, _, _, he⟩ := h3 rfl
    cases hv.tT
    have k := isNilf_ok hu h
    have k2 := (run_eqF (P := P) (w := w) 9999 he y b k).2
    rcases k with ⟨rfl, rfl⟩ | ⟨f, a, c, rfl, rfl⟩
    · exact ⟨rfl, run_both (.inr (.inl rfl)) (.inr (.inl rfl)) k2⟩
    · exact ⟨rfl, run_both (.inr (.inl rfl)) (.inr (.inr ⟨_, _, _, rfl⟩)) k2⟩
  · cases h

theorem eqk_ok {op : BinOp} {t : TypeId} {kd : EqK} (h : eqk P op t = some kd) : (kd = .bool → P.underlying t = some .bool) ∧ (kd = .slice → ∃ e, P.underlying t = some (.slice e)) ∧ (kd = .func → ∃ a b c, P.underlying t = some (.func a b c)) := by
  unfold eqk at h
  split at h
  · split at h <;> cases h <;> refine ⟨fun e => ?_, fun e => ?_, fun e => ?_⟩ <;> first | (cases e; done) | (simp_all; done) | exact ⟨_, by assumption⟩ | exact ⟨_, _, _, by assumption⟩
  · split at h <;> cases h <;> refine ⟨fun e => ?_, fun e => ?_, fun e => ?_⟩ <;> first | (cases e; done) | (simp_all; done) | exact ⟨_, by assumption⟩ | exact ⟨_, _, _, by assumption⟩
  · cases h; refine ⟨fun e => ?_, fun e => ?_, fun e => ?_⟩ <;> cases e

theorem evBin_ok {op : BinOp} {kd : EqK} {t : TypeId} {X Y : Operand} {v u : V} {x y : Value} {r : T} (hk : eqk P op t = some kd) (hv : VR μ w F v x) (hu : VR μ w F u y) (he : evBin op kd v u = some r) :
    ∃ z, (do eqGuard op t X Y x y; binOp op t x y).run P w = .ok z w ∧ TR w F r z := by
  have hgo : ∀ {z : Value}, Value.plainCmp x = true → (binOp op t x y).run P w = .ok z w → (do eqGuard op t X Y x y; binOp op t x y).run P w = .ok z w := fun hp h => by
    rw [guard_plain op t X Y x y hp]
    simpa using h
  unfold evBin at he
  split at he
  · rename_i k a k' b
    have := hv.int; subst this
    have := hu.int; subst this
    split at he
    · split at he
      · cases he
      · rename_i hb
        cases he
        exact ⟨_, hgo rfl (by simp [binOp, Op.shift, hb]), .int _ _⟩
    · split at he
      · cases he
      · rename_i hb
        cases he
        exact ⟨_, hgo rfl (by simp [binOp, Op.shift, hb]), .int _ _⟩
    · split at he
      · rename_i hkk
        subst hkk
        obtain ⟨z, h1, h2⟩ := evInt_ok (P := P) (w := w) (F := F) he t
        exact ⟨z, hgo rfl h1, h2⟩
      · cases he
  · have := hv.strv; subst this
    have := hu.strv; subst this
    obtain ⟨z, h1, h2⟩ := evStr_ok (P := P) (w := w) (F := F) he t
    exact ⟨z, hgo rfl h1, h2⟩
  · obtain ⟨e1, e2, e3⟩ := eqk_ok hk
    split at he
    · cases hb : evEq kd v u with
      | none => simp [hb] at he
      | some b =>
        simp [hb] at he; subst he
        obtain ⟨k1, k2, k3⟩ := evEq_ok hv hu hb e1 e2 e3
        exact ⟨_, hgo k1 k2, .bool _⟩
    · cases hb : evEq kd v u with
      | none => simp [hb] at he
      | some b =>
        simp [hb] at he; subst he
        obtain ⟨k1, k2, k3⟩ := evEq_ok hv hu hb e1 e2 e3
        exact ⟨_, hgo k1 k3, .bool _⟩
    · cases he

theorem evUn_ok {op : UnOp} {v : V} {x : Value} {r : T} (hv : VR μ w F v x) (he : evUn op v = some r) : ∃ z, (Op.unary op x).run P w = .ok z w ∧ TR w F r z := by
  unfold evUn at he
  split at he
  · cases he
    have := hv.int; subst this
    exact ⟨_, by simp [Op.unary, Op.intArith], .int _ _⟩
  · cases he
    have := hv.boolv; subst this
    exact ⟨_, by simp [Op.unary], .bool _⟩
  · cases he


theorem foldl_splice : ∀ (vs : List Value) (cs : List Value) (o : Nat), o + vs.length ≤ cs.length →
    ((vs.zipIdx).foldl (fun (c : Array Value) p => c.setIfInBounds (o + p.2) p.1) cs.toArray).toList = splice cs o vs := by
  intro vs
  have key : ∀ (vs : List Value) (k o : Nat) (cs : List Value), o + k + vs.length ≤ cs.length →
      ((vs.zipIdx k).foldl (fun (c : Array Value) p => c.setIfInBounds (o + p.2) p.1) cs.toArray).toList = splice cs (o + k) vs := by
    intro vs
    induction vs with
    | nil => intro k o cs h; simp [splice]
    | cons v vs ih =>
      intro k o cs h
      simp only [List.length_cons] at h
      simp only [List.zipIdx_cons, List.foldl_cons, List.setIfInBounds_toArray]
      rw [ih (k + 1) o _ (by simp; omega)]
      unfold splice
      apply List.ext_getElem?
      intro i
      simp only [List.getElem?_append, List.getElem?_take, List.getElem?_drop, List.length_take, List.length_set, List.length_append, List.getElem?_set, List.length_cons, List.getElem?_cons]
      grind
  intro cs o h
  have := key vs 0 o cs h
  simpa using this

theorem fill_ok : ∀ (parts : List (Nat × Nat × V)) (mp : List (Nat × Value)) (place : Nat → Option (Nat × Nat)) (vs : List V) (as : List Value) (us : List V), mp.length = parts.length →
    (∀ (i : Nat) p q, parts[i]? = some p → mp[i]? = some q → place q.1 = some (p.1, p.2.1) ∧ VR μ w F p.2.2 q.2) → VRs μ w F vs as → fillV vs parts = some us →
    ∃ bs, Instr.fill place as.toArray mp = some bs.toArray ∧ VRs μ w F us bs
  | [], mp, place, vs, as, us, hl, hp, hv, hf => by
    have : mp = [] := by simpa using hl
    subst this
    simp only [fillV] at hf; cases hf
    exact ⟨as, rfl, hv⟩
  | (o, n, v) :: parts, [], place, vs, as, us, hl, hp, hv, hf => by simp at hl
  | (o, n, v) :: parts, (i, x) :: mp, place, vs, as, us, hl, hp, hv, hf => by
    obtain ⟨h1, h2⟩ := hp 0 _ _ rfl rfl
    have h1 : place i = some (o, n) := h1
    have h2 : VR μ w F v x := h2
    simp only [fillV] at hf
    cases hc : v.cells with
    | none => simp [hc] at hf
    | some cs =>
      simp only [hc] at hf
      split at hf
      · rename_i hcond
        have hcv := cells_VRs h2 hc
        have hsz : x.cells.size = n := by
          have h0 := hcv.1
          rw [Array.length_toList] at h0
          omega
        have has : as.length = vs.length := hv.1
        unfold Instr.fill
        simp only [h1]
        have hcs : cs.length = x.cells.size := by have h0 := hcv.1; rw [Array.length_toList] at h0; exact h0.symm
        have hno : ¬ ((x.cells.size ≠ n || o + x.cells.size > as.toArray.size) = true) := by
          simp [hsz]; omega
        rw [if_neg hno]
        have e : (x.cells.zipIdx.foldl (fun cs p => cs.setIfInBounds (o + p.2) p.1) as.toArray) = (splice as o x.cells.toList).toArray := by
          apply Array.toList_inj.1
          have := foldl_splice x.cells.toList as o (by rw [Array.length_toList]; omega)
          rw [← this]
          rw [← Array.foldl_toList]
          simp
        have e' : (x.cells.zipIdx.foldl (fun cs (x : Value × Nat) => match x with | (c, j) => cs.setIfInBounds (o + j) c) as.toArray) = (splice as o x.cells.toList).toArray := e
        rw [e']
        refine fill_ok parts mp place (splice vs o cs) (splice as o x.cells.toList) us (by simpa using hl) (fun j p q hp' hq => hp (j + 1) p q (by simpa using hp') (by simpa using hq)) ?_ hf
        have hl2 : x.cells.toList.length = cs.length := hcv.1
        refine ⟨by simp only [splice, List.length_append, List.length_take, List.length_drop]; omega, fun j v' a' hv' ha' => ?_⟩
        unfold splice at hv' ha'
        rw [hl2] at ha'
        simp only [List.getElem?_append, List.length_append, List.length_take, List.getElem?_take, List.getElem?_drop] at hv' ha'
        rw [hl2, has] at ha'
        split at hv'
        · rename_i hj1
          rw [if_pos hj1] at ha'
          split at hv'
          · rename_i hj2
            rw [if_pos hj2] at ha'
            split at hv'
            · rename_i hj3; rw [if_pos hj3] at ha'; exact hv.2 _ _ _ hv' ha'
            · cases hv'
          · rename_i hj2
            rw [if_neg hj2] at ha'
            exact hcv.2 _ _ _ hv' ha'
        · rename_i hj1
          rw [if_neg hj1] at ha'
          exact hv.2 _ _ _ hv' ha'
      · cases hf

end
end Go.Proofs.Ytanlmanifpknoaa.Ev
namespace Go.Proofs.Ytanlmanifpknoaa.Ev
open Go Go.RowKit
set_option linter.unusedVariables false
set_option linter.unusedSimpArgs false

def O.still : O → Bool
  | .mv .. | .pick .. | .bld .. | .ld .. | .nck .. | .bin .. | .un .. | .cnv .. | .mkf .. | .slc .. | .sls .. | .fad .. | .fld .. | .ixa .. | .idx .. | .ext .. | .len .. | .mx .. | .lkp .. => true
  | _ => false

section
variable {P : Program} {μ : Nat → Option Loc} {D F : Nat → Prop} {H : Heap} {w : World}

theorem Does.sem {o : Oper} {a : Act} {s : Sem Value} {v : V} (he : execOp a.eval o = (do pure (.value (← s)))) (h : ∃ y, s.run P w = .ok y w ∧ VR μ w F v y) : Does P o a w fun x w' => w' = w ∧ VR μ w F v x := by
  obtain ⟨y, h1, h2⟩ := h
  exact Does.value (x := y) (w' := w) (by rw [he]; simp only [Sem.run_bind, h1, Result.andThen_ok, Sem.run_pure]) ⟨rfl, h2⟩

theorem opt_OR {n : Nat} {fr : Fr} {a : Act} (hfr : FR μ w F n fr a) {x : Option Operand} {y : Option A} (h : x.map opd = y.map some) : OR μ w F (y.map (·.ev fr)) (x.map a.eval) := by
  cases x with
  | none => cases y with
    | none => exact .none
    | some y => simp at h
  | some x => cases y with
    | none => simp at h
    | some y => simp at h; exact .some (opd_VR hfr h)

theorem partsB_ok {n : Nat} {fr : Fr} {a : Act} (hfr : FR μ w F n fr a) (pl : List (Nat × Nat)) : ∀ (ps : List (Nat × Operand)) (q : List (Nat × Nat × A)), partsB pl ps = some q →
    (ps.map fun p => (p.1, a.eval p.2)).length = (q.map fun p => (p.1, p.2.1, p.2.2.ev fr)).length ∧
    ∀ (i : Nat) p r, (q.map fun p => (p.1, p.2.1, p.2.2.ev fr))[i]? = some p → (ps.map fun p => (p.1, a.eval p.2))[i]? = some r → pl[r.1]? = some (p.1, p.2.1) ∧ VR μ w F p.2.2 r.2
  | [], q, h => by simp only [partsB] at h; cases h; exact ⟨rfl, fun i p r hp => by simp at hp⟩
  | (i, x) :: ps, q, h => by
    simp only [partsB] at h
    split at h
    · rename_i p y q' h1 h2 h3
      cases h
      obtain ⟨k1, k2⟩ := partsB_ok hfr pl ps q' h3
      refine ⟨by simpa using k1, fun j p' r hp hr => ?_⟩
      cases j with
      | zero => simp at hp hr; subst hp hr; exact ⟨h1, opd_VR hfr h2⟩
      | succ j => exact k2 j p' r (by simpa using hp) (by simpa using hr)
    · cases h

theorem run_places {f : Field → Nat} : ∀ (fs : List Field) (pl : List (Nat × Nat)), placesT P fs = some pl → (fs.mapM (m := Sem) fun f => do pure (f.offset, ← sizeOf f.type)).run P w = .ok pl w
  | [], pl, h => by simp only [placesT] at h; cases h; rfl
  | f :: fs, pl, h => by
    simp only [placesT] at h
    split at h
    · rename_i n q h1 h2
      cases h
      simp only [List.mapM_cons, Sem.run_bind, run_sizeOf h1, Result.andThen_ok, Sem.run_pure, run_places (f := fun _ => 0) fs q h2]
    · cases h

theorem zeroT_ok {t : TypeId} {z : List T} (h : zeroT P t = some z) : ∃ i v, P.info? t = some i ∧ i.zero = some v ∧ tsOf v.cells.toList = some z := by
  unfold zeroT at h
  cases hi : P.info? t with
  | none => simp [hi] at h
  | some i =>
    cases hz : i.zero with
    | none => simp [hi, hz] at h
    | some v => simp [hi, hz] at h; exact ⟨i, v, rfl, hz, h⟩

theorem run_zero {t : TypeId} {z : List T} (h : zeroT P t = some z) : ∃ v, (zeroValue t).run P w = .ok v w ∧ VRs μ w F (z.map .t) v.cells.toList := by
  obtain ⟨i, v, h1, h2, h3⟩ := zeroT_ok h
  refine ⟨v, ?_, ?_⟩
  · unfold zeroValue typeInfo
    simp only [Sem.run_bind, run_program, Result.andThen_ok, h1, Sem.run_pure, h2]
  · obtain ⟨k1, k2⟩ := tsOf_TR (w := w) (F := F) h3
    exact VRs.ofT k1 k2

theorem elemT_ok {t : TypeId} {z : T} (h : elemT P t = some z) : ∃ v, (zeroValue t).run P w = .ok v w ∧ TR w F z v ∧ tOfV v = some z := by
  unfold elemT at h
  cases hi : P.info? t with
  | none => simp [hi] at h
  | some i =>
    cases hz : i.zero with
    | none => simp [hi, hz] at h
    | some v =>
      simp [hi, hz] at h
      refine ⟨v, ?_, tOfV_TR h, h⟩
      unfold zeroValue typeInfo
      simp only [Sem.run_bind, run_program, Result.andThen_ok, hi, Sem.run_pure, hz]

theorem bld_ok {t : TypeId} {fs : Array Field} {z : List T} {pl : List (Nat × Nat)} {parts : List (Nat × Nat × V)} {mp : List (Nat × Value)} {us : List V} (hu : P.underlying t = some (.struct fs)) (hz : zeroT P t = some z) (hp : placesT P fs.toList = some pl)
    (hl : mp.length = parts.length) (hpp : ∀ (i : Nat) p r, parts[i]? = some p → mp[i]? = some r → pl[r.1]? = some (p.1, p.2.1) ∧ VR μ w F p.2.2 r.2) (hf : fillV (z.map .t) parts = some us) :
    ∃ y, (Instr.build t mp.toArray).run P w = .ok y w ∧ VR μ w F (.agg us) y := by
  obtain ⟨v, h1, h2⟩ := run_zero (P := P) (μ := μ) (w := w) (F := F) hz
  obtain ⟨bs, h3, h4⟩ := fill_ok parts mp (fun (i : Nat) => pl[i]?) (z.map .t) v.cells.toList us hl hpp h2 hf
  refine ⟨.agg bs.toArray, ?_, .agg us bs h4.1 h4.2⟩
  have hm : (fs.mapM (m := Sem) fun f => do pure (f.offset, ← sizeOf f.type)).run P w = .ok pl.toArray w := by
    rw [Array.mapM_eq_mapM_toList]
    simp only [Sem.run_map, run_places (f := fun _ => 0) fs.toList pl hp, Result.andThen_ok]
  have hfill : Instr.fill (fun x => pl.toArray[x]?) v.cells mp = some bs.toArray := by
    have : (fun x => pl.toArray[x]?) = fun (i : Nat) => pl[i]? := by funext i; simp
    rw [this]; exact h3
  unfold Instr.build
  simp only [Sem.run_bind, h1, run_underlying hu, Result.andThen_ok, hm, hfill, Sem.run_pure]

theorem keyK_ok {kt : TypeId} {kk : Nat} (hk : keyK P kt = some kk) : (kk = 0 ∧ ∃ k, P.underlying kt = some (.int k)) ∨ (kk = 1 ∧ P.underlying kt = some .string) ∨ (kk = 2 ∧ P.underlying kt = some .bool) := by
  unfold keyK at hk
  split at hk <;> cases hk
  · exact .inl ⟨rfl, _, by assumption⟩
  · exact .inr (.inl ⟨rfl, by assumption⟩)
  · exact .inr (.inr ⟨rfl, by assumption⟩)

theorem bytes_eq {a b : ByteArray} (h : (a == b) = true) : a = b := by
  cases a; cases b
  have h' : (_ : Array UInt8) == _ := h
  exact congrArg ByteArray.mk (eq_of_beq h')

theorem keyEq_ok {kt : TypeId} {kk : Nat} {d : TypeDesc} (hk : keyK P kt = some kk) (hd : P.underlying kt = some d) {k k' : T} {x y : Value} (hx : TR w F k x) (hy : TR w F k' y) {b : Bool} (h : keyEq kk k k' = some b) :
    Instr.sameNow d x y = some b ∧ (b = true → x = y) := by
  rcases keyK_ok hk with ⟨rfl, q, hq⟩ | ⟨rfl, hq⟩ | ⟨rfl, hq⟩ <;> rw [hq] at hd <;> cases hd <;> cases hx <;> cases hy <;> simp only [keyEq] at h <;> first | (cases h; done) | skip
  · split at h
    · rename_i e; subst e; cases h; refine ⟨by simp [Instr.sameNow], fun e => by simpa using e⟩
    · cases h
  · cases h; refine ⟨by simp [Instr.sameNow], fun e => by rw [bytes_eq e]⟩
  · cases h; refine ⟨by simp [Instr.sameNow], fun e => by simpa using e⟩
def FR2 (w : World) (F : Nat → Prop) (x : Value) (mes : List MapEntry) (i0 : Nat) : Option (Nat × T) → Option (Nat × Value) → Prop
  | none, none => True
  | some (n, t), some (m, y) => n = m ∧ i0 ≤ n ∧ TR w F t y ∧ ∃ e, mes[n - i0]? = some e ∧ e.key = x ∧ e.val = y
  | _, _ => False

theorem findNow_ok {kt : TypeId} {kk : Nat} {d : TypeDesc} (hk : keyK P kt = some kk) (hd : P.underlying kt = some d) {k : T} {x : Value} (hx : TR w F k x) : ∀ (es : List (T × T)) (mes : List MapEntry) (i : Nat) (r : Option (Nat × T)), mes.length = es.length →
    (∀ (j : Nat) e p, mes[j]? = some e → es[j]? = some p → KR w F e p) → findT kk k es i = some r → ∃ q, Instr.findNow d x mes i = some q ∧ FR2 w F x mes i r q
  | [], mes, i, r, hl, hh, hf => by
    have : mes = [] := by simpa using hl
    subst this
    simp only [findT] at hf; cases hf
    exact ⟨none, rfl, trivial⟩
  | (k', t) :: es, [], i, r, hl, hh, hf => by simp at hl
  | (k', t) :: es, e :: mes, i, r, hl, hh, hf => by
    obtain ⟨h1, h2, h3⟩ := hh 0 e (k', t) rfl rfl
    simp only [findT] at hf
    unfold Instr.findNow
    split at hf
    · rename_i hb
      cases hf
      obtain ⟨k1, k2⟩ := keyEq_ok hk hd hx h1 hb
      rw [k1]
      exact ⟨_, rfl, rfl, Nat.le_refl _, h2, e, by simp, (k2 rfl).symm, rfl⟩
    · rename_i hb
      obtain ⟨k1, _⟩ := keyEq_ok hk hd hx h1 hb
      rw [k1]
      obtain ⟨q, q1, q2⟩ := findNow_ok hk hd hx es mes (i + 1) r (by simpa using hl) (fun j e p he hp => hh (j + 1) e p (by simpa using he) (by simpa using hp)) hf
      refine ⟨q, q1, ?_⟩
      cases r with
      | none => cases q <;> simp_all [FR2]
      | some r => cases q with
        | none => simp_all [FR2]
        | some q =>
          obtain ⟨a1, a2, a3, e', a4, a5, a6⟩ := q2
          refine ⟨a1, by omega, a3, e', ?_, a5, a6⟩
          rw [show r.1 - i = (r.1 - (i + 1)) + 1 by omega, List.getElem?_cons_succ]; exact a4
    · cases hf

theorem run_checkKey {kt : TypeId} {kk : Nat} (hk : keyK P kt = some kk) {k : T} {x : Value} (hx : TR w F k x) (hs : keyOk kk k = true) (b : Bool) : (Instr.checkKey b 10000 kt x).run P w = .ok () w := by
  show (Instr.checkKey b (9999 + 1) kt x).run P w = .ok () w
  unfold Instr.checkKey
  rcases keyK_ok hk with ⟨rfl, q, hq⟩ | ⟨rfl, hq⟩ | ⟨rfl, hq⟩ <;> simp only [Sem.run_bind, run_underlying hq, Result.andThen_ok] <;> cases hx <;> first | rfl | (simp [keyOk] at hs)

theorem run_findKey {kt : TypeId} {d : TypeDesc} (hd : P.underlying kt = some d) {x : Value} {mes : List MapEntry} {q : Option (Nat × Value)} (h : Instr.findNow d x mes 0 = some q) : (Instr.findKey kt x mes).run P w = .ok q w := by
  unfold Instr.findKey
  simp only [Sem.run_bind, run_underlying hd, Result.andThen_ok, h, Sem.run_pure]

end
end Go.Proofs.Ytanlmanifpknoaa.Ev
namespace Go.Proofs.Ytanlmanifpknoaa.Ev
open Go Go.RowKit
set_option linter.unusedVariables false
set_option linter.unusedSimpArgs false

section
variable {P : Program} {μ : Nat → Option Loc} {D F : Nat → Prop} {H : Heap} {w : World}

theorem opd2 {x y : Operand} {r : Option O} {g : A → A → O} {op : O} (h : (match opd x, opd y with | some a, some b => some (g a b) | _, _ => none) = some op) : ∃ a b, opd x = some a ∧ opd y = some b ∧ op = g a b := by
  split at h
  · rename_i h1 h2; cases h; exact ⟨_, _, h1, h2, rfl⟩
  · cases h

theorem idx_some {s : ByteArray} {n : Int} {b : UInt8} (h0 : 0 ≤ n) (h : s[n.toNat]? = some b) : (match (if 0 ≤ n then s[n.toNat]? else none) with | some b => (pure (.int .u8 b.toNat) : Sem Value) | none => boundsPanic .i64 n s.size .index) = pure (.int .u8 b.toNat) := by
  rw [if_pos h0, h]

theorem op_still {mix : Mx} {E : Env} {rec : Rec} {o : Oper} {op : O} {n : Nat} {fr : Fr} {a : Act} {v : V} {H' : Heap} (hc : compO P mix o = some op) (hst : op.still = true) (he : evO E rec fr H op = some (v, H')) (h : RelB μ D F H w) (hfr : FR μ w F n fr a)
    (hd : ∀ id l, cls E fr H op = .rd id → μ id = some l → l.real = true → D id) : H' = H ∧ Does P o a w (fun x w' => w' = w ∧ VR μ w F v x) := by
  unfold compO at hc
  generalize hop : o.op = oo at hc
  cases oo with
  | move x =>
    simp only [Option.map_eq_some_iff] at hc
    obtain ⟨y, hy, rfl⟩ := hc
    simp only [evO] at he; cases he
    exact ⟨rfl, Does.value (w' := w) (x := a.eval x) (by simp only [execOp, hop]; rfl) ⟨rfl, opd_VR hfr hy⟩⟩
  | assign x =>
    simp only [Option.map_eq_some_iff] at hc
    obtain ⟨y, hy, rfl⟩ := hc
    simp only [evO] at he; cases he
    exact ⟨rfl, Does.value (w' := w) (x := a.eval x) (by simp only [execOp, hop]; rfl) ⟨rfl, opd_VR hfr hy⟩⟩
  | pick c x y =>
    simp only at hc
    split at hc
    · rename_i c' x' y' h1 h2 h3
      cases hc
      simp only [evO] at he
      split at he
      · rename_i b hb
        cases he
        have hcv := opd_VR hfr h1
        rw [hb] at hcv
        have hcv := hcv.boolv
        refine ⟨rfl, Does.value (w' := w) (x := if b then a.eval x else a.eval y) ?_ ⟨rfl, ?_⟩⟩
        · simp only [execOp, hop, hcv, asBool, Sem.run_bind, Sem.run_pure, Result.andThen_ok]
        · cases b
          · exact opd_VR hfr h3
          · exact opd_VR hfr h2
      · cases he
    · cases hc
  | build t ps =>
    simp only at hc
    split at hc
    · rename_i fs z hu hz
      split at hc
      · rename_i pl hpl
        simp only [Option.map_eq_some_iff] at hc
        obtain ⟨q, hq, rfl⟩ := hc
        simp only [evO] at he
        split at he
        · rename_i us hf
          cases he
          obtain ⟨k1, k2⟩ := partsB_ok hfr pl ps.toList q hq
          obtain ⟨y, hy, hv⟩ := bld_ok (P := P) (w := w) (F := F) hu hz hpl k1 k2 hf
          refine ⟨rfl, Does.sem (s := Instr.build t (ps.map fun (i, x) => (i, a.eval x))) (by simp only [execOp, hop]) ⟨y, ?_, hv⟩⟩
          have : (ps.map fun (x : Nat × Operand) => match x with | (i, x) => (i, a.eval x)) = (ps.toList.map fun p => (p.1, a.eval p.2)).toArray := by
            apply Array.toList_inj.1
            simp
          rw [this]; exact hy
        · cases he
      · cases hc
    · cases hc
  | load t x =>
    simp only at hc
    split at hc
    · rename_i y n' g h1 h2 h3
      cases hc
      simp only [evO] at he
      split at he
      · rename_i u hu
        cases he
        refine ⟨rfl, Does.sem (s := Instr.loadAt t (a.eval x)) (by simp only [execOp, hop]) (ld_ok h h3 h2 hu (opd_VR hfr h1) fun id i c l e hm hre => hd id l (by simp only [cls, e]) hm hre)⟩
      · cases he
    · cases hc
  | nilCheck x =>
    simp only [Option.map_eq_some_iff] at hc
    obtain ⟨y, hy, rfl⟩ := hc
    have hv := opd_VR hfr hy
    simp only [evO] at he
    split at he <;> first | (cases he; done) | skip
    · rename_i id i c e
      cases he
      rw [e] at hv
      generalize hx : a.eval x = xv at hv
      cases hv with
      | ptr id i c l hl hre => exact ⟨rfl, Does.value (w' := w) (x := .pointer (some ⟨l.m, i * l.sz + c, none⟩)) (by simp only [execOp, hop, hx]; rfl) ⟨rfl, .ptr id i c l hl hre⟩⟩
    · rename_i t c e
      cases he
      rw [e] at hv
      generalize hx : a.eval x = xv at hv
      cases hv with
      | rptr t c m off cs hF hm hb hh => exact ⟨rfl, Does.value (w' := w) (x := .pointer (some ⟨m, off + c, none⟩)) (by simp only [execOp, hop, hx]; rfl) ⟨rfl, .rptr t c m off cs hF hm hb hh⟩⟩
    · rename_i t e
      cases he
      rw [e] at hv
      generalize hx : a.eval x = xv at hv
      cases hv.tT with
      | ptr t m off cs hF hm hb hh => exact ⟨rfl, Does.value (w' := w) (x := .pointer (some ⟨m, off, none⟩)) (by simp only [execOp, hop, hx]; rfl) ⟨rfl, .t (.ptr t m off cs hF hm hb hh)⟩⟩
  | binOp bop t x y t2 =>
    simp only at hc
    split at hc
    · rename_i x' y' kd h1 h2 h3
      cases hc
      simp only [evO] at he
      split at he
      · rename_i r hr
        cases he
        obtain ⟨z, hz, hz2⟩ := evBin_ok (P := P) (X := x) (Y := y) h3 (opd_VR hfr h1) (opd_VR hfr h2) hr
        exact ⟨rfl, Does.sem (s := (do eqGuard bop t x y (a.eval x) (a.eval y); binOp bop t (a.eval x) (a.eval y))) (by simp only [execOp, hop]) ⟨z, hz, .t hz2⟩⟩
      · cases he
    · cases hc
  | unOp uop t x =>
    simp only [Option.map_eq_some_iff] at hc
    obtain ⟨y, hy, rfl⟩ := hc
    simp only [evO] at he
    split at he
    · rename_i r hr
      cases he
      obtain ⟨z, hz, hz2⟩ := evUn_ok (P := P) (opd_VR hfr hy) hr
      exact ⟨rfl, Does.sem (s := Op.unary uop (a.eval x)) (by simp only [execOp, hop]) ⟨z, hz, .t hz2⟩⟩
    · cases he
  | convert s d x =>
    simp only at hc
    split at hc
    · rename_i k1 k2 y hs hdst hy
      cases hc
      have hv := opd_VR hfr hy
      simp only [evO] at he
      generalize y.ev fr = u at he hv
      split at he <;> first | (cases he; done) | skip
      · rename_i k k' q e1
        cases e1; cases he
        have hx := hv.int
        refine ⟨rfl, Does.sem (s := convert s d (a.eval x)) (by simp only [execOp, hop]) ⟨.int k2 (k2.wrap q), ?_, .t (.int _ _)⟩⟩
        rw [hx]
        unfold convert
        simp only [Sem.run_bind, run_underlying hs, run_underlying hdst, Result.andThen_ok, Conv.intToInt, Sem.run_pure]
      · rename_i e; cases e
    · rename_i y hs hdst hy
      cases hc
      have hv := opd_VR hfr hy
      simp only [evO] at he
      generalize y.ev fr = u at he hv
      split at he <;> first | (cases he; done) | skip
      · rename_i e; cases e
      · rename_i q e2
        cases he
        have hx := hv.strv
        refine ⟨rfl, Does.sem (s := convert s d (a.eval x)) (by simp only [execOp, hop]) ⟨.string q, ?_, .t (.str _)⟩⟩
        rw [hx]
        unfold convert
        simp only [Sem.run_bind, run_underlying hs, run_underlying hdst, Result.andThen_ok, Sem.run_pure]
    · cases hc
  | makeFunc fn x y =>
    cases fn with
    | func f =>
      simp only at hc
      split at hc
      · rename_i x' y' h1 h2
        cases hc
        simp only [evO] at he; cases he
        have k1 := opds_VRs hfr h1
        have k2 := opds_VRs hfr h2
        refine ⟨rfl, Does.sem (s := Instr.makeFunc (.func f) (x.map a.eval) (y.map a.eval)) (by simp only [execOp, hop]) ⟨.func (.func f) (x.map a.eval) (y.map a.eval), rfl, ?_⟩⟩
        have e1 : x.map a.eval = (x.toList.map a.eval).toArray := by apply Array.toList_inj.1; simp
        have e2 : y.map a.eval = (y.toList.map a.eval).toArray := by apply Array.toList_inj.1; simp
        rw [e1, e2]
        exact .clo f _ _ _ _ k1.1 k2.1 k1.2 k2.2
      · cases hc
    | _ => cases hc
  | slice t x lo hi mx =>
    cases mx with
    | some m => cases hc
    | none =>
      simp only at hc
      have hexec : execOp a.eval o = (do pure (.value (← Instr.sliceAt t (a.eval x) (lo.map a.eval) (hi.map a.eval) none))) := by simp only [execOp, hop]; rfl
      have fin : ∀ (x' : A) (l h2 : Option A), opd x = some x' → lo.map opd = l.map some → hi.map opd = h2.map some → op = .sls x' l h2 → P.underlying t = some .string → H' = H ∧ Does P o a w (fun x w' => w' = w ∧ VR μ w F v x) := by
        intro x' l h2 e1 e2 e3 e4 e5
        subst e4
        simp only [evO] at he
        split at he
        · rename_i u hu
          cases he
          exact ⟨rfl, Does.sem hexec (sls_ok e5 hu (opd_VR hfr e1) (opt_OR hfr e2) (opt_OR hfr e3))⟩
        · cases he
      have fin2 : ∀ (x' : A) (l h2 : Option A) (e : TypeId) (s : Nat), opd x = some x' → lo.map opd = l.map some → hi.map opd = h2.map some → op = .slc s x' l h2 → P.underlying t = some (.slice e) → szT P e = some s → 0 < s →
          H' = H ∧ Does P o a w (fun x w' => w' = w ∧ VR μ w F v x) := by
        intro x' l h2 e s e1 e2 e3 e4 e5 e6 e7
        subst e4
        simp only [evO] at he
        split at he
        · rename_i u hu
          cases he
          refine ⟨rfl, Does.sem hexec (slc_ok h e5 e6 e7 hu (opd_VR hfr e1) (opt_OR hfr e2) (opt_OR hfr e3) fun id o n l e hm hre => hd id l (by simp only [cls, e]) hm hre)⟩
        · cases he
      split at hc
      · rename_i x' hx
        split at hc
        · rename_i e hu
          have hfil : ∀ {s : Nat}, (szT P e).filter (0 < ·) = some s → szT P e = some s ∧ 0 < s := fun hf => by
            rw [Option.filter_eq_some_iff] at hf
            exact ⟨hf.1, by simpa using hf.2⟩
          split at hc
          · rename_i s hs e1 e2; cases hc; exact fin2 x' none none e s hx e1 e2 rfl hu (hfil hs).1 (hfil hs).2
          · rename_i s l hs e1 e2; cases hc; exact fin2 x' (some l) none e s hx e1 e2 rfl hu (hfil hs).1 (hfil hs).2
          · rename_i s h2 hs e1 e2; cases hc; exact fin2 x' none (some h2) e s hx e1 e2 rfl hu (hfil hs).1 (hfil hs).2
          · rename_i s l h2 hs e1 e2; cases hc; exact fin2 x' (some l) (some h2) e s hx e1 e2 rfl hu (hfil hs).1 (hfil hs).2
          · cases hc
        · rename_i hu
          split at hc
          · rename_i e1 e2; cases hc; exact fin x' none none hx e1 e2 rfl hu
          · rename_i l e1 e2; cases hc; exact fin x' (some l) none hx e1 e2 rfl hu
          · rename_i h2 e1 e2; cases hc; exact fin x' none (some h2) hx e1 e2 rfl hu
          · rename_i l h2 e1 e2; cases hc; exact fin x' (some l) (some h2) hx e1 e2 rfl hu
          · cases hc
        · cases hc
      · cases hc
  | fieldAddr s x f =>
    simp only at hc
    split at hc
    · rename_i fs x' hu hx
      split at hc
      · rename_i fd hf
        split at hc
        · rename_i n' hn
          split at hc
          · rename_i hpos
            cases hc
            simp only [evO] at he
            split at he
            · rename_i u hu2
              cases he
              exact ⟨rfl, Does.sem (s := Instr.fieldAt s (a.eval x) f) (by simp only [execOp, hop]) (fad_ok hu hf hn hpos hu2 (opd_VR hfr hx))⟩
            · cases he
          · cases hc
        · cases hc
      · cases hc
    · cases hc
  | field s x f =>
    simp only at hc
    split at hc
    · rename_i fs x' hu hx
      split at hc
      · rename_i fd hf
        split at hc
        · rename_i n' g hn hg
          cases hc
          simp only [evO] at he
          split at he
          · rename_i u hu2
            cases he
            exact ⟨rfl, Does.sem (s := Instr.field s (a.eval x) f) (by simp only [execOp, hop]) (fld_ok hu hf hn hg hu2 (opd_VR hfr hx))⟩
          · cases he
        · cases hc
      · cases hc
    · cases hc
  | indexAddr t x i =>
    simp only at hc
    split at hc
    · rename_i e x' i' hu hx hi
      simp only [Option.map_eq_some_iff] at hc
      obtain ⟨s, hs, rfl⟩ := hc
      simp only [evO] at he
      split at he
      · rename_i u hu2
        cases he
        refine ⟨rfl, Does.sem (s := Instr.indexAt t (a.eval x) (a.eval i)) (by simp only [execOp, hop]) (ixa_ok h hu hs hu2 (opd_VR hfr hx) (opd_VR hfr hi) fun id o n l e hm hre => hd id l (by simp only [cls, e]) hm hre)⟩
      · cases he
    · cases hc
  | index t x i =>
    simp only at hc
    split at hc
    · rename_i x' i' hu hx hi
      cases hc
      simp only [evO] at he
      split at he
      · rename_i s k q e1 e2
        split at he
        · rename_i h0
          split at he
          · rename_i b hb
            cases he
            have hv := opd_VR hfr hx
            have hv2 := opd_VR hfr hi
            rw [e1] at hv; rw [e2] at hv2
            have hv := hv.strv
            have hv2 := hv2.int
            refine ⟨rfl, Does.sem (s := Instr.index t (a.eval x) (a.eval i)) (by simp only [execOp, hop]) ⟨.int .u8 b.toNat, ?_, .t (.int _ _)⟩⟩
            rw [hv, hv2]
            unfold Instr.index
            simp only [asIntOf, Sem.run_bind, Sem.run_pure, Result.andThen_ok, run_underlying hu, if_pos h0, hb]
          · cases he
        · cases he
      · cases he
    · cases hc
  | extract x i =>
    simp only [Option.map_eq_some_iff] at hc
    obtain ⟨y, hy, rfl⟩ := hc
    have hv := opd_VR hfr hy
    simp only [evO] at he
    split at he
    · rename_i vs e
      rw [e] at hv
      split at he
      · rename_i u hu
        cases he
        generalize hx : a.eval x = xv at hv
        cases hv with
        | tup vs as hl hh =>
          have hlt := (List.getElem?_eq_some_iff.1 hu).1
          have hget : as.toArray[i]? = some (as[i]'(by omega)) := by simp
          refine ⟨rfl, Does.sem (s := Instr.extract (a.eval x) i) (by simp only [execOp, hop]) ⟨as[i]'(by omega), ?_, hh i _ _ hu (List.getElem?_eq_getElem _)⟩⟩
          rw [hx]
          unfold Instr.extract
          simp only [hget, Sem.run_pure]
      · cases he
    · cases he
  | lookup t x k ok =>
    simp only at hc
    split at hc
    · rename_i kt et x' k' hu hx hk
      split at hc
      · rename_i z kk hz hkk
        cases hc
        simp only [evO] at he
        split at he
        · rename_i id kt' e1 e2
          split at he
          · rename_i es hb
            split at he
            · cases he
            · rename_i hok
              have hok : keyOk kk kt' = true := by simpa using hok
              have hv := opd_VR hfr hx
              have hv2 := opd_VR hfr hk
              rw [e1] at hv; rw [e2] at hv2
              have hv2 := hv2.tT
              generalize hxx : a.eval x = xv at hv
              cases hv with
              | map id l hl hre =>
                have hdi : D id := hd id l (by simp only [cls, e1]) hl hre
                obtain ⟨l', mes, clock, k1, k2, k3, k4, k5⟩ := h id _ hdi hb
                rw [hl] at k1; cases k1.1
                obtain ⟨d, hdd⟩ : ∃ d, P.underlying kt = some d := by
                  rcases keyK_ok hkk with ⟨_, q, hq⟩ | ⟨_, hq⟩ | ⟨_, hq⟩ <;> exact ⟨_, hq⟩
                have hkr : ∀ (j : Nat) e p, mes.toList[j]? = some e → es[j]? = some p → KR w F e p := fun j e p he hp => k5 j e p (by simpa using he) hp
                obtain ⟨zv, hzv, hzr, _⟩ := elemT_ok (w := w) (F := F) hz
                have hrun : ∀ r, findT kk kt' es 0 = some r → ∃ y b, (Instr.lookup t (.map (some l.m)) (a.eval k) ok).run P w = .ok (if ok then .tuple #[y, .bool b] else y) w ∧
                    (match r with | some (_, t) => b = true ∧ TR w F t y | none => b = false ∧ TR w F z y) := by
                  intro r hr
                  obtain ⟨q, q1, q2⟩ := findNow_ok hkk hdd hv2 es mes.toList 0 r (by simpa using k4) hkr hr
                  have hget : (getObj l.m).run P w = .ok (.map mes clock) w := by simp only [getObj, Sem.run, k2]
                  have hck := run_checkKey (w := w) hkk hv2 hok mes.isEmpty
                  have hfk := run_findKey (P := P) (w := w) hdd q1
                  unfold Instr.lookup
                  simp only [Sem.run_bind, run_underlying hu, Result.andThen_ok, hget, Sem.run_pure, hck, hfk]
                  cases r with
                  | none =>
                    cases q with
                    | none => simp only [Sem.run_bind, hzv, Result.andThen_ok, Sem.run_pure]; exact ⟨zv, false, rfl, rfl, hzr⟩
                    | some q => exact q2.elim
                  | some r =>
                    cases q with
                    | none => exact q2.elim
                    | some q =>
                      obtain ⟨a1, a2, a3, _⟩ := q2
                      simp only [Sem.run_pure, Result.andThen_ok]
                      exact ⟨q.2, true, rfl, rfl, a3⟩
                have htup : ∀ (b : Bool) (tt : T) (y : Value), TR w F tt y → VR μ w F (if ok then .tup [.t tt, .t (.bool b)] else .t tt) (if ok then .tuple #[y, .bool b] else y) := by
                  intro b tt y hy
                  cases ok with
                  | true =>
                    have k := VRs.cons (μ := μ) (.t hy) (.cons (.t (.bool b)) .nil)
                    simpa using VR.tup _ _ k.1 k.2
                  | false => exact .t hy
                split at he
                · rename_i nn tt hf
                  cases he
                  obtain ⟨y, b, hy, hb1, hb2⟩ := hrun _ hf
                  subst hb1
                  exact ⟨rfl, Does.sem (s := Instr.lookup t (a.eval x) (a.eval k) ok) (by simp only [execOp, hop]) ⟨_, by rw [hxx]; exact hy, htup true _ _ hb2⟩⟩
                · rename_i hf
                  cases he
                  obtain ⟨y, b, hy, hb1, hb2⟩ := hrun _ hf
                  subst hb1
                  exact ⟨rfl, Does.sem (s := Instr.lookup t (a.eval x) (a.eval k) ok) (by simp only [execOp, hop]) ⟨_, by rw [hxx]; exact hy, htup false _ _ hb2⟩⟩
                · cases he
          · cases he
        · cases he
      · cases hc
    · cases hc
  | call c =>
    obtain ⟨callee, args, argTypes⟩ := c
    simp only at hc
    cases callee with
    | invoke r m => cases hc
    | value f =>
      cases f with
      | func f =>
        simp only at hc
        split at hc
        · split at hc <;> cases hc; simp [O.still] at hst
        · cases hc
      | _ =>
        simp only at hc
        split at hc
        · cases hc; simp [O.still] at hst
        · cases hc
    | builtin b =>
      have hexec : ∀ (s : Sem Value), builtin b argTypes o.type (args.map fun | .const _ => true | _ => false) (args.map a.eval) = (do pure (.value (← s))) → execOp a.eval o = (do pure (.value (← s))) := fun s hs => by
        simp only [execOp, hop, resolve]
        exact hs
      cases b with
      | len =>
        simp only at hc
        have hex := hexec (Builtin.len_ argTypes o.type (args.map a.eval)) rfl
        have fin : ∀ (k : Nat) (x : Operand) (x' : A) (t : TypeId) (d : TypeDesc), argTypes[0]? = some t → P.underlying t = some d → args.toList = [x] → opd x = some x' → op = .len k x' →
            ((k = 0 ∧ d = .string) ∨ (k = 1 ∧ ∃ e, d = .slice e) ∨ (k = 2 ∧ ∃ kt et, d = .map kt et)) → H' = H ∧ Does P o a w (fun x w' => w' = w ∧ VR μ w F v x) := by
          intro k x x' t d e1 e2 e3 e4 e5 e6
          subst e5
          have hargs : (args.map a.eval)[0]? = some (a.eval x) := by
            have : args = #[x] := by apply Array.toList_inj.1; simpa using e3
            subst this; simp
          have hv := opd_VR hfr e4
          simp only [evO] at he
          split at he
          · rename_i q hq
            cases he
            refine ⟨rfl, Does.sem hex ⟨.int .i64 q, ?_, .t (.int _ _)⟩⟩
            unfold Builtin.len_
            simp only [e1, hargs, Sem.run_bind, run_underlying e2, Result.andThen_ok]
            have hd' : ∀ id l, x'.ev fr = .map id → μ id = some l → l.real = true → D id := fun id l e hm hre => hd id l (by simp only [cls, e]) hm hre
            generalize x'.ev fr = u at hq hv hd'
            generalize a.eval x = xv at hv
            unfold evLen at hq
            split at hq <;> first | (cases hq; done) | skip
            · split at hq <;> cases hq
              rename_i hk
              subst hk
              rcases e6 with ⟨h0, _⟩ | ⟨_, e, rfl⟩ | ⟨h0, _⟩ <;> first | omega | skip
              cases hv <;> rfl
            · split at hq <;> cases hq
              rename_i hk
              subst hk
              rcases e6 with ⟨h0, _⟩ | ⟨_, e, rfl⟩ | ⟨h0, _⟩ <;> first | omega | skip
              cases hv.tT <;> rfl
            · split at hq <;> cases hq
              rename_i hk
              subst hk
              rcases e6 with ⟨h0, _⟩ | ⟨_, e, rfl⟩ | ⟨h0, _⟩ <;> first | omega | skip
              cases hv.tT; rfl
            · split at hq <;> cases hq
              rename_i hk
              subst hk
              rcases e6 with ⟨_, rfl⟩ | ⟨h0, _⟩ | ⟨h0, _⟩ <;> first | omega | skip
              cases hv.tT; rfl
            · rename_i id
              split at hq
              · rename_i hk
                subst hk
                split at hq
                · rename_i es hb
                  cases hq
                  rcases e6 with ⟨h0, _⟩ | ⟨h0, _⟩ | ⟨_, kt, et, rfl⟩ <;> first | omega | skip
                  cases hv with
                  | map id l hl hre =>
                    obtain ⟨l', mes, clock, k1, k2, k3, k4, k5⟩ := h id _ (hd' id l rfl hl hre) hb
                    rw [hl] at k1; cases k1.1
                    have hget : (getObj l.m).run P w = .ok (.map mes clock) w := by simp only [getObj, Sem.run, k2]
                    simp only [Sem.run_bind, hget, Result.andThen_ok, Sem.run_pure, k4]
                    rfl
                · cases hq
              · cases hq
          · cases he
        have hb : ∀ {d : TypeDesc}, argTypes[0]?.bind P.underlying = some d → ∃ t, argTypes[0]? = some t ∧ P.underlying t = some d := fun hb => Option.bind_eq_some_iff.1 hb
        split at hc
        · rename_i x e1 e2
          obtain ⟨t, t1, t2⟩ := hb e1
          obtain ⟨x', hx, rfl⟩ := Option.map_eq_some_iff.1 hc
          exact fin 0 x x' t _ t1 t2 e2 hx rfl (.inl ⟨rfl, rfl⟩)
        · rename_i e x e1 e2
          obtain ⟨t, t1, t2⟩ := hb e1
          obtain ⟨x', hx, rfl⟩ := Option.map_eq_some_iff.1 hc
          exact fin 1 x x' t _ t1 t2 e2 hx rfl (.inr (.inl ⟨rfl, e, rfl⟩))
        · rename_i k e x e1 e2
          obtain ⟨t, t1, t2⟩ := hb e1
          obtain ⟨x', hx, rfl⟩ := Option.map_eq_some_iff.1 hc
          exact fin 2 x x' t _ t1 t2 e2 hx rfl (.inr (.inr ⟨rfl, k, e, rfl⟩))
        · cases hc
      | max =>
        simp only at hc
        split at hc
        · rename_i x' y' hxy
          cases hc
          have hvs := opds_VRs hfr hxy
          have hex := hexec (Builtin.max_ argTypes o.type (args.map a.eval)) rfl
          simp only [evO] at he
          split at he
          · rename_i k p k2 q e1 e2
            cases he
            simp only [A.evs, e1, e2] at hvs
            obtain ⟨b1, r1, h1, h2, h3⟩ := hvs.head
            obtain ⟨b2, r2, rfl, h4, h5⟩ := h3.head
            have : r2 = [] := by have := h5.1; simpa using this
            subst this
            have hb1 := h2.int
            have hb2 := h4.int
            subst hb1 hb2
            have hargs : args.map a.eval = #[.int k p, .int k2 q] := by apply Array.toList_inj.1; simpa using h1
            refine ⟨rfl, Does.sem hex ⟨_, by rw [hargs]; exact run_max_int2 w argTypes o.type k k2 p q, ?_⟩⟩
            exact .t (.int _ _)
          · cases he
        · cases hc
      | min =>
        simp only at hc
        split at hc
        · rename_i x' y' hxy
          cases hc
          have hvs := opds_VRs hfr hxy
          have hex := hexec (Builtin.min_ argTypes o.type (args.map a.eval)) rfl
          simp only [evO] at he
          split at he
          · rename_i k p k2 q e1 e2
            cases he
            simp only [A.evs, e1, e2] at hvs
            obtain ⟨b1, r1, h1, h2, h3⟩ := hvs.head
            obtain ⟨b2, r2, rfl, h4, h5⟩ := h3.head
            have : r2 = [] := by have := h5.1; simpa using this
            subst this
            have hb1 := h2.int
            have hb2 := h4.int
            subst hb1 hb2
            have hargs : args.map a.eval = #[.int k p, .int k2 q] := by apply Array.toList_inj.1; simpa using h1
            refine ⟨rfl, Does.sem hex ⟨_, by rw [hargs]; exact run_min_int2 w argTypes o.type k k2 p q, ?_⟩⟩
            exact .t (.int _ _)
          · cases he
        · cases hc
      | append =>
        simp only at hc
        repeat' (split at hc)
        all_goals first | (cases hc; simp [O.still] at hst; done) | cases hc
      | copy =>
        simp only at hc
        repeat' (split at hc)
        all_goals first | (cases hc; simp [O.still] at hst; done) | cases hc
      | clear =>
        simp only at hc
        repeat' (split at hc)
        all_goals first | (cases hc; simp [O.still] at hst; done) | cases hc
      | _ => cases hc
  | alloc e => simp only at hc; split at hc <;> first | (split at hc <;> cases hc; simp [O.still] at hst) | cases hc
  | box t x => simp only [Option.map_eq_some_iff] at hc; obtain ⟨_, _, rfl⟩ := hc; simp [O.still] at hst
  | buildSlice t n ps =>
    simp only at hc
    repeat' (split at hc)
    all_goals first | (cases hc; simp [O.still] at hst; done) | cases hc
  | store t x y =>
    simp only at hc
    repeat' (split at hc)
    all_goals first | (cases hc; simp [O.still] at hst; done) | cases hc
  | makeSlice t x y =>
    simp only at hc
    repeat' (split at hc)
    all_goals first | (cases hc; simp [O.still] at hst; done) | cases hc
  | mapUpdate t m k x =>
    simp only [Option.map_eq_some_iff] at hc
    repeat' (split at hc)
    all_goals first | (cases hc; done) | (obtain ⟨_, _, rfl⟩ := Option.map_eq_some_iff.1 hc; simp [O.still] at hst)
  | makeMap t r =>
    cases r with
    | none => cases hc; simp [O.still] at hst
    | some r => cases hc
  | _ => cases hc

end
end Go.Proofs.Ytanlmanifpknoaa.Ev
namespace Go.Proofs.Ytanlmanifpknoaa.Ev
open Go Go.RowKit
set_option linter.unusedVariables false
set_option linter.unusedSimpArgs false

section
variable {P : Program} {μ : Nat → Option Loc} {D F : Nat → Prop} {H : Heap} {w : World}

theorem Wri.alloc (w : World) (cs : Array Value) (el : TypeId) : Wri (w.alloc (.cells cs el)) w.heap.size cs :=
  ⟨el, (0, 0), by show (w.heap.push _)[w.heap.size]? = _; simp, fun i _ => by simp⟩

theorem Post.alloc (h : Rel μ D F H w) (hf : μ H.length = none) {b : Blk} (l : Loc) (o : Obj) (hm : l.m = w.heap.size) (hre : l.real = true)
    (hb : Pres F w (w.alloc o) → (∀ id y, μ id = some y → upd μ H.length (some l) id = some y) → BR (upd μ H.length (some l)) (w.alloc o) F H.length b) :
    Post μ D F H w (upd μ H.length (some l)) (fun id => D id ∨ (id = H.length ∧ ∃ x, some l = some x ∧ x.real = true)) F (H ++ [b]) (w.alloc o) :=
  Post.add h hf (fun x e _ => by cases e; omega) (fun x e k => by cases e; rw [hre] at k; cases k) (by simp) (fun k hk => Below.heap_alloc _ _ _ hk) rfl rfl rfl fun x e _ hp hmo => by cases e; exact hb hp hmo

theorem Rel.notF (h : Rel μ D F H w) : ¬ F w.heap.size := fun hF => Nat.lt_irrefl _ (h.frz _ hF)
def Leaves (μ : Nat → Option Loc) (D F : Nat → Prop) (H : Heap) (w : World) (v : V) (H' : Heap) (x : Value) (w' : World) : Prop :=
  ∃ μ' D' F', Post μ D F H w μ' D' F' H' w' ∧ VR μ' w' F' v x

theorem Does.semL {o : Oper} {a : Act} {s : Sem Value} {v : V} {H' : Heap} (he : execOp a.eval o = (do pure (.value (← s)))) (h : ∃ y w', s.run P w = .ok y w' ∧ Leaves μ D F H w v H' y w') : Does P o a w (Leaves μ D F H w v H') := by
  obtain ⟨y, w', h1, h2⟩ := h
  exact Does.value (x := y) (w' := w') (by rw [he]; simp only [Sem.run_bind, h1, Result.andThen_ok, Sem.run_pure]) h2
theorem Does.semU {o : Oper} {a : Act} {s : Sem Unit} {H' : Heap} (he : execOp a.eval o = (do s; pure .skip)) (h : ∃ w' μ' D' F', s.run P w = .ok () w' ∧ Post μ D F H w μ' D' F' H' w') : Does P o a w (Leaves μ D F H w .any H') := by
  obtain ⟨w', μ', D', F', h1, h2⟩ := h
  exact Does.skip (w' := w') (by rw [he]; simp only [Sem.run_bind, h1, Result.andThen_ok, Sem.run_pure]) ⟨μ', D', F', h2, .any _⟩

theorem getD_toList (cs : Array Value) (i : Nat) : cs.getD i undef = cs.toList.getD i undef := by
  simp [Array.getD_eq_getD_getElem?, List.getD_eq_getElem?_getD]
theorem getD_toArray (cs : List Value) (i : Nat) : cs.toArray.getD i undef = cs.getD i undef := by
  rw [getD_toList]
theorem box_ok (h : Rel μ D F H w) (hf : μ H.length = none) {vs : List V} {cs : Array Value} (el : TypeId) (hv : VRs μ w F vs cs.toList) (n : Nat) (sz : Nat) (hn : n * sz = vs.length) :
    Leaves μ D F H w (.ptr H.length 0 0) (H ++ [.box sz vs]) (.pointer (some ⟨w.heap.size, 0, none⟩)) (w.alloc (.cells cs el)) ∧
    ∃ μ' D', Post μ D F H w μ' D' F (H ++ [.box sz vs]) (w.alloc (.cells cs el)) ∧ μ' H.length = some ⟨w.heap.size, sz, n, cs.size, true⟩ := by
  have hlen : cs.size = vs.length := by have := hv.1; rwa [Array.length_toList] at this
  have hpost := Post.alloc (b := .box sz vs) h hf ⟨w.heap.size, sz, n, cs.size, true⟩ (.cells cs el) rfl rfl fun hp hmo => by
    refine ⟨_, cs, ⟨upd_same _ _ _, rfl⟩, Wri.alloc w cs el, h.notF, rfl, hn, rfl, by omega, fun i v hi => ?_⟩
    have hlt := (List.getElem?_eq_some_iff.1 hi).1
    refine (hv.2 i v _ hi ?_).mono hmo hp fun _ h => h
    rw [Array.getElem?_toList, Array.getElem?_eq_getElem (by omega), Array.getD_eq_getD_getElem?, Array.getElem?_eq_getElem (by omega)]; rfl
  refine ⟨⟨_, _, _, hpost, ?_⟩, _, _, hpost, upd_same _ _ _⟩
  have := VR.ptr (μ := upd μ H.length (some ⟨w.heap.size, sz, n, cs.size, true⟩)) (w := w.alloc (.cells cs el)) (F := F) H.length 0 0 _ (upd_same _ _ _) rfl
  simpa using this


theorem splice_length {α : Type} (cs : List α) (o : Nat) (xs : List α) (h : o + xs.length ≤ cs.length) : (splice cs o xs).length = cs.length := by
  simp only [splice, List.length_append, List.length_take, List.length_drop]; omega
theorem splice_get {α : Type} (cs : List α) (o : Nat) (xs : List α) (h : o + xs.length ≤ cs.length) (i : Nat) : (splice cs o xs)[i]? = if o ≤ i ∧ i < o + xs.length then xs[i - o]? else cs[i]? := by
  simp only [splice, List.getElem?_append, List.length_append, List.length_take, List.getElem?_take, List.getElem?_drop]
  rw [Nat.min_eq_left (by omega)]
  by_cases h1 : i < o
  · rw [if_pos (by omega), if_pos h1, if_pos h1, if_neg (by omega)]
  · by_cases h2 : i < o + xs.length
    · rw [if_pos h2, if_neg h1, if_pos ⟨by omega, h2⟩]
    · rw [if_neg h2, if_neg (by omega)]
      congr 1; omega

theorem run_stores (m o : Nat) : ∀ (vs : List Value) (i : Nat) (w : World) (cs : Array Value), Wri w m cs → (∀ v ∈ vs, v.oneCell' = true) → o + i + vs.length ≤ cs.size →
    ∃ w', (storeCells ⟨m, o, none⟩ vs i).run P w = .ok () w' ∧ OnlyAt w w' m ∧ Wri w' m (splice cs.toList (o + i) vs).toArray
  | [], i, w, cs, h, _, hb => ⟨w, rfl, .refl _ _, by
      have : splice cs.toList (o + i) [] = cs.toList := by simp [splice]
      rw [this]; simpa using h⟩
  | v :: vs, i, w, cs, h, hv, hb => by
    simp only [List.length_cons] at hb
    have hc : w.cell? ⟨m, o + i, none⟩ = some (cs[o + i]'(by omega)) := by rw [h.cel.cell, Array.getElem?_eq_getElem]
    have hfz := h.frozen (o + i) (by omega)
    have hone := hv v (List.mem_cons_self ..)
    have hs : (store ⟨m, o + i, none⟩ v .plain).run P w = .ok () (w.setCell ⟨m, o + i, none⟩ v) := by
      rw [run_store P w _ v .plain hone]
      simp only [hc, hfz, Bool.false_eq_true, if_false]
    have hw1 : Wri (w.setCell ⟨m, o + i, none⟩ v) m (cs.setIfInBounds (o + i) v) := by
      obtain ⟨el, fr, h1, h2⟩ := h
      refine ⟨el, fr, ?_, fun j hj => h2 j (by simpa using hj)⟩
      simp [World.setCell, Array.getElem?_modify, h1]
    obtain ⟨w', e1, e2, e3⟩ := run_stores m o vs (i + 1) _ _ hw1 (fun u hu => hv u (List.mem_cons_of_mem _ hu)) (by simp; omega)
    refine ⟨w', ?_, (OnlyAt.setCell w m (o + i) v).trans e2, ?_⟩
    · simp only [storeCells, Addr.add_lit, Sem.run_bind, hs, Result.andThen_ok, e1]
    · have : splice (cs.setIfInBounds (o + i) v).toList (o + (i + 1)) vs = splice cs.toList (o + i) (v :: vs) := by
        apply List.ext_getElem?
        intro j
        rw [splice_get _ _ _ (by simp; omega), splice_get _ _ _ (by simp; omega)]
        simp only [Array.toList_setIfInBounds, List.length_cons, List.getElem?_set]
        grind
      rw [this] at e3; exact e3

theorem run_storeVar {t : TypeId} {n m o : Nat} {cs : Array Value} {x : Value} (hs : szT P t = some n) (h : Wri w m cs) (hn : x.cells.size = n) (hv : ∀ v ∈ x.cells.toList, v.oneCell' = true) (hb : o + n ≤ cs.size) :
    ∃ w', (storeVar t ⟨m, o, none⟩ x).run P w = .ok () w' ∧ OnlyAt w w' m ∧ Wri w' m (splice cs.toList o x.cells.toList).toArray := by
  obtain ⟨w', h1, h2, h3⟩ := run_stores (P := P) m o x.cells.toList 0 w cs h hv (by rw [Array.length_toList]; omega)
  refine ⟨w', ?_, h2, by simpa using h3⟩
  unfold storeVar
  simp only [Sem.run_bind, run_sizeOf hs, Result.andThen_ok, hn, ne_eq, not_true_eq_false, if_false]
  exact h1

theorem upd_cells {u : T} {c : Nat} {ts : List T} (h : c + ts.length ≤ u.cells.length) (ho : ts.all T.one = true) : (u.upd c ts).cells = splice u.cells c ts := by
  cases u with
  | agg cs => rfl
  | _ =>
    all_goals
      simp only [T.cells, List.length_singleton] at h
      simp only [T.upd, T.cells]
      match ts, h, ho with
      | [], h, _ => simp [splice]
      | [x], h, ho =>
        have : c = 0 := by simp at h; omega
        subst this
        cases x <;> first | rfl | (simp [T.one] at ho)
      | _ :: _ :: _, h, _ => simp at h; omega

theorem splice_all {p : T → Bool} {cs xs : List T} {o : Nat} (h : cs.all p = true) (k : xs.all p = true) : (splice cs o xs).all p = true := by
  simp only [splice, List.all_append, Bool.and_eq_true]
  refine ⟨⟨?_, k⟩, ?_⟩
  · rw [List.all_eq_true] at h ⊢; exact fun x hx => h x (List.mem_of_mem_take hx)
  · rw [List.all_eq_true] at h ⊢; exact fun x hx => h x (List.mem_of_mem_drop hx)
theorem ELs.store {cs : Array Value} {sz i c : Nat} {xs : List T} {u : T} {ts : List T} {vs : List Value} (h : ELs w F cs 0 sz xs) (hu : xs[i]? = some u) (hc : c + ts.length ≤ u.cells.length) (ho : ts.all T.one = true)
    (hl : vs.length = ts.length) (hv : ∀ (j : Nat) y a, ts[j]? = some y → vs[j]? = some a → TR w F y a) : ELs w F (splice cs.toList (i * sz + c) vs).toArray 0 sz (xs.set i (u.upd c ts)) := by
  have hel := h.el i u hu
  simp only [T.el, Bool.and_eq_true, beq_iff_eq] at hel
  have hlt := (List.getElem?_eq_some_iff.1 hu).1
  have h3 : (i + 1) * sz ≤ xs.length * sz := Nat.mul_le_mul_right _ hlt
  rw [Nat.add_mul] at h3
  have hsz := h.size
  have hct : cs.toList.length = cs.size := Array.length_toList
  have hb : i * sz + c + vs.length ≤ cs.toList.length := by omega
  have hcl := upd_cells hc ho
  refine ⟨by rw [List.size_toArray, splice_length _ _ _ hb, List.length_set, hct]; exact hsz, fun j x hx => ?_, fun j x hx => ?_⟩
  · rw [List.getElem?_set] at hx
    split at hx
    · cases hx
      simp only [T.el, Bool.and_eq_true, beq_iff_eq, hcl]
      exact ⟨by rw [splice_length _ _ _ hc]; exact hel.1, splice_all hel.2 ho⟩
    · exact h.el j x hx
  · intro k y hy
    rw [getD_toArray, List.getD_eq_getElem?_getD, splice_get _ _ _ hb]
    rw [List.getElem?_set] at hx
    split at hx
    · rename_i e; subst e
      cases hx
      rw [hcl, splice_get _ _ _ hc] at hy
      split at hy
      · rename_i hk
        rw [if_pos (by omega)]
        have e : 0 + i * sz + k - (i * sz + c) = k - c := by omega
        rw [e]
        have hlt2 := (List.getElem?_eq_some_iff.1 hy).1
        have hav : vs[k - c]? = some (vs[k - c]'(by omega)) := List.getElem?_eq_getElem _
        rw [hav]
        exact hv _ y _ hy hav
      · rename_i hk
        have hk2 := (List.getElem?_eq_some_iff.1 hy).1
        rw [if_neg (by omega)]
        have := h.rd i u hu k y hy
        rw [getD_toList, List.getD_eq_getElem?_getD] at this
        exact this
    · rename_i hne
      have hej := h.el j x hx
      simp only [T.el, Bool.and_eq_true, beq_iff_eq] at hej
      have hk2 := (List.getElem?_eq_some_iff.1 hy).1
      have hjl := (List.getElem?_eq_some_iff.1 hx).1
      have hno : ¬ (i * sz + c ≤ 0 + j * sz + k ∧ 0 + j * sz + k < i * sz + c + vs.length) := by
        rcases Nat.lt_or_gt_of_ne hne with hij | hij
        · have : (i + 1) * sz ≤ j * sz := Nat.mul_le_mul_right _ hij
          rw [Nat.add_mul] at this
          omega
        · have : (j + 1) * sz ≤ i * sz := Nat.mul_le_mul_right _ hij
          rw [Nat.add_mul] at this
          omega
      rw [if_neg hno]
      have := h.rd j x hx k y hy
      rw [getD_toList, List.getD_eq_getElem?_getD] at this
      exact this

end
end Go.Proofs.Ytanlmanifpknoaa.Ev
