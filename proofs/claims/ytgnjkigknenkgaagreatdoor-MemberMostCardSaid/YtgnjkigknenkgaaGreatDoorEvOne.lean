/- An evaluator for the model's code over abstract values, and what it is for such a value to stand for one of the model: every operation beside calls is carried out as it says; no condition. -/
import GoSem.Dispatch
import GoSem.Machine.Return
import Derived.Lib.ParseIntB
import Derived.Calls
import Derived.Laws.Sem
import Derived.Laws.CopyRow
import Derived.Laws.Cells
import Derived.Laws.Entries
import Derived.Laws.StructEq
import Derived.Laws.Strings
import Derived.Laws.IdiomStrings
import Derived.Lib.UnsafeStr
import Derived.Great.FillDense
section
/- The evaluator's own language and its abstract values: definitions alone. -/
namespace Go.Ev

/-- what is known of an immutable slice's capacity -/
inductive Cp where
  | unk | ex (c : Nat) | nil | nn | nl
  deriving Inhabited

def Cp.low (n : Nat) : Cp → Nat
  | .ex c => c
  | .nil => 0
  | _ => n

def Cp.cut (l : Nat) (m : Option Nat) (c : Cp) : Cp :=
  match c, m with
  | .nil, _ => .nil
  | _, some m => .ex (m - l)
  | .ex c, none => .ex (c - l)
  | _, none => .unk

def Cp.exact : Cp → Option Nat
  | .ex c => some c
  | .nil => some 0
  | _ => none

inductive AV where
  | int (k : IntKind) (n : Int)
  | bool (b : Bool)
  | str (s : List UInt8)
  | nilp
  | ptr (i ep k j : Nat)
  | iptr (v : AV)
  | sl (es : List AV) (cap : Cp)
  | msl (i ep off n : Nat) (cap : Option Nat)
  | agg (cs : List AV)
  | tup (vs : List AV)
  | fn (f : Nat) (caps : List AV)
  | nilfn
  | ifc (t : Nat) (v : AV)
  | nilif
  | map (i ep : Nat)
  | nilmap
  | junk
  deriving Inhabited

/-- a block of variables: is it ours to write; its elements' type and cells; what they hold; have they no reference; its stamp; how often it was written -/
structure VO where
  own : Bool
  ty : Nat
  esz : Nat
  es : List AV
  cl : Bool
  ep : Nat
  ver : Nat
  deriving Inhabited

inductive AO where
  | dead
  | var (r : VO)
  | mp (es : List (AV × AV)) (ep ver : Nat)
  deriving Inhabited

abbrev Env := List AV
abbrev Heap := List AO

inductive Ref where
  | t (i : Nat)
  | c (v : AV)
  deriving Inhabited

/-- kinds of plain cells -/
inductive CK where
  | i | b | s
  deriving Inhabited

inductive EqK where
  | b | p | i | s | f | a (ks : List CK)
  deriving Inhabited

/-- of what a length is asked -/
inductive LK where
  | s | l | a (n : Nat)
  deriving Inhabited

/-- an operation, its operands already read where R is AV -/
inductive COp (R : Type) where
  | mv (x : R)
  | pick (c a b : R)
  | alloc (ty esz : Nat) (es : List AV)
  | box (ty sz : Nat) (x : R)
  | build (zero : List AV) (parts : List (Nat × Nat × R))
  | mkSl (ty esz : Nat) (zero : AV) (len : Nat) (parts : List (Nat × R))
  | load (ag : Option Nat) (x : R)
  | store (sz : Nat) (x v : R)
  | nilchk (x : R)
  | bin (op : BinOp) (x y : R)
  | eqv (neg : Bool) (k : EqK) (x y : R)
  | un (op : UnOp) (x : R)
  | toInt (k : IntKind) (x : R)
  | toStr (sl : Bool) (x : R)
  | toBytes (x : R)
  | slice (esz : Option Nat) (x : R) (lo hi mx : Option R)
  | sliceA (n : Nat) (esz : Nat) (x : R) (lo hi mx : Option R)
  | fld (off : Nat) (ag : Option Nat) (x : R)
  | fldA (off : Nat) (ag : Option Nat) (x : R)
  | idxA (arr : Option Nat) (esz : Nat) (x i : R)
  | idx (arr : Option Nat) (esz : Nat) (ag : Option Nat) (x i : R)
  | ext (x : R) (i : Nat)
  | call (f : R) (args : List R)
  | len (k : LK) (x : R)
  | cap (x : R)
  | app (ty esz : Nat) (x y : R)
  | appZ (ty esz : Nat) (zero : AV) (x y : R)
  | copy (esz : Nat) (x y : R)
  | clear (esz : Nat) (zero : AV) (x : R)
  | mnx (isMax : Bool) (xs : List R)
  | mkIface (t : Nat) (x : R)
  | mkFn (f : Nat) (caps : List R)
  | mkMap
  | lookup (zero : AV) (ok : Bool) (x i : R)
  | mapUpd (m k v : R)
  | delete (m k : R)
  | mkSlice (ty esz : Nat) (zero : AV) (l c : R)
  | p2u (x : R)
  | u2p (ty sz : Nat) (x : R)
  | unsafeData (x : R)
  | unsafeStr (ty : Nat) (x n : R)
  | bad
  deriving Inhabited

def COp.map {R S : Type} (g : R → S) : COp R → COp S
  | .mv x => .mv (g x)
  | .pick c a b => .pick (g c) (g a) (g b)
  | .alloc ty esz es => .alloc ty esz es
  | .box ty sz x => .box ty sz (g x)
  | .build z ps => .build z (ps.map fun p => (p.1, p.2.1, g p.2.2))
  | .mkSl ty esz z l ps => .mkSl ty esz z l (ps.map fun p => (p.1, g p.2))
  | .load ag x => .load ag (g x)
  | .store sz x v => .store sz (g x) (g v)
  | .nilchk x => .nilchk (g x)
  | .bin op x y => .bin op (g x) (g y)
  | .eqv n k x y => .eqv n k (g x) (g y)
  | .un op x => .un op (g x)
  | .toInt k x => .toInt k (g x)
  | .toStr b x => .toStr b (g x)
  | .toBytes x => .toBytes (g x)
  | .slice e x lo hi mx => .slice e (g x) (lo.map g) (hi.map g) (mx.map g)
  | .sliceA n e x lo hi mx => .sliceA n e (g x) (lo.map g) (hi.map g) (mx.map g)
  | .fld off ag x => .fld off ag (g x)
  | .fldA off ag x => .fldA off ag (g x)
  | .idxA arr e x i => .idxA arr e (g x) (g i)
  | .idx arr e ag x i => .idx arr e ag (g x) (g i)
  | .ext x i => .ext (g x) i
  | .call f args => .call (g f) (args.map g)
  | .len k x => .len k (g x)
  | .cap x => .cap (g x)
  | .app ty e x y => .app ty e (g x) (g y)
  | .appZ ty e z x y => .appZ ty e z (g x) (g y)
  | .copy e x y => .copy e (g x) (g y)
  | .clear e z x => .clear e z (g x)
  | .mnx b xs => .mnx b (xs.map g)
  | .mkIface t x => .mkIface t (g x)
  | .mkFn f cs => .mkFn f (cs.map g)
  | .mkMap => .mkMap
  | .lookup z ok x i => .lookup z ok (g x) (g i)
  | .mapUpd m k v => .mapUpd (g m) (g k) (g v)
  | .delete m k => .delete (g m) (g k)
  | .mkSlice ty e z l c => .mkSlice ty e z (g l) (g c)
  | .p2u x => .p2u (g x)
  | .u2p ty sz x => .u2p ty sz (g x)
  | .unsafeData x => .unsafeData (g x)
  | .unsafeStr ty x n => .unsafeStr ty (g x) (g n)
  | .bad => .bad

/-- the operands -/
def COp.rs {R : Type} : COp R → List R
  | .mv x | .box _ _ x | .load _ x | .nilchk x | .un _ x | .toInt _ x | .toStr _ x | .toBytes x | .fld _ _ x | .fldA _ _ x | .ext x _ | .len _ x | .cap x | .clear _ _ x
  | .mkIface _ x | .p2u x | .u2p _ _ x | .unsafeData x => [x]
  | .pick c a b => [c, a, b]
  | .alloc .. | .mkMap | .bad => []
  | .build _ ps => ps.map fun p => p.2.2
  | .mkSl _ _ _ _ ps => ps.map fun p => p.2
  | .store _ x v => [x, v]
  | .bin _ x y | .eqv _ _ x y | .idxA _ _ x y | .idx _ _ _ x y | .app _ _ x y | .appZ _ _ _ x y | .copy _ x y | .lookup _ _ x y | .delete x y | .mkSlice _ _ _ x y | .unsafeStr _ x y => [x, y]
  | .slice _ x lo hi mx | .sliceA _ _ x lo hi mx => x :: (lo.toList ++ hi.toList ++ mx.toList)
  | .call f args => f :: args
  | .mnx _ xs | .mkFn _ xs => xs
  | .mapUpd m k v => [m, k, v]

/-- a value, if anything: the heap stays ('mkSl': where it has no reference) -/
def COp.isV {R : Type} : COp R → Bool
  | .alloc .. | .box .. | .store .. | .app .. | .appZ .. | .copy .. | .clear .. | .mkSlice .. | .unsafeStr .. | .call .. | .mkMap | .lookup .. | .mapUpd .. | .delete .. | .bad => false
  | _ => true

/-- a value that no heap has part in -/
def COp.free {R : Type} : COp R → Bool
  | .mv .. | .pick .. | .bin .. | .un .. | .toInt .. | .toStr false _ | .toBytes .. | .build .. | .fld .. | .idx .. | .ext .. | .mnx .. | .mkIface .. | .mkFn .. | .mkSl .. => true
  | _ => false

def COp.isA {R : Type} : COp R → Bool
  | .alloc .. => true
  | _ => false

structure Oc where
  dst : Option Nat
  op : COp Ref
  guard : Option (Nat × Bool)
  deriving Inhabited

/-- what an operation of a drawn region is: a value, a new variable that nobody but an effect looks at, an effect -/
inductive Kd where
  | v | a | e
  deriving Inhabited, DecidableEq

/-- an operation of a drawn region, in the order in which it is reckoned: between how many effects it may come; its number in the text -/
structure Dc where
  kd : Kd
  lo : Nat
  hi : Nat
  ix : Nat
  oc : Oc
  deriving Inhabited

inductive CC where
  | skip
  | reg (ops : List Oc)
  | dreg (ops : List Dc)
  | seq (a b : CC)
  | cond (c : Ref) (a b : CC)
  | block (id : Nat) (b : CC)
  | loop (live : List Nat) (b : CC)
  | exit (id : Nat)
  | ret
  | rfun (live : List Nat) (f : Ref) (params : List Nat) (assign body : CC)
  | bad
  deriving Inhabited

inductive RV where
  | tmp (t : Nat)
  | cell (t : Nat) (ag : Option Nat)
  deriving Inhabited

structure CF where
  nargs : Nat
  ntmps : Nat
  res : List RV
  body : CC
  inl : Bool := false
  deriving Inhabited

inductive Ex where
  | normal | exit (id : Nat) | ret
  deriving Inhabited, DecidableEq

/-! values -/

def flat : AV → List AV
  | .agg cs => cs
  | v => [v]

/-- what may stand in one cell -/
def isCell : AV → Bool
  | .agg _ | .tup _ | .junk => false
  | _ => true

def okEl (esz : Nat) (y : AV) : Bool := (flat y).length == esz && (flat y).all isCell

def okEls (esz : Nat) (ys : List AV) : Bool := ys.all (okEl esz)

def isAggB : AV → Bool
  | .agg _ => true
  | _ => false

mutual
/-- no reference into the heap of this run -/
def closed : AV → Bool
  | .ptr .. | .msl .. | .map .. | .junk => false
  | .agg cs | .tup cs | .fn _ cs => closedL cs
  | .ifc _ v => closed v
  | _ => true
def closedL : List AV → Bool
  | [] => true
  | v :: vs => closed v && closedL vs
end

mutual
def scalar : AV → Bool
  | .int .. | .bool _ | .str _ | .nilp | .nilfn | .nilif | .nilmap => true
  | .agg cs | .tup cs => scalarL cs
  | _ => false
def scalarL : List AV → Bool
  | [] => true
  | v :: vs => scalar v && scalarL vs
end

/-- in the range of 64 bits: the kernel gets stuck at once where the number is not known -/
def in64 : Int → Bool
  | .ofNat m => Nat.ble m 9223372036854775807
  | .negSucc m => Nat.ble m 9223372036854775807

def wrapK (k : IntKind) (n : Int) : Int :=
  match k with
  | .i64 => match in64 n with
    | true => n
    | false => IntKind.wrap .i64 n
  | k => IntKind.wrap k n

theorem in64_iff {n : Int} : in64 n = true ↔ -9223372036854775808 ≤ n ∧ n ≤ 9223372036854775807 := by
  cases n with
  | ofNat m => simp only [in64, Nat.ble_eq, Int.ofNat_eq_natCast]; omega
  | negSucc m => simp only [in64, Nat.ble_eq]; omega

theorem wrap64 {n : Int} (h : -9223372036854775808 ≤ n ∧ n ≤ 9223372036854775807) : wrapK .i64 n = n := by
  simp only [wrapK, in64_iff.2 h]

def bytesLt : List UInt8 → List UInt8 → Bool
  | _, [] => false
  | [], _ :: _ => true
  | a :: x, b :: y => if a.toNat < b.toNat then true else if a.toNat = b.toNat then bytesLt x y else false

def bytesEq : List UInt8 → List UInt8 → Bool
  | [], [] => true
  | a :: x, b :: y => if a.toNat = b.toNat then bytesEq x y else false
  | _, _ => false

/-- equality of cells of plain kinds -/
def eqCell : CK → AV → AV → Option Bool
  | .i, .int k a, .int k' b => if k = k' then some (decide (a = b)) else none
  | .b, .bool a, .bool b => some (a == b)
  | .s, .str a, .str b => some (bytesEq a b)
  | _, _, _ => none

def eqCells : List CK → List AV → List AV → Option Bool
  | [], [], [] => some true
  | k :: ks, x :: xs, y :: ys => match eqCell k x y with
    | some true => eqCells ks xs ys
    | some false => some false
    | none => none
  | _, _, _ => none

def getO (H : Heap) (i ep : Nat) : Option VO :=
  match H[i]? with
  | some (.var r) => if r.ep = ep then some r else none
  | _ => none

def getM (H : Heap) (i ep : Nat) : Option (List (AV × AV) × Nat) :=
  match H[i]? with
  | some (.mp es ep' ver) => if ep' = ep then some (es, ver) else none
  | _ => none

def eqPtr (H : Heap) : AV → AV → Option Bool
  | .nilp, .nilp => some true
  | .nilp, .iptr _ => some false
  | .iptr _, .nilp => some false
  | .nilp, .ptr i ep _ _ => (getO H i ep).map fun _ => false
  | .ptr i ep _ _, .nilp => (getO H i ep).map fun _ => false
  | .ptr i ep k j, .ptr i' ep' k' j' => if i = i' ∧ ep = ep' ∧ k = k' ∧ j = j' then (getO H i ep).map fun _ => true else none
  | _, _ => none

def eqIfc : AV → AV → Option Bool
  | .nilif, .nilif => some true
  | .nilif, .ifc _ _ => some false
  | .ifc _ _, .nilif => some false
  | _, _ => none

def eqSl (H : Heap) : AV → AV → Option Bool
  | .sl (_ :: _) _, .sl [] .nil => some false
  | .sl [] .nil, .sl [] .nil => some true
  | .sl [] .nn, .sl [] .nil => some false
  | .sl [] .nl, .sl [] .nil => some true
  | .msl i ep _ _ _, .sl [] .nil => (getO H i ep).map fun _ => false
  | _, _ => none

def eqFn : AV → AV → Option Bool
  | .nilfn, .fn _ _ => some false
  | .fn _ _, .nilfn => some false
  | .nilfn, .nilfn => some true
  | _, _ => none

def bin (op : BinOp) (x y : AV) : Option AV :=
  match op, x, y with
  | .shl, .int k a, .int _ b => if b < 0 then none else some (.int k (wrapK k (a * 2 ^ (min b.toNat k.bits))))
  | .shr, .int k a, .int _ b => if b < 0 then none else some (.int k (a.fdiv (2 ^ (min b.toNat k.bits))))
  | op, .int k a, .int k' b =>
    if k = k' then
      match op with
      | .add => some (.int k (wrapK k (a + b)))
      | .sub => some (.int k (wrapK k (a - b)))
      | .mul => some (.int k (wrapK k (a * b)))
      | .quo => if b = 0 then none else some (.int k (wrapK k (a.tdiv b)))
      | .rem => if b = 0 then none else some (.int k (a.tmod b))
      | .and => some (.int k (wrapK k (BitVec.ofInt k.bits a &&& BitVec.ofInt k.bits b).toNat))
      | .or => some (.int k (wrapK k (BitVec.ofInt k.bits a ||| BitVec.ofInt k.bits b).toNat))
      | .xor => some (.int k (wrapK k (BitVec.ofInt k.bits a ^^^ BitVec.ofInt k.bits b).toNat))
      | .andNot => some (.int k (wrapK k (BitVec.ofInt k.bits a &&& ~~~ BitVec.ofInt k.bits b).toNat))
      | .eql => some (.bool (decide (a = b)))
      | .neq => some (.bool (!decide (a = b)))
      | .lss => some (.bool (decide (a < b)))
      | .leq => some (.bool (decide (a ≤ b)))
      | .gtr => some (.bool (decide (b < a)))
      | .geq => some (.bool (decide (b ≤ a)))
      | _ => none
    else none
  | op, .str a, .str b =>
    match op with
    | .add => if a.length + b.length ≤ 4611686018427387904 then some (.str (a ++ b)) else none
    | .eql => some (.bool (bytesEq a b))
    | .neq => some (.bool (!bytesEq a b))
    | .lss => some (.bool (bytesLt a b))
    | .leq => some (.bool (!bytesLt b a))
    | .gtr => some (.bool (bytesLt b a))
    | .geq => some (.bool (!bytesLt a b))
    | _ => none
  | _, _, _ => none

def eqv (H : Heap) (k : EqK) (x y : AV) : Option Bool :=
  match k, x, y with
  | .b, .bool a, .bool b => some (a == b)
  | .a ks, .agg a, .agg b => if a.length = ks.length ∧ b.length = ks.length then eqCells ks a b else none
  | .p, a, b => eqPtr H a b
  | .i, a, b => eqIfc a b
  | .s, a, b => eqSl H a b
  | .f, a, b => eqFn a b
  | _, _, _ => none

def un (op : UnOp) (x : AV) : Option AV :=
  match op, x with
  | .neg, .int k n => some (.int k (wrapK k (0 - n)))
  | .xor, .int k n => some (.int k (wrapK k (BitVec.ofInt k.bits (if k.signed then -1 else k.max) ^^^ BitVec.ofInt k.bits n).toNat))
  | .not, .bool b => some (.bool !b)
  | _, _ => none

def evR (env : Env) : Ref → AV
  | .t i => env.getD i .junk
  | .c v => v

/-- a pure value of what is read now; 'none': it has a reference that stays one; 'fr': only what nobody writes is read -/
def viewF (fr : Bool) (H : Heap) : Nat → AV → Option AV
  | 0, _ => none
  | n + 1, v =>
    match v with
    | .sl es _ => some (.sl es .unk)
    | .agg cs => (cs.mapM (viewF fr H n)).map .agg
    | .tup cs => (cs.mapM (viewF fr H n)).map .tup
    | .fn f cs => (cs.mapM (viewF fr H n)).map (.fn f)
    | .ifc t v => (viewF fr H n v).map (.ifc t)
    | .msl i ep off k _ =>
      match getO H i ep with
      | some r =>
        if off + k ≤ r.es.length ∧ (fr && r.own) = false then
          if r.cl then some (.sl ((r.es.drop off).take k) .unk)
          else (((r.es.drop off).take k).mapM (viewF fr H n)).map (.sl · .unk)
        else none
      | none => none
    | .ptr .. | .map .. | .junk => none
    | v => some v

def view (fr : Bool) (H : Heap) (v : AV) : Option AV := viewF fr H 12 v

mutual
/-- the objects that a value leads to at once -/
def refs : AV → List Nat
  | .ptr i .. | .msl i .. | .map i .. => [i]
  | .agg cs | .tup cs | .fn _ cs => refsL cs
  | .ifc _ v => refs v
  | _ => []
def refsL : List AV → List Nat
  | [] => []
  | v :: vs => refs v ++ refsL vs
end

def refsO : AO → List Nat
  | .var r => if r.cl then [] else refsL r.es
  | .mp es _ _ => es.flatMap fun (a, b) => refs a ++ refs b
  | .dead => []

def reach (H : Heap) : Nat → List Nat → List Nat → List Nat
  | 0, _, seen => seen
  | _, [], seen => seen
  | n + 1, i :: todo, seen => if seen.contains i then reach H n todo seen else reach H n (refsO (H.getD i .dead) ++ todo) (i :: seen)

def freeze (H : Heap) (is : List Nat) : Heap :=
  H.zipIdx.map fun (o, i) => match o with
    | .var r => if is.contains i then .var { r with own := false } else o
    | o => o

/-- the heap's stamps anew: 'h0': what the callers may know; 'c0': their clock -/
def stamp (h0 c0 : Nat) (seen : List Nat) : Nat → Nat → Heap → Heap × Nat
  | _, r, [] => ([], r)
  | i, r, o :: os =>
    let keep := i < h0 || seen.contains i
    match o with
    | .var v =>
      if keep then
        if v.ep < c0 then let (os', r') := stamp h0 c0 seen (i + 1) r os; (.var { v with ver := 0 } :: os', r')
        else let (os', r') := stamp h0 c0 seen (i + 1) (r + 1) os; (.var { v with ep := c0 + r, ver := 0 } :: os', r')
      else let (os', r') := stamp h0 c0 seen (i + 1) r os; (.dead :: os', r')
    | .mp es ep _ =>
      if keep then
        if ep < c0 then let (os', r') := stamp h0 c0 seen (i + 1) r os; (.mp es ep 0 :: os', r')
        else let (os', r') := stamp h0 c0 seen (i + 1) (r + 1) os; (.mp es (c0 + r) 0 :: os', r')
      else let (os', r') := stamp h0 c0 seen (i + 1) r os; (.dead :: os', r')
    | .dead => let (os', r') := stamp h0 c0 seen (i + 1) r os; (.dead :: os', r')

def epAt : Option AO → Option Nat
  | some (.var r) => some r.ep
  | some (.mp _ ep _) => some ep
  | _ => none

/-- the stamp by which an object is known behind 'norm' -/
def newEp (H H' : Heap) (i ep : Nat) : Option Nat := if epAt H[i]? = some ep then epAt H'[i]? else none

mutual
/-- what stands for it behind 'norm': a reference to what is gone leads to no object -/
def remap (H H' : Heap) : AV → AV
  | .ptr i ep k j => match newEp H H' i ep with
    | some e => .ptr i e k j
    | none => .ptr H'.length 0 0 0
  | .msl i ep off n cap => match newEp H H' i ep with
    | some e => .msl i e off n cap
    | none => .msl H'.length 0 0 0 none
  | .map i ep => match newEp H H' i ep with
    | some e => .map i e
    | none => .map H'.length 0
  | .agg cs => .agg (remapL H H' cs)
  | .tup cs => .tup (remapL H H' cs)
  | .fn f cs => .fn f (remapL H H' cs)
  | .ifc t v => .ifc t (remap H H' v)
  | v => v
def remapL (H H' : Heap) : List AV → List AV
  | [] => []
  | v :: vs => remap H H' v :: remapL H H' vs
end

def remapO (H H' : Heap) : AO → AO
  | .var r => .var { r with es := if r.cl then r.es else remapL H H' r.es }
  | .mp es ep ver => .mp (es.map fun (a, b) => (remap H H' a, remap H H' b)) ep ver
  | .dead => .dead

def trimDead : Heap → Heap
  | [] => []
  | o :: os => match trimDead os, o with
    | [], .dead => []
    | os', o => o :: os'

/-- heap and roots anew -/
def norm (h0 c0 : Nat) (roots : List AV) (H : Heap) : List AV × Heap × Nat :=
  let seen := reach H (H.length * 4 + roots.length * 8 + 64) (refsL roots ++ (List.range h0)) []
  let (H1, r) := stamp h0 c0 seen 0 0 H
  let H2 := (H1.take h0) ++ trimDead (H1.drop h0)
  (remapL H H2 roots, H2.map (remapO H H2), c0 + r + 1)

/-- cells of an element changed from j on -/
def putCells (e : AV) (j : Nat) (cs : List AV) : Option AV :=
  match e with
  | .agg xs => if j + cs.length ≤ xs.length then some (.agg (xs.take j ++ cs ++ xs.drop (j + cs.length))) else none
  | _ => if j = 0 then match cs with
    | [c] => some c
    | _ => none
    else none

def getCells (e : AV) (j : Nat) (ag : Option Nat) : Option AV :=
  match ag with
  | some n => match e with
    | .agg xs => if j + n ≤ xs.length then some (.agg ((xs.drop j).take n)) else none
    | _ => none
  | none => match e with
    | .agg xs => xs[j]?
    | v => if j = 0 then some v else none

structure St where
  env : Env
  H : Heap
  clk : Nat
  deriving Inhabited

def asNat (x : AV) : Option Nat :=
  match x with
  | .int _ n => if 0 ≤ n then some n.toNat else none
  | _ => none

def bM (low : Nat) (mx : Option AV) : Option (Option Nat) :=
  match mx with
  | none => some none
  | some v => match asNat v with
    | some m => if m ≤ low then some (some m) else none
    | none => none

def bH (len low : Nat) (m : Option Nat) (hi : Option AV) : Option Nat :=
  match hi with
  | none => if m.isNone then some len else none
  | some v => match asNat v with
    | some h => if h ≤ m.getD low then some h else none
    | none => none

def bL (h : Nat) (lo : Option AV) : Option Nat :=
  match lo with
  | none => some 0
  | some v => match asNat v with
    | some l => if l ≤ h then some l else none
    | none => none

/-- bounds of a slice expression over what has a length, and at least so much capacity -/
def bounds (len low : Nat) (lo hi mx : Option AV) : Option (Nat × Nat × Option Nat) :=
  match bM low mx with
  | none => none
  | some m => match bH len low m hi with
    | none => none
    | some h => match bL h lo with
      | none => none
      | some l => some (l, h, m)

/-- the elements of a slice, or a string's bytes -/
def elems (H : Heap) (x : AV) : Option (List AV × Bool) :=
  match x with
  | .sl es _ => some (es, true)
  | .msl i ep off n _ => match getO H i ep with
    | some r => if off + n ≤ r.es.length then some ((r.es.drop off).take n, r.cl) else none
    | none => none
  | .str s => some (s.map fun b => AV.int .u8 b.toNat, true)
  | _ => none

def byteOf : AV → Option UInt8
  | .int .u8 n => some (UInt8.ofNat n.toNat)
  | _ => none

def mostLen : Nat := 2147483648

/-- append -/
def append (ty esz : Nat) (x : AV) (ys : List AV) (cl : Bool) (H : Heap) (clk : Nat) : Option (AV × Heap × Nat) :=
  if !okEls esz ys then none else
  match x with
  | .sl es cap =>
    if ys.isEmpty then some (x, H, clk) else
    match cap.exact with
    | some c => if es.length + ys.length > c ∧ es.length + ys.length ≤ mostLen ∧ okEls esz es = true then
        some (.msl H.length clk 0 (es.length + ys.length) none, H ++ [.var ⟨true, ty, esz, es ++ ys, cl, clk, 0⟩], clk + 1) else none
    | none => none
  | .msl i ep off n cap =>
    match getO H i ep with
    | some r =>
      if ys.isEmpty then some (x, H, clk) else
      if r.esz = esz ∧ r.ty = ty ∧ off + n ≤ r.es.length ∧ n + ys.length ≤ mostLen then
        if off + (n + ys.length) ≤ r.es.length ∧ n + ys.length ≤ cap.getD (n + ys.length) then
          if r.own then some (.msl i ep off (n + ys.length) cap, H.set i (.var { r with es := r.es.take (off + n) ++ ys ++ r.es.drop (off + n + ys.length), cl := r.cl && cl, ver := r.ver + 1 }), clk) else none
        else match cap with
          | some c => if n + ys.length > c then
              some (.msl H.length clk 0 (n + ys.length) none, H ++ [.var ⟨true, ty, esz, (r.es.drop off).take n ++ ys, r.cl && cl, clk, 0⟩], clk + 1) else none
          | none => if r.own = true ∧ off = 0 then
              some (.msl i clk 0 (n + ys.length) none, H.set i (.var ⟨true, ty, esz, r.es.take n ++ ys, r.cl && cl, clk, 0⟩), clk + 1) else none
      else none
    | none => none
  | _ => none

def keyEq : AV → AV → Bool
  | .int _ a, .int _ b => decide (a = b)
  | .str a, .str b => bytesEq a b
  | .bool a, .bool b => a == b
  | _, _ => false

def scalarKey : AV → Bool
  | .int .. | .str _ | .bool _ => true
  | _ => false

def oneRes (env : Env) (H : Heap) : RV → Option AV
  | .tmp t => some (env.getD t .junk)
  | .cell t ag => match env.getD t .junk with
    | .ptr i ep k j => match getO H i ep with
      | some r => (r.es[k]?).bind fun e => getCells e j ag
      | none => none
    | _ => none

def result (cf : CF) (s : St) : Option AV :=
  match cf.res with
  | [r] => oneRes s.env s.H r
  | rs => (rs.mapM (oneRes s.env s.H)).map .tup

def mnxGo (isMax : Bool) (k : IntKind) : Int → List AV → Option AV
  | a, [] => some (.int k a)
  | a, .int k' b :: rest => if k = k' then mnxGo isMax k (if isMax then (if b > a then b else a) else (if b < a then b else a)) rest else none
  | _, _ => none

def mnx (isMax : Bool) : List AV → Option AV
  | .int k a :: rest => mnxGo isMax k a rest
  | _ => none

def isPtr : AV → Bool
  | .nilp | .ptr .. | .iptr _ => true
  | _ => false

def isJunk : AV → Bool
  | .junk => true
  | _ => false

def fill : List (Nat × Nat × AV) → List AV → Option (List AV)
  | [], cs => some cs
  | (off, sz, x) :: ps, cs => if (flat x).length = sz ∧ off + sz ≤ cs.length ∧ isJunk x = false then fill ps (cs.take off ++ flat x ++ cs.drop (off + sz)) else none

def fillE (esz : Nat) : List (Nat × AV) → List AV → Option (List AV)
  | [], es => some es
  | (i, x) :: ps, es => if okEl esz x = true ∧ i < es.length then fillE esz ps (es.set i x) else none

/-- how much capacity is known -/
def lowOf (cap : Option Nat) (n : Nat) : Nat :=
  match cap with
  | some c => min c n
  | none => n

def capCut (l : Nat) (m cap : Option Nat) : Option Nat :=
  match m with
  | some m => some (m - l)
  | none => cap.map (· - l)

def cpOf (c : Option Nat) : Cp :=
  match c with
  | some c => .ex c
  | none => .unk

/-- the element size of a slice's elements is this one -/
def headOK (esz : Nat) (es : List AV) : Bool :=
  match es.head? with
  | some e => (flat e).length == esz
  | none => true

/-- what is done beside calls -/
def evOp (op : COp AV) (H : Heap) (clk : Nat) : Option (AV × Heap × Nat) :=
  let ok (v : AV) : Option (AV × Heap × Nat) := some (v, H, clk)
  match op with
  | .mv x => ok x
  | .pick c a b => match c with
    | .bool true => ok a
    | .bool false => ok b
    | _ => none
  | .alloc ty esz es => if okEls esz es then some (.ptr H.length clk 0 0, H ++ [.var ⟨true, ty, esz, es, false, clk, 0⟩], clk + 1) else none
  | .box ty sz x => if okEl sz x then some (.ptr H.length clk 0 0, H ++ [.var ⟨true, ty, sz, [x], false, clk, 0⟩], clk + 1) else none
  | .build zero parts =>
    (fill parts zero).bind fun cs => ok (.agg cs)
  | .mkSl ty esz zero len parts =>
    if okEl esz zero then
      (fillE esz parts (List.replicate len zero)).bind fun es => if closedL es then ok (.sl es (.ex len)) else
        some (.msl H.length clk 0 len (some len), H ++ [.var ⟨true, ty, esz, es, false, clk, 0⟩], clk + 1)
    else none
  | .load ag x => match x with
    | .ptr i ep k j => match getO H i ep with
      | some r => match r.es[k]? with
        | some e => (getCells e j ag).bind ok
        | none => none
      | none => none
    | .iptr v => (getCells v 0 ag).bind ok
    | _ => none
  | .store sz x v =>
    if okEl sz v then
      match x with
      | .ptr i ep k j => match getO H i ep with
        | some r => match r.es[k]? with
          | some e => if r.own then (putCells e j (flat v)).bind fun e' => some (.junk, H.set i (.var { r with es := r.es.set k e', cl := r.cl && closedL (flat v), ver := r.ver + 1 }), clk) else none
          | none => none
        | none => none
      | _ => none
    else none
  | .nilchk x => match x with
    | .ptr .. | .iptr _ | .ifc .. | .fn .. => ok x
    | _ => none
  | .bin op x y => (bin op x y).bind ok
  | .eqv neg k x y => (eqv H k x y).bind fun b => ok (.bool (if neg then !b else b))
  | .un op x => (un op x).bind ok
  | .toInt k x => match x with
    | .int _ n => ok (.int k (wrapK k n))
    | _ => none
  | .toStr sl x => match x with
    | .str b => ok (.str b)
    | .int _ n => ok (.str (Utf8.encode n).data.toList)
    | v => if sl then match elems H v with
      | some (es, _) => (es.mapM byteOf).bind fun bs => ok (.str bs)
      | none => none
      else none
  | .toBytes x => match x with
    | .str b => ok (.sl (b.map fun b => AV.int .u8 b.toNat) .unk)
    | _ => none
  | .slice esz x lo hi mx =>
    match esz, x with
    | none, .str b => if mx.isSome then none else  (bounds b.length b.length lo hi mx).bind fun (l, h, _) => ok (.str ((b.take h).drop l))
    | some esz, .sl es cap => if headOK esz es then
      (bounds es.length (min (cap.low es.length) es.length) lo hi (mx)).bind fun (l, h, m) =>
        ok (.sl ((es.take h).drop l) (cap.cut l m)) else none
    | some esz, .msl i ep off n cap => match getO H i ep with
      | some r =>
        if r.esz = esz ∧ off ≤ r.es.length then
          (bounds n (lowOf cap (r.es.length - off)) lo hi mx).bind fun (l, h, m) =>
            if l > 0 && l = h then ok (.sl [] (cpOf (capCut l m cap))) else ok (.msl i ep (off + l) (h - l) (capCut l m cap))
        else none
      | none => none
    | _, _ => none
  | .sliceA n esz x lo hi mx =>
    match x with
    | .ptr i ep k j => match getO H i ep with
      | some r => if r.esz = esz ∧ j = 0 ∧ k + n ≤ r.es.length then
          (bounds n n lo hi mx).bind fun (l, h, m) =>
            let c := (m.getD n) - l
            if l > 0 && l = h then ok (.sl [] (.ex c)) else ok (.msl i ep (k + l) (h - l) (some c))
        else none
      | none => none
    | _ => none
  | .fld off ag x => (getCells x off ag).bind fun v => match x with
    | .agg _ => ok v
    | _ => none
  | .fldA off ag x => match x with
    | .ptr i ep k j => match getO H i ep with
      | some _ => ok (.ptr i ep k (j + off))
      | none => none
    | .iptr v => match v with
      | .agg _ => (getCells v off ag).bind fun v => if ag.isSome || isCell v then ok (.iptr v) else none
      | _ => none
    | _ => none
  | .idxA arr esz x i => match asNat i with
    | none => none
    | some i => match arr, x with
      | some n, .ptr o ep k j =>
        if i < n then match getO H o ep with
          | some r => if r.esz = esz ∧ j = 0 then ok (.ptr o ep (k + i) 0) else ok (.ptr o ep k (j + i * esz))
          | none => none
        else none
      | none, .sl es _ => match es[i]? with
        | some e => if (flat e).length = esz then ok (.iptr e) else none
        | none => none
      | none, .msl o ep off n _ => if i < n then match getO H o ep with
          | some r => if r.esz = esz then ok (.ptr o ep (off + i) 0) else none
          | none => none
        else none
      | _, _ => none
  | .idx arr esz ag x i => match asNat i with
    | none => none
    | some i => match arr, x with
      | some n, .agg cs => if i < n then (getCells (.agg cs) (i * esz) ag).bind ok else none
      | none, .str b => match b[i]? with
        | some c => ok (.int .u8 c.toNat)
        | none => none
      | _, _ => none
  | .ext x i => match x with
    | .tup vs => match vs[i]? with
      | some v => ok v
      | none => none
    | _ => none
  | .call _ _ => none
  | .len k x => match k, x with
    | .a n, _ => ok (.int .i64 n)
    | .s, .str b => ok (.int .i64 b.length)
    | .l, .sl es _ => ok (.int .i64 es.length)
    | .l, .msl i ep _ n _ => match getO H i ep with
      | some _ => ok (.int .i64 n)
      | none => none
    | _, _ => none
  | .cap x => match x with
    | .sl _ (.ex c) => ok (.int .i64 c)
    | .sl _ .nil => ok (.int .i64 0)
    | .msl i ep _ _ (some c) => match getO H i ep with
      | some _ => ok (.int .i64 c)
      | none => none
    | _ => none
  | .app ty esz x y => match elems H y with
    | some (ys, cl) => append ty esz x ys cl H clk
    | none => none
  | .appZ ty esz zero x y => match asNat y with
    | some n => if n ≤ 1048576 then if !okEl esz zero then none else append ty esz x (List.replicate n zero) (closed zero) H clk else none
    | none => none
  | .copy esz x y => match elems H y with
    | some (ys, cl) => match x with
      | .msl i ep off n _ => match getO H i ep with
        | some r =>
          if r.esz = esz ∧ off + n ≤ r.es.length ∧ okEls esz ys = true then
            if min ys.length n = 0 then ok (.int .i64 0) else
            if r.own then some (.int .i64 (min ys.length n : Nat), H.set i (.var { r with es := r.es.take off ++ ys.take (min ys.length n) ++ r.es.drop (off + min ys.length n), cl := r.cl && cl, ver := r.ver + 1 }), clk) else none
          else none
        | none => none
      | .sl [] _ => ok (.int .i64 0)
      | _ => none
    | none => none
  | .clear esz zero x => match x with
    | .sl [] _ => ok (.tup [])
    | .msl i ep off n _ => match getO H i ep with
      | some r => if r.own = true ∧ r.esz = esz ∧ off + n ≤ r.es.length ∧ okEl esz zero = true then
          some (.tup [], H.set i (.var { r with es := r.es.take off ++ List.replicate n zero ++ r.es.drop (off + n), cl := r.cl && closed zero, ver := r.ver + 1 }), clk) else none
      | _ => none
    | _ => none
  | .mnx isMax xs => (mnx isMax xs).bind ok
  | .mkIface t x => ok (.ifc t x)
  | .mkFn f cs => ok (.fn f cs)
  | .mkMap => some (.map H.length clk, H ++ [.mp [] clk 0], clk + 1)
  | .lookup zero okb x i =>
    let key := i
    if !scalarKey key then none else
    let res (v : AV) (b : Bool) : Option (AV × Heap × Nat) := if okb then ok (.tup [v, .bool b]) else ok v
    match x with
    | .nilmap => res zero false
    | .map m ep => match getM H m ep with
      | some (es, _) => match es.find? (fun e => keyEq key e.1) with
        | some e => res e.2 true
        | none => res zero false
      | none => none
    | _ => none
  | .mapUpd m k v =>
    let key := k
    if !scalarKey key then none else
    match m with
    | .map m ep => match getM H m ep with
      | some (es, ver) =>
        let es' := if es.any (fun e => keyEq key e.1) then es.map (fun e => if keyEq key e.1 then (key, v) else e) else es ++ [(key, v)]
        some (.junk, H.set m (.mp es' ep (ver + 1)), clk)
      | none => none
    | _ => none
  | .delete m k =>
    let key := k
    if !scalarKey key then none else
    match m with
    | .nilmap => ok (.tup [])
    | .map m ep => match getM H m ep with
      | some (es, ver) => some (.tup [], H.set m (.mp (es.filter fun e => !keyEq key e.1) ep (ver + 1)), clk)
      | none => none
    | _ => none
  | .mkSlice ty esz zero l c => match asNat l, asNat c with
    | some l, some c => if l ≤ c ∧ c ≤ 1048576 ∧ okEl esz zero = true then
        some (.msl H.length clk 0 l (some c), H ++ [.var ⟨true, ty, esz, List.replicate c zero, closed zero, clk, 0⟩], clk + 1) else none
    | _, _ => none
  | .p2u x => match x with
    | .nilp => ok .nilp
    | .ptr i ep k j => match getO H i ep with
      | some r => match r.es[k]? with
        | some e => if j < (flat e).length then ok (.ptr i ep k j) else none
        | none => none
      | none => none
    | _ => none
  | .u2p ty sz x => match x with
    | .nilp => ok .nilp
    | .ptr i ep 0 0 => match getO H i ep with
      | some r => if r.ty = ty ∧ r.esz = sz ∧ 0 < r.es.length then ok (.ptr i ep 0 0) else none
      | none => none
    | _ => none
  | .unsafeData x => match x with
    | .msl i ep off (_ + 1) _ => match getO H i ep with
      | some _ => ok (.ptr i ep off 0)
      | none => none
    | .sl [] .nil => ok .nilp
    | .sl (e :: _) _ => ok (.iptr e)
    | _ => none
  | .unsafeStr ty x n => match asNat n with
    | some 0 => if isPtr x then ok (.str []) else none
    | some n => match x with
      | .ptr i ep 0 0 => match getO H i ep with
        | some r => if r.own = true ∧ r.esz = 1 ∧ r.ty = ty ∧ n ≤ r.es.length ∧ n ≤ mostLen then
            ((r.es.take n).mapM byteOf).bind fun bs => some (.str bs, H.set i (.var { r with own := false }), clk) else none
        | none => none
      | _ => none
    | none => none
  | .bad => none

def closedArgs (vs : List AV) : Bool := closedL vs

inductive PK where
  | clone (ty esz : Nat) | insert (ty esz : Nat) | sortI | fmtInt | parseInt (t : Nat) | idxByte | cmpStr | same | repeat
  deriving Inhabited

/-- iterators of slices: the size of an element; is it an aggregate -/
inductive IK where
  | ints | values (esz : Nat) (ag : Bool) | chunk (esz : Nat) (ag : Bool)
  deriving Inhabited

inductive FD where
  | code (cf : CF)
  | prim (p : PK)
  | iter (k : IK)
  deriving Inhabited

abbrev Tbl := Nat → Option FD

def cmpB : List UInt8 → List UInt8 → Int
  | [], [] => 0
  | [], _ => -1
  | _, [] => 1
  | a :: x, b :: y => if a.toNat < b.toNat then -1 else if b.toNat < a.toNat then 1 else cmpB x y

def idxB (c : Nat) : List UInt8 → Nat → Int
  | [], _ => -1
  | a :: x, i => if a.toNat = c then i else idxB c x (i+1)

def digits : Nat → Nat → List UInt8 → List UInt8
  | 0, _, acc => acc
  | f + 1, n, acc => if n < 10 then UInt8.ofNat (48 + n) :: acc else digits f (n / 10) (UInt8.ofNat (48 + n % 10) :: acc)

def fmtInt (n : Int) : List UInt8 := if n < 0 then 45 :: digits 20 (-n).toNat [] else digits 20 n.toNat []

def i64Of : AV → Option Int
  | .int .i64 n => some n
  | _ => none

def insInt (x : Int) : List Int → List Int
  | [] => [x]
  | y :: ys => if x ≤ y then x :: y :: ys else y :: insInt x ys

def sortInts : List Int → List Int
  | [] => []
  | x :: xs => insInt x (sortInts xs)

/-- the elements of a slice -/
def slElems (H : Heap) (x : AV) : Option (List AV × Bool) :=
  match x with
  | .str _ => none
  | x => elems H x

def evPrim (p : PK) (args : List AV) (H : Heap) (clk : Nat) : Option (AV × Heap × Nat) :=
  match p, args with
  | .clone ty esz, [x] => match slElems H x with
    | some (es, cl) => if es.isEmpty then some (.sl [] (.ex 0), H, clk) else
        if okEls esz es = true ∧ es.length ≤ mostLen then some (.msl H.length clk 0 es.length none, H ++ [.var ⟨true, ty, esz, es, cl, clk, 0⟩], clk + 1) else none
    | none => none
  | .insert ty esz, [s, i, v] => match slElems H v, asNat i with
    | some (ys, cl), some i =>
      if !okEls esz ys then none else
      match s with
      | .sl es cap =>
        if i ≤ es.length then
          if ys.isEmpty then some (s, H, clk) else
          match cap.exact with
          | some c => if es.length + ys.length > c then
              some (.msl H.length clk 0 (es.length + ys.length) none, H ++ [.var ⟨true, ty, esz, es.take i ++ ys ++ es.drop i, cl, clk, 0⟩], clk + 1) else none
          | none => none
        else none
      | .msl o ep 0 n none => match getO H o ep with
        | some r => if r.own = true ∧ r.esz = esz ∧ r.ty = ty ∧ n = r.es.length ∧ i ≤ n then
            if ys.isEmpty then some (s, H, clk) else
            some (.msl o clk 0 (n + ys.length) none, H.set o (.var ⟨true, ty, esz, r.es.take i ++ ys ++ r.es.drop i, r.cl && cl, clk, 0⟩), clk + 1) else none
        | _ => none
      | _ => none
    | _, _ => none
  | .sortI, [x] => match x with
    | .sl [] _ => some (.tup [], H, clk)
    | .msl i ep off (n + 1) _ => match getO H i ep with
      | some r => if r.own = true ∧ r.esz = 1 ∧ off + (n + 1) ≤ r.es.length ∧ n + 1 ≤ mostLen then
          match ((r.es.drop off).take (n + 1)).mapM i64Of with
          | some zs => some (.tup [], H.set i (.var { r with es := r.es.take off ++ (sortInts zs).map (AV.int .i64) ++ r.es.drop (off + (n + 1)), cl := r.cl && true, ver := r.ver + 1 }), clk)
          | none => none
        else none
      | none => none
    | _ => none
  | .fmtInt, [.int .i64 n, .int .i64 b] => if b = 10 ∧ -9223372036854775808 ≤ n ∧ n ≤ 9223372036854775807 then some (.str (fmtInt n), H, clk) else none
  | .parseInt t, [.str s, .int .i64 b, .int .i64 z] => if b = 10 ∧ z = 64 ∧ s.length ≤ 281474976710656 then match Lib.parseIntB 64 s with
      | .ok n => some (.tup [.int .i64 n, .nilif], H, clk)
      | _ => some (.tup [.junk, .ifc t .junk], H, clk) else none
  | .idxByte, [.str s, .int .u8 c] => if c < 256 then some (.int .i64 (idxB c.toNat s 0), H, clk) else none
  | .cmpStr, [.str a, .str b] => some (.int .i64 (cmpB a b), H, clk)
  | .same, [x] => some (x, H, clk)
  | .repeat, [.str s, n] => match asNat n with
    | some n => if s.length * n ≤ 1048576 then some (.str (List.replicate n s).flatten, H, clk) else none
    | none => none
  | _, _ => none

def chunks (n : Nat) : Nat → List AV → List (List AV)
  | 0, _ => []
  | f + 1, l => match l with
    | [] => []
    | _ => l.take n :: chunks n f (l.drop n)

/-- what a variable holds that nobody writes any more -/
def boxed (H : Heap) (x : AV) : Option AV :=
  match x with
  | .ptr i ep 0 0 => match getO H i ep with
    | some r => if r.own then none else match r.es with
      | [v] => some v
      | _ => none
    | none => none
  | _ => none

def isI64 : AV → Bool
  | .int .i64 _ => true
  | _ => false

def okItems (esz : Nat) (ag : Bool) (es : List AV) : Bool := okEls esz es && es.all (fun e => isAggB e == ag) && decide (es.length ≤ mostLen)

/-- what an iterator hands out, one round behind the other -/
def items (k : IK) (caps : List AV) (H : Heap) : Option (List (List AV)) :=
  match k, caps with
  | .ints, [x] => match boxed H x with
    | some (.sl es _) => if es.all isI64 && decide (es.length ≤ mostLen) then some (es.map fun e => [e]) else none
    | _ => none
  | .values esz ag, [x] => match boxed H x with
    | some (.sl es _) => if okItems esz ag es then some (es.map fun e => [e]) else none
    | _ => none
  | .chunk esz ag, [x, y] => match boxed H x, boxed H y with
    | some (.sl es _), some (.int .i64 n) => if 0 < n && okItems esz ag es then some ((chunks n.toNat es.length es).map fun c => [.sl c (.ex c.length)]) else none
    | _, _ => none
  | _, _ => none

def setAll (env : Env) : List Nat → List AV → Env
  | t :: ts, v :: vs => setAll (env.set t v) ts vs
  | _, _ => env

/-- the heap behind a pure call: what its result may share with the arguments is not written any more -/
def after (v : AV) (args : List AV) (H : Heap) : Option Heap :=
  if scalar v then some H else
  if (args.mapM (view true H)).isSome then some H else
  let H' := freeze H (reach H (H.length * 4 + 64) (refsL args) [])
  if (args.mapM (view true H')).isSome then some H' else none

def putSt (s : St) (d : Option Nat) (v : AV) (H : Heap) (clk : Nat) : St := { env := (match d with | some d => s.env.set d v | none => s.env), H, clk }

/-- is a guarded operation carried out -/
def goes (s : St) (g : Option (Nat × Bool)) : Option Bool :=
  match g with
  | none => some true
  | some (g, want) => match s.env.getD g .junk with
    | .bool b => some (b == want)
    | _ => none

def cpEq : Cp → Cp → Bool
  | .unk, .unk => true
  | .ex a, .ex b => decide (a = b)
  | .nil, .nil => true
  | .nn, .nn => true
  | .nl, .nl => true
  | _, _ => false

mutual
def avEq : AV → AV → Bool
  | .int k a, .int k' b => decide (k = k') && decide (a = b)
  | .bool a, .bool b => a == b
  | .str a, .str b => a == b
  | .nilp, .nilp => true
  | .ptr i ep k j, .ptr i' ep' k' j' => decide (i = i') && decide (ep = ep') && decide (k = k') && decide (j = j')
  | .iptr a, .iptr b => avEq a b
  | .sl es c, .sl es' c' => avEqL es es' && cpEq c c'
  | .msl i ep o n c, .msl i' ep' o' n' c' => decide (i = i') && decide (ep = ep') && decide (o = o') && decide (n = n') && decide (c = c')
  | .agg cs, .agg cs' => avEqL cs cs'
  | .tup cs, .tup cs' => avEqL cs cs'
  | .fn f cs, .fn f' cs' => decide (f = f') && avEqL cs cs'
  | .nilfn, .nilfn => true
  | .ifc t a, .ifc t' b => decide (t = t') && avEq a b
  | .nilif, .nilif => true
  | .nilmap, .nilmap => true
  | _, _ => false
def avEqL : List AV → List AV → Bool
  | [], [] => true
  | a :: as, b :: bs => avEq a b && avEqL as bs
  | _, _ => false
end

/-- does a value operation's result say that the heap is as it was -/
def keeps (op : COp Ref) (v : AV) : Bool :=
  match op, v with
  | .mkSl .., .sl .. => true
  | .mkSl .., _ => false
  | op, _ => op.isV

/-- has an operation its value behind so many effects as well -/
def sameAt (op : COp AV) (v : AV) (s : St) : Bool :=
  match evOp op s.H s.clk with
  | some (v', _, _) => avEq v v'
  | none => false

/-- the states behind no effect, behind the first one .. -/
def snaps : List Dc → List St → List St
  | d :: ds, _ :: s :: sts => if d.kd = .e then s :: snaps ds (s :: sts) else snaps ds (s :: sts)
  | _, _ => []

def stableGo (sn : List St) : List Dc → List St → Bool
  | d :: ds, s :: s' :: sts =>
    (if d.kd = .v ∧ d.lo ≠ d.hi ∧ d.oc.op.free = false then
      match goes s d.oc.guard, d.oc.dst with
      | some true, some t => ((sn.drop d.lo).take (d.hi + 1 - d.lo)).all (sameAt (d.oc.op.map (evR s.env)) (s'.env.getD t .junk))
      | some true, none => false
      | _, _ => true
    else true) && stableGo sn ds (s' :: sts)
  | _, _ => true

/-- value operations have their values wherever they may come -/
def stable (ds : List Dc) (sts : List St) : Bool :=
  if ds.all (fun d => d.kd ≠ .v ∨ d.lo = d.hi ∨ d.oc.op.free = true) then true else stableGo (sts.take 1 ++ snaps ds sts) ds sts

mutual
/-- a call: of a pure one the heap stays -/
def evCall (T : Tbl) : Nat → Nat → List AV → Heap → Nat → Option (AV × Heap × Nat)
  | 0, _, _, _, _ => none
  | n + 1, f, args, H, clk =>
    match T f with
    | none => none
    | some (.prim p) => evPrim p args H clk
    | some (.iter _) => none
    | some (.code cf) =>
        match (if cf.inl then none else args.mapM (view false H)) with
        | some vs =>
          match evCode T n 0 0 cf.body { env := vs ++ List.replicate (cf.ntmps - vs.length) .junk, H := [], clk := 0 } with
          | some (.normal, s) | some (.ret, s) =>
            match (result cf s).bind (view false s.H) with
            | some v => (after v args H).map fun H' => (v, H', clk)
            | none => none
          | _ => none
        | none =>
          match evCode T n H.length clk cf.body { env := args ++ List.replicate (cf.ntmps - args.length) .junk, H := H, clk := clk } with
          | some (.normal, s) | some (.ret, s) =>
            match result cf s with
            | some v => match norm H.length clk [v] s.H with
              | ([v], H', clk') => some (v, H', clk')
              | _ => none
            | none => none
          | _ => none

def evOps (T : Tbl) : Nat → List Oc → St → Option St
  | 0, _, _ => none
  | _ + 1, [], s => some s
  | n + 1, o :: os, s =>
    match goes s o.guard with
    | none => none
    | some false => evOps T n os (putSt s o.dst .junk s.H s.clk)
    | some true =>
      match o.op with
      | .call f args =>
        match evR s.env f with
        | .fn f caps => match evCall T n f (args.map (evR s.env) ++ caps) s.H s.clk with
          | some (v, H, clk) => evOps T n os (putSt s o.dst v H clk)
          | none => none
        | _ => none
      | op => match evOp (op.map (evR s.env)) s.H s.clk with
        | some (v, H, clk) => evOps T n os (putSt s o.dst v H clk)
        | none => none

/-- a drawn region's operations, in one order; the states ahead of each one, and behind the last one; 'H', 'clk': behind the last effect -/
def evDreg (T : Tbl) : Nat → List Dc → St → Heap → Nat → Option (List St)
  | 0, _, _, _, _ => none
  | _ + 1, [], s, _, _ => some [s]
  | n + 1, d :: ds, s, H, clk =>
    match goes s d.oc.guard with
    | none => none
    | some false => (match d.kd with
      | .e => evDreg T n ds (putSt s d.oc.dst .junk s.H s.clk) s.H s.clk
      | _ => evDreg T n ds (putSt s d.oc.dst .junk s.H s.clk) H clk).map (s :: ·)
    | some true =>
      match d.kd with
      | .v => match evOp (d.oc.op.map (evR s.env)) H clk with
        | some (v, _, _) => if keeps d.oc.op v then (evDreg T n ds (putSt s d.oc.dst v s.H s.clk) H clk).map (s :: ·) else none
        | none => none
      | .a => match evOp (d.oc.op.map (evR s.env)) s.H s.clk with
        | some (v, H', clk') => (evDreg T n ds (putSt s d.oc.dst v H' clk') H clk).map (s :: ·)
        | none => none
      | .e => match d.oc.op with
        | .call f args =>
          match evR s.env f with
          | .fn f caps => match evCall T n f (args.map (evR s.env) ++ caps) s.H s.clk with
            | some (v, H', clk') => (evDreg T n ds (putSt s d.oc.dst v H' clk') H' clk').map (s :: ·)
            | none => none
          | _ => none
        | op => match evOp (op.map (evR s.env)) s.H s.clk with
          | some (v, H', clk') => (evDreg T n ds (putSt s d.oc.dst v H' clk') H' clk').map (s :: ·)
          | none => none

def evCode (T : Tbl) : Nat → Nat → Nat → CC → St → Option (Ex × St)
  | 0, _, _, _, _ => none
  | n + 1, h0, c0, c, s =>
    match c with
    | .skip => some (.normal, s)
    | .reg ops => (evOps T n ops s).map fun s => (.normal, s)
    | .dreg ds => match evDreg T n ds s s.H s.clk with
      | some sts => if stable ds sts then sts.getLast?.map fun s => (.normal, s) else none
      | none => none
    | .seq a b => match evCode T n h0 c0 a s with
      | some (.normal, s) => evCode T n h0 c0 b s
      | r => r
    | .cond c a b => match evR s.env c with
      | .bool true => evCode T n h0 c0 a s
      | .bool false => evCode T n h0 c0 b s
      | _ => none
    | .block id b => match evCode T n h0 c0 b s with
      | some (.exit id', s) => if id' = id then some (.normal, s) else some (.exit id', s)
      | r => r
    | .loop live b => evLoop T n h0 c0 live b s
    | .exit id => some (.exit id, s)
    | .ret => some (.ret, s)
    | .rfun live f ps assign b => match evR s.env f with
      | .fn fi caps => match T fi with
        | some (.iter k) =>
          let H := freeze s.H (refsL caps)
          match items k caps H with
          | some its =>
            let env := s.env.zipIdx.map fun (v, i) => if live.contains i then v else .junk
            evRounds T n h0 c0 ps assign b env its H s.clk
          | none => none
        | _ => none
      | _ => none
    | .bad => none

/-- the rounds of a range over a function: what a round's frame turns is lost, the heap stays -/
def evRounds (T : Tbl) : Nat → Nat → Nat → List Nat → CC → CC → Env → List (List AV) → Heap → Nat → Option (Ex × St)
  | 0, _, _, _, _, _, _, _, _, _ => none
  | _ + 1, _, _, _, _, _, env, [], H, clk => some (.normal, { env, H, clk })
  | n + 1, h0, c0, ps, assign, b, env, it :: its, H, clk =>
    match evCode T n H.length clk assign { env := setAll env ps it, H, clk } with
    | some (.normal, s) => match evCode T n H.length clk b s with
      | some (.normal, s) =>
        let (env, H, clk) := norm h0 c0 env s.H
        evRounds T n h0 c0 ps assign b env its H clk
      | some (e, s) => some (e, { env, H := s.H, clk := s.clk })
      | none => none
    | _ => none

def evLoop (T : Tbl) : Nat → Nat → Nat → List Nat → CC → St → Option (Ex × St)
  | 0, _, _, _, _, _ => none
  | n + 1, h0, c0, live, b, s =>
    let env := s.env.zipIdx.map fun (v, i) => if live.contains i then v else .junk
    let (env, H, clk) := norm h0 c0 env s.H
    match evCode T n h0 c0 b { env, H, clk } with
    | some (.normal, s) => evLoop T n h0 c0 live b s
    | r => r
end

end Go.Ev
end

section
/- What it is for an abstract value to stand for a value in memory; that it lasts. -/
namespace Go.Ev

structure Cx where
  H : Heap
  m : Nat → Nat
  clk : Nat
  w : World
  x : Nat → Prop

def AO.owns : AO → Bool
  | .var r => r.own
  | .mp .. => true
  | .dead => false

def Cx.Own (c : Cx) (b : Nat) : Prop := ∃ i o, c.H[i]? = some o ∧ o.owns = true ∧ c.m i = b

def Cx.Still (c : Cx) (b : Nat) : Prop := b < c.w.heap.size ∧ ¬ c.Own b ∧ ¬ c.x b

/-- the size of an element of a live object; how many there are -/
def sig (H : Heap) (i ep : Nat) : Option (Nat × Nat) := (getO H i ep).map fun r => (r.esz, r.es.length)

def bsize (w : World) (b : Nat) : Nat :=
  match w.heap[b]? with
  | some (.cells arr _ _) => arr.size
  | _ => 0

def capOK (cap : Cp) (a : Option Addr) (n : Nat) : Prop :=
  match cap with
  | .unk => True
  | .ex c => n = c
  | .nil => a = none ∧ n = 0
  | .nn => a ≠ none
  | .nl => a = none

inductive Rep (P : Program) (c : Cx) : AV → Value → Prop
  | int (k : IntKind) (n : Int) : Rep P c (.int k n) (.int k n)
  | bool (b : Bool) : Rep P c (.bool b) (.bool b)
  | str (s : List UInt8) : Rep P c (.str s) (.string ⟨s.toArray⟩)
  | nilp : Rep P c .nilp (.pointer none)
  | ptr {i ep k j esz L : Nat} (h : sig c.H i ep = some (esz, L)) (hc : ep < c.clk) : Rep P c (.ptr i ep k j) (.pointer (some ⟨c.m i, k * esz + j, none⟩))
  | ptrS {i ep k j : Nat} (a : Addr) (h : sig c.H i ep = none) (hc : ep < c.clk) : Rep P c (.ptr i ep k j) (.pointer (some a))
  | iptr {v : AV} {b off : Nat} (f : Nat → Value) (hb : c.Still b) (hcl : closed v = true)
      (hf : ∀ x a, (flat v)[x]? = some a → c.w.cell? ⟨b, off + x, none⟩ = some (f x))
      (hr : ∀ x a, (flat v)[x]? = some a → Rep P c a (f x)) : Rep P c (.iptr v) (.pointer (some ⟨b, off, none⟩))
  | slE {cap : Cp} {a : Option Addr} {n : Nat} (h : capOK cap a n) : Rep P c (.sl [] cap) (.slice a 0 n)
  | sl {es : List AV} {cap : Cp} {b off n : Nat} (esz : Nat) (f : Nat → Nat → Value) (hne : es ≠ []) (hn : es.length ≤ n) (hcap : capOK cap (some ⟨b, off, none⟩) n)
      (hb : c.Still b) (hcl : closedL es = true) (hsz : ∀ e ∈ es, (flat e).length = esz)
      (hf : ∀ k e j a, es[k]? = some e → (flat e)[j]? = some a → c.w.cell? ⟨b, off + (k * esz + j), none⟩ = some (f k j))
      (hr : ∀ k e j a, es[k]? = some e → (flat e)[j]? = some a → Rep P c a (f k j)) : Rep P c (.sl es cap) (.slice (some ⟨b, off, none⟩) es.length n)
  | msl {i ep off n cap' esz L : Nat} {cap : Option Nat} (h : sig c.H i ep = some (esz, L)) (hc : ep < c.clk) (hn : n ≤ cap') (hcap : ∀ x, cap = some x → cap' = x) (hL : cap = none → L ≤ off + cap')
      (hsz : (off + cap') * esz ≤ bsize c.w (c.m i)) : Rep P c (.msl i ep off n cap) (.slice (some ⟨c.m i, off * esz, none⟩) n cap')
  | mslS {i ep off n : Nat} {cap : Option Nat} (a : Option Addr) (l cap' : Nat) (h : sig c.H i ep = none) (hc : ep < c.clk) : Rep P c (.msl i ep off n cap) (.slice a l cap')
  | agg {cs : List AV} {vs : Array Value} (hl : vs.size = cs.length) (h : ∀ (k : Nat) a v, cs[k]? = some a → vs[k]? = some v → Rep P c a v) : Rep P c (.agg cs) (.agg vs)
  | tup {cs : List AV} {vs : Array Value} (hl : vs.size = cs.length) (h : ∀ (k : Nat) a v, cs[k]? = some a → vs[k]? = some v → Rep P c a v) : Rep P c (.tup cs) (.tuple vs)
  | fn {f : Nat} {cs : List AV} {vs : Array Value} (hl : vs.size = cs.length) (h : ∀ (k : Nat) a v, cs[k]? = some a → vs[k]? = some v → Rep P c a v) :
      Rep P c (.fn f cs) (.func (.func f) #[] vs)
  | nilfn : Rep P c .nilfn .nilFunc
  | ifc {t : Nat} {a : AV} {v : Value} (h : Rep P c a v) : Rep P c (.ifc t a) (.iface t v)
  | nilif : Rep P c .nilif .nilIface
  | map {i ep : Nat} (r : Nat) : Rep P c (.map i ep) (.map (some r))
  | nilmap : Rep P c .nilmap (.map none)
  | junk (v : Value) : Rep P c .junk v

/-- one context behind another: what lasts -/
structure Cx.le (c c' : Cx) : Prop where
  size : c.w.heap.size ≤ c'.w.heap.size
  still : ∀ b, b < c.w.heap.size → ¬ c.Own b → (c.x b → c'.x b) → c'.w.heap[b]? = c.w.heap[b]?
  own : ∀ b, c'.Own b → c.Own b ∨ c.w.heap.size ≤ b ∨ (c.x b ∧ ¬ c'.x b)
  clk : c.clk ≤ c'.clk
  live : ∀ i ep r, ep < c.clk → sig c'.H i ep = some r → sig c.H i ep = some r ∧ c'.m i = c.m i ∧ bsize c'.w (c.m i) = bsize c.w (c.m i)
  x : ∀ b, c'.x b → c.x b ∨ c.w.heap.size ≤ b
  os : c'.w.os = c.w.os
  tape : c'.w.tape = c.w.tape
  output : c'.w.output = c.w.output

theorem Cx.le.refl (c : Cx) : c.le c :=
  ⟨Nat.le_refl _, fun _ _ _ _ => rfl, fun _ h => .inl h, Nat.le_refl _, fun _ _ _ _ h => ⟨h, rfl, rfl⟩, fun _ h => .inl h, rfl, rfl, rfl⟩

theorem Cx.le.trans {a b c : Cx} (h : a.le b) (k : b.le c) : a.le c where
  size := Nat.le_trans h.size k.size
  still y hy ho hx := by
    have hx1 : a.x y → b.x y := fun h1 => by
      rcases k.x y (hx h1) with h' | h'
      · exact h'
      · have := h.size; omega
    have hb : ¬ b.Own y := fun hb => by
      rcases h.own y hb with h' | h' | ⟨h1, h2⟩
      · exact ho h'
      · omega
      · exact h2 (hx1 h1)
    have hx2 : b.x y → c.x y := fun h1 => by
      rcases h.x y h1 with h' | h'
      · exact hx h'
      · omega
    rw [k.still y (Nat.lt_of_lt_of_le hy h.size) hb hx2, h.still y hy ho hx1]
  own y hy := by
    rcases k.own y hy with h' | h' | ⟨h1, h2⟩
    · rcases h.own y h' with g | g | ⟨g1, g2⟩
      · exact .inl g
      · exact .inr (.inl g)
      · by_cases hc : c.x y
        · rcases k.x y hc with q | q
          · exact absurd q g2
          · exact .inr (.inl (Nat.le_trans h.size q))
        · exact .inr (.inr ⟨g1, hc⟩)
    · exact .inr (.inl (Nat.le_trans h.size h'))
    · rcases h.x y h1 with g | g
      · exact .inr (.inr ⟨g, h2⟩)
      · exact .inr (.inl g)
  clk := Nat.le_trans h.clk k.clk
  live i ep r he hs := by
    obtain ⟨h1, h2, h3⟩ := k.live i ep r (Nat.lt_of_lt_of_le he h.clk) hs
    obtain ⟨h4, h5, h6⟩ := h.live i ep r he h1
    exact ⟨h4, h2.trans h5, by rw [h5] at h3; rw [h3, h6]⟩
  x y hy := by
    rcases k.x y hy with h' | h'
    · exact h.x y h'
    · exact .inr (Nat.le_trans h.size h')
  os := k.os.trans h.os
  tape := k.tape.trans h.tape
  output := k.output.trans h.output

theorem Cx.le.stillB {c c' : Cx} (h : c.le c') {b : Nat} (hb : c.Still b) : c'.Still b := by
  refine ⟨Nat.lt_of_lt_of_le hb.1 h.size, fun ho => ?_, fun hx => ?_⟩
  · rcases h.own b ho with h' | h' | h'
    · exact hb.2.1 h'
    · have := hb.1; omega
    · exact hb.2.2 h'.1
  · rcases h.x b hx with h' | h'
    · exact hb.2.2 h'
    · have := hb.1; omega

theorem cell?_of_block {w w' : World} {b : Nat} (h : w'.heap[b]? = w.heap[b]?) (off : Nat) : w'.cell? ⟨b, off, none⟩ = w.cell? ⟨b, off, none⟩ := by
  simp [World.cell?, h]

theorem Rep.mono {P : Program} {c c' : Cx} (hle : c.le c') {a : AV} {v : Value} (h : Rep P c a v) : Rep P c' a v := by
  induction h with
  | int k n => exact .int k n
  | bool b => exact .bool b
  | str s => exact .str s
  | nilp => exact .nilp
  | @ptr i ep k j esz L h hc =>
    cases hs : sig c'.H i ep with
    | none => exact .ptrS _ hs (Nat.lt_of_lt_of_le hc hle.clk)
    | some r =>
      obtain ⟨h1, h2, _⟩ := hle.live i ep r hc hs
      rw [h1] at h; cases h
      rw [← h2]
      exact .ptr hs (Nat.lt_of_lt_of_le hc hle.clk)
  | @ptrS i ep k j a h hc =>
    refine .ptrS _ ?_ (Nat.lt_of_lt_of_le hc hle.clk)
    cases hs : sig c'.H i ep with
    | none => rfl
    | some r => obtain ⟨h1, _, _⟩ := hle.live i ep r hc hs; rw [h1] at h; cases h
  | @iptr v b off f hb hcl hf hr ih =>
    refine .iptr f (hle.stillB hb) hcl (fun x a hx => ?_) ih
    rw [cell?_of_block (hle.still b hb.1 hb.2.1 (fun h => absurd h hb.2.2))]; exact hf x a hx
  | slE h => exact .slE h
  | @sl es cap b off n esz f hne hn hcap hb hcl hsz hf hr ih =>
    refine .sl esz f hne hn hcap (hle.stillB hb) hcl hsz (fun k e j a hk hj => ?_) ih
    rw [cell?_of_block (hle.still b hb.1 hb.2.1 (fun h => absurd h hb.2.2))]; exact hf k e j a hk hj
  | @msl i ep off n cap' esz L cap h hc hn hcap hL hsz =>
    cases hs : sig c'.H i ep with
    | none => exact .mslS _ _ _ hs (Nat.lt_of_lt_of_le hc hle.clk)
    | some r =>
      obtain ⟨h1, h2, h3⟩ := hle.live i ep r hc hs
      rw [h1] at h; cases h
      rw [← h2] at hsz h3 ⊢
      exact .msl hs (Nat.lt_of_lt_of_le hc hle.clk) hn hcap hL (by rw [h3]; exact hsz)
  | @mslS i ep off n cap a l cap' h hc =>
    refine .mslS _ _ _ ?_ (Nat.lt_of_lt_of_le hc hle.clk)
    cases hs : sig c'.H i ep with
    | none => rfl
    | some r => obtain ⟨h1, _, _⟩ := hle.live i ep r hc hs; rw [h1] at h; cases h
  | agg hl h ih => exact .agg hl ih
  | tup hl h ih => exact .tup hl ih
  | fn hl h ih => exact .fn hl ih
  | nilfn => exact .nilfn
  | ifc h ih => exact .ifc ih
  | nilif => exact .nilif
  | map v => exact .map v
  | nilmap => exact .nilmap
  | junk v => exact .junk v

structure VarOK (P : Program) (c : Cx) (b : Nat) (r : VO) : Prop where
  ep : r.ep < c.clk
  cells : ∃ arr fz, c.w.heap[b]? = some (.cells arr r.ty fz) ∧ (r.own = true → fz = (0, 0)) ∧ r.es.length * r.esz ≤ arr.size ∧
    ∀ k e j a, r.es[k]? = some e → (flat e)[j]? = some a → ∃ v, arr[k * r.esz + j]? = some v ∧ Rep P c a v
  frz : r.own = false → ¬ c.Own b
  x : ¬ c.x b
  sz : okEls r.esz r.es = true
  cl : r.cl = true → closedL r.es = true

structure HR (P : Program) (c : Cx) : Prop where
  inj : ∀ (i j : Nat) (o o' : AO), c.H[i]? = some o → c.H[j]? = some o' → o.owns = true → o'.owns = true → c.m i = c.m j → i = j
  var : ∀ (i : Nat) (r : VO), c.H[i]? = some (.var r) → VarOK P c (c.m i) r
  nomap : ∀ (i : Nat) es ep ver, c.H[i]? ≠ some (.mp es ep ver)
  x : ∀ b, c.x b → b < c.w.heap.size

def EnvR (P : Program) (c : Cx) (env : Env) (tmps : Array Value) : Prop :=
  env.length = tmps.size ∧ ∀ (i : Nat) a v, env[i]? = some a → tmps[i]? = some v → Rep P c a v

theorem isCell_one {P : Program} {c : Cx} {a : AV} {v : Value} (h : isCell a = true) (hr : Rep P c a v) : v.oneCell' = true := by
  cases hr <;> first | rfl | (simp [isCell] at h)

theorem okEl_len {esz : Nat} {y : AV} (h : okEl esz y = true) : (flat y).length = esz := by
  simp only [okEl, Bool.and_eq_true, beq_iff_eq] at h; exact h.1

theorem okEl_cell {esz : Nat} {y : AV} (h : okEl esz y = true) : ∀ a ∈ flat y, isCell a = true := by
  simp only [okEl, Bool.and_eq_true, List.all_eq_true] at h; exact h.2

theorem okEls_mem {esz : Nat} {ys : List AV} (h : okEls esz ys = true) : ∀ y ∈ ys, okEl esz y = true := by
  simpa [okEls, List.all_eq_true] using h

theorem okEls_append {esz : Nat} {xs ys : List AV} : okEls esz (xs ++ ys) = (okEls esz xs && okEls esz ys) := by simp [okEls]

/-- a value's cells stand for the flattened abstract value's -/
theorem Rep.cells {P : Program} {c : Cx} {a : AV} {v : Value} (h : Rep P c a v) (hj : a ≠ .junk) :
    v.cells.size = (flat a).length ∧ ∀ (k : Nat) x y, (flat a)[k]? = some x → v.cells[k]? = some y → Rep P c x y := by
  by_cases hg : ∃ cs vs, a = .agg cs ∧ v = .agg vs
  · obtain ⟨cs, vs, rfl, rfl⟩ := hg
    cases h with
    | agg hl h => exact ⟨hl, h⟩
  · have hf : flat a = [a] ∧ v.cells = #[v] := by
      cases h <;> first | exact ⟨rfl, rfl⟩ | exact absurd rfl hj | exact absurd ⟨_, _, rfl, rfl⟩ hg
    refine ⟨by simp [hf.1, hf.2], fun k x y hx hy => ?_⟩
    rw [hf.1] at hx
    rw [hf.2] at hy
    match k with
    | 0 => simp at hx hy; subst hx; subst hy; exact h
    | k + 1 => simp at hx

end Go.Ev
end

section
/- From the model's operations to the evaluator's: 'compOp'; each operation is carried out as the evaluator says. -/
namespace Go.Ev

def valAVf : Nat → Value → AV
  | 0, _ => .junk
  | n + 1, v =>
    match v with
    | .bool b => .bool b
    | .int k x => .int k x
    | .string s => .str s.data.toList
    | .pointer none => .nilp
    | .slice none 0 0 => .sl [] .nil
    | .map none => .nilmap
    | .nilFunc => .nilfn
    | .nilIface => .nilif
    | .agg cs => .agg (cs.toList.map (valAVf n))
    | .tuple cs => .tup (cs.toList.map (valAVf n))
    | .func (.func f) a b => if a.size = 0 ∧ b.size = 0 then .fn f [] else .junk
    | _ => .junk

def valAV (v : Value) : AV := valAVf 4 v

def cRef : Operand → Ref
  | .tmp t => .t t
  | .const v => .c (valAV v)
  | .func f => .c (.fn f [])
  | .global _ => .c .junk

theorem valAVf_rep (P : Program) (c : Cx) : ∀ (n : Nat) (v : Value), Rep P c (valAVf n v) v := by
  intro n
  induction n with
  | zero => intro v; exact .junk v
  | succ n ih =>
    intro v
    have hl : ∀ (cs : Array Value) (k : Nat) a v, (cs.toList.map (valAVf n))[k]? = some a → cs[k]? = some v → Rep P c a v := by
      intro cs k a v h1 h2
      simp only [List.getElem?_map, Array.getElem?_toList, h2, Option.map_some, Option.some.injEq] at h1
      subst h1; exact ih v
    unfold valAVf
    split <;> first
      | exact .junk _
      | exact .bool _
      | exact .int _ _
      | exact .str _
      | exact .nilp
      | exact .slE ⟨rfl, rfl⟩
      | exact .nilmap
      | exact .nilfn
      | exact .nilif
      | exact .agg (by simp) (hl _)
      | exact .tup (by simp) (hl _)
      | (split
         · rename_i h; obtain ⟨h1, h2⟩ := h
           obtain rfl := Array.eq_empty_of_size_eq_zero h1
           obtain rfl := Array.eq_empty_of_size_eq_zero h2
           exact .fn (by simp) (by simp)
         · exact .junk _)

theorem evR_rep {P : Program} {c : Cx} {env : Env} {a : Act} (h : EnvR P c env a.tmps) (x : Operand) : Rep P c (evR env (cRef x)) (a.eval x) := by
  cases x with
  | tmp t =>
    simp only [cRef, evR, Act.eval]
    by_cases ht : t < env.length
    · have ht' : t < a.tmps.size := h.1 ▸ ht
      have e1 : env.getD t .junk = env[t] := by simp [List.getD, List.getElem?_eq_getElem ht]
      have e2 : a.tmps.getD t undef = a.tmps[t] := by simp [Array.getD, ht']
      rw [e1, e2]
      exact h.2 t _ _ (List.getElem?_eq_getElem ht) (Array.getElem?_eq_getElem ht')
    · have e1 : env.getD t .junk = .junk := by simp [List.getD, List.getElem?_eq_none (Nat.le_of_not_lt ht)]
      rw [e1]; exact .junk _
  | const v => exact valAVf_rep P c 4 v
  | func f => exact .fn (by simp) (by simp)
  | global g => exact .junk _

def isAggT : TypeDesc → Bool
  | .struct _ | .array _ _ => true
  | _ => false

/-- is a type's value an aggregate, and of how many cells; its size -/
def tAg (P : Program) (t : TypeId) : Option (Option Nat × Nat) :=
  match P.info? t, P.underlying t with
  | some i, some d => some (if isAggT d then some i.size else none, i.size)
  | _, _ => none

theorem tAg_run {P : Program} {t : TypeId} {r : Option Nat × Nat} (h : tAg P t = some r) (w : World) :
    (isAgg t).run P w = .ok r.1.isSome w ∧ (sizeOf t).run P w = .ok r.2 w ∧ (∀ n, r.1 = some n → n = r.2) := by
  unfold tAg at h
  split at h
  · rename_i i d hi hd
    cases h
    refine ⟨?_, ?_, ?_⟩
    · unfold isAgg
      simp only [Sem.run_bind, run_underlying hd, Result.andThen_ok]
      cases d <;> rfl
    · simp [sizeOf, typeInfo, hi]
    · intro n hn
      dsimp only at hn
      split at hn
      · cases hn; rfl
      · cases hn
  · cases h

/-- what was carried out and hands back a value -/
def Done (P : Program) (c : Cx) (s : Sem Next) (v : AV) (H' : Heap) (clk' : Nat) : Prop :=
  ∃ val m' w', (s.run P c.w = .ok (.value val) w' ∨ (s.run P c.w = .ok .skip w' ∧ v = .junk)) ∧
    c.le ⟨H', m', clk', w', c.x⟩ ∧ HR P ⟨H', m', clk', w', c.x⟩ ∧ Rep P ⟨H', m', clk', w', c.x⟩ v val

theorem Done.pure {P : Program} {c : Cx} {s : Sem Next} {v : AV} {val : Value} (hH : HR P c) (hs : s.run P c.w = .ok (.value val) c.w) (hr : Rep P c v val) : Done P c s v c.H c.clk :=
  ⟨val, c.m, c.w, .inl hs, Cx.le.refl c, hH, hr⟩

theorem getO_some {H : Heap} {i ep : Nat} {r : VO} (h : getO H i ep = some r) : H[i]? = some (.var r) ∧ r.ep = ep := by
  unfold getO at h
  split at h
  · rename_i r' hi
    split at h
    · rename_i he; cases h; exact ⟨hi, he⟩
    · cases h
  · cases h

/-- a live object's cells -/
theorem HR.cell {P : Program} {c : Cx} (hH : HR P c) {i ep k j : Nat} {r : VO} {e a : AV}
    (h : getO c.H i ep = some r) (hk : r.es[k]? = some e) (hj : (flat e)[j]? = some a) :
    ∃ v, c.w.cell? ⟨c.m i, k * r.esz + j, none⟩ = some v ∧ Rep P c a v := by
  obtain ⟨hi, _⟩ := getO_some h
  obtain ⟨arr, fz, hb, _, _, hc⟩ := (hH.var i r hi).cells
  obtain ⟨v, hv, hr⟩ := hc k e j a hk hj
  exact ⟨v, by simp [World.cell?, hb, hv], hr⟩

theorem sig_of {H : Heap} {i ep : Nat} {r : VO} (h : getO H i ep = some r) : sig H i ep = some (r.esz, r.es.length) := by simp [sig, h]

theorem Rep.ptr_inv {P : Program} {c : Cx} {i ep k j esz L : Nat} {v : Value} (h : Rep P c (.ptr i ep k j) v) (hs : sig c.H i ep = some (esz, L)) :
    v = .pointer (some ⟨c.m i, k * esz + j, none⟩) ∧ ep < c.clk := by
  cases h with
  | ptr h hc => rw [hs] at h; cases h; exact ⟨rfl, hc⟩
  | ptrS a h hc => rw [hs] at h; cases h

theorem add_none (b o n : Nat) : (⟨b, o, none⟩ : Addr).add n = ⟨b, o + n, none⟩ := by
  unfold Addr.add; split
  · rename_i h; subst h; rfl
  · rfl

theorem getCells_some {e v : AV} {j n : Nat} (h : getCells e j (some n) = some v) : ∃ xs, e = .agg xs ∧ v = .agg ((xs.drop j).take n) ∧ j + n ≤ xs.length := by
  simp only [getCells] at h
  split at h
  · rename_i xs
    split at h
    · cases h; exact ⟨xs, rfl, rfl, ‹_›⟩
    · cases h
  · cases h

theorem getCells_none {e v : AV} {j : Nat} (h : getCells e j none = some v) : (flat e)[j]? = some v := by
  simp only [getCells] at h
  split at h
  · exact h
  · rename_i hne
    split at h
    · rename_i hj; cases h; subst hj
      cases e <;> first | rfl | exact absurd rfl (hne _)
    · cases h

/-- loading from cells that stand for an element's -/
theorem run_loadVar {P : Program} {c : Cx} {t : TypeId} {r : Option Nat × Nat} (ht : tAg P t = some r) {e v : AV} {b o j : Nat}
    (hc : ∀ x a, (flat e)[x]? = some a → ∃ v, c.w.cell? ⟨b, o + x, none⟩ = some v ∧ Rep P c a v) (h : getCells e j r.1 = some v) :
    ∃ val, (loadVar t ⟨b, o + j, none⟩).run P c.w = .ok val c.w ∧ Rep P c v val := by
  obtain ⟨h1, h2, h3⟩ := tAg_run ht c.w
  cases hr : r.1 with
  | none =>
    rw [hr] at h h1
    have hg := getCells_none h
    obtain ⟨val, hv, hrep⟩ := hc j v hg
    refine ⟨val, ?_, hrep⟩
    simp [loadVar, h1, hv]
  | some n =>
    rw [hr] at h h1
    obtain rfl := h3 n hr
    obtain ⟨xs, rfl, rfl, hl⟩ := getCells_some h
    have hx : ∀ x : Nat, x < r.2 → ∃ v, c.w.cell? ⟨b, o + j + x, none⟩ = some v ∧ ∃ a, xs[j + x]? = some a ∧ Rep P c a v := by
      intro x hx
      have hlt : j + x < xs.length := by omega
      obtain ⟨v, hv, hrep⟩ := hc (j + x) xs[j + x] (by simp [flat, hlt])
      exact ⟨v, by rw [show o + j + x = o + (j + x) by omega]; exact hv, _, List.getElem?_eq_getElem hlt, hrep⟩
    have hload := run_loadCells (P := P) c.w ⟨b, o + j, none⟩ r.2 (fun x => (c.w.cell? ⟨b, o + j + x, none⟩).getD undef) (fun x hxl => by
      obtain ⟨v, hv, _⟩ := hx x hxl
      rw [add_none, hv]; rfl)
    refine ⟨.agg ((List.range r.2).map fun x => (c.w.cell? ⟨b, o + j + x, none⟩).getD undef).toArray, by simp [loadVar, h1, h2, hload], ?_⟩
    refine .agg (by simp; omega) ?_
    intro k a v hk hv
    simp only [List.getElem?_take, List.getElem?_drop] at hk
    split at hk
    · rename_i hlt
      obtain ⟨v', hv', a', ha', hrep⟩ := hx k hlt
      simp [List.getElem?_map, List.getElem?_range hlt, hv'] at hv
      rw [hk] at ha'; cases ha'
      subst hv; exact hrep
    · cases hk

end Go.Ev
end

section
/- Contexts that follow one another: a new object, a store, an append in place or anew, a freeze. -/
namespace Go.Ev

def upd (m : Nat → Nat) (i b : Nat) : Nat → Nat := fun k => if k = i then b else m k

/-- the cells that stand for an object's elements -/
def CellsOK (P : Program) (c : Cx) (esz : Nat) (es : List AV) (arr : Array Value) : Prop :=
  es.length * esz ≤ arr.size ∧ ∀ k e j a, es[k]? = some e → (flat e)[j]? = some a → ∃ v, arr[k * esz + j]? = some v ∧ Rep P c a v

theorem CellsOK.mono {P : Program} {c c' : Cx} (hle : c.le c') {esz : Nat} {es : List AV} {arr : Array Value} (h : CellsOK P c esz es arr) : CellsOK P c' esz es arr :=
  ⟨h.1, fun k e j a h1 h2 => let ⟨v, h3, h4⟩ := h.2 k e j a h1 h2; ⟨v, h3, h4.mono hle⟩⟩

theorem sig_append_lt {H : Heap} {o : AO} {i ep : Nat} (h : i < H.length) : sig (H ++ [o]) i ep = sig H i ep := by
  simp [sig, getO, List.getElem?_append_left h]

theorem sig_set_ne {H : Heap} {o : AO} {i j ep : Nat} (h : j ≠ i) : sig (H.set i o) j ep = sig H j ep := by
  have : (H.set i o)[j]? = H[j]? := by simp [Ne.symm h]
  simp [sig, getO, this]

theorem sig_var {H : Heap} {i ep : Nat} {r : VO} (h : H[i]? = some (.var r)) : sig H i ep = if r.ep = ep then some (r.esz, r.es.length) else none := by
  simp only [sig, getO, h]; split <;> rfl

theorem sig_some {H : Heap} {i ep : Nat} {z : Nat × Nat} (h : sig H i ep = some z) : ∃ r : VO, H[i]? = some (.var r) ∧ r.ep = ep ∧ (r.esz, r.es.length) = z := by
  unfold sig at h
  cases hg : getO H i ep with
  | none => simp [hg] at h
  | some r => simp [hg] at h; obtain ⟨h1, h2⟩ := getO_some hg; exact ⟨r, h1, h2, h⟩

theorem HR.blt {P : Program} {c : Cx} (hH : HR P c) {i : Nat} {r : VO} (h : c.H[i]? = some (.var r)) : c.m i < c.w.heap.size := by
  obtain ⟨arr, fz, hb, _⟩ := (hH.var i r h).cells
  rcases Nat.lt_or_ge (c.m i) c.w.heap.size with h' | h'
  · exact h'
  · simp [Array.getElem?_eq_none h'] at hb

theorem HR.own_lt {P : Program} {c : Cx} (hH : HR P c) {b : Nat} (h : c.Own b) : b < c.w.heap.size := by
  obtain ⟨i, o, hi, ho, rfl⟩ := h
  cases o with
  | dead => cases ho
  | mp es ep ver => exact absurd hi (hH.nomap i _ _ _)
  | var r => exact hH.blt hi

/-- a world whose streams are as they were -/
structure Same (w w' : World) : Prop where
  os : w'.os = w.os
  tape : w'.tape = w.tape
  output : w'.output = w.output

/-- the same context in a world with more blocks, or more draws -/
theorem Cx.le.world {P : Program} {c : Cx} (hH : HR P c) {w' : World} (hs : Same c.w w') (hsz : c.w.heap.size ≤ w'.heap.size) (hb : ∀ b, b < c.w.heap.size → w'.heap[b]? = c.w.heap[b]?) :
    c.le { c with w := w' } ∧ HR P { c with w := w' } := by
  have hle : c.le { c with w := w' } := by
    refine ⟨hsz, fun b h1 _ _ => hb b h1, fun b h => .inl h, Nat.le_refl _, fun i ep r _ h => ⟨h, rfl, ?_⟩, fun _ h => .inl h, hs.os, hs.tape, hs.output⟩
    obtain ⟨r', hi, _, _⟩ := sig_some h
    simp only [bsize]
    rw [hb _ (hH.blt hi)]
  refine ⟨hle, ⟨hH.inj, ?_, hH.nomap, fun b h => Nat.lt_of_lt_of_le (hH.x b h) hsz⟩⟩
  intro i r hi
  have hv := hH.var i r hi
  refine ⟨hv.ep, ?_, hv.frz, hv.x, hv.sz, hv.cl⟩
  obtain ⟨arr, fz, h1, h2, h3, h4⟩ := hv.cells
  refine ⟨arr, fz, ?_, h2, h3, fun k e j a hk hj => ?_⟩
  · show w'.heap[c.m i]? = _
    rw [hb _ (hH.blt hi)]; exact h1
  · obtain ⟨v, hv1, hv2⟩ := h4 k e j a hk hj
    exact ⟨v, hv1, hv2.mono hle⟩

/-- a new object in a new block -/
theorem Cx.le.new {P : Program} {c : Cx} (hH : HR P c) {w1 : World} (hs : Same c.w w1) (hh : w1.heap = c.w.heap) {ty esz : Nat} {es : List AV} {cl : Bool} {arr : Array Value}
    (hz : okEls esz es = true) (hcl : cl = true → closedL es = true) (hc : CellsOK P c esz es arr) :
    let c' : Cx := ⟨c.H ++ [.var ⟨true, ty, esz, es, cl, c.clk, 0⟩], upd c.m c.H.length c.w.heap.size, c.clk + 1, { w1 with heap := w1.heap.push (.cells arr ty) }, c.x⟩
    c.le c' ∧ HR P c' ∧ sig c'.H c.H.length c.clk = some (esz, es.length) ∧ c'.m c.H.length = c.w.heap.size ∧ bsize c'.w c.w.heap.size = arr.size := by
  intro c'
  have hold : ∀ i, i < c.H.length → c'.H[i]? = c.H[i]? := fun i h => List.getElem?_append_left h
  have hnew : c'.H[c.H.length]? = some (.var ⟨true, ty, esz, es, cl, c.clk, 0⟩) := by simp [c']
  have hm : ∀ i, i < c.H.length → c'.m i = c.m i := fun i h => by simp [c', upd, Nat.ne_of_lt h]
  have hmn : c'.m c.H.length = c.w.heap.size := by simp [c', upd]
  have hbl : ∀ b, b < c.w.heap.size → c'.w.heap[b]? = c.w.heap[b]? := fun b h => by simp [c', hh, Array.getElem?_push, Nat.ne_of_lt h]
  have hbn : c'.w.heap[c.w.heap.size]? = some (.cells arr ty) := by simp [c', hh]
  have hidx : ∀ (i : Nat) (o : AO), c'.H[i]? = some o → i < c.H.length ∨ i = c.H.length := fun i o h => by
    have : i < c'.H.length := (List.getElem?_eq_some_iff.1 h).1
    simp [c'] at this; omega
  have hown : ∀ b, c'.Own b → c.Own b ∨ b = c.w.heap.size := by
    rintro b ⟨i, o, hi, ho, rfl⟩
    rcases hidx i o hi with h | rfl
    · rw [hold i h] at hi; rw [hm i h]; exact .inl ⟨i, o, hi, ho, rfl⟩
    · exact .inr hmn
  have hle : c.le c' := by
    refine ⟨by simp [c', hh], fun b h1 _ _ => hbl b h1, fun b h => (hown b h).imp id (fun e => .inl (by omega)), Nat.le_succ _, ?_, fun _ h => .inl h, hs.os, hs.tape, hs.output⟩
    intro i ep r he hsg
    obtain ⟨r', hi, he', _⟩ := sig_some hsg
    rcases hidx i _ hi with h | rfl
    · rw [sig_append_lt h] at hsg
      obtain ⟨r'', hi', _, _⟩ := sig_some hsg
      refine ⟨hsg, hm i h, ?_⟩
      simp only [bsize]; rw [hbl _ (hH.blt hi')]
    · rw [hnew] at hi; cases hi; simp at he'; omega
  refine ⟨hle, ⟨?_, ?_, ?_, ?_⟩, ?_, hmn, ?_⟩
  · intro i j o o' hi hj ho ho' hmm
    rcases hidx i o hi with h | rfl <;> rcases hidx j o' hj with h' | rfl
    · rw [hold i h] at hi; rw [hold j h'] at hj; rw [hm i h, hm j h'] at hmm
      exact hH.inj i j o o' hi hj ho ho' hmm
    · rw [hold i h] at hi; rw [hm i h, hmn] at hmm
      have := hH.own_lt ⟨i, o, hi, ho, rfl⟩; omega
    · rw [hold j h'] at hj; rw [hm j h', hmn] at hmm
      have := hH.own_lt ⟨j, o', hj, ho', rfl⟩; omega
    · rfl
  · intro i r hi
    rcases hidx i _ hi with h | rfl
    · rw [hold i h] at hi; rw [hm i h]
      have hv := hH.var i _ hi
      have hlt := hH.blt hi
      refine ⟨Nat.lt_succ_of_lt hv.ep, ?_, ?_, hv.x, hv.sz, hv.cl⟩
      · obtain ⟨arr', fz, h1, h2, h3, h4⟩ := hv.cells
        exact ⟨arr', fz, by rw [hbl _ hlt]; exact h1, h2, h3, fun k e j a hk hj => let ⟨v, hv1, hv2⟩ := h4 k e j a hk hj; ⟨v, hv1, hv2.mono hle⟩⟩
      · intro hf ho
        rcases hown _ ho with h' | h'
        · exact hv.frz hf h'
        · omega
    · rw [hnew] at hi; cases hi
      rw [hmn]
      refine ⟨Nat.lt_succ_self _, ⟨arr, (0, 0), hbn, fun _ => rfl, hc.1, ?_⟩, fun h => (by cases h), fun hx => ?_, hz, hcl⟩
      · exact fun k e j a hk hj => let ⟨v, hv1, hv2⟩ := hc.2 k e j a hk hj; ⟨v, hv1, hv2.mono hle⟩
      · have := hH.x _ hx; omega
  · intro i es' ep ver hi
    rcases hidx i _ hi with h | rfl
    · rw [hold i h] at hi; exact hH.nomap i _ _ _ hi
    · rw [hnew] at hi; cases hi
  · exact fun b h => Nat.lt_of_lt_of_le (hH.x b h) hle.size
  · rw [sig_var hnew]; simp
  · simp [bsize, hbn]

/-- an own object is written -/
theorem Cx.le.put {P : Program} {c : Cx} (hH : HR P c) {w' : World} (hs : Same c.w w') {i : Nat} {r r' : VO}
    (hi : c.H[i]? = some (.var r)) (ho : r.own = true) (ho' : r'.own = true) (he : r'.ep = r.ep) (hes : r'.esz = r.esz) (hL : r'.es.length = r.es.length) (hty : r'.ty = r.ty) {arr arr' : Array Value} (hb : c.w.heap[c.m i]? = some (.cells arr r.ty (0, 0))) (hsz : arr'.size = arr.size)
    (hw : w'.heap.size = c.w.heap.size) (hw1 : w'.heap[c.m i]? = some (.cells arr' r.ty (0, 0))) (hw2 : ∀ b, b ≠ c.m i → w'.heap[b]? = c.w.heap[b]?)
    (hz : okEls r'.esz r'.es = true) (hcl : r'.cl = true → closedL r'.es = true) (hc : CellsOK P c r'.esz r'.es arr') :
    let c' : Cx := ⟨c.H.set i (.var r'), c.m, c.clk, w', c.x⟩
    c.le c' ∧ HR P c' := by
  intro c'
  have hil : i < c.H.length := (List.getElem?_eq_some_iff.1 hi).1
  have hold : ∀ j, j ≠ i → c'.H[j]? = c.H[j]? := fun j h => by simp [c', Ne.symm h]
  have hnew : c'.H[i]? = some (.var r') := by simp [c', hil]
  have hown : ∀ b, c'.Own b → c.Own b := by
    rintro b ⟨j, o, hj, ho, rfl⟩
    by_cases h : j = i
    · subst h; exact ⟨j, _, hi, ‹r.own = true›, rfl⟩
    · rw [hold j h] at hj; exact ⟨j, o, hj, ho, rfl⟩
  have hoi : c.Own (c.m i) := ⟨i, _, hi, ho, rfl⟩
  have hle : c.le c' := by
    refine ⟨Nat.le_of_eq hw.symm, fun b _ h _ => hw2 b (fun e => h (e ▸ hoi)), fun b h => .inl (hown b h), Nat.le_refl _, ?_, fun _ h => .inl h, hs.os, hs.tape, hs.output⟩
    intro j ep' z _ hsg
    have hsg' : sig c.H j ep' = some z := by
      by_cases h : j = i
      · subst h; rw [sig_var hnew] at hsg; rw [sig_var hi, ← he, ← hes, ← hL]; exact hsg
      · rw [sig_set_ne h] at hsg; exact hsg
    refine ⟨hsg', rfl, ?_⟩
    by_cases h : c.m j = c.m i
    · simp only [bsize]; rw [h, hb]; show (match w'.heap[c.m i]? with | some (.cells arr _ _) => arr.size | _ => 0) = _; rw [hw1]; exact hsz
    · simp only [bsize]; rw [hw2 _ h]
  refine ⟨hle, ⟨?_, ?_, ?_, fun b h => Nat.lt_of_lt_of_le (hH.x b h) hle.size⟩⟩
  · intro j k o o' hj hk ho1 ho2 hmm
    by_cases h : j = i <;> by_cases h' : k = i
    · rw [h, h']
    · subst h; rw [hold k h'] at hk; exact hH.inj _ _ _ _ hi hk ho ho2 hmm
    · subst h'; rw [hold j h] at hj; exact hH.inj _ _ _ _ hj hi ho1 ho hmm
    · rw [hold j h] at hj; rw [hold k h'] at hk; exact hH.inj _ _ _ _ hj hk ho1 ho2 hmm
  · intro j r2 hj
    by_cases h : j = i
    · subst h; rw [hnew] at hj; cases hj
      have hv := hH.var j _ hi
      exact ⟨by rw [he]; exact hv.ep, ⟨arr', (0, 0), by rw [hty]; exact hw1, fun _ => rfl, hc.1, fun k e x a hk hx => let ⟨v, h1, h2⟩ := hc.2 k e x a hk hx; ⟨v, h1, h2.mono hle⟩⟩, fun h => (by rw [ho'] at h; cases h), hv.x, hz, hcl⟩
    · rw [hold j h] at hj
      have hv := hH.var j _ hj
      have hne : c.m j ≠ c.m i := by
        intro e
        cases hr2 : r2.own with
        | true => exact h (hH.inj j i _ _ hj hi hr2 ho e)
        | false => exact hv.frz hr2 (e ▸ hoi)
      refine ⟨hv.ep, ?_, fun hf ho => hv.frz hf (hown _ ho), hv.x, hv.sz, hv.cl⟩
      obtain ⟨arr1, fz, h1, h2, h3, h4⟩ := hv.cells
      exact ⟨arr1, fz, by rw [show c'.w.heap[c'.m j]? = c.w.heap[c.m j]? from hw2 _ hne]; exact h1, h2, h3,
        fun k e x a hk hx => let ⟨v, hv1, hv2⟩ := h4 k e x a hk hx; ⟨v, hv1, hv2.mono hle⟩⟩
  · intro j es'' ep' ver'' hj
    by_cases h : j = i
    · subst h; rw [hnew] at hj; cases hj
    · rw [hold j h] at hj; exact hH.nomap j _ _ _ hj

/-- an own object under a new stamp, in its old block or in a new one -/
theorem Cx.le.anew {P : Program} {c : Cx} (hH : HR P c) {w' : World} (hs : Same c.w w') {i : Nat} {r r' : VO}
    (hi : c.H[i]? = some (.var r)) (ho : r.own = true) (ho' : r'.own = true) (he : r'.ep = c.clk) {arr' : Array Value} {b' : Nat} (hb' : b' = c.m i ∨ b' = c.w.heap.size)
    (hw : c.w.heap.size ≤ w'.heap.size) (hw1 : w'.heap[b']? = some (.cells arr' r'.ty (0, 0))) (hw2 : ∀ b, b < c.w.heap.size → b ≠ b' → w'.heap[b]? = c.w.heap[b]?)
    (hz : okEls r'.esz r'.es = true) (hcl : r'.cl = true → closedL r'.es = true) (hc : CellsOK P c r'.esz r'.es arr') :
    let c' : Cx := ⟨c.H.set i (.var r'), upd c.m i b', c.clk + 1, w', c.x⟩
    c.le c' ∧ HR P c' ∧ sig c'.H i c.clk = some (r'.esz, r'.es.length) ∧ c'.m i = b' ∧ bsize c'.w b' = arr'.size := by
  intro c'
  have hil : i < c.H.length := (List.getElem?_eq_some_iff.1 hi).1
  have hold : ∀ j, j ≠ i → c'.H[j]? = c.H[j]? := fun j h => by simp [c', Ne.symm h]
  have hnew : c'.H[i]? = some (.var r') := by simp [c', hil]
  have hm : ∀ j, j ≠ i → c'.m j = c.m j := fun j h => by simp [c', upd, h]
  have hmi : c'.m i = b' := by simp [c', upd]
  have hoi : c.Own (c.m i) := ⟨i, _, hi, ho, rfl⟩
  have hown : ∀ b, c'.Own b → c.Own b ∨ c.w.heap.size ≤ b := by
    rintro b ⟨j, o, hj, ho, rfl⟩
    by_cases h : j = i
    · subst h; rw [hmi]
      rcases hb' with e | e
      · exact .inl (e ▸ hoi)
      · exact .inr (Nat.le_of_eq e.symm)
    · rw [hold j h] at hj; rw [hm j h]; exact .inl ⟨j, o, hj, ho, rfl⟩
  have hne' : ∀ (j : Nat) (r2 : VO), j ≠ i → c.H[j]? = some (.var r2) → c.m j ≠ b' := by
    intro j r2 h hj e
    have hv := hH.var j _ hj
    have hlt := hH.blt hj
    rcases hb' with e' | e'
    · cases hr2 : r2.own with
      | true => exact h (hH.inj j i _ _ hj hi hr2 ho (e.trans e'))
      | false => exact hv.frz hr2 ((e.trans e') ▸ hoi)
    · omega
  have hle : c.le c' := by
    refine ⟨hw, fun b h1 h _ => hw2 b h1 ?_, fun b h => (hown b h).imp id .inl, Nat.le_succ _, ?_, fun _ h => .inl h, hs.os, hs.tape, hs.output⟩
    · intro e
      rcases hb' with e' | e'
      · exact h ((e.trans e') ▸ hoi)
      · omega
    · intro j ep' z hlt hsg
      by_cases h : j = i
      · subst h; rw [sig_var hnew] at hsg
        split at hsg
        · omega
        · cases hsg
      · rw [sig_set_ne h] at hsg
        obtain ⟨r2, hj, _, _⟩ := sig_some hsg
        refine ⟨hsg, hm j h, ?_⟩
        simp only [bsize]; rw [hw2 _ (hH.blt hj) (hne' j _ h hj)]
  refine ⟨hle, ⟨?_, ?_, ?_, fun b h => Nat.lt_of_lt_of_le (hH.x b h) hle.size⟩, by rw [sig_var hnew, he]; simp, hmi, by simp [bsize, c', hw1]⟩
  · have hdist : ∀ (k : Nat) o', k ≠ i → c.H[k]? = some o' → o'.owns = true → c.m k ≠ b' := by
      intro k o' h hk ho'
      cases o' with
      | dead => cases ho'
      | mp es ep ver => exact absurd hk (hH.nomap k _ _ _)
      | var r2 => exact hne' k _ h hk
    intro j k o o' hj hk ho1 ho2 hmm
    by_cases h : j = i <;> by_cases h' : k = i
    · rw [h, h']
    · subst h; rw [hold k h'] at hk; rw [hmi, hm k h'] at hmm; exact absurd hmm.symm (hdist k o' h' hk ho2)
    · subst h'; rw [hold j h] at hj; rw [hmi, hm j h] at hmm; exact absurd hmm (hdist j o h hj ho1)
    · rw [hold j h] at hj; rw [hold k h'] at hk; rw [hm j h, hm k h'] at hmm; exact hH.inj _ _ _ _ hj hk ho1 ho2 hmm
  · intro j r2 hj
    by_cases h : j = i
    · subst h; rw [hnew] at hj; cases hj; rw [hmi]
      have hv := hH.var j _ hi
      refine ⟨by rw [he]; exact Nat.lt_succ_self _, ⟨arr', (0, 0), hw1, fun _ => rfl, hc.1, fun k e x a hk hx => let ⟨v, h1, h2⟩ := hc.2 k e x a hk hx; ⟨v, h1, h2.mono hle⟩⟩, fun h => (by rw [ho'] at h; cases h), ?_, hz, hcl⟩
      intro hx
      rcases hb' with e | e
      · rw [e] at hx; exact hv.x hx
      · have := hH.x _ hx; omega
    · rw [hold j h] at hj; rw [hm j h]
      have hv := hH.var j _ hj
      refine ⟨Nat.lt_succ_of_lt hv.ep, ?_, fun hf ho => ?_, hv.x, hv.sz, hv.cl⟩
      · obtain ⟨arr1, fz, h1, h2, h3, h4⟩ := hv.cells
        exact ⟨arr1, fz, by rw [show c'.w.heap[c.m j]? = c.w.heap[c.m j]? from hw2 _ (hH.blt hj) (hne' j _ h hj)]; exact h1, h2, h3,
          fun k e x a hk hx => let ⟨v, hv1, hv2⟩ := h4 k e x a hk hx; ⟨v, hv1, hv2.mono hle⟩⟩
      · rcases hown _ ho with h' | h'
        · exact hv.frz hf h'
        · have := hH.blt hj; omega
  · intro j es'' ep' ver'' hj
    by_cases h : j = i
    · subst h; rw [hnew] at hj; cases hj
    · rw [hold j h] at hj; exact hH.nomap j _ _ _ hj

end Go.Ev
end

section
/- 'compOp': the evaluator's operation for a model's operation. -/
namespace Go.Ev

/-- the kinds of fields' cells that lie one behind the other -/
def eqKindsL (g : TypeId → Option (List CK)) : Nat → List Field → Option (List CK)
  | _, [] => some []
  | off, f :: fs =>
    match g f.type with
    | some ks => if f.offset = off ∧ f.name ≠ "_" ∧ ks.length ≠ 0 then (eqKindsL g (off + ks.length) fs).map (ks ++ ·) else none
    | none => none

/-- the kinds of a plain type's cells, one behind the other -/
def eqKinds (P : Program) : Nat → TypeId → Option (List CK)
  | 0, _ => none
  | d + 1, t =>
    match P.underlying t, P.info? t with
    | some (.int _), some _ => some [.i]
    | some .bool, some _ => some [.b]
    | some .string, some _ => some [.s]
    | some (.struct fs), some i =>
      if P.stoodInHeld t then none else
      match eqKindsL (eqKinds P d) 0 fs.toList with
      | some ks => if i.size = ks.length then some ks else none
      | none => none
    | _, _ => none

def isConstO : Operand → Bool
  | .const _ => true
  | _ => false

def eqK (P : Program) (t : TypeId) (x y : Operand) : Option EqK :=
  match P.underlying t with
  | some .bool => some .b
  | some (.pointer e) => if (P.info? e).any (·.size ≠ 0) then some .p else none
  | some (.interface _) => if isConstO x || isConstO y then some .i else none
  | some (.slice _) => some .s
  | some (.func ..) => some .f
  | some (.struct _) => if P.eqGuardType P.depth t then none else (eqKinds P 20 t).map .a
  | _ => none

def compBin (P : Program) (op : BinOp) (t : TypeId) (x y : Operand) : Option (COp Ref) :=
  match op, P.underlying t with
  | _, some (.int _) | _, some .string => some (.bin op (cRef x) (cRef y))
  | .eql, _ => (eqK P t x y).map fun k => .eqv false k (cRef x) (cRef y)
  | .neq, _ => (eqK P t x y).map fun k => .eqv true k (cRef x) (cRef y)
  | _, _ => none

def isByteT (P : Program) (e : TypeId) : Bool :=
  match P.underlying e with
  | some (.int .u8) => true
  | _ => false

def compConv (P : Program) (s d : TypeId) (x : Operand) : Option (COp Ref) :=
  match P.underlying s, P.underlying d with
  | some _, some (.int k) => some (.toInt k (cRef x))
  | some (.slice e), some .string => if isByteT P e then some (.toStr true (cRef x)) else none
  | some _, some .string => some (.toStr false (cRef x))
  | some .string, some (.slice e) => if isByteT P e then some (.toBytes (cRef x)) else none
  | some (.pointer t), some .unsafePointer => if (P.info? t).any (·.size ≠ 0) then some (.p2u (cRef x)) else none
  | some .unsafePointer, some (.pointer u) => match P.info? u with
    | some i => if i.size ≠ 0 then some (.u2p u i.size (cRef x)) else none
    | none => none
  | _, _ => none

def compSlice (P : Program) (t : TypeId) (x : Operand) (lo hi mx : Option Operand) : Option (COp Ref) :=
  let arr (n : Nat) (e : TypeId) : Option (COp Ref) := (P.info? e).map fun i => .sliceA n i.size (cRef x) (lo.map cRef) (hi.map cRef) (mx.map cRef)
  match P.underlying t with
  | some .string => some (.slice none (cRef x) (lo.map cRef) (hi.map cRef) (mx.map cRef))
  | some (.slice e) => (P.info? e).map fun i => .slice (some i.size) (cRef x) (lo.map cRef) (hi.map cRef) (mx.map cRef)
  | some (.array n e) => arr n e
  | some (.pointer a) => match P.underlying a with
    | some (.array n e) => arr n e
    | _ => none
  | _ => none

def fieldOf (P : Program) (t : TypeId) (f : Nat) : Option Field :=
  match P.underlying t with
  | some (.struct fs) => fs[f]?
  | _ => none

/-- an array's elements out of its cells -/
def grp (sz : Nat) (ag : Bool) (cells : List AV) (n : Nat) : List AV :=
  (List.range n).map fun k => if ag then .agg ((cells.drop (k * sz)).take sz) else cells.getD k .junk

def compAlloc (P : Program) (t : TypeId) : Option (COp Ref) :=
  match P.info? t, P.underlying t with
  | some i, some d => match i.zero with
    | none => none
    | some z => match d with
      | .array n e => match tAg P e with
        | some (ag, sz) =>
          if ag.isSome = false ∧ (sz ≠ 1 ∨ (z.cells.toList.map valAV).all isCell = false) then none else
          if n * sz = z.cells.size then some (.alloc t sz (grp sz ag.isSome (z.cells.toList.map valAV) n)) else none
        | none => none
      | _ => some (.alloc t i.size [valAV z])
  | _, _ => none

def compBuild (P : Program) (t : TypeId) (ps : Array (Nat × Operand)) : Option (COp Ref) :=
  match (P.info? t).bind (·.zero), P.underlying t with
  | some z, some (.struct fs) =>
    if fs.all (fun f => (P.info? f.type).isSome) then
      (ps.toList.mapM fun (p : Nat × Operand) => match fs[p.1]? with
        | some f => some (f.offset, P.cellsOf f.type, cRef p.2)
        | none => none).map fun l => .build (z.cells.toList.map valAV) l
    else none
  | some z, some (.array _ e) => (P.info? e).map fun i => .build (z.cells.toList.map valAV) (ps.toList.map fun p => (p.1 * i.size, i.size, cRef p.2))
  | _, _ => none

def zeroOf (P : Program) (t : TypeId) : Option AV := ((P.info? t).bind (·.zero)).map valAV

def compMkSl (P : Program) (t : TypeId) (n : Nat) (ps : Array (Nat × Operand)) : Option (COp Ref) :=
  match P.underlying t with
  | some (.slice e) => match P.info? e, zeroOf P e with
    | some i, some z => if 0 < i.size ∧ n * i.size ≤ 16777216 ∧ n ≤ 32768 then some (.mkSl e i.size z n (ps.toList.map fun p => (p.1, cRef p.2))) else none
    | _, _ => none
  | _ => none

def smallT (P : Program) (e : TypeId) : Option Nat :=
  match P.info? e with
  | some i => if i.bytes ≤ 32768 ∧ i.zero.any (fun z => z.cells.size == i.size) = true then some i.size else none
  | none => none

def compCall (P : Program) (c : Call) : Option (COp Ref) :=
  match c.callee with
  | .value f => some (.call (cRef f) (c.args.toList.map cRef))
  | .invoke .. => none
  | .builtin b =>
    match b, c.args.toList, c.argTypes.toList.map P.underlying with
    | .len, [x], [some .string] => some (.len .s (cRef x))
    | .len, [x], [some (.slice _)] => some (.len .l (cRef x))
    | .len, [x], [some (.array n _)] => some (.len (.a n) (cRef x))
    | .len, [x], [some (.pointer a)] => match P.underlying a with
      | some (.array n _) => some (.len (.a n) (cRef x))
      | _ => none
    | .cap, [x], [some (.slice _)] => some (.cap (cRef x))
    | .append, [x, y], [some (.slice e), some (.int _)] => match smallT P e, zeroOf P e with
      | some sz, some z => some (.appZ e sz z (cRef x) (cRef y))
      | _, _ => none
    | .append, [x, y], [some (.slice e), some _] => (smallT P e).map fun sz => .app e sz (cRef x) (cRef y)
    | .copy, [x, y], some (.slice e) :: _ => (P.info? e).map fun i => .copy i.size (cRef x) (cRef y)
    | .clear, [x], [some (.slice e)] => match P.info? e, zeroOf P e with
      | some i, some z => some (.clear i.size z (cRef x))
      | _, _ => none
    | .max, x :: xs, _ => some (.mnx true ((x :: xs).map cRef))
    | .min, x :: xs, _ => some (.mnx false ((x :: xs).map cRef))
    | .unsafeSliceData, [x], _ => some (.unsafeData (cRef x))
    | .unsafeString, [x, n], [some (.pointer e), some _] => (P.info? e).bind fun i => if i.size = 1 then some (.unsafeStr e (cRef x) (cRef n)) else none
    | _, _, _ => none

def compOp (P : Program) (o : Op) : Option (COp Ref) :=
  match o with
  | .move x | .assign x => some (.mv (cRef x))
  | .pick c a b => some (.pick (cRef c) (cRef a) (cRef b))
  | .alloc t => compAlloc P t
  | .box t x => (P.info? t).map fun i => .box t i.size (cRef x)
  | .build t ps => compBuild P t ps
  | .buildSlice t n ps => compMkSl P t n ps
  | .load t x => (tAg P t).map fun r => .load r.1 (cRef x)
  | .store t x v => (P.info? t).map fun i => .store i.size (cRef x) (cRef v)
  | .nilCheck x => some (.nilchk (cRef x))
  | .binOp op t x y _ => compBin P op t x y
  | .unOp op _ x => some (.un op (cRef x))
  | .convert s d x => compConv P s d x
  | .slice t x lo hi mx => compSlice P t x lo hi mx
  | .field t x f => (fieldOf P t f).bind fun f => (tAg P f.type).map fun r => .fld f.offset r.1 (cRef x)
  | .fieldAddr t x f => (fieldOf P t f).bind fun f => (tAg P f.type).bind fun r => if r.2 = 0 then none else some (.fldA f.offset r.1 (cRef x))
  | .indexAddr t x i => match P.underlying t with
    | some (.array n e) => (P.info? e).map fun j => .idxA (some n) j.size (cRef x) (cRef i)
    | some (.slice e) => (P.info? e).map fun j => .idxA none j.size (cRef x) (cRef i)
    | _ => none
  | .index t x i => match P.underlying t with
    | some (.array n e) => (tAg P e).map fun r => .idx (some n) r.2 r.1 (cRef x) (cRef i)
    | some .string => some (.idx none 1 none (cRef x) (cRef i))
    | _ => none
  | .extract x i => some (.ext (cRef x) i)
  | .call c => compCall P c
  | .makeInterface t x => match P.underlying t with
    | some (.interface _) => none
    | some _ => some (.mkIface t (cRef x))
    | none => none
  | .makeFunc (.func f) first caps => if first.size = 0 then some (.mkFn f (caps.toList.map cRef)) else none
  | .makeSlice t l c => match P.underlying t with
    | some (.slice e) => match smallT P e, zeroOf P e with
      | some sz, some z => some (.mkSlice e sz z (cRef l) (cRef c))
      | _, _ => none
    | _ => none
  | _ => none

/-! numbers, bytes -/

theorem wrapK_eq (k : IntKind) (n : Int) : wrapK k n = k.wrap n := by
  cases k <;> try rfl
  simp only [wrapK]
  split
  · rename_i h
    rw [in64_iff] at h
    simp only [IntKind.wrap, IntKind.bits, IntKind.signed]
    have e1 : (2 ^ 64 : Int) = 18446744073709551616 := by decide
    have e2 : (2 ^ (64 - 1) : Int) = 9223372036854775808 := by decide
    simp only [e1, e2, Bool.true_and, decide_eq_true_eq]
    split <;> omega
  · rfl

theorem bytesEq_eq : ∀ (a b : List UInt8), bytesEq a b = (a == b)
  | [], [] => rfl
  | [], _ :: _ => rfl
  | _ :: _, [] => rfl
  | a :: x, b :: y => by
    simp only [bytesEq, bytesEq_eq x y, List.cons_beq_cons]
    by_cases h : a = b
    · subst h; simp
    · have : ¬ a.toNat = b.toNat := fun e => h (UInt8.toNat_inj.1 e)
      simp [this, h]

theorem bytesLt_eq : ∀ (a b : List UInt8), bytesLt a b = Op.bytesLess a b
  | [], [] => rfl
  | [], _ :: _ => rfl
  | _ :: _, [] => rfl
  | a :: x, b :: y => by
    simp only [bytesLt, bytesLt_eq x y, Op.bytesLess]
    by_cases h1 : a.toNat < b.toNat
    · simp [h1, UInt8.lt_iff_toNat_lt]
    · by_cases h2 : a = b
      · subst h2; simp
      · have : ¬ a.toNat = b.toNat := fun e => h2 (UInt8.toNat_inj.1 e)
        simp [h1, this, h2, UInt8.lt_iff_toNat_lt]

theorem bytesLt_tri : ∀ (a b : List UInt8), (bytesLt a b || bytesEq a b) = !bytesLt b a
  | [], [] => rfl
  | [], _ :: _ => rfl
  | _ :: _, [] => rfl
  | a :: x, b :: y => by
    simp only [bytesLt, bytesEq]
    have ih := bytesLt_tri x y
    by_cases h1 : a.toNat < b.toNat
    · have h2 : ¬ b.toNat < a.toNat := by omega
      have h3 : ¬ b.toNat = a.toNat := by omega
      simp [h1, h2, h3]
    · by_cases h2 : a.toNat = b.toNat
      · have h3 : ¬ b.toNat < a.toNat := by omega
        simp [h2, ih]
      · have h3 : b.toNat < a.toNat := by omega
        simp [h1, h2, h3]

end Go.Ev
end

section
/- The operations that leave the heap as it is are carried out as the evaluator says. -/
namespace Go.Ev

def DoneV (P : Program) (c : Cx) (s : Sem Value) (v : AV) (H' : Heap) (clk' : Nat) : Prop :=
  ∃ val m' w', s.run P c.w = .ok val w' ∧ c.le ⟨H', m', clk', w', c.x⟩ ∧ HR P ⟨H', m', clk', w', c.x⟩ ∧ Rep P ⟨H', m', clk', w', c.x⟩ v val

theorem DoneV.done {P : Program} {c : Cx} {s : Sem Value} {v : AV} {H' : Heap} {clk' : Nat} (h : DoneV P c s v H' clk') : Done P c (do pure (.value (← s))) v H' clk' := by
  obtain ⟨val, m', w', h1, h2, h3, h4⟩ := h
  exact ⟨val, m', w', .inl (by simp [h1]), h2, h3, h4⟩

theorem DoneV.same {P : Program} {c : Cx} {s : Sem Value} {v : AV} {val : Value} (hH : HR P c) (hs : s.run P c.w = .ok val c.w) (hr : Rep P c v val) : DoneV P c s v c.H c.clk :=
  ⟨val, c.m, c.w, hs, Cx.le.refl c, hH, hr⟩

section inv
variable {P : Program} {c : Cx} {v : Value}
theorem Rep.int_inv {k : IntKind} {n : Int} (h : Rep P c (.int k n) v) : v = .int k n := by cases h; rfl
theorem Rep.bool_inv {b : Bool} (h : Rep P c (.bool b) v) : v = .bool b := by cases h; rfl
theorem Rep.str_inv {s : List UInt8} (h : Rep P c (.str s) v) : v = .string ⟨s.toArray⟩ := by cases h; rfl
theorem Rep.agg_inv {cs : List AV} (h : Rep P c (.agg cs) v) : ∃ vs : Array Value, v = .agg vs ∧ vs.size = cs.length ∧ ∀ (k : Nat) a v, cs[k]? = some a → vs[k]? = some v → Rep P c a v := by
  cases h with | agg hl h => exact ⟨_, rfl, hl, h⟩
theorem Rep.tup_inv {cs : List AV} (h : Rep P c (.tup cs) v) : ∃ vs : Array Value, v = .tuple vs ∧ vs.size = cs.length ∧ ∀ (k : Nat) a v, cs[k]? = some a → vs[k]? = some v → Rep P c a v := by
  cases h with | tup hl h => exact ⟨_, rfl, hl, h⟩
theorem Rep.msl_inv {i ep off n esz L : Nat} {cap : Option Nat} (h : Rep P c (.msl i ep off n cap) v) (hs : sig c.H i ep = some (esz, L)) :
    ∃ cap', v = .slice (some ⟨c.m i, off * esz, none⟩) n cap' ∧ n ≤ cap' ∧ (∀ x, cap = some x → cap' = x) ∧ (off + cap') * esz ≤ bsize c.w (c.m i) ∧ ep < c.clk ∧ (cap = none → L ≤ off + cap') := by
  cases h with
  | msl h hc hn hcap hL hsz => rw [hs] at h; cases h; exact ⟨_, rfl, hn, hcap, hsz, hc, hL⟩
  | mslS a l cap' h hc => rw [hs] at h; cases h
end inv

theorem asNat_run {P : Program} {c : Cx} {x : AV} {v : Value} {n : Nat} (h : asNat x = some n) (hr : Rep P c x v) (w : World) :
    ∃ k, (asIntOf v).run P w = .ok (k, (n : Int)) w := by
  unfold asNat at h
  split at h
  · rename_i k m
    split at h
    · rename_i hm
      cases h
      rw [hr.int_inv]
      exact ⟨k, by simp [asIntOf, Int.toNat_of_nonneg hm]⟩
    · cases h
  · cases h

section pure
variable {P : Program} {c : Cx} {env : Env} {a : Act} {v : AV} {H' : Heap} {clk' : Nat}

theorem op_mv (hH : HR P c) {x : AV} {val : Value} (hx : Rep P c x val) (h : evOp (.mv x) c.H c.clk = some (v, H', clk')) : DoneV P c (pure val) v H' clk' := by
  simp only [evOp, Option.some.injEq, Prod.mk.injEq] at h
  obtain ⟨rfl, rfl, rfl⟩ := h
  exact .same hH rfl hx

theorem op_pick (hH : HR P c) {x y z : AV} {vx vy vz : Value} (hx : Rep P c x vx) (hy : Rep P c y vy) (hz : Rep P c z vz)
    (h : evOp (.pick x y z) c.H c.clk = some (v, H', clk')) : DoneV P c (do pure (if ← asBool vx then vy else vz)) v H' clk' := by
  simp only [evOp] at h
  split at h
  · cases h; rw [hx.bool_inv]; exact .same hH (by simp [asBool]) hy
  · cases h; rw [hx.bool_inv]; exact .same hH (by simp [asBool]) hz
  · cases h

theorem op_load (hH : HR P c) {t : TypeId} {r : Option Nat × Nat} (ht : tAg P t = some r) {x : AV} {vx : Value} (hx : Rep P c x vx)
    (h : evOp (.load r.1 x) c.H c.clk = some (v, H', clk')) : DoneV P c (Instr.loadAt t vx) v H' clk' := by
  simp only [evOp] at h
  split at h
  · rename_i i ep k j
    split at h
    · rename_i o hg
      split at h
      · rename_i e hk
        simp only [Option.bind_eq_some_iff] at h
        obtain ⟨v', hv', h⟩ := h
        cases h
        obtain ⟨rfl, _⟩ := hx.ptr_inv (sig_of hg)
        obtain ⟨val, h1, h2⟩ := run_loadVar ht (c := c) (e := e) (b := c.m i) (o := k * o.esz) (j := j) (fun x a hx => hH.cell hg hk hx) hv'
        exact .same hH (by simp [Instr.loadAt, Instr.sureAddr, h1]) h2
      · cases h
    · cases h
  · rename_i e
    simp only [Option.bind_eq_some_iff] at h
    obtain ⟨v', hv', h⟩ := h
    cases h
    cases hx with
    | @iptr _ b off f hb hcl hf hr =>
      obtain ⟨val, h1, h2⟩ := run_loadVar ht (c := c) (e := e) (b := b) (o := off) (j := 0) (fun x a hx => ⟨_, hf x a hx, hr x a hx⟩) hv'
      exact .same hH (by simpa [Instr.loadAt, Instr.sureAddr] using h1) h2
  · cases h

theorem op_nilchk (hH : HR P c) {x : Operand} {y : AV} {vx : Value} (hx : Rep P c y vx) (ρ : Operand → Value) (hρ : ρ x = vx) {o : Oper} (ho : o.op = .nilCheck x)
    (h : evOp (.nilchk y) c.H c.clk = some (v, H', clk')) : Done P c (execOp ρ o) v H' clk' := by
  simp only [evOp] at h
  split at h <;> first | (cases h; refine .pure hH ?_ hx; simp only [execOp, ho, hρ]; cases hx <;> rfl) | cases h

theorem op_un (hH : HR P c) {op : UnOp} {x : AV} {vx : Value} (hx : Rep P c x vx) (h : evOp (.un op x) c.H c.clk = some (v, H', clk')) : DoneV P c (Op.unary op vx) v H' clk' := by
  simp only [evOp, Option.bind_eq_some_iff] at h
  obtain ⟨r, hr, h⟩ := h
  cases h
  unfold un at hr
  split at hr
  · cases hr; rw [hx.int_inv]; exact .same hH (by simp only [Op.unary, Op.intArith, Sem.run_pure, wrapK_eq]) (.int _ _)
  · cases hr; rw [hx.int_inv]; exact .same hH (by simp only [Op.unary, Op.intBits, Sem.run_pure, wrapK_eq]) (.int _ _)
  · cases hr; rw [hx.bool_inv]; exact .same hH rfl (.bool _)
  · cases hr

theorem op_toInt (hH : HR P c) {s d : TypeId} {k : IntKind} {sd : TypeDesc} (hs : P.underlying s = some sd) (hd : P.underlying d = some (.int k)) {x : AV} {vx : Value} (hx : Rep P c x vx)
    (h : evOp (.toInt k x) c.H c.clk = some (v, H', clk')) : DoneV P c (convert s d vx) v H' clk' := by
  simp only [evOp] at h
  split at h
  · cases h; rw [hx.int_inv]
    exact .same hH (by simp only [convert, Sem.run_bind, run_underlying hs, run_underlying hd, Result.andThen_ok, Conv.intToInt, Sem.run_pure, wrapK_eq]) (.int _ _)
  · cases h

theorem op_ext (hH : HR P c) {i : Nat} {x : AV} {vx : Value} (hx : Rep P c x vx) (h : evOp (.ext x i) c.H c.clk = some (v, H', clk')) : DoneV P c (Instr.extract vx i) v H' clk' := by
  simp only [evOp] at h
  split at h
  · rename_i vs
    split at h
    · rename_i y hy
      cases h
      obtain ⟨vs', rfl, hl, hr⟩ := hx.tup_inv
      have hlt : i < vs'.size := by rw [hl]; exact (List.getElem?_eq_some_iff.1 hy).1
      exact .same hH (by simp [Instr.extract, hlt]) (hr i _ _ hy (Array.getElem?_eq_getElem hlt))
    · cases h
  · cases h

/-- a part of an aggregate -/
theorem run_part {t : TypeId} {r : Option Nat × Nat} (ht : tAg P t = some r) {cs : List AV} {vs : Array Value} (hl : vs.size = cs.length)
    (hr : ∀ (k : Nat) a v, cs[k]? = some a → vs[k]? = some v → Rep P c a v) {off : Nat} {v : AV} (h : getCells (.agg cs) off r.1 = some v) :
    ∃ val, (∀ w, (part t vs off).run P w = .ok val w) ∧ Rep P c v val := by
  cases hr1 : r.1 with
  | none =>
    rw [hr1] at h
    simp only [getCells] at h
    have hlt : off < vs.size := by rw [hl]; exact (List.getElem?_eq_some_iff.1 h).1
    refine ⟨vs[off], fun w => ?_, hr off _ _ h (Array.getElem?_eq_getElem hlt)⟩
    have := (tAg_run ht w).1
    rw [hr1] at this
    simp [part, this, hlt]
  | some n =>
    rw [hr1] at h
    obtain ⟨xs, he, rfl, hle⟩ := getCells_some h
    cases he
    refine ⟨.agg (vs.extract off (off + n)), fun w => ?_, ?_⟩
    · obtain ⟨h1, h2, h3⟩ := tAg_run ht w
      rw [hr1] at h1
      have := h3 n hr1
      subst this
      simp [part, h1, h2]
    · refine .agg (by simp; omega) fun k a v hk hv => ?_
      simp only [List.getElem?_take, List.getElem?_drop] at hk
      split at hk
      · rename_i hlt
        simp only [Array.getElem?_extract] at hv
        split at hv
        · exact hr _ _ _ hk hv
        · cases hv
      · cases hk

theorem op_fld (hH : HR P c) {t : TypeId} {i : Nat} {f : Field} {r : Option Nat × Nat} (hf : fieldOf P t i = some f) (ht : tAg P f.type = some r) {x : AV} {vx : Value} (hx : Rep P c x vx)
    (h : evOp (.fld f.offset r.1 x) c.H c.clk = some (v, H', clk')) : DoneV P c (Instr.field t vx i) v H' clk' := by
  simp only [evOp, Option.bind_eq_some_iff] at h
  obtain ⟨y, hy, h⟩ := h
  split at h
  · rename_i cs
    cases h
    obtain ⟨vs, rfl, hl, hr⟩ := hx.agg_inv
    obtain ⟨val, h1, h2⟩ := run_part ht hl hr hy
    unfold fieldOf at hf
    split at hf
    · rename_i fs hd
      exact .same hH (by simp [Instr.field, run_underlying hd, hf, asAgg, h1]) h2
    · cases hf
  · cases h

theorem op_fldA (hH : HR P c) {t : TypeId} {i : Nat} {f : Field} {r : Option Nat × Nat} (hf : fieldOf P t i = some f) (ht : tAg P f.type = some r) (hz : r.2 ≠ 0) {x : AV} {vx : Value} (hx : Rep P c x vx)
    (h : evOp (.fldA f.offset r.1 x) c.H c.clk = some (v, H', clk')) : DoneV P c (Instr.fieldAt t vx i) v H' clk' := by
  unfold fieldOf at hf
  split at hf
  · rename_i fs hd
    have hrun : ∀ b o, (Instr.fieldAt t (.pointer (some ⟨b, o, none⟩)) i).run P c.w = .ok (.pointer (some ⟨b, o + f.offset, none⟩)) c.w := by
      intro b o
      have h2 := (tAg_run ht c.w).2.1
      simp [Instr.fieldAt, run_underlying hd, hf, Instr.sureAddr, fieldPlace, h2, hz, add_none]
    simp only [evOp] at h
    split at h
    · rename_i o ep k j
      split at h
      · rename_i rr hg
        cases h
        obtain ⟨rfl, hlt⟩ := hx.ptr_inv (sig_of hg)
        refine .same hH (hrun _ _) ?_
        rw [Nat.add_assoc]
        exact .ptr (sig_of hg) hlt
      · cases h
    · rename_i e
      split at h
      · rename_i cs
        simp only [Option.bind_eq_some_iff] at h
        obtain ⟨y, hy, h⟩ := h
        split at h
        case isFalse => cases h
        rename_i hcell
        cases h
        cases hx with
        | @iptr _ b off g hb hcl hfc hr =>
          refine .same hH (hrun _ _) ?_
          have hclc : closedL cs = true := hcl
          have hmem : ∀ a ∈ cs, closed a = true := by
            clear hy hfc hr hcl
            induction cs with
            | nil => simp
            | cons x xs ih =>
              simp only [closedL, Bool.and_eq_true] at hclc
              intro a ha
              rcases List.mem_cons.1 ha with rfl | ha
              · exact hclc.1
              · exact ih hclc.2 a ha
          have hlist : ∀ l : List AV, (∀ a ∈ l, closed a = true) → closedL l = true := by
            intro l
            induction l with
            | nil => intro _; rfl
            | cons x xs ih => intro h; simp only [closedL, Bool.and_eq_true]; exact ⟨h x (by simp), ih fun a ha => h a (by simp [ha])⟩
          cases hr1 : r.1 with
          | none =>
            rw [hr1] at hy
            simp only [getCells] at hy
            rw [hr1] at hcell
            have hcy : isCell y = true := by simpa using hcell
            have hflat : ∀ (z : Nat) a, (flat y)[z]? = some a → cs[f.offset + z]? = some a := by
              intro z a ha
              cases y with
              | agg ys => cases hcy
              | _ => (cases z with
                | zero => simp [flat] at ha; subst ha; simpa using hy
                | succ z => simp [flat] at ha)
            refine .iptr (fun z => g (f.offset + z)) hb (hmem _ (List.mem_of_getElem? hy)) (fun z a ha => ?_) (fun z a ha => ?_)
            · rw [Nat.add_assoc]; exact hfc _ a (by simpa [flat] using hflat z a ha)
            · exact hr _ a (by simpa [flat] using hflat z a ha)
          | some n =>
            rw [hr1] at hy
            obtain ⟨xs, he, rfl, hle⟩ := getCells_some hy
            cases he
            refine .iptr (fun z => g (f.offset + z)) hb (hlist _ fun a ha => hmem a (List.mem_of_mem_drop (List.mem_of_mem_take ha))) (fun z a ha => ?_) (fun z a ha => ?_)
            · have : cs[f.offset + z]? = some a := by
                simp only [flat, List.getElem?_take, List.getElem?_drop] at ha
                split at ha
                · exact ha
                · cases ha
              rw [Nat.add_assoc]; exact hfc _ a (by simpa [flat] using this)
            · have : cs[f.offset + z]? = some a := by
                simp only [flat, List.getElem?_take, List.getElem?_drop] at ha
                split at ha
                · exact ha
                · cases ha
              exact hr _ a (by simpa [flat] using this)
      · cases h
    · cases h
  · cases hf

theorem op_idxA (hH : HR P c) {t : TypeId} {arr : Option Nat} {e : TypeId} {ti : TypeInfo} (hi : P.info? e = some ti)
    (ht : P.underlying t = some (match arr with | some n => .array n e | none => .slice e)) {x y : AV} {vx vy : Value} (hx : Rep P c x vx) (hy : Rep P c y vy)
    (h : evOp (.idxA arr ti.size x y) c.H c.clk = some (v, H', clk')) : DoneV P c (Instr.indexAt t vx vy) v H' clk' := by
  have hsz : ∀ w, (sizeOf e).run P w = .ok ti.size w := fun w => by simp [sizeOf, typeInfo, hi]
  simp only [evOp] at h
  split at h
  · cases h
  · rename_i i hn
    obtain ⟨k, hk⟩ := asNat_run hn hy c.w
    split at h
    · rename_i n o ep kk j
      split at h
      · rename_i hlt
        split at h
        · rename_i r hg
          obtain ⟨rfl, hep⟩ := hx.ptr_inv (sig_of hg)
          have hrun : (Instr.indexAt t (.pointer (some ⟨c.m o, kk * r.esz + j, none⟩)) vy).run P c.w = .ok (.pointer (some ⟨c.m o, kk * r.esz + j + i * ti.size, none⟩)) c.w := by
            simp [Instr.indexAt, hk, run_underlying ht, Instr.sureAddr, hlt, hsz, add_none]
          split at h
          · rename_i hz
            cases h
            refine .same hH hrun ?_
            obtain ⟨hz1, rfl⟩ := hz
            rw [← hz1, Nat.add_zero, ← Nat.add_mul]
            exact .ptr (j := 0) (sig_of hg) hep
          · cases h
            refine .same hH hrun ?_
            rw [Nat.add_assoc]
            exact .ptr (sig_of hg) hep
        · cases h
      · cases h
    · rename_i es cap
      split at h
      · rename_i el he
        split at h
        · rename_i hz
          cases h
          have hlt : i < es.length := (List.getElem?_eq_some_iff.1 he).1
          cases hx with
          | slE hh => simp at he
          | @sl _ _ b off n esz f hne hnn hcap hb hcl hsz' hf hr =>
            have hesz : esz = ti.size := by rw [← hsz' el (List.mem_of_getElem? he), hz]
            subst hesz
            refine .same hH (val := .pointer (some ⟨b, off + i * ti.size, none⟩)) (by simp [Instr.indexAt, hk, run_underlying ht, hlt, hsz, add_none]) ?_
            refine .iptr (fun z => f i z) hb ?_ (fun z a ha => ?_) (fun z a ha => hr i el z a he ha)
            · clear hf hr
              have : ∀ (l : List AV) (i : Nat), closedL l = true → l[i]? = some el → closed el = true := by
                intro l
                induction l with
                | nil => intro i _ h; simp at h
                | cons q qs ih =>
                  intro i h h2
                  simp only [closedL, Bool.and_eq_true] at h
                  cases i with
                  | zero => simp at h2; subst h2; exact h.1
                  | succ i => exact ih i h.2 (by simpa using h2)
              exact this es i hcl he
            · rw [Nat.add_assoc]; exact hf i el z a he ha
        · cases h
      · cases h
    · rename_i o ep off n cap
      split at h
      · rename_i hlt
        split at h
        · rename_i r hg
          split at h
          · rename_i hz
            cases h
            obtain ⟨cap', rfl, hn, _, _, hep, _⟩ := hx.msl_inv (sig_of hg)
            refine .same hH (val := .pointer (some ⟨c.m o, off * r.esz + i * ti.size, none⟩)) (by simp [Instr.indexAt, hk, run_underlying ht, hlt, hsz, add_none]) ?_
            rw [← hz, ← Nat.add_mul]
            exact .ptr (j := 0) (sig_of hg) hep
          · cases h
        · cases h
      · cases h
    · cases h

theorem op_idx_arr (hH : HR P c) {t e : TypeId} {n : Nat} {r : Option Nat × Nat} (hi : tAg P e = some r) (ht : P.underlying t = some (.array n e))
    {x y : AV} {vx vy : Value} (hx : Rep P c x vx) (hy : Rep P c y vy) (h : evOp (.idx (some n) r.2 r.1 x y) c.H c.clk = some (v, H', clk')) : DoneV P c (Instr.index t vx vy) v H' clk' := by
  simp only [evOp] at h
  split at h
  · cases h
  · rename_i i hn
    obtain ⟨k, hk⟩ := asNat_run hn hy c.w
    split at h
    · rename_i n' cs hn'
      cases hn'
      split at h
      · rename_i hlt
        simp only [Option.bind_eq_some_iff] at h
        obtain ⟨z, hz, h⟩ := h
        cases h
        obtain ⟨vs, rfl, hl, hr⟩ := hx.agg_inv
        obtain ⟨val, h1, h2⟩ := run_part hi hl hr hz
        exact .same hH (by simp [Instr.index, hk, run_underlying ht, hlt, (tAg_run hi c.w).2.1, h1]) h2
      · cases h
    · rename_i hh; cases hh
    · cases h

theorem op_idx_str (hH : HR P c) {t : TypeId} (ht : P.underlying t = some .string)
    {x y : AV} {vx vy : Value} (hx : Rep P c x vx) (hy : Rep P c y vy) (h : evOp (.idx none 1 none x y) c.H c.clk = some (v, H', clk')) : DoneV P c (Instr.index t vx vy) v H' clk' := by
  simp only [evOp] at h
  split at h
  · cases h
  · rename_i i hn
    obtain ⟨k, hk⟩ := asNat_run hn hy c.w
    split at h
    · rename_i hh; cases hh
    · rename_i b _
      split at h
      · rename_i ch hch
        cases h
        rw [hx.str_inv]
        have hlt : i < b.length := (List.getElem?_eq_some_iff.1 hch).1
        have he : (⟨b.toArray⟩ : ByteArray)[i]? = some ch := by
          have h1 : i < (⟨b.toArray⟩ : ByteArray).size := by simpa [ByteArray.size] using hlt
          rw [getElem?_pos (⟨b.toArray⟩ : ByteArray) i h1]
          have := (List.getElem?_eq_some_iff.1 hch).2
          rw [← this]; rfl
        exact .same hH (by simp [Instr.index, hk, run_underlying ht, he]) (.int _ _)
      · cases h
    · cases h

end pure
end Go.Ev
end

section
/- More operations that leave the heap as it is. -/
namespace Go.Ev

section
variable {P : Program} {c : Cx} {v : AV} {H' : Heap} {clk' : Nat}

theorem op_len_s (hH : HR P c) {t ty : TypeId} (ht : P.underlying t = some .string) {x : AV} {vx : Value} (hx : Rep P c x vx)
    (h : evOp (.len .s x) c.H c.clk = some (v, H', clk')) : DoneV P c (Builtin.len_ #[t] ty #[vx]) v H' clk' := by
  simp only [evOp] at h
  split at h <;> first | (rename_i hk; cases hk; done) | cases h
  rename_i b _
  rw [hx.str_inv]
  exact .same hH (val := goInt b.length) (by simp [Builtin.len_, run_underlying ht]; rfl) (.int _ _)

theorem op_len_l (hH : HR P c) {t ty e : TypeId} (ht : P.underlying t = some (.slice e)) {x : AV} {vx : Value} (hx : Rep P c x vx)
    (h : evOp (.len .l x) c.H c.clk = some (v, H', clk')) : DoneV P c (Builtin.len_ #[t] ty #[vx]) v H' clk' := by
  simp only [evOp] at h
  split at h <;> try (first | (rename_i hk; cases hk; done) | (cases h; done))
  · rename_i es cap _
    cases h
    cases hx with
    | slE _ => exact .same hH (val := goInt 0) (by simp [Builtin.len_, run_underlying ht]) (.int _ _)
    | sl => exact .same hH (val := goInt es.length) (by simp [Builtin.len_, run_underlying ht]) (.int _ _)
  · rename_i i ep off n cap _
    split at h
    · rename_i r hg
      cases h
      obtain ⟨cap', rfl, _⟩ := hx.msl_inv (sig_of hg)
      exact .same hH (val := goInt n) (by simp [Builtin.len_, run_underlying ht]) (.int _ _)
    · cases h

theorem op_len_a (hH : HR P c) {t ty : TypeId} {n : Nat} {d : TypeDesc} (ht : P.underlying t = some d) (hd : (∃ e, d = .array n e) ∨ ∃ p e, d = .pointer p ∧ P.underlying p = some (.array n e)) {x : AV} {vx : Value}
    (h : evOp (.len (.a n) x) c.H c.clk = some (v, H', clk')) : DoneV P c (Builtin.len_ #[t] ty #[vx]) v H' clk' := by
  simp only [evOp] at h
  cases h
  refine .same hH (val := goInt n) ?_ (.int _ _)
  rcases hd with ⟨e, rfl⟩ | ⟨p, e, rfl, hp⟩
  · cases vx <;> simp [Builtin.len_, run_underlying ht]
  · cases vx <;> simp [Builtin.len_, run_underlying ht, run_underlying hp]

theorem op_cap (hH : HR P c) {t ty e : TypeId} (ht : P.underlying t = some (.slice e)) {x : AV} {vx : Value} (hx : Rep P c x vx)
    (h : evOp (.cap x) c.H c.clk = some (v, H', clk')) : DoneV P c (Builtin.cap_ #[t] ty #[vx]) v H' clk' := by
  simp only [evOp] at h
  split at h
  · rename_i es n
    cases h
    cases hx with
    | slE hc => obtain rfl := hc; exact .same hH (val := goInt _) (by simp [Builtin.cap_, run_underlying ht]) (.int _ _)
    | sl _ _ _ _ hc => obtain rfl := hc; exact .same hH (val := goInt _) (by simp [Builtin.cap_, run_underlying ht]) (.int _ _)
  · cases h
    cases hx with
    | slE hc => obtain ⟨rfl, rfl⟩ := hc; exact .same hH (val := goInt 0) (by simp [Builtin.cap_, run_underlying ht]) (.int _ _)
    | sl _ _ _ _ hc => cases hc.1
  · rename_i i ep off n cc
    split at h
    · rename_i r hg
      cases h
      obtain ⟨cap', rfl, _, hcap, _⟩ := hx.msl_inv (sig_of hg)
      obtain rfl := hcap _ rfl
      exact .same hH (val := goInt _) (by simp [Builtin.cap_, run_underlying ht]) (.int _ _)
    · cases h
  · cases h

theorem op_mkIface (hH : HR P c) {t : TypeId} {d : TypeDesc} (ht : P.underlying t = some d) (hd : ∀ ms, d ≠ .interface ms) {x : AV} {vx : Value} (hx : Rep P c x vx)
    (h : evOp (.mkIface t x) c.H c.clk = some (v, H', clk')) : DoneV P c (Instr.makeInterface t vx) v H' clk' := by
  simp only [evOp, Option.some.injEq, Prod.mk.injEq] at h
  obtain ⟨rfl, rfl, rfl⟩ := h
  refine .same hH ?_ (.ifc hx)
  unfold Instr.makeInterface
  simp only [Sem.run_bind, run_underlying ht, Result.andThen_ok]
  rfl

theorem op_mkFn (hH : HR P c) {f : Nat} {xs : List AV} {vs : Array Value} (hl : vs.size = xs.length) (hr : ∀ (k : Nat) a v, xs[k]? = some a → vs[k]? = some v → Rep P c a v)
    (h : evOp (.mkFn f xs) c.H c.clk = some (v, H', clk')) : DoneV P c (Instr.makeFunc (.func f) #[] vs) v H' clk' := by
  simp only [evOp, Option.some.injEq, Prod.mk.injEq] at h
  obtain ⟨rfl, rfl, rfl⟩ := h
  exact .same hH rfl (.fn hl hr)

theorem run_minmax (isMax : Bool) (k : IntKind) : ∀ (xs : List AV) (vs : List Value) (n : Int) (v : AV), vs.length = xs.length → (∀ (i : Nat) a w, xs[i]? = some a → vs[i]? = some w → Rep P c a w) →
    mnxGo isMax k n xs = some v → ∃ m, v = .int k m ∧ (vs.foldlM (if isMax then Builtin.max2 else Builtin.min2) (.int k n)).run P c.w = .ok (.int k m) c.w := by
  intro xs
  induction xs with
  | nil =>
    intro vs n v hl _ h
    have : vs = [] := List.eq_nil_of_length_eq_zero hl
    subst this
    simp only [mnxGo] at h
    cases h
    exact ⟨n, rfl, rfl⟩
  | cons x xs ih =>
    intro vs n v hl hr h
    cases vs with
    | nil => simp at hl
    | cons w ws =>
      have hx := hr 0 x w rfl rfl
      cases x <;> simp only [mnxGo] at h <;> try (cases h; done)
      rename_i k' b
      split at h
      · rename_i hk
        subst hk
        have e := hx.int_inv
        subst e
        obtain ⟨m, h1, h2⟩ := ih ws _ v (by simpa using hl) (fun i a w h3 h4 => hr (i + 1) a w (by simpa using h3) (by simpa using h4)) h
        refine ⟨m, h1, ?_⟩
        cases isMax <;> simpa [List.foldlM_cons, Builtin.max2, Builtin.min2] using h2
      · cases h

theorem op_mnx (hH : HR P c) {isMax : Bool} {ts : Array TypeId} {ty : TypeId} {xs : List AV} {vs : Array Value} (hl : vs.size = xs.length)
    (hr : ∀ (k : Nat) a v, xs[k]? = some a → vs[k]? = some v → Rep P c a v) (h : evOp (.mnx isMax xs) c.H c.clk = some (v, H', clk')) :
    DoneV P c (if isMax then Builtin.max_ ts ty vs else Builtin.min_ ts ty vs) v H' clk' := by
  simp only [evOp, Option.bind_eq_some_iff] at h
  obtain ⟨r, hm, h⟩ := h
  cases h
  cases xs with
  | nil => simp [mnx] at hm
  | cons x xs =>
    cases x <;> simp only [mnx] at hm <;> try (cases hm; done)
    rename_i k n
    obtain ⟨l⟩ := vs
    cases l with
    | nil => simp at hl
    | cons w ws =>
      have e := (hr 0 _ w rfl rfl).int_inv
      subst e
      obtain ⟨m, h1, h2⟩ := run_minmax isMax k xs ws n _ (by simpa using hl) (fun i a w h3 h4 => hr (i + 1) a w (by simpa using h3) (by simpa using h4)) hm
      subst h1
      refine .same hH ?_ (.int _ _)
      cases isMax <;> simpa [Builtin.max_, Builtin.min_] using h2

theorem op_p2u (hH : HR P c) {s d t : TypeId} {ti : TypeInfo} (hs : P.underlying s = some (.pointer t)) (hd : P.underlying d = some .unsafePointer) (hi : P.info? t = some ti) (hz : ti.size ≠ 0) {x : AV} {vx : Value} (hx : Rep P c x vx)
    (h : evOp (.p2u x) c.H c.clk = some (v, H', clk')) : DoneV P c (convert s d vx) v H' clk' := by
  simp only [evOp] at h
  split at h
  · cases h
    cases hx
    exact .same hH (by simp [convert, run_underlying hs, run_underlying hd, Conv.unsafePointer]) .nilp
  · rename_i i ep k j
    split at h
    · rename_i r hg
      split at h
      · rename_i e hk
        split at h
        · rename_i hj
          cases h
          have hx' := hx
          obtain ⟨rfl, hep⟩ := hx.ptr_inv (sig_of hg)
          refine .same hH ?_ hx'
          obtain ⟨val, hv, _⟩ := hH.cell hg hk (List.getElem?_eq_getElem hj)
          have hsh : ∃ e n, c.w.shape? (c.m i) = some (e, n) ∧ k * r.esz + j < n := by
            obtain ⟨arr, fz, hb, _⟩ := (hH.var i r (getO_some hg).1).cells
            refine ⟨r.ty, arr.size, by simp [World.shape?, hb], ?_⟩
            simp [World.cell?, hb] at hv
            exact (Array.getElem?_eq_some_iff.1 hv).1
          obtain ⟨e', n', hsh, hlt⟩ := hsh
          have hsize : (sizeOf t).run P c.w = .ok ti.size c.w := by simp [sizeOf, typeInfo, hi]
          simp [convert, run_underlying hs, run_underlying hd, Conv.unsafePointer, Conv.seenAt, viewAt, hsh, cellsIn, hsize, hz, Nat.not_le.2 hlt]
        · cases h
      · cases h
    · cases h
  · cases h

theorem liesAt_self {t : TypeId} (hc : P.cellsOf t ≠ 0) (n : Nat) (hn : 0 < n) : liesAt P P.depth t n 0 t 1 = true := by
  obtain ⟨d, hd⟩ : ∃ d, P.depth = d + 1 := ⟨2 * (P.types.size + Made.depth) + 1, rfl⟩
  rw [hd]
  unfold liesAt
  have : rowAt P (fun x => sameLayout P P.depth x t) P.depth t n 0 1 = true := by
    rw [hd]
    unfold rowAt
    simp only [hc, if_false, Nat.zero_mod, Nat.zero_div, beq_self_eq_true, Bool.true_and, Nat.zero_add]
    have h1 : sameLayout P (d + 1) t t = true := by unfold sameLayout; simp
    rw [hd] at *
    simp [h1]
    omega
  rw [this]; rfl

theorem op_u2p (hH : HR P c) {s d t : TypeId} {ti : TypeInfo} (hs : P.underlying s = some .unsafePointer) (hd : P.underlying d = some (.pointer t)) (hi : P.info? t = some ti) (hz : ti.size ≠ 0)
    {x : AV} {vx : Value} (hx : Rep P c x vx)
    (h : evOp (.u2p t ti.size x) c.H c.clk = some (v, H', clk')) : DoneV P c (convert s d vx) v H' clk' := by
  simp only [evOp] at h
  split at h
  · cases h
    cases hx
    exact .same hH (by simp [convert, run_underlying hs, run_underlying hd, Conv.unsafePointer]) .nilp
  · rename_i i ep
    split at h
    · rename_i r hg
      split at h
      · rename_i hr
        cases h
        have hx' := hx
        obtain ⟨rfl, hep⟩ := hx.ptr_inv (sig_of hg)
        refine .same hH ?_ hx'
        obtain ⟨hty, hesz, hlen⟩ := hr
        obtain ⟨arr, fz, hb, _, hle, _⟩ := (hH.var i r (getO_some hg).1).cells
        rw [hty] at hb
        rw [hesz] at hle
        have hcells : P.cellsOf t = ti.size := by simp [Program.cellsOf, hi]
        have hn : 0 < arr.size / P.cellsOf t := by
          rw [hcells]
          refine Nat.div_pos ?_ (by omega)
          refine Nat.le_trans ?_ hle
          exact Nat.le_mul_of_pos_left _ hlen
        have hlies := liesAt_self (P := P) (t := t) (by rw [hcells]; exact hz) _ hn
        have hsh : c.w.shape? (c.m i) = some (t, arr.size) := by simp [World.shape?, hb]
        have hsize : (sizeOf t).run P c.w = .ok ti.size c.w := by simp [sizeOf, typeInfo, hi]
        simp [convert, run_underlying hs, run_underlying hd, Conv.unsafePointer, Conv.seenAt, viewAt, hsh, hsize, hz, variablesAt, hlies]
      · cases h
    · cases h
  · cases h

/-- the bytes of elements -/
theorem bytes_of : ∀ (es : List AV) (bs : List UInt8), es.mapM byteOf = some bs → ∀ (vs : List Value), vs.length = es.length → (∀ (k : Nat) e w, es[k]? = some e → vs[k]? = some w → Rep P c e w) →
    bs.length = es.length ∧ ∀ acc : ByteArray, ((vs.foldlM (init := acc) fun (s : ByteArray) (x : Value) => (match x with | .int .u8 n => pure (s.push (UInt8.ofNat n.toNat)) | _ => stuck "bytesToString: byte expected" : Sem ByteArray))).run P c.w = .ok ⟨acc.data ++ bs.toArray⟩ c.w := by
  intro es
  induction es with
  | nil =>
    intro bs h vs hl _
    have : vs = [] := List.eq_nil_of_length_eq_zero hl
    subst this
    simp at h
    subst h
    exact ⟨rfl, fun acc => by simp⟩
  | cons e es ih =>
    intro bs h vs hl hr
    simp only [List.mapM_cons, Option.bind_eq_bind, Option.bind_eq_some_iff, Option.pure_def, Option.some.injEq] at h
    obtain ⟨b, hb, bs', hbs, rfl⟩ := h
    cases vs with
    | nil => simp at hl
    | cons w ws =>
      have hx := hr 0 e w rfl rfl
      obtain ⟨h1, h2⟩ := ih bs' hbs ws (by simpa using hl) (fun k e w h3 h4 => hr (k + 1) e w (by simpa using h3) (by simpa using h4))
      refine ⟨by simp [h1], fun acc => ?_⟩
      unfold byteOf at hb
      split at hb
      · rename_i n
        cases hb
        have e := hx.int_inv
        subst e
        simp only [List.foldlM_cons, Sem.run_bind, Sem.run_pure, Result.andThen_ok]
        rw [h2]
        congr 1
        simp [ByteArray.push]
      · cases hb

end
end Go.Ev
end

section
/- Numbers, strings, equality, slices. -/
namespace Go.Ev

section
variable {P : Program} {c : Cx} {v : AV} {H' : Heap} {clk' : Nat}

theorem str_add (a b : List UInt8) : (⟨a.toArray⟩ ++ ⟨b.toArray⟩ : ByteArray) = ⟨(a ++ b).toArray⟩ := by
  apply ByteArray.ext
  simp

theorem op_bin (hH : HR P c) {op : BinOp} {t : TypeId} {x y : AV} {vx vy : Value} (hx : Rep P c x vx) (hy : Rep P c y vy)
    (h : evOp (.bin op x y) c.H c.clk = some (v, H', clk')) : DoneV P c (binOp op t vx vy) v H' clk' := by
  simp only [evOp, Option.bind_eq_some_iff] at h
  obtain ⟨r, hr, h⟩ := h
  cases h
  unfold bin at hr
  split at hr
  · rename_i k a k' b
    rw [hx.int_inv, hy.int_inv]
    split at hr
    · cases hr
    · rename_i hb
      cases hr
      exact .same hH (by simp [binOp, Op.shift, hb, wrapK_eq]) (.int _ _)
  · rename_i k a k' b
    rw [hx.int_inv, hy.int_inv]
    split at hr
    · cases hr
    · rename_i hb
      cases hr
      exact .same hH (by simp [binOp, Op.shift, hb]) (.int _ _)
  · rename_i op' k a k' b hn1 hn2
    rw [hx.int_inv, hy.int_inv]
    split at hr
    · rename_i hk
      subst hk
      cases op <;> simp only at hr <;> first
        | (exact absurd rfl (hn1))
        | (exact absurd rfl (hn2))
        | (split at hr; · cases hr
           rename_i hb; cases hr
           exact .same hH (by simp [binOp, Op.intDiv, hb, wrapK_eq]) (.int _ _))
        | (cases hr; exact .same hH (by simp [binOp, Op.intArith, Op.intBits, wrapK_eq]) (.int _ _))
        | (cases hr; exact .same hH (by simp only [binOp, ne_eq, not_true_eq_false, if_false]; rfl) (.bool _))
        | cases hr
    · cases hr
  · rename_i op' a b
    rw [hx.str_inv, hy.str_inv]
    have e1 : ((⟨a.toArray⟩ : ByteArray).toList == (⟨b.toArray⟩ : ByteArray).toList) = bytesEq a b := by
      rw [ByteArray.toList_eq, ByteArray.toList_eq, bytesEq_eq]
    have e2 : ∀ p q : List UInt8, Op.bytesLess (⟨p.toArray⟩ : ByteArray).toList (⟨q.toArray⟩ : ByteArray).toList = bytesLt p q := by
      intro p q; rw [ByteArray.toList_eq, ByteArray.toList_eq, bytesLt_eq]
    cases op <;> simp only at hr <;> first
      | (split at hr
         · rename_i hb
           cases hr
           refine .same hH (val := .string ⟨(a ++ b).toArray⟩) ?_ (.str _)
           have : ¬ (((⟨a.toArray⟩ : ByteArray).size + (⟨b.toArray⟩ : ByteArray).size : Nat) : Int) > IntKind.i64.max := by
             have h1 : (⟨a.toArray⟩ : ByteArray).size = a.length := rfl
             have h2 : (⟨b.toArray⟩ : ByteArray).size = b.length := rfl
             rw [h1, h2]
             have : IntKind.i64.max = 9223372036854775807 := by decide
             omega
           simp only [binOp, Op.stringOp, this, if_false, Sem.run_pure, str_add]
         · cases hr)
      | (cases hr; refine .same hH ?_ (.bool _); simp only [binOp, Op.stringOp, e1, e2, Sem.run_pure, bytesLt_tri, Bool.not_not]; done)
      | cases hr
  · cases hr

theorem eqCells_cons {k : CK} {ks : List CK} {x y : AV} {xs ys : List AV} {r : Bool} (h : eqCells (k :: ks) (x :: xs) (y :: ys) = some r) :
    (eqCell k x y = some false ∧ r = false) ∨ (eqCell k x y = some true ∧ eqCells ks xs ys = some r) := by
  simp only [eqCells] at h
  split at h
  · exact .inr ⟨‹_›, h⟩
  · cases h; exact .inl ⟨‹_›, rfl⟩
  · cases h

/-- equality of the first cells, then of the others -/
theorem eqCells_append : ∀ (ks ks' : List CK) (xs ys : List AV) (r : Bool), eqCells (ks ++ ks') xs ys = some r →
    (eqCells ks (xs.take ks.length) (ys.take ks.length) = some false ∧ r = false) ∨
    (eqCells ks (xs.take ks.length) (ys.take ks.length) = some true ∧ eqCells ks' (xs.drop ks.length) (ys.drop ks.length) = some r)
  | [], ks', xs, ys, r, h => .inr ⟨rfl, by simpa using h⟩
  | k :: ks, ks', [], ys, r, h => by simp [eqCells] at h
  | k :: ks, ks', x :: xs, [], r, h => by simp [eqCells] at h
  | k :: ks, ks', x :: xs, y :: ys, r, h => by
    rcases eqCells_cons h with ⟨h1, rfl⟩ | ⟨h1, h2⟩
    · left; simp [eqCells, h1]
    · rcases eqCells_append ks ks' xs ys r h2 with ⟨h3, rfl⟩ | ⟨h3, h4⟩
      · left; simp [eqCells, h1, h3]
      · right; simp [eqCells, h1, h3, h4]

theorem eqCells_len : ∀ (ks : List CK) (xs ys : List AV), eqCells ks xs ys = some true → xs.length = ks.length ∧ ys.length = ks.length
  | [], [], [], _ => ⟨rfl, rfl⟩
  | [], [], _ :: _, h => by simp [eqCells] at h
  | [], _ :: _, _, h => by simp [eqCells] at h
  | k :: ks, [], _, h => by simp [eqCells] at h
  | k :: ks, _ :: _, [], h => by simp [eqCells] at h
  | k :: ks, x :: xs, y :: ys, h => by
    rcases eqCells_cons h with ⟨_, h2⟩ | ⟨_, h2⟩
    · cases h2
    · have := eqCells_len ks xs ys h2; simp [this]

end
end Go.Ev
end

section
/- Equality. -/
namespace Go.Ev

section
variable {P : Program} {c : Cx} {v : AV} {H' : Heap} {clk' : Nat}

/-- a value of a type, and the flat abstract cells that it stands for -/
def TVal (P : Program) (c : Cx) (t : TypeId) (xs : List AV) (vx : Value) : Prop :=
  match P.underlying t with
  | some (.struct _) => ∃ ax : Array Value, vx = .agg ax ∧ ax.size = xs.length ∧ ∀ (k : Nat) a v, xs[k]? = some a → ax[k]? = some v → Rep P c a v
  | _ => ∃ x, xs = [x] ∧ Rep P c x vx

def CKT (P : Program) (t : TypeId) : CK → Prop
  | .i => ∃ q, P.underlying t = some (.int q)
  | .b => P.underlying t = some .bool
  | .s => P.underlying t = some .string

theorem eqCell_run (D : Nat) {t : TypeId} {k : CK} {x y : AV} {vx vy : Value} {r : Bool} (hx : Rep P c x vx) (hy : Rep P c y vy) (h : eqCell k x y = some r)
    (hk : CKT P t k) (w : World) :
    (Op.equalIn (D + 1) t vx vy).run P w = .ok r w := by
  cases k <;> cases x <;> simp only [eqCell] at h <;> try (cases h; done)
  · cases y <;> simp only at h <;> try (cases h; done)
    split at h
    · rename_i hkk
      cases h
      subst hkk
      obtain ⟨q, hq⟩ := hk
      rw [hx.int_inv, hy.int_inv, run_equalIn_int w D t _ _ _ _ hq]
      rfl
    · cases h
  · cases y <;> simp only at h <;> try (cases h; done)
    cases h
    rw [hx.bool_inv, hy.bool_inv, run_equalIn_bool' w D t _ _ hk]
  · cases y <;> simp only at h <;> try (cases h; done)
    cases h
    rw [hx.str_inv, hy.str_inv, run_equalIn_string w D t _ _ hk, ByteArray.toList_eq, ByteArray.toList_eq, bytesEq_eq]

theorem tAg_of {t : TypeId} {i : TypeInfo} {d : TypeDesc} (hi : P.info? t = some i) (hd : P.underlying t = some d) : tAg P t = some (if isAggT d then some i.size else none, i.size) := by
  simp [tAg, hi, hd]

theorem eqKinds_run : ∀ (d : Nat) (t : TypeId) (ks : List CK), eqKinds P d t = some ks → ∀ (D : Nat), d ≤ D → ∀ (xs ys : List AV) (vx vy : Value) (r : Bool),
    xs.length = ks.length → ys.length = ks.length → TVal P c t xs vx → TVal P c t ys vy → eqCells ks xs ys = some r → ∀ w, (Op.equalIn D t vx vy).run P w = .ok r w := by
  intro d
  induction d with
  | zero => intro t ks h; simp [eqKinds] at h
  | succ d ih =>
    intro t ks h D hD xs ys vx vy r hlenx hleny hx hy he w
    obtain ⟨D, rfl⟩ : ∃ D', D = D' + 1 := ⟨D - 1, by omega⟩
    simp only [eqKinds] at h
    have one : ∀ k : CK, ks = [k] → (∃ x, xs = [x] ∧ Rep P c x vx) → (∃ y, ys = [y] ∧ Rep P c y vy) →
        CKT P t k → (Op.equalIn (D + 1) t vx vy).run P w = .ok r w := by
      rintro k rfl ⟨x, rfl, hrx⟩ ⟨y, rfl, hry⟩ hk
      rcases eqCells_cons he with ⟨h1, rfl⟩ | ⟨h1, h2⟩
      · exact eqCell_run D hrx hry h1 hk w
      · simp [eqCells] at h2; subst h2
        exact eqCell_run D hrx hry h1 hk w
    split at h
    · rename_i q _ hd _
      cases h
      simp only [TVal, hd] at hx hy
      exact one .i rfl hx hy ⟨q, hd⟩
    · rename_i _ hd _
      cases h
      simp only [TVal, hd] at hx hy
      exact one .b rfl hx hy hd
    · rename_i _ hd _
      cases h
      simp only [TVal, hd] at hx hy
      exact one .s rfl hx hy hd
    · rename_i fs i hd hi
      split at h
      · cases h
      · rename_i hst
        split at h
        · rename_i ks' hks
          split at h
          · rename_i hsz
            cases h
            simp only [TVal, hd] at hx hy
            obtain ⟨ax, rfl, hlx, hrx⟩ := hx
            obtain ⟨ay, rfl, hly, hry⟩ := hy
            have hfo : P.fieldsOf t = fs := by simp [Program.fieldsOf, hd]
            rw [run_equalIn_struct w D t ax ay (by rw [hfo]; exact hd) (by simpa using hst), hfo]
            -- a field's own part
            have hpart : ∀ (f : Field) (kf : List CK) (zs : List AV) (az : Array Value), eqKinds P d f.type = some kf → az.size = zs.length →
                (∀ (k : Nat) a v, zs[k]? = some a → az[k]? = some v → Rep P c a v) → f.offset + kf.length ≤ zs.length → kf.length ≠ 0 →
                ∃ pv, (∀ w, (part f.type az f.offset).run P w = .ok pv w) ∧ TVal P c f.type ((zs.drop f.offset).take kf.length) pv := by
              intro f kf zs az hkf hlz hrz hle hne
              obtain ⟨i', d', hi', hd', hsc⟩ : ∃ i' d', P.info? f.type = some i' ∧ P.underlying f.type = some d' ∧ ((isAggT d' = false ∧ kf.length = 1) ∨ (∃ fs', d' = .struct fs' ∧ i'.size = kf.length)) := by
                cases d with
                | zero => simp [eqKinds] at hkf
                | succ d =>
                  simp only [eqKinds] at hkf
                  split at hkf
                  · rename_i h1 h2; cases hkf; exact ⟨_, _, h2, h1, .inl ⟨rfl, rfl⟩⟩
                  · rename_i h1 h2; cases hkf; exact ⟨_, _, h2, h1, .inl ⟨rfl, rfl⟩⟩
                  · rename_i h1 h2; cases hkf; exact ⟨_, _, h2, h1, .inl ⟨rfl, rfl⟩⟩
                  · rename_i fs' i' h1 h2
                    split at hkf
                    · cases hkf
                    · split at hkf
                      · split at hkf
                        · rename_i h3; cases hkf; exact ⟨_, _, h2, h1, .inr ⟨_, rfl, h3⟩⟩
                        · cases hkf
                      · cases hkf
                  · cases hkf
              have htag := tAg_of hi' hd'
              rcases hsc with ⟨hsc, hk1⟩ | ⟨fs', rfl, hsz'⟩
              · have hg : getCells (.agg zs) f.offset (if isAggT d' then some i'.size else none) = some zs[f.offset] := by
                  simp only [hsc, Bool.false_eq_true, if_false, getCells]
                  exact List.getElem?_eq_getElem (by omega)
                obtain ⟨pv, h1, h2⟩ := run_part htag hlz hrz hg
                refine ⟨pv, h1, ?_⟩
                have hl1 : (zs.drop f.offset).take kf.length = [zs[f.offset]] := by
                  rw [hk1, List.drop_eq_getElem_cons (by omega)]; rfl
                rw [hl1]
                simp only [TVal, hd']
                cases d' <;> first | (exact ⟨_, rfl, h2⟩) | cases hsc
              · have hg : getCells (.agg zs) f.offset (if isAggT (.struct fs') then some i'.size else none) = some (.agg ((zs.drop f.offset).take kf.length)) := by
                  simp only [isAggT, if_true, getCells, hsz', hle, if_true]
                obtain ⟨pv, h1, h2⟩ := run_part htag hlz hrz hg
                refine ⟨pv, h1, ?_⟩
                obtain ⟨vs, rfl, hl, hr⟩ := h2.agg_inv
                simp only [TVal, hd']
                exact ⟨vs, rfl, hl, hr⟩
            have key : ∀ (l : List Field) (off : Nat) (ks2 : List CK), eqKindsL (eqKinds P d) off l = some ks2 → off + ks2.length = xs.length → off + ks2.length = ys.length →
                eqCells ks2 (xs.drop off) (ys.drop off) = some r → ∀ w, (Op.eqFields D ax ay l).run P w = .ok r w := by
              intro l
              induction l with
              | nil =>
                intro off ks2 h1 _ _ h2 w
                simp only [eqKindsL] at h1
                cases h1
                have : r = true := by
                  generalize xs.drop off = p at h2
                  generalize ys.drop off = q at h2
                  cases p <;> cases q <;> simp [eqCells] at h2
                  exact h2
                subst this
                simp [Op.eqFields]
              | cons f l ihl =>
                intro off ks2 h1 hx1 hy1 h2 w
                simp only [eqKindsL] at h1
                split at h1
                · rename_i kf hkf
                  split at h1
                  · rename_i hf
                    obtain ⟨hoff, hname, hne⟩ := hf
                    cases hrest : eqKindsL (eqKinds P d) (off + kf.length) l with
                    | none => simp [hrest] at h1
                    | some krest =>
                      simp only [hrest, Option.map_some, Option.some.injEq] at h1
                      subst h1
                      simp only [List.length_append] at hx1 hy1
                      have hap := eqCells_append kf krest _ _ r h2
                      obtain ⟨px, hpx, htx⟩ := hpart f kf xs ax hkf hlx hrx (by omega) hne
                      obtain ⟨py, hpy, hty⟩ := hpart f kf ys ay hkf hly hry (by omega) hne
                      rw [hoff] at htx hty
                      have hlx' : ((xs.drop off).take kf.length).length = kf.length := by simp; omega
                      have hly' : ((ys.drop off).take kf.length).length = kf.length := by simp; omega
                      simp only [Op.eqFields, hname, ne_eq, not_false_eq_true, if_true, Sem.run_bind, hpx, hpy, Result.andThen_ok]
                      rcases hap with ⟨h3, rfl⟩ | ⟨h3, h4⟩
                      · rw [ih f.type kf hkf D (by omega) _ _ px py false hlx' hly' htx hty h3 w]
                        simp
                      · rw [ih f.type kf hkf D (by omega) _ _ px py true hlx' hly' htx hty h3 w]
                        simp only [Result.andThen_ok, Bool.not_true, Bool.false_eq_true, if_false]
                        simp only [List.drop_drop] at h4
                        exact ihl (off + kf.length) krest hrest (by omega) (by omega) h4 w
                  · cases h1
                · cases h1
            exact key fs.toList 0 _ hks (by simpa using hlenx.symm) (by simpa using hleny.symm) (by simpa using he) w
          · cases h
        · cases h
    · cases h

/-- what an 'eqv' asks of the types -/
def EqOK (P : Program) (t : TypeId) (x y : Operand) : EqK → Prop
  | .b => P.underlying t = some .bool
  | .p => ∃ e i, P.underlying t = some (.pointer e) ∧ P.info? e = some i ∧ i.size ≠ 0
  | .i => (∃ ms, P.underlying t = some (.interface ms)) ∧ (isConstO x || isConstO y) = true
  | .s => ∃ e, P.underlying t = some (.slice e)
  | .f => ∃ a b z, P.underlying t = some (.func a b z)
  | .a ks => (∃ fs, P.underlying t = some (.struct fs)) ∧ P.eqGuardType P.depth t = false ∧ eqKinds P 20 t = some ks

theorem eqK_ok {t : TypeId} {x y : Operand} {k : EqK} (h : eqK P t x y = some k) : EqOK P t x y k := by
  unfold eqK at h
  split at h
  · rename_i hd; cases h; exact hd
  · rename_i e hd
    split at h
    · rename_i hi
      cases h
      cases hi' : P.info? e with
      | none => simp [hi'] at hi
      | some i => exact ⟨e, i, hd, hi', by simpa [hi'] using hi⟩
    · cases h
  · rename_i ms hd
    split at h
    · rename_i hc; cases h; exact ⟨⟨ms, hd⟩, hc⟩
    · cases h
  · rename_i e hd; cases h; exact ⟨e, hd⟩
  · rename_i a b z hd; cases h; exact ⟨a, b, z, hd⟩
  · rename_i fs hd
    split at h
    · cases h
    · rename_i hg
      cases hk : eqKinds P 20 t with
      | none => simp [hk] at h
      | some ks => simp [hk] at h; subst h; exact ⟨⟨fs, hd⟩, by simpa using hg, hk⟩
  · cases h

theorem run_equalIn_fn (D : Nat) {t : TypeId} {p q : Array TypeId} {z : Bool} (hd : P.underlying t = some (.func p q z)) {vx vy : Value} {r : Bool}
    (h : (vx = .nilFunc ∧ (∃ f a b, vy = .func f a b) ∧ r = false) ∨ ((∃ f a b, vx = .func f a b) ∧ vy = .nilFunc ∧ r = false) ∨ (vx = .nilFunc ∧ vy = .nilFunc ∧ r = true)) (w : World) :
    (Op.equalIn (D + 1) t vx vy).run P w = .ok r w := by
  rcases h with ⟨rfl, ⟨f, a, b, rfl⟩, rfl⟩ | ⟨⟨f, a, b, rfl⟩, rfl, rfl⟩ | ⟨rfl, rfl, rfl⟩ <;>
    (simp only [Op.equalIn, Sem.run_bind, run_underlying hd, Result.andThen_ok]; rfl)

set_option maxHeartbeats 1000000 in
theorem op_eqv (hH : HR P c) {neg : Bool} {k : EqK} {t : TypeId} {ox oy : Operand} (hk : EqOK P t ox oy k) {x y : AV} {vx vy : Value} (hx : Rep P c x vx) (hy : Rep P c y vy)
    (h : evOp (.eqv neg k x y) c.H c.clk = some (v, H', clk')) :
    DoneV P c (do eqGuard (if neg then .neq else .eql) t ox oy vx vy; binOp (if neg then .neq else .eql) t vx vy) v H' clk' := by
  simp only [evOp, Option.bind_eq_some_iff] at h
  obtain ⟨r, hr, h⟩ := h
  cases h
  have fin : (eqGuard (if neg then .neq else .eql) t ox oy vx vy).run P c.w = .ok () c.w →
      (∀ op, binOp op t vx vy = match op with | .eql => (do pure (.bool (← Op.equal t vx vy))) | .neq => (do pure (.bool (!(← Op.equal t vx vy)))) | _ => binOp op t vx vy) →
      (∀ D, 19 ≤ D → (Op.equalIn (D + 1) t vx vy).run P c.w = .ok r c.w) →
      DoneV P c (do eqGuard (if neg then .neq else .eql) t ox oy vx vy; binOp (if neg then .neq else .eql) t vx vy) (.bool (if neg then !r else r)) c.H c.clk := by
    intro h1 h2 h3
    refine .same hH ?_ (.bool _)
    have h3' : (Op.equal t vx vy).run P c.w = .ok r c.w := h3 9999 (by omega)
    cases neg
    · simp only [Bool.false_eq_true, if_false] at h1 ⊢
      rw [Sem.run_bind, h1, Result.andThen_ok, h2 .eql]
      simp [h3']
    · simp only [if_true] at h1 ⊢
      rw [Sem.run_bind, h1, Result.andThen_ok, h2 .neq]
      simp [h3']
  have gpl : (∀ a b, vx = .agg a → vy = .agg b → False) → (vx = .nilIface → vy = .nilIface → False) → (eqGuard (if neg then .neq else .eql) t ox oy vx vy).run P c.w = .ok () c.w := by
    intro g1 g2
    cases neg <;> simp only [eqGuard, Bool.false_eq_true, if_false, if_true] <;> (cases vx <;> cases vy <;> first | rfl | exact (g1 _ _ rfl rfl).elim | exact (g2 rfl rfl).elim)
  cases k with
  | b =>
    cases x <;> cases y <;> simp only [eqv] at hr <;> try (cases hr; done)
    rename_i a b
    cases hr
    have e1 := hx.bool_inv
    have e2 := hy.bool_inv
    subst e1 e2
    refine fin (gpl (by simp) (by simp)) (fun op => by cases op <;> rfl) ?_
    exact fun D _ => run_equalIn_bool' c.w D t a b hk
  | p =>
    obtain ⟨e, i, hd, hi, hz⟩ := hk
    have hsz : (sizeOf e).run P c.w = .ok i.size c.w := by simp [sizeOf, typeInfo, hi]
    have hreq : eqPtr c.H x y = some r := by
      cases x <;> cases y <;> simpa only [eqv] using hr
    unfold eqPtr at hreq
    split at hreq
    · cases hreq; cases hx; cases hy
      exact fin (gpl (by simp) (by simp)) (fun op => by cases op <;> rfl) (fun D _ => by simp [Op.equalIn, run_underlying hd])
    · cases hreq; cases hx; cases hy
      exact fin (gpl (by simp) (by simp)) (fun op => by cases op <;> rfl) (fun D _ => by simp [Op.equalIn, run_underlying hd])
    · cases hreq; cases hx; cases hy
      exact fin (gpl (by simp) (by simp)) (fun op => by cases op <;> rfl) (fun D _ => by simp [Op.equalIn, run_underlying hd])
    · rename_i i' ep k j
      cases hg : getO c.H i' ep with
      | none => simp [hg] at hreq
      | some o =>
        simp [hg] at hreq; subst hreq
        obtain ⟨rfl, _⟩ := hy.ptr_inv (sig_of hg)
        cases hx
        exact fin (gpl (by simp) (by simp)) (fun op => by cases op <;> rfl) (fun D _ => by simp [Op.equalIn, run_underlying hd])
    · rename_i i' ep k j
      cases hg : getO c.H i' ep with
      | none => simp [hg] at hreq
      | some o =>
        simp [hg] at hreq; subst hreq
        obtain ⟨rfl, _⟩ := hx.ptr_inv (sig_of hg)
        cases hy
        exact fin (gpl (by simp) (by simp)) (fun op => by cases op <;> rfl) (fun D _ => by simp [Op.equalIn, run_underlying hd])
    · rename_i i1 ep k j i2 ep2 k2 j2
      split at hreq
      · rename_i hh
        obtain ⟨rfl, rfl, rfl, rfl⟩ := hh
        cases hg : getO c.H i1 ep with
        | none => simp [hg] at hreq
        | some o =>
          simp [hg] at hreq; subst hreq
          obtain ⟨rfl, _⟩ := hx.ptr_inv (sig_of hg)
          obtain ⟨rfl, _⟩ := hy.ptr_inv (sig_of hg)
          exact fin (gpl (by simp) (by simp)) (fun op => by cases op <;> rfl) (fun D _ => by simp [Op.equalIn, run_underlying hd, hsz, sameAddr])
      · cases hreq
    · cases hreq
  | i =>
    obtain ⟨⟨ms, hd⟩, hc⟩ := hk
    have hreq : eqIfc x y = some r := by
      cases x <;> cases y <;> simpa only [eqv] using hr
    unfold eqIfc at hreq
    split at hreq
    · cases hreq; cases hx; cases hy
      refine fin ?_ (fun op => by cases op <;> rfl) (fun D _ => by simp [Op.equalIn, run_underlying hd])
      cases neg <;> cases ox <;> cases oy <;> first | rfl | (cases hc; done)
    · cases hreq; cases hx; cases hy
      exact fin (gpl (by simp) (by simp)) (fun op => by cases op <;> rfl) (fun D _ => by simp [Op.equalIn, run_underlying hd])
    · cases hreq; cases hx; cases hy
      exact fin (gpl (by simp) (by simp)) (fun op => by cases op <;> rfl) (fun D _ => by simp [Op.equalIn, run_underlying hd])
    · cases hreq
  | s =>
    obtain ⟨e, hd⟩ := hk
    have hreq : eqSl c.H x y = some r := by
      cases x <;> cases y <;> simpa only [eqv] using hr
    have nilv : ∀ {vy}, Rep P c (.sl [] .nil) vy → vy = .slice none 0 0 := by
      intro vy h
      cases h with
      | slE h => obtain ⟨rfl, rfl⟩ := h; rfl
      | sl _ _ h => exact absurd rfl h
    unfold eqSl at hreq
    split at hreq
    · cases hreq
      have e2 := nilv hy; subst e2
      cases hx with
      | sl => exact fin (gpl (by simp) (by simp)) (fun op => by cases op <;> rfl) (fun D _ => by simp [Op.equalIn, run_underlying hd])
    · cases hreq
      have e1 := nilv hx; have e2 := nilv hy; subst e1 e2
      exact fin (gpl (by simp) (by simp)) (fun op => by cases op <;> rfl) (fun D _ => by simp [Op.equalIn, run_underlying hd])
    · cases hreq
      have e2 := nilv hy; subst e2
      cases hx with
      | slE h =>
        rename_i a n
        cases a with
        | none => exact absurd rfl h
        | some a => exact fin (gpl (by simp) (by simp)) (fun op => by cases op <;> rfl) (fun D _ => by simp [Op.equalIn, run_underlying hd])
      | sl _ _ h => exact absurd rfl h
    · cases hreq
      have e2 := nilv hy; subst e2
      cases hx with
      | slE h =>
        obtain rfl := h
        exact fin (gpl (by simp) (by simp)) (fun op => by cases op <;> rfl) (fun D _ => by simp [Op.equalIn, run_underlying hd])
      | sl _ _ h => exact absurd rfl h
    · rename_i i' ep off n cap
      cases hg : getO c.H i' ep with
      | none => simp [hg] at hreq
      | some o =>
        simp [hg] at hreq; subst hreq
        have e2 := nilv hy; subst e2
        obtain ⟨cap', rfl, _⟩ := hx.msl_inv (sig_of hg)
        exact fin (gpl (by simp) (by simp)) (fun op => by cases op <;> rfl) (fun D _ => by simp [Op.equalIn, run_underlying hd])
    · cases hreq
  | f =>
    obtain ⟨a, b, z, hd⟩ := hk
    have hreq : eqFn x y = some r := by
      cases x <;> cases y <;> simpa only [eqv] using hr
    unfold eqFn at hreq
    split at hreq <;> try (cases hreq; done)
    all_goals
      cases hreq; cases hx; cases hy
      exact fin (gpl (by simp) (by simp)) (fun op => by cases op <;> rfl) (fun D _ => run_equalIn_fn D hd (by simp) c.w)
  | a ks =>
    obtain ⟨⟨fs, hd⟩, hg, hks⟩ := hk
    cases x <;> cases y <;> simp only [eqv] at hr <;> try (cases hr; done)
    rename_i xs ys
    split at hr
    · rename_i hl
      obtain ⟨ax, rfl, hlx, hrx⟩ := hx.agg_inv
      obtain ⟨ay, rfl, hly, hry⟩ := hy.agg_inv
      refine fin ?_ (fun op => by cases op <;> rfl) ?_
      · cases neg
        · exact run_eqGuard_agg c.w .eql t ox oy ax ay hg
        · exact run_eqGuard_agg c.w .neq t ox oy ax ay hg
      · exact fun D hD => eqKinds_run 20 t ks hks (D + 1) (by omega) xs ys _ _ r hl.1 hl.2 (by simp only [TVal, hd]; exact ⟨ax, rfl, hlx, hrx⟩) (by simp only [TVal, hd]; exact ⟨ay, rfl, hly, hry⟩) hr c.w
    · cases hr

end
end Go.Ev
end

section
/- Slices, texts of bytes, aggregates. -/
namespace Go.Ev

section
variable {P : Program} {c : Cx} {v : AV} {H' : Heap} {clk' : Nat}

def OptRep (P : Program) (c : Cx) (x : Option AV) (v : Option Value) : Prop :=
  match x, v with
  | none, none => True
  | some a, some w => Rep P c a w
  | _, _ => False

theorem run_sliceBound {x : AV} {vx : Value} {n y : Nat} (hx : Rep P c x vx) (h : asNat x = some n) (hn : n ≤ y) (code : BoundsCode) (w : World) :
    (Instr.sliceBound vx y code).run P w = .ok n w := by
  obtain ⟨k, hk⟩ := asNat_run h hx w
  simp only [Instr.sliceBound, Sem.run_bind, hk, Result.andThen_ok]
  have : (0 : Int) ≤ n ∧ (n : Int) ≤ y := by omega
  simp [this]

def mS (isSlice : Bool) (cap : Nat) (vmx : Option Value) : Sem Nat :=
  match vmx with
  | some v => Instr.sliceBound v cap (if isSlice then .slice3Acap else .slice3Alen)
  | none => pure cap

def hS (isSlice : Bool) (len m : Nat) (vhi vmx : Option Value) : Sem Nat :=
  match vhi, vmx with
  | some v, some _ => Instr.sliceBound v m .slice3B
  | some v, none => Instr.sliceBound v m (if isSlice then .sliceAcap else .sliceAlen)
  | none, none => pure len
  | none, some _ => stuck "Slice: max without high"

def lS (h : Nat) (vlo vmx : Option Value) : Sem Nat :=
  match vlo with
  | some v => Instr.sliceBound v h (if vmx.isSome then .slice3C else .sliceB)
  | none => pure 0

/-- the bounds that the evaluator reckons are the model's, where the true capacity is no less than what is known -/
theorem run_bounds {lo hi mx : Option AV} {vlo vhi vmx : Option Value} (hlo : OptRep P c lo vlo) (hhi : OptRep P c hi vhi) (hmx : OptRep P c mx vmx)
    {len low cap l h : Nat} {m : Option Nat} (hb : bounds len low lo hi mx = some (l, h, m)) (hcap : low ≤ cap) (hlen : len ≤ cap) (isSlice : Bool) (w : World) :
    (Instr.sliceBounds isSlice len cap vlo vhi vmx).run P w = .ok (l, h, m.getD cap) w ∧ l ≤ h ∧ h ≤ m.getD cap ∧ m.getD cap ≤ cap ∧ (h ≤ len ∨ h ≤ low) := by
  unfold bounds at hb
  split at hb
  · cases hb
  rename_i m' hm'
  split at hb
  · cases hb
  rename_i h' hh'
  split at hb
  · cases hb
  rename_i l' hl'
  cases hb
  have hmm : (mS isSlice cap vmx).run P w = .ok (m.getD cap) w ∧ m.getD cap ≤ cap ∧ m.getD low ≤ m.getD cap ∧ (m = none → vmx = none) ∧ (∀ k, m = some k → vmx.isSome ∧ k ≤ low) := by
    unfold bM at hm'
    cases mx with
    | none =>
      cases vmx with
      | none => simp at hm'; subst hm'; exact ⟨rfl, Nat.le_refl _, hcap, fun _ => rfl, fun _ h => by cases h⟩
      | some _ => exact hmx.elim
    | some x =>
      cases vmx with
      | none => exact hmx.elim
      | some vx =>
        simp only at hm'
        split at hm'
        case h_2 => cases hm'
        rename_i k hk
        split at hm'
        · rename_i hle
          cases hm'
          exact ⟨by simpa [mS] using run_sliceBound (P := P) (c := c) hmx hk (Nat.le_trans hle hcap) _ w, by simpa using Nat.le_trans hle hcap, Nat.le_refl _, (fun h => by cases h), (fun j hj => by cases hj; exact ⟨rfl, hle⟩)⟩
        · cases hm'
  obtain ⟨hm1, hm2, hm3, hm4, hm5⟩ := hmm
  have hhh : (hS isSlice len (m.getD cap) vhi vmx).run P w = .ok h w ∧ h ≤ m.getD cap ∧ (h ≤ len ∨ h ≤ low) := by
    unfold bH at hh'
    cases hi with
    | none =>
      cases vhi with
      | none =>
        cases m with
        | none => simp at hh'; subst hh'; have := hm4 rfl; subst this; exact ⟨rfl, hlen, .inl (Nat.le_refl _)⟩
        | some k => simp at hh'
      | some _ => exact hhi.elim
    | some x =>
      cases vhi with
      | none => exact hhi.elim
      | some vx =>
        simp only at hh'
        split at hh'
        case h_2 => cases hh'
        rename_i k hk
        split at hh'
        · rename_i hle
          cases hh'
          refine ⟨?_, by omega, ?_⟩
          · cases vmx <;> exact run_sliceBound (P := P) (c := c) hhi hk (by omega) _ w
          · cases m with
            | none => exact .inr hle
            | some j => have := (hm5 j rfl).2; simp at hle; exact .inr (by omega)
        · cases hh'
  obtain ⟨hh1, hh2, hh3⟩ := hhh
  have hll : (lS h vlo vmx).run P w = .ok l w ∧ l ≤ h := by
    unfold bL at hl'
    cases lo with
    | none =>
      cases vlo with
      | none => simp at hl'; subst hl'; exact ⟨rfl, Nat.zero_le _⟩
      | some _ => exact hlo.elim
    | some x =>
      cases vlo with
      | none => exact hlo.elim
      | some vx =>
        simp only at hl'
        split at hl'
        case h_2 => cases hl'
        rename_i k hk
        split at hl'
        · rename_i hle; cases hl'; exact ⟨run_sliceBound (P := P) (c := c) hlo hk hle _ w, hle⟩
        · cases hl'
  refine ⟨?_, hll.2, hh2, hm2, hh3⟩
  have e : Instr.sliceBounds isSlice len cap vlo vhi vmx = (do
      let m ← mS isSlice cap vmx
      let h ← hS isSlice len m vhi vmx
      let l ← lS h vlo vmx
      pure (l, h, m)) := by
    cases vmx <;> cases vhi <;> cases vlo <;> simp [Instr.sliceBounds, mS, hS, lS, stuck, Bind.bind, Sem.bind]
  rw [e]
  simp only [Sem.run_bind, hm1, Result.andThen_ok, hh1, hll.1, Sem.run_pure]

theorem closedL_drop : ∀ (es : List AV) (n : Nat), closedL es = true → closedL (es.drop n) = true
  | es, 0, h => h
  | [], n + 1, h => h
  | e :: es, n + 1, h => closedL_drop es n (by simp only [closedL, Bool.and_eq_true] at h; exact h.2)

theorem closedL_take : ∀ (es : List AV) (n : Nat), closedL es = true → closedL (es.take n) = true
  | es, 0, h => by simp [closedL]
  | [], n + 1, h => by simp [closedL]
  | e :: es, n + 1, h => by
    simp only [closedL, Bool.and_eq_true] at h
    simp only [List.take_succ_cons, closedL, Bool.and_eq_true]
    exact ⟨h.1, closedL_take es n h.2⟩

theorem closedL_append {xs ys : List AV} : closedL (xs ++ ys) = (closedL xs && closedL ys) := by
  induction xs with
  | nil => simp [closedL]
  | cons x xs ih => simp [closedL, ih, Bool.and_assoc]

/-- a slice of an immutable slice -/
theorem Rep.slCut {es : List AV} {cap : Cp} {a : Option Addr} {n cap' : Nat} (hr : Rep P c (.sl es cap) (.slice a n cap')) {esz : Nat} (hd : headOK esz es = true) {l h : Nat} {m : Option Nat}
    (hlh : l ≤ h) (hhm : h ≤ m.getD cap') (hmc : m.getD cap' ≤ cap') (hle : h ≤ es.length) (hnil : cap = .nil → m.getD cap' = 0) :
    Rep P c (.sl ((es.take h).drop l) (cap.cut l m)) (.slice (if m.getD cap' = l then a else a.map (·.add (l * esz))) (h - l) (m.getD cap' - l)) := by
  have hcut : ∀ (a' : Option Addr), (a' = none ↔ a = none) → capOK cap a cap' → capOK (cap.cut l m) a' (m.getD cap' - l) := by
    intro a' ha hcap
    cases cap with
    | unk => cases m <;> simp [Cp.cut, capOK]
    | ex q => cases m with
      | none => simp only [capOK] at hcap; subst hcap; simp [Cp.cut, capOK]
      | some k => simp [Cp.cut, capOK]
    | nil => simp only [Cp.cut, capOK] at hcap ⊢; exact ⟨ha.2 hcap.1, by have := hnil rfl; omega⟩
    | nn => cases m <;> simp [Cp.cut, capOK]
    | nl => cases m <;> simp [Cp.cut, capOK]
  cases hr with
  | slE hcap =>
    have h0 : h = 0 := by simpa using hle
    have l0 : l = 0 := by omega
    subst h0 l0
    simp only [List.take_zero, List.drop_nil, Nat.sub_self]
    refine .slE (hcut _ ?_ hcap)
    split
    · rfl
    · simp
  | @sl _ _ b off _ esz' f hne hn hcap hb hcl hsz hf hre =>
    have hes : esz' = esz := by
      obtain ⟨e, es', rfl⟩ : ∃ e es', es = e :: es' := by cases es with | nil => exact absurd rfl hne | cons e es' => exact ⟨e, es', rfl⟩
      simp only [headOK, List.head?_cons, beq_iff_eq] at hd
      rw [← hd]; exact (hsz e (by simp)).symm
    subst hes
    have ha : ∀ (q : Bool), ((if q then some ⟨b, off, none⟩ else (some (⟨b, off, none⟩ : Addr)).map (·.add (l * esz'))) = none ↔ (some (⟨b, off, none⟩ : Addr)) = none) := by
      intro q; cases q <;> simp
    have hlen : ((es.take h).drop l).length = h - l := by simp; omega
    by_cases hemp : l = h
    · subst hemp
      have he : (es.take l).drop l = [] := List.eq_nil_of_length_eq_zero (by rw [hlen]; omega)
      rw [he, Nat.sub_self]
      refine .slE (hcut _ ?_ hcap)
      split <;> simp
    · have hne2 : m.getD cap' ≠ l := by omega
      simp only [hne2, if_false, Option.map_some, add_none]
      rw [← hlen]
      refine .sl esz' (fun k j => f (l + k) j) (by intro h0; rw [h0] at hlen; simp at hlen; omega) (by rw [hlen]; omega) (hcut _ (by simp) hcap) hb (closedL_drop _ _ (closedL_take _ _ hcl)) ?_ ?_ ?_
      · intro e he; exact hsz e (List.mem_of_mem_take (List.mem_of_mem_drop he))
      · intro k e j x hk hj
        simp only [List.getElem?_drop, List.getElem?_take] at hk
        split at hk
        · have := hf (l + k) e j x hk hj
          rw [show off + l * esz' + (k * esz' + j) = off + ((l + k) * esz' + j) by rw [Nat.add_mul]; omega]
          exact this
        · cases hk
      · intro k e j x hk hj
        simp only [List.getElem?_drop, List.getElem?_take] at hk
        split at hk
        · exact hre (l + k) e j x hk hj
        · cases hk

theorem capOK_low {cap : Cp} {a : Option Addr} {n k : Nat} (h : capOK cap a n) (hk : k ≤ n) : cap.low k ≤ n := by
  cases cap with
  | unk => exact hk
  | ex q => simp only [capOK] at h; subst h; exact Nat.le_refl _
  | nil => exact Nat.zero_le _
  | nn => exact hk
  | nl => exact hk

theorem op_slice_str (hH : HR P c) {t : TypeId} (ht : P.underlying t = some .string) {x : AV} {vx : Value} (hx : Rep P c x vx) {lo hi mx : Option AV} {vlo vhi vmx : Option Value}
    (hlo : OptRep P c lo vlo) (hhi : OptRep P c hi vhi) (hmx : OptRep P c mx vmx)
    (h : evOp (.slice none x lo hi mx) c.H c.clk = some (v, H', clk')) : DoneV P c (Instr.sliceAt t vx vlo vhi vmx) v H' clk' := by
  simp only [evOp] at h
  cases x <;> simp only at h <;> try (cases h; done)
  rename_i b
  split at h
  · cases h
  rename_i hmn
  simp only [Option.bind_eq_some_iff] at h
  obtain ⟨⟨l, hh, m⟩, hb, h⟩ := h
  cases h
  rw [hx.str_inv]
  have hmx0 : mx = none := by cases mx <;> simp at hmn ⊢
  subst hmx0
  have hvm : vmx = none := by cases vmx with | none => rfl | some _ => exact hmx.elim
  subst hvm
  have hm0 : m = none := by
    unfold bounds at hb
    simp only [bM] at hb
    split at hb
    · cases hb
    · split at hb
      · cases hb
      · cases hb; rfl
  subst hm0
  obtain ⟨h1, h2, h3, _, _⟩ := run_bounds hlo hhi hmx hb (Nat.le_refl _) (Nat.le_refl _) false c.w
  refine .same hH (val := .string ⟨((b.take hh).drop l).toArray⟩) ?_ (.str _)
  have hsz : (⟨b.toArray⟩ : ByteArray).size = b.length := rfl
  have hex : (⟨b.toArray⟩ : ByteArray).extract l hh = ⟨((b.take hh).drop l).toArray⟩ := by
    apply ByteArray.ext
    rw [ByteArray.data_extract]
    simp [List.drop_take]
  simp only [Option.getD_none] at h1
  simp [Instr.sliceAt, Instr.slice, run_underlying ht, hsz, h1, hex]

theorem op_slice_sl (hH : HR P c) {t e : TypeId} {ti : TypeInfo} (ht : P.underlying t = some (.slice e)) (hi : P.info? e = some ti) {x : AV} {vx : Value} (hx : Rep P c x vx) {lo hi' mx : Option AV} {vlo vhi vmx : Option Value}
    (hlo : OptRep P c lo vlo) (hhi : OptRep P c hi' vhi) (hmx : OptRep P c mx vmx)
    (h : evOp (.slice (some ti.size) x lo hi' mx) c.H c.clk = some (v, H', clk')) : DoneV P c (Instr.sliceAt t vx vlo vhi vmx) v H' clk' := by
  have hsize : (sizeOf e).run P c.w = .ok ti.size c.w := by simp [sizeOf, typeInfo, hi]
  simp only [evOp] at h
  cases x <;> simp only at h <;> try (cases h; done)
  · rename_i es cap
    split at h
    · rename_i hd
      simp only [Option.bind_eq_some_iff] at h
      obtain ⟨⟨l, hh, m⟩, hb, h⟩ := h
      cases h
      obtain ⟨a, n', cap', rfl, hn, hle, hcap⟩ : ∃ a n' cap', vx = .slice a n' cap' ∧ n' = es.length ∧ es.length ≤ cap' ∧ capOK cap a cap' := by
        cases hx with
        | slE h => exact ⟨_, _, _, rfl, rfl, Nat.zero_le _, h⟩
        | sl _ _ _ hn h => exact ⟨_, _, _, rfl, rfl, hn, h⟩
      subst hn
      have hlow := capOK_low hcap hle
      obtain ⟨h1, h2, h3, h4, h5⟩ := run_bounds hlo hhi hmx hb (Nat.le_trans (Nat.min_le_left _ _) hlow) hle true c.w
      have h6 : hh ≤ es.length := by
        rcases h5 with h | h
        · exact h
        · exact Nat.le_trans h (Nat.min_le_right _ _)
      refine .same hH ?_ (hx.slCut hd h2 h3 h4 h6 ?_)
      · simp [Instr.sliceAt, Instr.slice, run_underlying ht, h1, hsize]
      · intro e0; subst e0; exact Nat.eq_zero_of_le_zero (Nat.le_trans h4 (Nat.le_of_eq hcap.2))
    · cases h
  · rename_i i ep off n cap
    split at h
    · rename_i r hg
      split at h
      · rename_i hr
        obtain ⟨hes, hoff⟩ := hr
        simp only [Option.bind_eq_some_iff] at h
        obtain ⟨⟨l, hh, m⟩, hb, h⟩ := h
        obtain ⟨cap', rfl, hn, hcap, hsz, hep, hL⟩ := hx.msl_inv (sig_of hg)
        have hlow : lowOf cap (r.es.length - off) ≤ cap' := by
          cases cap with
          | none => have := hL rfl; simp only [lowOf]; omega
          | some q => have := hcap q rfl; simp only [lowOf]; omega
        obtain ⟨h1, h2, h3, h4, h5⟩ := run_bounds hlo hhi hmx hb hlow hn true c.w
        have hrun : (Instr.sliceAt t (.slice (some ⟨c.m i, off * r.esz, none⟩) n cap') vlo vhi vmx).run P c.w =
            .ok (.slice (if m.getD cap' = l then some ⟨c.m i, off * r.esz, none⟩ else some ⟨c.m i, off * r.esz + l * ti.size, none⟩) (hh - l) (m.getD cap' - l)) c.w := by
          simp [Instr.sliceAt, Instr.slice, run_underlying ht, h1, hsize, add_none]
        have hcapx : ∀ x, capCut l m cap = some x → m.getD cap' - l = x := by
          intro x hx
          cases m with
          | some k => simp [capCut] at hx; simpa using hx
          | none =>
            cases cap with
            | none => simp [capCut] at hx
            | some q => simp [capCut] at hx; have := hcap q rfl; simp; omega
        split at h
        · rename_i hc0
          cases h
          simp only [Bool.and_eq_true, decide_eq_true_eq] at hc0
          refine .same hH hrun ?_
          have : hh - l = 0 := by omega
          rw [this]
          refine .slE ?_
          cases hq : capCut l m cap with
          | none => simp [cpOf, capOK]
          | some q => simpa [cpOf, capOK] using hcapx q hq
        · rename_i hc0
          cases h
          refine .same hH hrun ?_
          simp only [Bool.and_eq_true, decide_eq_true_eq] at hc0
          have haddr : (if m.getD cap' = l then some (⟨c.m i, off * r.esz, none⟩ : Addr) else some ⟨c.m i, off * r.esz + l * ti.size, none⟩) = some ⟨c.m i, (off + l) * r.esz, none⟩ := by
            by_cases hl0 : l = 0
            · subst hl0; simp
            · have : m.getD cap' ≠ l := by omega
              simp only [this, if_false]
              rw [Nat.add_mul, hes]
          rw [haddr]
          refine .msl (sig_of hg) hep (by omega) hcapx ?_ ?_
          · intro hnone
            cases m with
            | some k => simp [capCut] at hnone
            | none =>
              cases cap with
              | some q => simp [capCut] at hnone
              | none => have := hL rfl; simp; omega
          · refine Nat.le_trans (Nat.mul_le_mul_right _ ?_) hsz
            omega
      · cases h
    · cases h

theorem op_sliceA (hH : HR P c) {t e : TypeId} {k : Nat} {ti : TypeInfo} (ht : P.underlying t = some (.array k e) ∨ ∃ p, P.underlying t = some (.pointer p) ∧ P.underlying p = some (.array k e))
    (hi : P.info? e = some ti) {x : AV} {vx : Value} (hx : Rep P c x vx) {lo hi' mx : Option AV} {vlo vhi vmx : Option Value}
    (hlo : OptRep P c lo vlo) (hhi : OptRep P c hi' vhi) (hmx : OptRep P c mx vmx)
    (h : evOp (.sliceA k ti.size x lo hi' mx) c.H c.clk = some (v, H', clk')) : DoneV P c (Instr.sliceAt t vx vlo vhi vmx) v H' clk' := by
  have hsize : (sizeOf e).run P c.w = .ok ti.size c.w := by simp [sizeOf, typeInfo, hi]
  simp only [evOp] at h
  cases x <;> simp only at h <;> try (cases h; done)
  rename_i i ep kk j
  split at h
  · rename_i r hg
    split at h
    · rename_i hr
      obtain ⟨hes, rfl, hlen⟩ := hr
      simp only [Option.bind_eq_some_iff] at h
      obtain ⟨⟨l, hh, m⟩, hb, h⟩ := h
      obtain ⟨rfl, hep⟩ := hx.ptr_inv (sig_of hg)
      obtain ⟨h1, h2, h3, h4, h5⟩ := run_bounds hlo hhi hmx hb (Nat.le_refl _) (Nat.le_refl _) false c.w
      have hrun : (Instr.sliceAt t (.pointer (some ⟨c.m i, kk * r.esz + 0, none⟩)) vlo vhi vmx).run P c.w =
          .ok (.slice (if m.getD k = l then some ⟨c.m i, kk * r.esz, none⟩ else some ⟨c.m i, kk * r.esz + l * ti.size, none⟩) (hh - l) (m.getD k - l)) c.w := by
        rcases ht with ht | ⟨p, ht, hp⟩
        · simp only [Instr.sliceAt, Sem.run_bind, run_underlying ht, Result.andThen_ok, Instr.sureAddr, Sem.run_pure, h1, hsize, add_none, Nat.add_zero]
          split <;> rfl
        · simp only [Instr.sliceAt, Instr.slice, Sem.run_bind, run_underlying ht, run_underlying hp, Result.andThen_ok, asAddr, Sem.run_pure, h1, hsize, add_none, Nat.add_zero]
          split <;> rfl
      obtain ⟨arr, fz, hblk, _, hle, _⟩ := (hH.var i r (getO_some hg).1).cells
      split at h
      · rename_i hc0
        cases h
        simp only [Bool.and_eq_true, decide_eq_true_eq] at hc0
        refine .same hH hrun ?_
        have : hh - l = 0 := by omega
        rw [this]
        exact .slE rfl
      · rename_i hc0
        cases h
        simp only [Bool.and_eq_true, decide_eq_true_eq] at hc0
        refine .same hH hrun ?_
        have haddr : (if m.getD k = l then some (⟨c.m i, kk * r.esz, none⟩ : Addr) else some ⟨c.m i, kk * r.esz + l * ti.size, none⟩) = some ⟨c.m i, (kk + l) * r.esz, none⟩ := by
          by_cases hl0 : l = 0
          · subst hl0; simp
          · have : m.getD k ≠ l := by omega
            simp only [this, if_false]
            rw [Nat.add_mul, hes]
        rw [haddr]
        refine .msl (sig_of hg) hep (by omega) (fun x hx => by cases hx; rfl) (fun h => by cases h) ?_
        simp only [bsize, hblk]
        refine Nat.le_trans (Nat.mul_le_mul_right _ ?_) hle
        omega
    · cases h
  · cases h

end
end Go.Ev
end

section
/- Cells read in one go; segments written; new objects. -/
namespace Go.Ev

section
variable {P : Program} {c : Cx} {v : AV} {H' : Heap} {clk' : Nat}

/-- values that stand for elements' cells, one behind the other -/
def NewsR (P : Program) (c : Cx) (esz : Nat) (ys : List AV) (news : List Value) : Prop :=
  news.length = ys.length * esz ∧ ∀ k e j a, ys[k]? = some e → (flat e)[j]? = some a → ∃ v, news[k * esz + j]? = some v ∧ Rep P c a v

theorem NewsR.mono {c' : Cx} (hle : c.le c') {esz : Nat} {ys : List AV} {news : List Value} (h : NewsR P c esz ys news) : NewsR P c' esz ys news :=
  ⟨h.1, fun k e j a h1 h2 => let ⟨v, h3, h4⟩ := h.2 k e j a h1 h2; ⟨v, h3, h4.mono hle⟩⟩

theorem div_mod_lt {x n esz : Nat} (h : x < n * esz) : x / esz < n ∧ x % esz < esz ∧ x / esz * esz + x % esz = x := by
  have h0 : 0 < esz := by rcases Nat.eq_zero_or_pos esz with h' | h'; · subst h'; simp at h
                          · exact h'
  refine ⟨(Nat.div_lt_iff_lt_mul h0).2 h, Nat.mod_lt _ h0, ?_⟩
  have := Nat.div_add_mod x esz
  rw [Nat.mul_comm] at this; exact this

theorem news_cell {esz : Nat} {ys : List AV} {news : List Value} (h : NewsR P c esz ys news) (hsz : ∀ e ∈ ys, (flat e).length = esz) {x : Nat} {v : Value} (hx : news[x]? = some v) :
    ∃ e a, ys[x / esz]? = some e ∧ (flat e)[x % esz]? = some a ∧ Rep P c a v := by
  have hlt : x < ys.length * esz := by rw [← h.1]; exact (List.getElem?_eq_some_iff.1 hx).1
  obtain ⟨h1, h2, h3⟩ := div_mod_lt hlt
  have he := List.getElem?_eq_getElem h1
  have hfl := hsz _ (List.getElem_mem h1)
  have hj : x % esz < (flat ys[x / esz]).length := by rw [hfl]; exact h2
  obtain ⟨v', hv', hr⟩ := h.2 _ _ _ _ he (List.getElem?_eq_getElem hj)
  rw [h3, hx] at hv'
  cases hv'
  exact ⟨_, _, he, List.getElem?_eq_getElem hj, hr⟩

/-- elements' cells that lie one behind the other are loaded in one go -/
theorem load_flat {esz : Nat} {ys : List AV} (hsz : ∀ e ∈ ys, (flat e).length = esz) {b o : Nat}
    (hc : ∀ k e j a, ys[k]? = some e → (flat e)[j]? = some a → ∃ v, c.w.cell? ⟨b, o + (k * esz + j), none⟩ = some v ∧ Rep P c a v) :
    ∃ news : List Value, NewsR P c esz ys news ∧ ∀ j v, news[j]? = some v → c.w.cell? ((⟨b, o, none⟩ : Addr).add j) = some v := by
  have hx : ∀ x, x < ys.length * esz → ∃ v, c.w.cell? ⟨b, o + x, none⟩ = some v := by
    intro x hx
    obtain ⟨h1, h2, h3⟩ := div_mod_lt hx
    have hj : x % esz < (flat ys[x / esz]).length := by rw [hsz _ (List.getElem_mem h1)]; exact h2
    obtain ⟨v, hv, _⟩ := hc _ _ _ _ (List.getElem?_eq_getElem h1) (List.getElem?_eq_getElem hj)
    rw [h3] at hv
    exact ⟨v, hv⟩
  refine ⟨(List.range (ys.length * esz)).map fun x => (c.w.cell? ⟨b, o + x, none⟩).getD undef, ⟨by simp, ?_⟩, ?_⟩
  · intro k e j a hk hj
    obtain ⟨v, hv, hr⟩ := hc k e j a hk hj
    refine ⟨v, ?_, hr⟩
    have hklt := (List.getElem?_eq_some_iff.1 hk).1
    have hjlt := (List.getElem?_eq_some_iff.1 hj).1
    rw [hsz e (List.mem_of_getElem? hk)] at hjlt
    have hlt : k * esz + j < ys.length * esz := by
      have : (k + 1) * esz ≤ ys.length * esz := Nat.mul_le_mul_right _ hklt
      rw [Nat.add_mul] at this; omega
    rw [List.getElem?_map, List.getElem?_range hlt]
    simp [hv]
  · intro j v hj
    rw [List.getElem?_map] at hj
    by_cases hlt : j < ys.length * esz
    · rw [List.getElem?_range hlt] at hj
      obtain ⟨w, hw⟩ := hx j hlt
      simp [hw] at hj
      rw [add_none, hw, hj]
    · simp [Nat.le_of_not_lt hlt] at hj

/-- what an append or a copy reads from -/
structure Src (P : Program) (w : World) (esz n : Nat) (x : Value) (news : List Value) : Prop where
  len : ∀ w', (Builtin.lenOf x).run P w' = .ok n w'
  first : ∀ w', w'.heap = w.heap → ∀ k, k ≤ n → (Builtin.firstCells esz k x).run P w' = .ok (news.take (k * esz)).toArray w'

theorem okEls_len {esz : Nat} {ys : List AV} (h : okEls esz ys = true) : ∀ e ∈ ys, (flat e).length = esz := fun e he => okEl_len (okEls_mem h e he)

theorem cell?_heap {w w' : World} (h : w'.heap = w.heap) (a : Addr) : w'.cell? a = w.cell? a := by simp [World.cell?, h]

theorem elems_src (hH : HR P c) {y : AV} {vy : Value} (hy : Rep P c y vy) {ys : List AV} {cl : Bool} (h : elems c.H y = some (ys, cl)) {esz : Nat} (hz : okEls esz ys = true) :
    ∃ news, NewsR P c esz ys news ∧ Src P c.w esz ys.length vy news ∧ (cl = true → closedL ys = true) := by
  have loaded : ∀ (b o n cap : Nat) (news : List Value), NewsR P c esz ys news → (∀ j v, news[j]? = some v → c.w.cell? ((⟨b, o, none⟩ : Addr).add j) = some v) → n = ys.length →
      Src P c.w esz ys.length (.slice (some ⟨b, o, none⟩) n cap) news := by
    intro b o n cap news hn hc hnn
    subst hnn
    refine ⟨fun w' => rfl, fun w' hw k hk => ?_⟩
    refine run_firstCells_some w' esz k ⟨b, o, none⟩ ys.length cap (news.take (k * esz)) ?_ ?_
    · rw [List.length_take, hn.1]
      exact Nat.min_eq_left (Nat.mul_le_mul_right _ hk)
    · intro j v hj
      rw [cell?_heap hw]
      rw [List.getElem?_take] at hj
      split at hj
      · exact hc j v hj
      · cases hj
  unfold elems at h
  split at h
  · rename_i es cap
    cases h
    cases hy with
    | slE hc =>
      rename_i a n
      refine ⟨[], ⟨by simp, by simp⟩, ⟨fun w' => rfl, fun w' _ k hk => ?_⟩, fun _ => rfl⟩
      have : k = 0 := by simpa using hk
      subst this
      cases a <;> simp [Builtin.firstCells, loadCells, loadCellsFrom]
    | @sl _ _ b off n esz' f hne hn hcap hb hcl hsz hf hr =>
      have he : esz' = esz := by
        obtain ⟨e, es', rfl⟩ : ∃ e es', ys = e :: es' := by cases ys with | nil => exact absurd rfl hne | cons e es' => exact ⟨e, es', rfl⟩
        rw [← hsz e (by simp), okEls_len hz e (by simp)]
      subst he
      obtain ⟨news, h1, h2⟩ := load_flat (P := P) (c := c) hsz (b := b) (o := off) (fun k e j a hk hj => ⟨_, hf k e j a hk hj, hr k e j a hk hj⟩)
      exact ⟨news, h1, loaded b off _ n news h1 h2 rfl, fun _ => hcl⟩
  · rename_i i ep off n cap
    split at h
    · rename_i r hg
      split at h
      · rename_i hle
        cases h
        obtain ⟨cap', rfl, hn, _, _, hep, _⟩ := hy.msl_inv (sig_of hg)
        have hv := hH.var i r (getO_some hg).1
        have hlen : ((r.es.drop off).take n).length = n := by simp; omega
        have hidx : ∀ k, k < n → ((r.es.drop off).take n)[k]? = r.es[off + k]? := by
          intro k hk; simp [hk]
        by_cases hn0 : n = 0
        · subst hn0
          refine ⟨[], ⟨by simp, by simp⟩, ⟨fun w' => by simp [Builtin.lenOf], fun w' _ k hk => ?_⟩, fun _ => by simp [closedL]⟩
          have : k = 0 := by simpa using hk
          subst this
          simp [Builtin.firstCells, loadCells, loadCellsFrom]
        · have he : r.esz = esz := by
            have hlt : off < r.es.length := by omega
            have h1 := okEls_len hv.sz r.es[off] (List.getElem_mem hlt)
            have h2 : r.es[off] ∈ (r.es.drop off).take n := by
              apply List.mem_of_getElem? (i := 0)
              rw [hidx 0 (by omega)]; simp [hlt]
            rw [← h1, okEls_len hz _ h2]
          subst he
          obtain ⟨news, h1, h2⟩ := load_flat (P := P) (c := c) (esz := r.esz) (ys := (r.es.drop off).take n) (okEls_len hz) (b := c.m i) (o := off * r.esz) (fun k e j a hk hj => by
            have hk' : k < n := by have := (List.getElem?_eq_some_iff.1 hk).1; rw [hlen] at this; exact this
            rw [hidx k hk'] at hk
            obtain ⟨v, h1, h2⟩ := hH.cell hg hk hj
            exact ⟨v, by rw [← Nat.add_assoc, ← Nat.add_mul]; exact h1, h2⟩)
          exact ⟨news, h1, loaded _ _ n cap' news h1 h2 hlen.symm, fun hcl => closedL_take _ _ (closedL_drop _ _ (hv.cl hcl))⟩
      · cases h
    · cases h
  · rename_i s
    cases h
    rw [hy.str_inv]
    refine ⟨s.map fun b => Value.int .u8 b.toNat, ?_, ⟨fun w' => by simp [Builtin.lenOf]; rfl, fun w' _ k hk => ?_⟩, fun _ => ?_⟩
    · refine ⟨?_, ?_⟩
      · cases s with
        | nil => simp
        | cons b s =>
          have := okEls_len hz (.int .u8 b.toNat) (by simp)
          simp [flat] at this
          subst this; simp
      · intro k e j a hk hj
        simp only [List.getElem?_map, Option.map_eq_some_iff] at hk
        obtain ⟨b, hb, rfl⟩ := hk
        have h1 := okEls_len hz (.int .u8 b.toNat) (by simp only [List.mem_map]; exact ⟨b, List.mem_of_getElem? hb, rfl⟩)
        simp [flat] at h1
        subst h1
        cases j with
        | zero => simp [flat] at hj; subst hj; exact ⟨_, by simp [hb], .int _ _⟩
        | succ j => simp [flat] at hj
    · have hk' : k ≤ s.length := by simpa using hk
      simp only [Builtin.firstCells]
      cases s with
      | nil =>
        have : k = 0 := by simpa using hk'
        subst this; simp
      | cons b s =>
        have h1 := okEls_len hz (.int .u8 b.toNat) (by simp)
        simp [flat] at h1
        subst h1
        simp [ByteArray.data_extract]
    · clear hz hy loaded
      induction s with
      | nil => rfl
      | cons b s ih => simp [closedL, closed, ih]
  · cases h

/-- the cells of a list of elements in an array: those of a first part, then of a second one -/
theorem CellsOK.append {esz : Nat} {xs ys : List AV} {olds news rest : List Value} (h1 : NewsR P c esz xs olds) (h2 : NewsR P c esz ys news) :
    CellsOK P c esz (xs ++ ys) (olds ++ news ++ rest).toArray := by
  refine ⟨?_, ?_⟩
  · simp only [List.length_append, List.size_toArray, h1.1, h2.1, Nat.add_mul]; omega
  · intro k e j a hk hj
    have hsmall : ∀ (zs : List AV) (vs : List Value), NewsR P c esz zs vs → ∀ k, zs[k]? = some e → k * esz + j < vs.length ∨ ∃ v, vs[k * esz + j]? = some v ∧ Rep P c a v :=
      fun zs vs h k hk => .inr (h.2 k e j a hk hj)
    by_cases hlt : k < xs.length
    · rw [List.getElem?_append_left hlt] at hk
      obtain ⟨v, hv, hr⟩ := h1.2 k e j a hk hj
      refine ⟨v, ?_, hr⟩
      have := (List.getElem?_eq_some_iff.1 hv).1
      simp only [List.getElem?_toArray]
      rw [List.append_assoc, List.getElem?_append_left this]; exact hv
    · rw [List.getElem?_append_right (by omega)] at hk
      obtain ⟨v, hv, hr⟩ := h2.2 (k - xs.length) e j a hk hj
      refine ⟨v, ?_, hr⟩
      have hl := (List.getElem?_eq_some_iff.1 hv).1
      have e1 : k * esz + j = olds.length + ((k - xs.length) * esz + j) := by
        rw [h1.1]
        have : k = xs.length + (k - xs.length) := by omega
        conv => lhs; rw [this, Nat.add_mul]
        omega
      simp only [List.getElem?_toArray]
      rw [e1, List.append_assoc, List.getElem?_append_right (by omega), Nat.add_sub_cancel_left, List.getElem?_append_left hl]
      exact hv

end
end Go.Ev
end

section
/- The operations that make memory, and that write. -/
namespace Go.Ev

section
variable {P : Program} {c : Cx} {v : AV} {H' : Heap} {clk' : Nat}

/-- the context with a new object -/
def newCx (c : Cx) (w1 : World) (ty esz : Nat) (es : List AV) (cl : Bool) (arr : Array Value) : Cx :=
  ⟨c.H ++ [.var ⟨true, ty, esz, es, cl, c.clk, 0⟩], upd c.m c.H.length c.w.heap.size, c.clk + 1, { w1 with heap := w1.heap.push (.cells arr ty) }, c.x⟩

theorem newCx_le (hH : HR P c) {w1 : World} (hs : Same c.w w1) (hh : w1.heap = c.w.heap) {ty esz : Nat} {es : List AV} {cl : Bool} {arr : Array Value}
    (hz : okEls esz es = true) (hcl : cl = true → closedL es = true) (hc : CellsOK P c esz es arr) :
    c.le (newCx c w1 ty esz es cl arr) ∧ HR P (newCx c w1 ty esz es cl arr) ∧
      (∀ k j, Rep P (newCx c w1 ty esz es cl arr) (.ptr c.H.length c.clk k j) (.pointer (some ⟨c.w.heap.size, k * esz + j, none⟩))) ∧
      (∀ n cap', n ≤ cap' → cap' * esz ≤ arr.size → ∀ cap : Option Nat, (∀ x, cap = some x → cap' = x) → (cap = none → es.length ≤ cap') →
        Rep P (newCx c w1 ty esz es cl arr) (.msl c.H.length c.clk 0 n cap) (.slice (some ⟨c.w.heap.size, 0, none⟩) n cap')) := by
  obtain ⟨h1, h2, h3, h4, h5⟩ := Cx.le.new hH hs hh (ty := ty) hz hcl hc
  refine ⟨h1, h2, fun k j => ?_, fun n cap' hn hsz cap hcap hL => ?_⟩
  · have := Rep.ptr (P := P) (c := newCx c w1 ty esz es cl arr) (k := k) (j := j) h3 (Nat.lt_succ_self _)
    rw [show (newCx c w1 ty esz es cl arr).m c.H.length = c.w.heap.size from h4] at this
    exact this
  · have := Rep.msl (P := P) (c := newCx c w1 ty esz es cl arr) (off := 0) (n := n) (cap' := cap') (cap := cap) h3 (Nat.lt_succ_self _) hn hcap (fun h => by simpa using hL h)
      (by rw [show (newCx c w1 ty esz es cl arr).m c.H.length = c.w.heap.size from h4, show bsize (newCx c w1 ty esz es cl arr).w c.w.heap.size = arr.size from h5]; simpa using hsz)
    rw [show (newCx c w1 ty esz es cl arr).m c.H.length = c.w.heap.size from h4] at this
    simpa using this

theorem World.same_drew (w : World) : Same w w.drew := ⟨rfl, rfl, rfl⟩
theorem Same.refl (w : World) : Same w w := ⟨rfl, rfl, rfl⟩

theorem CellsOK.of_news {esz : Nat} {ys : List AV} {news rest : List Value} (h : NewsR P c esz ys news) : CellsOK P c esz ys (news ++ rest).toArray := by
  have := CellsOK.append (P := P) (c := c) (esz := esz) (xs := []) (olds := []) (rest := rest) ⟨by simp, by simp⟩ h
  simpa using this

theorem ne_junk_of_okEl {esz : Nat} {x : AV} (h : okEl esz x = true) : x ≠ .junk := by
  rintro rfl; simp [okEl, flat, isCell] at h

/-- one element out of a value -/
theorem NewsR.one {x : AV} {vx : Value} {esz : Nat} (hz : okEl esz x = true) (hx : Rep P c x vx) : NewsR P c esz [x] vx.cells.toList := by
  obtain ⟨h1, h2⟩ := hx.cells (ne_junk_of_okEl hz)
  refine ⟨by simp [h1, okEl_len hz], fun k e j a hk hj => ?_⟩
  cases k with
  | succ k => simp at hk
  | zero =>
    simp at hk; subst hk
    have hlt := (List.getElem?_eq_some_iff.1 hj).1
    rw [← h1] at hlt
    exact ⟨vx.cells[j], by simp [hlt], h2 j a _ hj (Array.getElem?_eq_getElem hlt)⟩

theorem op_box (hH : HR P c) {t : TypeId} {x : AV} {sz : Nat} {vx : Value} (hx : Rep P c x vx) (h : evOp (.box t sz x) c.H c.clk = some (v, H', clk')) : DoneV P c (Instr.box t vx) v H' clk' := by
  simp only [evOp] at h
  split at h
  · rename_i hz
    cases h
    obtain ⟨h1, h2, h3, _⟩ := newCx_le hH (Same.refl c.w) rfl (ty := t) (esz := sz) (es := [x]) (cl := false) (arr := vx.cells) (by simp [okEls, hz]) (by simp)
      (by have := CellsOK.of_news (rest := []) (NewsR.one hz hx); simpa using this)
    refine ⟨.pointer (some ⟨c.w.heap.size, 0, none⟩), _, _, ?_, h1, h2, by have := h3 0 0; rw [Nat.zero_mul] at this; exact this⟩
    simp only [Instr.box, newVar, newRow, Sem.run_bind, run_newObj, Result.andThen_ok, Sem.run_pure]
  · cases h

theorem grp_flat {sz : Nat} {ag : Bool} {cells : List AV} {n : Nat} (hn : n * sz = cells.length) (h1 : ag = false → sz = 1 ∧ cells.all isCell = true) {k : Nat} {e a : AV} {j : Nat}
    (hk : (grp sz ag cells n)[k]? = some e) (hj : (flat e)[j]? = some a) : cells[k * sz + j]? = some a := by
  have hlt : k < n := by have := (List.getElem?_eq_some_iff.1 hk).1; simpa [grp] using this
  simp only [grp, List.getElem?_map, List.getElem?_range hlt, Option.map_some, Option.some.injEq] at hk
  cases ag with
  | true =>
    simp only [if_true] at hk
    subst hk
    simp only [flat, List.getElem?_take, List.getElem?_drop] at hj
    split at hj
    · exact hj
    · cases hj
  | false =>
    obtain ⟨rfl, hc⟩ := h1 rfl
    simp only [Bool.false_eq_true, if_false] at hk
    have hlt2 : k < cells.length := by omega
    have he : e = cells[k] := by rw [← hk]; simp [List.getD, hlt2]
    have hcell : isCell e = true := by rw [he]; exact List.all_eq_true.1 hc _ (List.getElem_mem hlt2)
    cases j with
    | zero =>
      have : a = e := by
        cases e <;> first | (simp [flat] at hj; exact hj.symm) | cases hcell
      subst this
      simp [he]
    | succ j => cases e <;> first | (simp [flat] at hj; done) | cases hcell

theorem op_alloc (hH : HR P c) {t : TypeId} {cop : COp Ref} (hc : compAlloc P t = some cop) {g : Ref → AV} (h : evOp (cop.map g) c.H c.clk = some (v, H', clk')) :
    DoneV P c (Instr.alloc t true (.tuple #[])) v H' clk' := by
  unfold compAlloc at hc
  split at hc
  case h_2 => cases hc
  rename_i i d hi hd
  split at hc
  · cases hc
  rename_i z hz
  have fin : ∀ (esz : Nat) (es : List AV), cop = .alloc t esz es → CellsOK P c esz es z.cells → DoneV P c (Instr.alloc t true (.tuple #[])) v H' clk' := by
    intro esz es hcop hcell
    subst hcop
    simp only [COp.map, evOp] at h
    split at h
    · rename_i hok
      cases h
      obtain ⟨h1, h2, h3, _⟩ := newCx_le hH (Same.refl c.w) rfl (ty := t) (esz := esz) (es := es) (cl := false) (arr := z.cells) hok (by simp) hcell
      refine ⟨.pointer (some ⟨c.w.heap.size, 0, none⟩), _, _, ?_, h1, h2, by have := h3 0 0; rw [Nat.zero_mul] at this; exact this⟩
      have hzv : (zeroValue t).run P c.w = .ok z c.w := by simp [zeroValue, typeInfo, hi, hz]
      simp only [Instr.alloc, Sem.run_bind, hzv, Result.andThen_ok, newVar, newRow, run_newObj, Sem.run_pure]
    · cases h
  have hrep := valAVf_rep P c 4
  split at hc
  · rename_i n e
    split at hc
    · rename_i ag sz htag
      split at hc
      · cases hc
      · rename_i hnn
        split at hc
        · rename_i hns
          cases hc
          refine fin sz _ rfl ⟨by simp [grp, hns], ?_⟩
          intro k e' j a hk hj
          have hcell := grp_flat (cells := z.cells.toList.map valAV) (by simpa using hns) (fun hag => by
            have := hnn
            simp only [hag, true_and, not_or, ne_eq, Decidable.not_not, Bool.not_eq_false] at this
            exact this) hk hj
          simp only [List.getElem?_map, Array.getElem?_toList, Option.map_eq_some_iff] at hcell
          obtain ⟨w, hw, rfl⟩ := hcell
          exact ⟨w, hw, hrep w⟩
        · cases hc
    · cases hc
  · cases hc
    by_cases hok : okEl i.size (valAV z) = true
    · refine fin i.size _ rfl ?_
      have := CellsOK.of_news (rest := []) (NewsR.one hok (hrep z))
      simpa using this
    · simp only [COp.map, evOp] at h
      split at h
      · rename_i hh; simp [okEls, hok] at hh
      · cases h

theorem List.getElem?_seg {α : Type} (l vs : List α) (p q : Nat) (h : p + vs.length ≤ l.length) :
    (l.take p ++ vs ++ l.drop (p + vs.length))[q]? = if q < p then l[q]? else if q < p + vs.length then vs[q - p]? else l[q]? := by
  have hp : (l.take p).length = p := by simp; omega
  by_cases h1 : q < p
  · simp only [h1, if_true, List.append_assoc]
    rw [List.getElem?_append_left (by omega)]
    simp [h1]
  · simp only [h1, if_false]
    by_cases h2 : q < p + vs.length
    · simp only [h2, if_true, List.append_assoc]
      rw [List.getElem?_append_right (by omega), hp, List.getElem?_append_left (by omega)]
    · simp only [h2, if_false]
      rw [List.getElem?_append_right (by simp; omega)]
      simp only [List.length_append, hp, List.getElem?_drop]
      congr 1
      omega

theorem List.length_seg {α : Type} (l vs : List α) (p : Nat) (h : p + vs.length ≤ l.length) : (l.take p ++ vs ++ l.drop (p + vs.length)).length = l.length := by
  simp only [List.length_append, List.length_take, List.length_drop]
  omega

/-- a world in which an own object's cells have been written -/
theorem put_world {w : World} {b : Nat} {arr arr' : Array Value} {t : TypeId} (hb : w.heap[b]? = some (.cells arr t (0, 0))) :
    Same w (w.setRow b arr') ∧ (w.setRow b arr').heap.size = w.heap.size ∧ (w.setRow b arr').heap[b]? = some (.cells arr' t (0, 0)) ∧ ∀ k, k ≠ b → (w.setRow b arr').heap[k]? = w.heap[k]? :=
  ⟨⟨rfl, rfl, rfl⟩, by simp [World.setRow], setRow_heap w b arr arr' t (0, 0) hb, fun k hk => setRow_other w b k arr' hk⟩

theorem op_store (hH : HR P c) {t : TypeId} {ti : TypeInfo} (hi : P.info? t = some ti) {x y : AV} {vx vy : Value} (hx : Rep P c x vx) (hy : Rep P c y vy)
    (h : evOp (.store ti.size x y) c.H c.clk = some (v, H', clk')) :
    ∃ m' w', (Instr.storeAt t vx vy).run P c.w = .ok () w' ∧ v = .junk ∧ c.le ⟨H', m', clk', w', c.x⟩ ∧ HR P ⟨H', m', clk', w', c.x⟩ := by
  simp only [evOp] at h
  split at h
  case isFalse => cases h
  rename_i hok
  split at h
  case h_2 => cases h
  rename_i i ep k j
  split at h
  case h_2 => cases h
  rename_i r hg
  split at h
  case h_2 => cases h
  rename_i e hk
  split at h
  case isFalse => cases h
  rename_i hown
  simp only [Option.bind_eq_some_iff] at h
  obtain ⟨e', he', h⟩ := h
  cases h
  obtain ⟨rfl, hep⟩ := hx.ptr_inv (sig_of hg)
  obtain ⟨hri, hrep⟩ := getO_some hg
  have hv := hH.var i r hri
  obtain ⟨arr, fz, hb, hfz, hle, hcells⟩ := hv.cells
  have hfz0 := hfz hown
  subst hfz0
  have hyj := ne_junk_of_okEl hok
  obtain ⟨hcs, hcr⟩ := hy.cells hyj
  have hlen := okEl_len hok
  have hklt := (List.getElem?_eq_some_iff.1 hk).1
  have hel := okEls_len hv.sz e (List.mem_of_getElem? hk)
  -- the element's cells as they were, but for a segment
  have hput : j + (flat y).length ≤ (flat e).length ∧ (flat e').length = (flat e).length ∧ (∀ q, (flat e')[q]? = if q < j then (flat e)[q]? else if q < j + (flat y).length then (flat y)[q - j]? else (flat e)[q]?) ∧
      ((∀ a ∈ flat e, isCell a = true) → ∀ a ∈ flat e', isCell a = true) ∧ (closed e = true → closedL (flat y) = true → closed e' = true) := by
    have hycell := okEl_cell hok
    unfold putCells at he'
    split at he'
    · rename_i xs
      split at he'
      · rename_i hl
        cases he'
        refine ⟨hl, ?_, fun q => ?_, fun h a ha => ?_, fun h1 h2 => ?_⟩
        · show (xs.take j ++ flat y ++ xs.drop (j + (flat y).length)).length = xs.length
          have hl' : j + (flat y).length ≤ xs.length := hl
          simp only [List.length_append, List.length_take, List.length_drop]
          omega
        · exact List.getElem?_seg xs (flat y) j q hl
        · have ha' : a ∈ xs.take j ++ flat y ++ xs.drop (j + (flat y).length) := ha
          simp only [List.mem_append] at ha'
          rcases ha' with (ha | ha) | ha
          · exact h a (List.mem_of_mem_take ha)
          · exact hycell a ha
          · exact h a (List.mem_of_mem_drop ha)
        · simp only [closed] at h1 ⊢
          rw [closedL_append, closedL_append, closedL_take _ _ h1, closedL_drop _ _ h1, h2]; rfl
      · cases he'
    · rename_i hne
      split at he'
      · rename_i hj0
        subst hj0
        cases hfl : flat y with
        | nil => rw [hfl] at he'; cases he'
        | cons a l =>
          rw [hfl] at he'
          cases l with
          | cons _ _ => cases he'
          | nil =>
          cases he'
          have hca : isCell e' = true := hycell e' (by rw [hfl]; simp)
          have h1 : flat e' = [e'] := by cases e' <;> first | rfl | cases hca
          have h2 : flat e = [e] := by cases e <;> first | rfl | exact absurd rfl (hne _)
          rw [h1, h2]
          refine ⟨by simp, rfl, fun q => ?_, fun _ b hb => by simp at hb; subst hb; exact hca, fun _ h => by simpa [closedL] using h⟩
          cases q <;> simp
      · cases he'
  obtain ⟨hp1, hp2, hp3, hp4, hp5⟩ := hput
  have hseg : k * r.esz + j + vy.cells.toList.length ≤ arr.size := by
    have : (k + 1) * r.esz ≤ r.es.length * r.esz := Nat.mul_le_mul_right _ hklt
    rw [Nat.add_mul] at this
    simp only [Array.length_toList, hcs]
    omega
  have hone : ∀ u ∈ vy.cells.toList, u.oneCell' = true := by
    intro u hu
    obtain ⟨q, hq⟩ := List.getElem?_of_mem hu
    rw [Array.getElem?_toList] at hq
    have hlt : q < (flat y).length := by rw [← hcs]; exact (Array.getElem?_eq_some_iff.1 hq).1
    exact isCell_one (okEl_cell hok _ (List.getElem_mem hlt)) (hcr q _ _ (List.getElem?_eq_getElem hlt) hq)
  have hst := run_storeCells_at P (c.m i) (k * r.esz + j) r.ty vy.cells.toList 0 arr c.w hb (by simpa using hseg) hone
  simp only [Nat.add_zero] at hst
  obtain ⟨w1, w2, w3, w4⟩ := put_world (arr' := (arr.toList.take (k * r.esz + j) ++ vy.cells.toList ++ arr.toList.drop (k * r.esz + j + vy.cells.toList.length)).toArray) hb
  have hes' : okEls r.esz (r.es.set k e') = true := by
    simp only [okEls, List.all_eq_true]
    intro y' hy'
    rcases List.mem_or_eq_of_mem_set hy' with h | rfl
    · exact okEls_mem hv.sz y' h
    · simp only [okEl, Bool.and_eq_true, beq_iff_eq, List.all_eq_true]
      exact ⟨by rw [hp2, hel], hp4 (okEl_cell (okEls_mem hv.sz e (List.mem_of_getElem? hk)))⟩
  obtain ⟨hle', hH'⟩ := Cx.le.put hH w1 (r' := { r with es := r.es.set k e', cl := r.cl && closedL (flat y), ver := r.ver + 1 }) hri hown hown rfl rfl (by simp) rfl hb
    (by rw [List.size_toArray, List.length_seg _ _ _ (by simpa using hseg), Array.length_toList]) w2 w3 w4 hes' (fun hcl => by
      simp only [Bool.and_eq_true] at hcl
      have hall := hv.cl hcl.1
      have : ∀ (l : List AV) (k : Nat), closedL l = true → (∀ z, l[k]? = some z → closed z = true → closed e' = true) → closedL (l.set k e') = true := by
        intro l
        induction l with
        | nil => intro k _ _; simp [closedL]
        | cons z l ih =>
          intro k h hz
          simp only [closedL, Bool.and_eq_true] at h
          cases k with
          | zero => simp only [List.set_cons_zero, closedL, Bool.and_eq_true]; exact ⟨hz z rfl h.1, h.2⟩
          | succ k => simp only [List.set_cons_succ, closedL, Bool.and_eq_true]; exact ⟨h.1, ih k h.2 (fun z' hz' => hz z' (by simpa using hz'))⟩
      exact this r.es k hall (fun z hz hcz => by rw [hk] at hz; cases hz; exact hp5 hcz hcl.2))
    ⟨by rw [List.size_toArray, List.length_seg _ _ _ (by simpa using hseg), Array.length_toList]; simpa using hle, fun k2 e2 j2 a2 hk2 hj2 => by
      simp only [List.getElem?_toArray]
      rw [List.getElem?_seg _ _ _ _ (by simpa using hseg)]
      simp only [List.getElem?_set] at hk2
      split at hk2
      · rename_i hkk
        subst hkk
        cases hk2
        rw [hp3] at hj2
        split at hj2
        · rename_i hq
          have : k * r.esz + j2 < k * r.esz + j := by omega
          simp only [this, if_true, Array.getElem?_toList]
          exact hcells k e j2 a2 hk hj2
        · rename_i hq
          have h0 : ¬ k * r.esz + j2 < k * r.esz + j := by omega
          simp only [h0, if_false]
          split at hj2
          · rename_i hq2
            have h1 : k * r.esz + j2 < k * r.esz + j + vy.cells.toList.length := by simp only [Array.length_toList, hcs]; omega
            simp only [h1, if_true, Array.getElem?_toList]
            have hlt : j2 - j < vy.cells.size := by rw [hcs]; omega
            rw [show k * r.esz + j2 - (k * r.esz + j) = j2 - j by omega]
            exact ⟨_, Array.getElem?_eq_getElem hlt, hcr _ _ _ hj2 (Array.getElem?_eq_getElem hlt)⟩
          · rename_i hq2
            have h1 : ¬ k * r.esz + j2 < k * r.esz + j + vy.cells.toList.length := by simp only [Array.length_toList, hcs]; omega
            simp only [h1, if_false, Array.getElem?_toList]
            exact hcells k e j2 a2 hk hj2
      · rename_i hkk
        have hj2lt := (List.getElem?_eq_some_iff.1 hj2).1
        rw [okEls_len hv.sz e2 (List.mem_of_getElem? hk2)] at hj2lt
        have hout : k2 * r.esz + j2 < k * r.esz + j ∨ k * r.esz + j + vy.cells.toList.length ≤ k2 * r.esz + j2 := by
          simp only [Array.length_toList, hcs]
          rcases Nat.lt_or_gt_of_ne hkk with h | h
          · right
            have : (k + 1) * r.esz ≤ k2 * r.esz := Nat.mul_le_mul_right _ h
            rw [Nat.add_mul] at this; omega
          · left
            have : (k2 + 1) * r.esz ≤ k * r.esz := Nat.mul_le_mul_right _ h
            rw [Nat.add_mul] at this; omega
        have hgoal := hcells k2 e2 j2 a2 hk2 hj2
        rcases hout with ho | ho
        · simp only [ho, if_true, Array.getElem?_toList]; exact hgoal
        · have h0 : ¬ k2 * r.esz + j2 < k * r.esz + j := by omega
          have h1 : ¬ k2 * r.esz + j2 < k * r.esz + j + vy.cells.toList.length := by omega
          simp only [h0, h1, if_false, Array.getElem?_toList]; exact hgoal⟩
  refine ⟨c.m, _, ?_, rfl, hle', hH'⟩
  have hsz : (sizeOf t).run P c.w = .ok ti.size c.w := by simp [sizeOf, typeInfo, hi]
  have hsz2 : vy.cells.size = ti.size := by rw [hcs, hlen]
  simp only [Instr.storeAt, Instr.sureAddr, storeVar, Sem.run_bind, Sem.run_pure, Result.andThen_ok, hsz, hsz2, ne_eq, not_true_eq_false, if_false, Sem.run_ite]
  exact hst

end
end Go.Ev
end

section
/- append, copy, clear. -/
namespace Go.Ev

section
variable {P : Program} {c : Cx} {v : AV} {H' : Heap} {clk' : Nat}

/-- what append appends, as the model reckons it: its length, its cells -/
structure AppSrc (P : Program) (w : World) (t u : TypeId) (e : TypeId) (ti : TypeInfo) (z : Value) (y : Value) (n : Nat) (news : List Value) : Prop where
  under : P.underlying t = some (.slice e)
  info : P.info? e = some ti
  zero : ti.zero = some z
  zsz : z.cells.size = ti.size
  src : ((∃ d, P.underlying u = some d ∧ (∀ k, d ≠ .int k)) ∧ (∀ w', (Builtin.lenOf y).run P w' = .ok n w') ∧ ∀ w', w'.heap = w.heap → (Builtin.firstCells ti.size n y).run P w' = .ok news.toArray w') ∨
    ((∃ k, P.underlying u = some (.int k)) ∧ (∃ k, y = .int k (n : Int)) ∧ n ≤ 1048576 ∧ ti.bytes ≤ 32768 ∧ (Builtin.zeroCells z.cells n) = news.toArray ∧ (n * ti.size = 0 → news = []))

theorem wrap64_small {n : Nat} (h : n ≤ 1048576) : IntKind.i64.wrap (n : Int) = n := by
  rw [← wrapK_eq]; exact wrap64 (by omega)

theorem AppSrc.room {w : World} {t u e : TypeId} {ti : TypeInfo} {z y : Value} {n : Nat} {news : List Value} (h : AppSrc P w t u e ti z y n news) {ty : TypeId} {a : Option Addr} {sLen sCap : Nat} {w' : World}
    (hroom : sLen + n ≤ sCap) (hst : (match a with | some a => storeCells (a.add (sLen * ti.size)) news | none => pure () : Sem Unit).run P w = .ok () w') :
    (Builtin.append_ #[t, u] ty #[.slice a sLen sCap, y]).run P w = .ok (.slice a (sLen + n) sCap) w' := by
  have hsize : ∀ w, (sizeOf e).run P w = .ok ti.size w := fun w => by simp [sizeOf, typeInfo, h.info]
  have hinfo : ∀ w, (typeInfo e).run P w = .ok ti w := fun w => by simp [typeInfo, h.info]
  have hzero : ∀ w, (zeroValue e).run P w = .ok z w := fun w => by simp [zeroValue, typeInfo, h.info, h.zero]
  rcases h.src with ⟨⟨d, hd, hnd⟩, hl, hf⟩ | ⟨⟨k, hd⟩, ⟨k', rfl⟩, hn, hby, hzc, hz0⟩
  · cases a with
    | none =>
      cases hst
      simp only [Builtin.append_]
      simp [run_underlying h.under, run_underlying hd, hsize, hl, hroom, hf w rfl]
    | some a =>
      simp only [Builtin.append_]
      simp only [] at hst
      simp [run_underlying h.under, run_underlying hd, hsize, hl, hroom, hf w rfl, hst]
  · have hwr := wrap64_small hn
    have h48 : ¬ ((281474976710656 : Int) < (n : Int) * (ti.bytes : Int)) := by
      have : n * ti.bytes ≤ 1048576 * 32768 := Nat.mul_le_mul hn hby
      have : ((n * ti.bytes : Nat) : Int) ≤ 34359738368 := by omega
      rw [Int.natCast_mul] at this
      omega
    have hneg : ¬ ((n : Int) < 0) := by omega
    by_cases h0 : n * ti.size = 0
    · have hnews := hz0 h0
      subst hnews
      cases a with
      | none =>
        cases hst
        simp only [Builtin.append_]
        simp [run_underlying h.under, run_underlying hd, hsize, hinfo, asInt, asIntOf, hwr, hneg, h48, hroom, h0]
      | some a =>
        simp only [] at hst
        simp only [Builtin.append_]
        simp [run_underlying h.under, run_underlying hd, hsize, hinfo, asInt, asIntOf, hwr, hneg, h48, hroom, h0, hst]
    · cases a with
      | none =>
        cases hst
        simp only [Builtin.append_]
        simp [run_underlying h.under, run_underlying hd, hsize, hinfo, asInt, asIntOf, hwr, hneg, h48, hroom, hzero]
      | some a =>
        simp only [] at hst
        simp only [Builtin.append_]
        simp [run_underlying h.under, run_underlying hd, hsize, hinfo, asInt, asIntOf, hwr, hneg, h48, hroom, h0, hzero, hzc, hst]

/-- append where the array is full: a new one -/
theorem AppSrc.grow {w : World} {t u e : TypeId} {ti : TypeInfo} {z y : Value} {n : Nat} {news : List Value} (h : AppSrc P w t u e ti z y n news) {ty : TypeId} {a : Option Addr} {sLen sCap : Nat} {olds : List Value}
    (hg : sCap < sLen + n) (hm : sLen + n ≤ mostLen) (hby : ti.bytes ≤ 32768) (hold : ∀ w', w'.heap = w.heap → (Builtin.firstCells ti.size sLen (.slice a sLen sCap)).run P w' = .ok olds.toArray w') :
    ∃ cap', sLen + n ≤ cap' ∧ (Builtin.append_ #[t, u] ty #[.slice a sLen sCap, y]).run P w =
      .ok (.slice (some ⟨w.heap.size, 0, none⟩) (sLen + n) cap') { w.drew with heap := w.drew.heap.push (.cells (olds ++ news ++ (Builtin.zeroCells z.cells (cap' - (sLen + n))).toList).toArray e) } := by
  have hsize : ∀ w, (sizeOf e).run P w = .ok ti.size w := fun w => by simp [sizeOf, typeInfo, h.info]
  have hinfo : ∀ w, (typeInfo e).run P w = .ok ti w := fun w => by simp [typeInfo, h.info]
  have hzero : ∀ w, (zeroValue e).run P w = .ok z w := fun w => by simp [zeroValue, typeInfo, h.info, h.zero]
  have hroom : ¬ sLen + n ≤ sCap := by omega
  have hmost : mostLen = 2147483648 := rfl
  have h63 : ¬ ((9223372036854775807 : Int) < (sLen : Int) + (n : Int)) := by omega
  have hfit : ¬ (281474976710656 < Builtin.nextslicecap (sLen + n) sCap * ti.bytes) := by
    have h1 : (sLen + n) * ti.bytes ≤ 2147483648 * 32768 := Nat.mul_le_mul (by omega) hby
    have := growslice_fits hg (bytes := ti.bytes) (by omega)
    omega
  refine ⟨grownCap w (sLen + n) sCap e, grownCap_ge w (sLen + n) sCap e, ?_⟩
  have ho := hold w.drew rfl
  rcases h.src with ⟨⟨d, hd, hnd⟩, hl, hf⟩ | ⟨⟨k, hd⟩, ⟨k', rfl⟩, hn, hby', hzc, hz0⟩
  · have hf' := hf w.drew rfl
    simp only [Builtin.append_]
    simp [run_underlying h.under, run_underlying hd, hsize, hinfo, hzero, hl, hroom, h63, hfit, Question.forced, ho, hf', newRow, grownCap]
    exact congrArg (fun A => w.drew.alloc (Obj.cells A e)) (by simp)
  · have hwr := wrap64_small hn
    have h48 : ¬ ((281474976710656 : Int) < (n : Int) * (ti.bytes : Int)) := by
      have : n * ti.bytes ≤ 1048576 * 32768 := Nat.mul_le_mul hn hby'
      have : ((n * ti.bytes : Nat) : Int) ≤ 34359738368 := by omega
      rw [Int.natCast_mul] at this
      omega
    have hneg : ¬ ((n : Int) < 0) := by omega
    by_cases h0 : n * ti.size = 0
    · have hnews := hz0 h0
      subst hnews
      simp only [Builtin.append_]
      simp [run_underlying h.under, run_underlying hd, hsize, hinfo, hzero, asInt, asIntOf, hwr, hneg, h48, hroom, h63, hfit, h0, Question.forced, ho, newRow, grownCap]
      exact congrArg (fun A => w.drew.alloc (Obj.cells A e)) (by simp)
    · simp only [Builtin.append_]
      simp [run_underlying h.under, run_underlying hd, hsize, hinfo, hzero, asInt, asIntOf, hwr, hneg, h48, hroom, h63, hfit, h0, hzc, Question.forced, ho, newRow, grownCap]
      exact congrArg (fun A => w.drew.alloc (Obj.cells A e)) (by simp)

theorem NewsR.append {esz : Nat} {xs ys : List AV} {olds news : List Value} (h1 : NewsR P c esz xs olds) (h2 : NewsR P c esz ys news) : NewsR P c esz (xs ++ ys) (olds ++ news) := by
  refine ⟨by simp [h1.1, h2.1, Nat.add_mul], fun k e j a hk hj => ?_⟩
  obtain ⟨v, hv, hr⟩ := (CellsOK.append (rest := []) h1 h2).2 k e j a hk hj
  exact ⟨v, by simpa using hv, hr⟩

theorem NewsR.take {esz : Nat} {xs : List AV} {news : List Value} (h : NewsR P c esz xs news) (n : Nat) (hsz : ∀ e ∈ xs, (flat e).length = esz) : NewsR P c esz (xs.take n) (news.take (n * esz)) := by
  refine ⟨?_, fun k e j a hk hj => ?_⟩
  · simp only [List.length_take, h.1]
    rcases Nat.le_total n xs.length with hn | hn
    · rw [Nat.min_eq_left hn, Nat.min_eq_left (Nat.mul_le_mul_right _ hn)]
    · rw [Nat.min_eq_right hn, Nat.min_eq_right (Nat.mul_le_mul_right _ hn)]
  · rw [List.getElem?_take] at hk
    split at hk
    · rename_i hlt
      obtain ⟨v, hv, hr⟩ := h.2 k e j a hk hj
      refine ⟨v, ?_, hr⟩
      have hjl := (List.getElem?_eq_some_iff.1 hj).1
      rw [hsz e (List.mem_of_getElem? hk)] at hjl
      have : (k + 1) * esz ≤ n * esz := Nat.mul_le_mul_right _ hlt
      rw [Nat.add_mul] at this
      rw [List.getElem?_take, if_pos (by omega)]; exact hv
    · cases hk

theorem news_one {esz : Nat} {ys : List AV} {news : List Value} (h : NewsR P c esz ys news) (hz : okEls esz ys = true) : ∀ u ∈ news, u.oneCell' = true := by
  intro u hu
  obtain ⟨q, hq⟩ := List.getElem?_of_mem hu
  obtain ⟨e, a, h1, h2, h3⟩ := news_cell h (okEls_len hz) hq
  exact isCell_one (okEl_cell (okEls_mem hz e (List.mem_of_getElem? h1)) a (List.mem_of_getElem? h2)) h3

/-- an object's cells, a segment of whole elements written -/
theorem CellsOK.seg {esz : Nat} {es ys : List AV} {arr : Array Value} {news : List Value} {p : Nat} (h : CellsOK P c esz es arr) (hn : NewsR P c esz ys news) (hp : p + ys.length ≤ es.length) (hsz : ∀ e ∈ es, (flat e).length = esz) :
    CellsOK P c esz (es.take p ++ ys ++ es.drop (p + ys.length)) (arr.toList.take (p * esz) ++ news ++ arr.toList.drop (p * esz + news.length)).toArray ∧
      p * esz + news.length ≤ arr.size := by
  have hle : p * esz + news.length ≤ arr.size := by
    rw [hn.1, ← Nat.add_mul]; exact Nat.le_trans (Nat.mul_le_mul_right _ hp) h.1
  refine ⟨⟨?_, ?_⟩, hle⟩
  · rw [List.size_toArray, List.length_seg es ys p hp, List.length_seg arr.toList news (p * esz) (by simpa using hle)]; simpa using h.1
  · intro k e j a hk hj
    simp only [List.getElem?_toArray]
    rw [List.getElem?_seg _ _ _ _ (by simpa using hle)]
    rw [List.getElem?_seg _ _ _ _ hp] at hk
    split at hk
    · rename_i hlt
      have hjl := (List.getElem?_eq_some_iff.1 hj).1
      rw [hsz e (List.mem_of_getElem? hk)] at hjl
      have : (k + 1) * esz ≤ p * esz := Nat.mul_le_mul_right _ hlt
      rw [Nat.add_mul] at this
      rw [if_pos (by omega), Array.getElem?_toList]
      exact h.2 k e j a hk hj
    · rename_i hge
      have hpk : p * esz ≤ k * esz := Nat.mul_le_mul_right _ (by omega)
      split at hk
      · rename_i hlt
        obtain ⟨v, hv, hr⟩ := hn.2 (k - p) e j a hk hj
        have e1 : k * esz + j - p * esz = (k - p) * esz + j := by rw [Nat.sub_mul]; omega
        have hl := (List.getElem?_eq_some_iff.1 hv).1
        rw [if_neg (by omega), if_pos (by omega), e1]
        exact ⟨v, hv, hr⟩
      · rename_i hge2
        have : (p + ys.length) * esz ≤ k * esz := Nat.mul_le_mul_right _ (by omega)
        rw [Nat.add_mul, ← hn.1] at this
        rw [if_neg (by omega), if_neg (by omega), Array.getElem?_toList]
        exact h.2 k e j a hk hj

theorem okEls_take {esz n : Nat} {ys : List AV} (h : okEls esz ys = true) : okEls esz (ys.take n) = true := by
  simp only [okEls, List.all_eq_true] at h ⊢
  exact fun y hy => h y (List.mem_of_mem_take hy)

theorem okEls_drop {esz n : Nat} {ys : List AV} (h : okEls esz ys = true) : okEls esz (ys.drop n) = true := by
  simp only [okEls, List.all_eq_true] at h ⊢
  exact fun y hy => h y (List.mem_of_mem_drop hy)

/-- a segment of an own object's elements is written -/
theorem put_seg (hH : HR P c) {i : Nat} {r : VO} (hri : c.H[i]? = some (.var r)) (hown : r.own = true) {ys : List AV} {news : List Value} {p : Nat} {cl : Bool} (hn : NewsR P c r.esz ys news) (hz : okEls r.esz ys = true)
    (hp : p + ys.length ≤ r.es.length) (hcl : cl = true → closedL ys = true) :
    ∃ w', (storeCells ⟨c.m i, p * r.esz, none⟩ news).run P c.w = .ok () w' ∧
      c.le ⟨c.H.set i (.var { r with es := r.es.take p ++ ys ++ r.es.drop (p + ys.length), cl := r.cl && cl, ver := r.ver + 1 }), c.m, c.clk, w', c.x⟩ ∧
      HR P ⟨c.H.set i (.var { r with es := r.es.take p ++ ys ++ r.es.drop (p + ys.length), cl := r.cl && cl, ver := r.ver + 1 }), c.m, c.clk, w', c.x⟩ := by
  have hv := hH.var i r hri
  obtain ⟨arr, fz, hb, hfz, hle, hcells⟩ := hv.cells
  obtain rfl := hfz hown
  obtain ⟨hc2, hseg⟩ := CellsOK.seg (P := P) (c := c) (esz := r.esz) ⟨hle, hcells⟩ hn hp (okEls_len hv.sz)
  have hst := run_storeCells_at P (c.m i) (p * r.esz) r.ty news 0 arr c.w hb (by simpa using hseg) (news_one hn hz)
  simp only [Nat.add_zero] at hst
  obtain ⟨w1, w2, w3, w4⟩ := put_world (arr' := (arr.toList.take (p * r.esz) ++ news ++ arr.toList.drop (p * r.esz + news.length)).toArray) hb
  refine ⟨_, hst, ?_⟩
  exact Cx.le.put hH w1 (r' := { r with es := r.es.take p ++ ys ++ r.es.drop (p + ys.length), cl := r.cl && cl, ver := r.ver + 1 }) hri hown hown rfl rfl (List.length_seg _ _ _ hp) rfl hb
    (by rw [List.size_toArray, List.length_seg _ _ _ (by simpa using hseg), Array.length_toList]) w2 w3 w4
    (by rw [okEls_append, okEls_append, okEls_take hv.sz, okEls_drop hv.sz, hz]; rfl)
    (fun h => by
      simp only [Bool.and_eq_true] at h
      rw [closedL_append, closedL_append, closedL_take _ _ (hv.cl h.1), closedL_drop _ _ (hv.cl h.1), hcl h.2]; rfl) hc2

/-- append, as the evaluator does it -/
theorem append_sound (hH : HR P c) {t u e : TypeId} {ti : TypeInfo} {z : Value} {ys : List AV} {vy : Value} {news : List Value} {tyR : TypeId} (hsrc : AppSrc P c.w t u e ti z vy ys.length news) (hn : NewsR P c ti.size ys news)
    (hby : ti.bytes ≤ 32768) {x : AV} {vx : Value} (hx : Rep P c x vx) {cl : Bool} (hcl : cl = true → closedL ys = true)
    (h : append e ti.size x ys cl c.H c.clk = some (v, H', clk')) : DoneV P c (Builtin.append_ #[t, u] tyR #[vx, vy]) v H' clk' := by
  unfold append at h
  split at h
  · cases h
  rename_i hok
  have hz : okEls ti.size ys = true := by simpa using hok
  -- nothing is appended
  have empty : ys = [] → v = x → H' = c.H → clk' = c.clk → (∃ a n cap, vx = .slice a n cap ∧ n ≤ cap) → DoneV P c (Builtin.append_ #[t, u] tyR #[vx, vy]) v H' clk' := by
    rintro rfl rfl rfl rfl ⟨a, n, cap, rfl, hle⟩
    have hn0 : news = [] := List.eq_nil_of_length_eq_zero (by simpa using hn.1)
    subst hn0
    refine .same hH (hsrc.room (by simpa using hle) ?_) (by simpa using hx)
    cases a <;> simp [storeCells]
  -- a new array
  have fresh : ∀ (a : Option Addr) (n sCap : Nat) (xs : List AV) (olds : List Value) (cl2 : Bool), vx = .slice a n sCap → NewsR P c ti.size xs olds → n = xs.length → okEls ti.size xs = true → (cl2 = true → closedL xs = true) →
      (∀ w', w'.heap = c.w.heap → (Builtin.firstCells ti.size n (.slice a n sCap)).run P w' = .ok olds.toArray w') → sCap < n + ys.length → n + ys.length ≤ mostLen →
      v = .msl c.H.length c.clk 0 (n + ys.length) none → H' = c.H ++ [.var ⟨true, e, ti.size, xs ++ ys, cl2, c.clk, 0⟩] → clk' = c.clk + 1 → (cl2 = true → cl = true) →
      DoneV P c (Builtin.append_ #[t, u] tyR #[vx, vy]) v H' clk' := by
    rintro a n sCap xs olds cl2 rfl hold hnx hxz hxcl hload hg hm rfl rfl rfl hcc
    obtain ⟨cap', hcap, hrun⟩ := hsrc.grow (ty := tyR) (a := a) hg hm hby hload
    obtain ⟨h1, h2, _, h4⟩ := newCx_le hH (World.same_drew c.w) rfl (ty := e) (esz := ti.size) (es := xs ++ ys) (cl := cl2) (arr := (olds ++ news ++ (Builtin.zeroCells z.cells (cap' - (n + ys.length))).toList).toArray)
      (by rw [okEls_append, hxz, hz]; rfl) (fun h => by rw [closedL_append, hxcl h, hcl (hcc h)]; rfl) (CellsOK.append hold hn)
    refine ⟨_, _, _, hrun, h1, h2, h4 (n + ys.length) cap' hcap ?_ none (by simp) (fun _ => by simp [← hnx, hcap])⟩
    have hzc : (Builtin.zeroCells z.cells (cap' - (n + ys.length))).size = (cap' - (n + ys.length)) * z.cells.size := size_zeroCells _ _
    rw [hsrc.zsz] at hzc
    simp only [List.size_toArray, List.length_append, hold.1, hn.1, Array.length_toList, hzc, ← hnx]
    rw [← Nat.add_mul, ← Nat.add_mul]
    exact Nat.mul_le_mul_right _ (by omega)
  cases x <;> simp only at h <;> try (cases h; done)
  · -- an immutable slice
    rename_i es cap
    obtain ⟨a, cap', rfl, hle, hcap⟩ : ∃ a cap', vx = .slice a es.length cap' ∧ es.length ≤ cap' ∧ capOK cap a cap' := by
      cases hx with
      | slE h => exact ⟨_, _, rfl, Nat.zero_le _, h⟩
      | sl _ _ _ hn h => exact ⟨_, _, rfl, hn, h⟩
    split at h
    · rename_i he
      cases h
      exact empty (by simpa using he) rfl rfl rfl ⟨_, _, _, rfl, hle⟩
    · split at h
      · rename_i c0 hex
        split at h
        · rename_i hh
          obtain ⟨hgt, hm, hez⟩ := hh
          cases h
          have hc0 : cap' = c0 := by
            cases cap <;> simp only [Cp.exact] at hex <;> first | (cases hex; done) | (cases hex; first | exact hcap | exact hcap.2)
          subst hc0
          obtain ⟨olds, hold, hs, hocl⟩ := elems_src hH hx (ys := es) (cl := true) rfl hez
          refine fresh a es.length cap' es olds cl rfl hold rfl hez (fun _ => hocl rfl) (fun w' hw => ?_) (by omega) hm rfl rfl rfl id
          have := hs.first w' hw es.length (Nat.le_refl _)
          rw [this, List.take_of_length_le (by rw [hold.1]; exact Nat.le_refl _)]
        · cases h
      · cases h
  · -- a slice of an object
    rename_i i ep off n cap
    split at h
    case h_2 => cases h
    rename_i r hg
    obtain ⟨cap', rfl, hle, hcapx, hbs, hep, hL⟩ := hx.msl_inv (sig_of hg)
    obtain ⟨hri, hrep⟩ := getO_some hg
    have hv := hH.var i r hri
    split at h
    · rename_i he
      cases h
      exact empty (by simpa using he) rfl rfl rfl ⟨_, _, _, rfl, hle⟩
    · split at h
      case isFalse => cases h
      rename_i hcond
      obtain ⟨hesz, hty, hoff, hm⟩ := hcond
      have hxs : okEls ti.size ((r.es.drop off).take n) = true := by rw [← hesz]; exact okEls_take (okEls_drop hv.sz)
      obtain ⟨olds, hold, hs, hocl⟩ := elems_src hH hx (ys := (r.es.drop off).take n) (cl := r.cl) (by simp [elems, hg, hoff]) hxs
      have hlen : n = ((r.es.drop off).take n).length := by simp; omega
      have hload : ∀ w', w'.heap = c.w.heap → (Builtin.firstCells ti.size n (.slice (some ⟨c.m i, off * r.esz, none⟩) n cap')).run P w' = .ok olds.toArray w' := by
        intro w' hw
        have := hs.first w' hw n (Nat.le_of_eq hlen)
        rw [this, List.take_of_length_le (by rw [hold.1, ← hlen]; exact Nat.le_refl _)]
      split at h
      · -- in place
        rename_i hroom
        obtain ⟨hr1, hr2⟩ := hroom
        split at h
        case isFalse => cases h
        rename_i hown
        cases h
        have hneed : n + ys.length ≤ cap' := by
          cases cap with
          | none => have := hL rfl; omega
          | some q => have := hcapx q rfl; simp at hr2; omega
        rw [← hesz] at hn hz
        obtain ⟨w', hst, h1, h2⟩ := put_seg hH hri hown (p := off + n) hn hz (by omega) hcl
        have hadd : (⟨c.m i, off * r.esz, none⟩ : Addr).add (n * ti.size) = ⟨c.m i, (off + n) * r.esz, none⟩ := by rw [add_none, ← hesz, Nat.add_mul]
        refine ⟨_, _, _, hsrc.room (w' := w') hneed (by simp only []; rw [hadd]; exact hst), h1, h2, ?_⟩
        have hx' := hx.mono h1
        have hil : i < c.H.length := (List.getElem?_eq_some_iff.1 hri).1
        have hsig : sig (c.H.set i (.var { r with es := r.es.take (off + n) ++ ys ++ r.es.drop (off + n + ys.length), cl := r.cl && cl, ver := r.ver + 1 })) i ep = some (r.esz, r.es.length) := by
          rw [sig_var (r := { r with es := r.es.take (off + n) ++ ys ++ r.es.drop (off + n + ys.length), cl := r.cl && cl, ver := r.ver + 1 }) (by simp [hil])]
          simp only [hrep, if_true]
          rw [List.length_seg _ _ _ (by omega)]
        obtain ⟨cap2, hcap2, hle2, hcapx2, hbs2, hep2, hL2⟩ := hx'.msl_inv hsig
        cases hcap2
        exact .msl hsig hep2 hneed hcapx2 hL2 hbs2
      · rename_i hroom
        split at h
        · -- the capacity is known, and it is full
          rename_i q
          split at h
          case isFalse => cases h
          rename_i hgt
          cases h
          have hq := hcapx q rfl
          refine fresh _ n cap' _ olds (r.cl && cl) rfl hold hlen hxs (fun h => by simp only [Bool.and_eq_true] at h; exact hocl h.1) hload (by omega) hm rfl rfl rfl (fun h => by simp only [Bool.and_eq_true] at h; exact h.2)
        · -- in place, or a new array
          split at h
          case isFalse => cases h
          rename_i hcond2
          obtain ⟨hown, rfl⟩ := hcond2
          cases h
          simp only [Nat.zero_mul, List.drop_zero, Nat.zero_add, Option.getD_none, Nat.le_refl, and_true] at *
          have hesn : r.es.length < n + ys.length := by omega
          obtain ⟨arr, fz, hb, hfz, hle3, hcells⟩ := hv.cells
          obtain rfl := hfz hown
          have hcl2 : (r.cl && cl) = true → closedL (r.es.take n ++ ys) = true := fun h => by
            simp only [Bool.and_eq_true] at h
            rw [closedL_append, closedL_take _ _ (hv.cl h.1), hcl h.2]; rfl
          have hok2 : okEls ti.size (r.es.take n ++ ys) = true := by rw [okEls_append, hxs, hz]; rfl
          by_cases hfit : n + ys.length ≤ cap'
          · -- in place
            have hbsz : bsize c.w (c.m i) = arr.size := by simp [bsize, hb]
            rw [hbsz, hesz] at hbs
            have hseg : n * ti.size + news.length ≤ arr.size := by
              rw [hn.1, ← Nat.add_mul]; exact Nat.le_trans (Nat.mul_le_mul_right _ hfit) hbs
            have hst := run_storeCells_at P (c.m i) (n * ti.size) r.ty news 0 arr c.w hb (by simpa using hseg) (news_one hn hz)
            simp only [Nat.add_zero] at hst
            obtain ⟨w1, w2, w3, w4⟩ := put_world (arr' := (arr.toList.take (n * ti.size) ++ news ++ arr.toList.drop (n * ti.size + news.length)).toArray) hb
            have htake : arr.toList.take (n * ti.size) = olds := by
              apply List.ext_getElem?
              intro q
              rw [List.getElem?_take]
              by_cases hq : q < n * ti.size
              · rw [if_pos hq]
                have hl := hload c.w rfl
                have hrun := run_loadCells (P := P) c.w ⟨c.m i, 0, none⟩ (n * ti.size) (fun j => arr.getD j undef) (fun j hj => by
                  rw [add_none]
                  have : j < arr.size := by omega
                  simp [World.cell?, hb, this])
                simp only [Builtin.firstCells] at hl
                rw [hrun] at hl
                have hl2 : ((List.range (n * ti.size)).map fun j => arr.getD j undef) = olds := by
                  have := congrArg (fun r => match r with | Result.ok a _ => a.toList | _ => []) hl
                  simpa using this
                have hql : q < arr.size := by omega
                rw [← hl2, List.getElem?_map, List.getElem?_range hq]
                simp [hql]
              · rw [if_neg hq, List.getElem?_eq_none (by rw [hold.1, ← hlen]; omega)]
            have hcok : CellsOK P c ti.size (r.es.take n ++ ys) (arr.toList.take (n * ti.size) ++ news ++ arr.toList.drop (n * ti.size + news.length)).toArray := by
              rw [htake]; exact CellsOK.append hold hn
            obtain ⟨h1, h2, h3, h4, h5⟩ := Cx.le.anew hH w1 (r' := ⟨true, e, ti.size, r.es.take n ++ ys, r.cl && cl, c.clk, 0⟩) hri hown rfl rfl (b' := c.m i) (.inl rfl) (Nat.le_of_eq w2.symm) (by rw [← hty]; exact w3) (fun b _ hne => w4 b hne) hok2 hcl2 hcok
            refine ⟨_, _, _, hsrc.room (w' := _) hfit (by simp only []; rw [add_none, Nat.zero_add]; exact hst), h1, h2, ?_⟩
            have hm := Rep.msl (P := P) (off := 0) (n := n + ys.length) (cap' := cap') (cap := none) h3 (Nat.lt_succ_self _) hfit (by simp) (fun _ => by have h0 : (r.es.take n).length = n := hlen.symm; simp only [List.length_append, h0]; omega) (by
              rw [h4, h5, List.size_toArray, List.length_seg _ _ _ (by simpa using hseg)]; simpa using hbs)
            rw [h4] at hm
            simpa using hm
          · -- a new array
            obtain ⟨capn, hcapn, hrun⟩ := hsrc.grow (ty := tyR) (a := some ⟨c.m i, 0, none⟩) (sLen := n) (sCap := cap') (by omega) hm hby hload
            have hcok : CellsOK P c ti.size (r.es.take n ++ ys) (olds ++ news ++ (Builtin.zeroCells z.cells (capn - (n + ys.length))).toList).toArray := CellsOK.append hold hn
            obtain ⟨h1, h2, h3, h4, h5⟩ := Cx.le.anew hH (w' := { c.w.drew with heap := c.w.drew.heap.push (.cells (olds ++ news ++ (Builtin.zeroCells z.cells (capn - (n + ys.length))).toList).toArray e) }) ⟨rfl, rfl, rfl⟩
              (r' := ⟨true, e, ti.size, r.es.take n ++ ys, r.cl && cl, c.clk, 0⟩) hri hown rfl rfl (b' := c.w.heap.size) (.inr rfl) (by simp) (by show (c.w.heap.push _)[c.w.heap.size]? = _; exact Array.getElem?_push_size) (fun b hb1 hne => by show (c.w.heap.push _)[b]? = _; simp [Array.getElem?_push, hne]) hok2 hcl2 hcok
            refine ⟨_, _, _, hrun, h1, h2, ?_⟩
            have hm := Rep.msl (P := P) (off := 0) (n := n + ys.length) (cap' := capn) (cap := none) h3 (Nat.lt_succ_self _) hcapn (by simp) (fun _ => by have h0 : (r.es.take n).length = n := hlen.symm; simp only [List.length_append, h0]; omega) (by
              rw [h4, h5]
              have hzc : (Builtin.zeroCells z.cells (capn - (n + ys.length))).size = (capn - (n + ys.length)) * z.cells.size := size_zeroCells _ _
              rw [hsrc.zsz] at hzc
              simp only [List.size_toArray, List.length_append, hold.1, hn.1, Array.length_toList, hzc, ← hlen]
              rw [← Nat.add_mul, ← Nat.add_mul, Nat.zero_add]
              exact Nat.mul_le_mul_right _ (by omega))
            rw [h4] at hm
            simpa using hm

end
end Go.Ev
end

section
/- append of values, of zeros; copy, clear, make. -/
namespace Go.Ev

section
variable {P : Program} {c : Cx} {v : AV} {H' : Heap} {clk' : Nat}

theorem smallT_some {e : TypeId} {sz : Nat} (h : smallT P e = some sz) : ∃ ti z, P.info? e = some ti ∧ ti.bytes ≤ 32768 ∧ ti.zero = some z ∧ z.cells.size = ti.size ∧ sz = ti.size := by
  unfold smallT at h
  split at h
  · rename_i i hi
    split at h
    · rename_i hh
      obtain ⟨h1, h2⟩ := hh
      cases h
      rw [Option.any_eq_true] at h2
      obtain ⟨z, hz, hzz⟩ := h2
      exact ⟨i, z, hi, h1, hz, by simpa using hzz, rfl⟩
    · cases h
  · cases h

theorem zeroOf_some {e : TypeId} {ti : TypeInfo} {z : Value} {a : AV} (hi : P.info? e = some ti) (hz : ti.zero = some z) (h : zeroOf P e = some a) : a = valAV z := by
  simp only [zeroOf, hi, Option.bind_some, hz, Option.map_some, Option.some.injEq] at h
  exact h.symm

theorem zeroCells_at (zc : Array Value) (n k j : Nat) (hk : k < n) (hj : j < zc.size) : (Builtin.zeroCells zc n)[k * zc.size + j]? = some zc[j] := by
  have hlt : k * zc.size + j < n * zc.size := by
    have : (k + 1) * zc.size ≤ n * zc.size := Nat.mul_le_mul_right _ hk
    rw [Nat.add_mul] at this; omega
  have hmod : (k * zc.size + j) % zc.size = j := by rw [Nat.mul_comm, Nat.mul_add_mod, Nat.mod_eq_of_lt hj]
  simp [Builtin.zeroCells, hlt, hmod, hj]

/-- zeros one behind the other -/
theorem zero_news {esz : Nat} {z : Value} (hz : okEl esz (valAV z) = true) (n : Nat) : NewsR P c esz (List.replicate n (valAV z)) (Builtin.zeroCells z.cells n).toList := by
  have hrep := valAVf_rep P c 4 z
  obtain ⟨h1, h2⟩ := hrep.cells (ne_junk_of_okEl hz)
  have hsz : z.cells.size = esz := by rw [h1]; exact okEl_len hz
  refine ⟨by simp [size_zeroCells, hsz], fun k e j a hk hj => ?_⟩
  rw [List.getElem?_replicate] at hk
  split at hk
  · rename_i hlt
    cases hk
    have hjl := (List.getElem?_eq_some_iff.1 hj).1
    have hjl' : j < z.cells.size := by rw [h1]; exact hjl
    refine ⟨z.cells[j], ?_, h2 j a _ hj (Array.getElem?_eq_getElem hjl')⟩
    rw [Array.getElem?_toList, ← hsz]
    exact zeroCells_at z.cells n k j hlt hjl'
  · cases hk

theorem closedL_replicate {n : Nat} {a : AV} (h : closed a = true) : closedL (List.replicate n a) = true := by
  induction n with
  | zero => rfl
  | succ n ih => simp [List.replicate_succ, closedL, h, ih]

theorem okEls_replicate {esz n : Nat} {a : AV} (h : okEl esz a = true) : okEls esz (List.replicate n a) = true := by
  simp only [okEls, List.all_eq_true]
  intro x hx
  rw [List.eq_of_mem_replicate hx]; exact h

theorem append_ok {ty esz : Nat} {x : AV} {ys : List AV} {cl : Bool} {H : Heap} {clk : Nat} {r : AV × Heap × Nat} (h : append ty esz x ys cl H clk = some r) : okEls esz ys = true := by
  unfold append at h
  split at h
  · cases h
  · rename_i hh; simpa using hh

theorem op_app (hH : HR P c) {t u e : TypeId} {d : TypeDesc} {sz : Nat} {tyR : TypeId} (ht : P.underlying t = some (.slice e)) (hu : P.underlying u = some d) (hd : ∀ k, d ≠ .int k) (hs : smallT P e = some sz)
    {x y : AV} {vx vy : Value} (hx : Rep P c x vx) (hy : Rep P c y vy) (h : evOp (.app e sz x y) c.H c.clk = some (v, H', clk')) : DoneV P c (Builtin.append_ #[t, u] tyR #[vx, vy]) v H' clk' := by
  obtain ⟨ti, z, hi, hb, hz, hzs, rfl⟩ := smallT_some hs
  simp only [evOp] at h
  split at h
  · rename_i ys cl hel
    have hok := append_ok h
    obtain ⟨news, hn, hsrc, hcl⟩ := elems_src hH hy hel hok
    exact append_sound hH ⟨ht, hi, hz, hzs, .inl ⟨⟨d, hu, hd⟩, hsrc.len, fun w' hw => by
      have := hsrc.first w' hw ys.length (Nat.le_refl _)
      rw [this, List.take_of_length_le (Nat.le_of_eq hn.1)]⟩⟩ hn hb hx hcl h
  · cases h

theorem op_appZ (hH : HR P c) {t u e : TypeId} {k : IntKind} {sz : Nat} {z : AV} {tyR : TypeId} (ht : P.underlying t = some (.slice e)) (hu : P.underlying u = some (.int k)) (hs : smallT P e = some sz) (hz : zeroOf P e = some z)
    {x y : AV} {vx vy : Value} (hx : Rep P c x vx) (hy : Rep P c y vy) (h : evOp (.appZ e sz z x y) c.H c.clk = some (v, H', clk')) : DoneV P c (Builtin.append_ #[t, u] tyR #[vx, vy]) v H' clk' := by
  obtain ⟨ti, z', hi, hb, hz', hzs, rfl⟩ := smallT_some hs
  obtain rfl := zeroOf_some hi hz' hz
  simp only [evOp] at h
  split at h
  · rename_i n hn
    split at h
    · rename_i hle
      split at h
      · cases h
      · rename_i hok
        have hok' : okEl ti.size (valAV z') = true := by simpa using hok
        have hny : ∃ k, vy = .int k (n : Int) := by
          unfold asNat at hn
          split at hn
          · rename_i k' m
            split at hn
            · rename_i hm
              cases hn
              rw [hy.int_inv]
              exact ⟨k', by simp [Int.toNat_of_nonneg hm]⟩
            · cases hn
          · cases hn
        refine append_sound hH (ys := List.replicate n (valAV z')) (news := (Builtin.zeroCells z'.cells n).toList) ⟨ht, hi, hz', hzs, .inr ⟨⟨k, hu⟩, by simpa using hny, by simpa using hle, hb, by simp, fun h0 => ?_⟩⟩ (zero_news hok' n) hb hx (fun h => closedL_replicate h) h
        apply List.eq_nil_of_length_eq_zero
        simpa [size_zeroCells, hzs] using h0
    · cases h
  · cases h

theorem elems_none (_hH : HR P c) {y : AV} {vy : Value} (hy : Rep P c y vy) {ys : List AV} {cl : Bool} (h : elems c.H y = some (ys, cl)) (esz : Nat) (w : World) :
    (Builtin.lenOf vy).run P w = .ok ys.length w ∧ (Builtin.firstCells esz 0 vy).run P w = .ok #[] w := by
  have hsl : ∀ (a : Option Addr) (n cap : Nat), (Builtin.firstCells esz 0 (.slice a n cap)).run P w = .ok #[] w := by
    intro a n cap; cases a <;> simp [Builtin.firstCells, loadCells, loadCellsFrom]
  unfold elems at h
  split at h
  · cases h
    cases hy with
    | slE hc => exact ⟨rfl, hsl _ _ _⟩
    | sl _ _ _ _ _ _ _ _ _ _ => exact ⟨rfl, hsl _ _ _⟩
  · split at h
    · rename_i r hg
      split at h
      · rename_i hle
        cases h
        obtain ⟨cap', rfl, _⟩ := hy.msl_inv (sig_of hg)
        refine ⟨?_, hsl _ _ _⟩
        simp only [Builtin.lenOf, Sem.run_pure]
        congr 1
        simp; omega
      · cases h
    · cases h
  · cases h
    rw [hy.str_inv]
    refine ⟨by simp [Builtin.lenOf]; rfl, ?_⟩
    simp only [Builtin.firstCells, Sem.run_pure]
    congr 1
    apply Array.eq_empty_of_size_eq_zero
    simp
  · cases h

theorem goInt_rep (n : Nat) : Rep P c (.int .i64 (n : Int)) (goInt n) := .int _ _

theorem op_copy (hH : HR P c) {t e : TypeId} {rest : List TypeId} {ti : TypeInfo} {tyR : TypeId} (ht : P.underlying t = some (.slice e)) (hi : P.info? e = some ti)
    {x y : AV} {vx vy : Value} (hx : Rep P c x vx) (hy : Rep P c y vy) (h : evOp (.copy ti.size x y) c.H c.clk = some (v, H', clk')) : DoneV P c (Builtin.copy_ (t :: rest).toArray tyR #[vx, vy]) v H' clk' := by
  have hsize : ∀ w, (sizeOf e).run P w = .ok ti.size w := fun w => by simp [sizeOf, typeInfo, hi]
  simp only [evOp] at h
  split at h
  case h_2 => cases h
  rename_i ys cl hel
  split at h
  · -- an object's slice
    rename_i i ep off n cap
    split at h
    case h_2 => cases h
    rename_i r hg
    obtain ⟨cap', rfl, hle, hcapx, hbs, hep, hL⟩ := hx.msl_inv (sig_of hg)
    obtain ⟨hri, hrep⟩ := getO_some hg
    split at h
    case isFalse => cases h
    rename_i hcond
    obtain ⟨hesz, hoff, hok⟩ := hcond
    obtain ⟨news, hn, hsrc, hcl⟩ := elems_src hH hy hel hok
    have hf := hsrc.first c.w rfl (min ys.length n) (Nat.min_le_left _ _)
    have hrun : ∀ w', (storeCells ⟨c.m i, off * r.esz, none⟩ (news.take (min ys.length n * ti.size))).run P c.w = .ok () w' → (Builtin.copy_ (t :: rest).toArray tyR #[.slice (some ⟨c.m i, off * r.esz, none⟩) n cap', vy]).run P c.w = .ok (goInt (min ys.length n : Nat)) w' := by
      intro w' hst
      simp only [Builtin.copy_]
      simp [run_underlying ht, hsrc.len, hsize, hf, hst]
    split at h
    · rename_i h0
      cases h
      rw [h0] at hrun
      exact .same hH (hrun c.w (by simp [storeCells])) (.int _ _)
    · split at h
      case isFalse => cases h
      rename_i hown
      cases h
      have hlen : (ys.take (min ys.length n)).length = min ys.length n := by simp
      have hn' := hn.take (min ys.length n) (okEls_len hok)
      rw [← hesz] at hn' hok
      obtain ⟨w', hst, h1, h2⟩ := put_seg hH hri hown (p := off) (cl := cl) hn' (okEls_take hok) (by rw [hlen]; have := Nat.min_le_right ys.length n; omega) (fun h => closedL_take _ _ (hcl h))
      rw [hlen] at h1 h2
      exact ⟨_, _, _, hrun w' (by rw [← hesz]; exact hst), h1, h2, .int _ _⟩
  · -- nothing
    cases h
    cases hx with
    | slE hc =>
      rename_i cap a n
      obtain ⟨h1, h2⟩ := elems_none hH hy hel ti.size c.w
      refine .same hH (val := goInt 0) ?_ (.int _ _)
      simp only [Builtin.copy_]
      cases a <;> simp [run_underlying ht, h1, hsize, h2, storeCells]
    | sl _ _ hne _ _ _ _ _ _ _ => exact absurd rfl hne
  · cases h

theorem op_clear (hH : HR P c) {t e : TypeId} {ti : TypeInfo} {z : AV} {tyR : TypeId} (ht : P.underlying t = some (.slice e)) (hi : P.info? e = some ti) (hz : zeroOf P e = some z)
    {x : AV} {vx : Value} (hx : Rep P c x vx) (h : evOp (.clear ti.size z x) c.H c.clk = some (v, H', clk')) : DoneV P c (Builtin.clear_ #[t] tyR #[vx]) v H' clk' := by
  have hrt : ∀ c', Rep P c' (.tup []) (.tuple #[]) := fun c' => .tup rfl (by simp)
  simp only [evOp] at h
  split at h
  · cases h
    cases hx with
    | slE hc =>
      rename_i cap a n
      refine .same hH (val := .tuple #[]) ?_ (hrt _)
      simp only [Builtin.clear_]
      cases a <;> simp [run_underlying ht]
    | sl _ _ hne _ _ _ _ _ _ _ => exact absurd rfl hne
  · rename_i i ep off n cap
    split at h
    case h_2 => cases h
    rename_i r hg
    obtain ⟨cap', rfl, hle, hcapx, hbs, hep, hL⟩ := hx.msl_inv (sig_of hg)
    obtain ⟨hri, hrep⟩ := getO_some hg
    split at h
    case isFalse => cases h
    rename_i hcond
    obtain ⟨hown, hesz, hoff, hok⟩ := hcond
    cases h
    obtain ⟨zv, hzv⟩ : ∃ zv, ti.zero = some zv := by
      cases hzt : ti.zero with
      | some zv => exact ⟨zv, rfl⟩
      | none => simp [zeroOf, hi, hzt] at hz
    obtain rfl := zeroOf_some hi hzv hz
    have hzero : ∀ w, (zeroValue e).run P w = .ok zv w := fun w => by simp [zeroValue, typeInfo, hi, hzv]
    have hlen : (List.replicate n (valAV zv)).length = n := by simp
    rw [← hesz] at hok
    obtain ⟨w', hst, h1, h2⟩ := put_seg hH hri hown (p := off) (cl := closed (valAV zv)) (zero_news hok n) (okEls_replicate hok) (by rw [hlen]; exact hoff) (fun h => closedL_replicate h)
    rw [hlen] at h1 h2
    refine ⟨.tuple #[], _, _, ?_, h1, h2, hrt _⟩
    simp only [Builtin.clear_]
    cases n with
    | zero =>
      have : (Builtin.zeroCells zv.cells 0).toList = [] := by simp [Builtin.zeroCells]
      rw [this] at hst
      simp [storeCells] at hst
      subst hst
      simp [run_underlying ht]
    | succ n => simp [run_underlying ht, hzero, hst]
  · cases h

theorem op_mkSlice (hH : HR P c) {t e : TypeId} {sz : Nat} {z : AV} (ht : P.underlying t = some (.slice e)) (hs : smallT P e = some sz) (hz : zeroOf P e = some z)
    {x y : AV} {vx vy : Value} (hx : Rep P c x vx) (hy : Rep P c y vy) (h : evOp (.mkSlice e sz z x y) c.H c.clk = some (v, H', clk')) : DoneV P c (Instr.makeSlice t vx vy) v H' clk' := by
  obtain ⟨ti, z', hi, hb, hz', hzs, rfl⟩ := smallT_some hs
  obtain rfl := zeroOf_some hi hz' hz
  simp only [evOp] at h
  split at h
  case h_2 => cases h
  rename_i l cp hl hcp
  split at h
  case isFalse => cases h
  rename_i hcond
  obtain ⟨hlc, hcm, hok⟩ := hcond
  cases h
  obtain ⟨k1, hr1⟩ := asNat_run hl hx c.w
  obtain ⟨k2, hr2⟩ := asNat_run hcp hy c.w
  have hi1 : (asInt vx).run P c.w = .ok (l : Int) c.w := by simp [asInt, hr1]
  have hi2 : (asInt vy).run P c.w = .ok (cp : Int) c.w := by simp [asInt, hr2]
  have hw1 := wrap64_small (n := l) (by omega)
  have hw2 := wrap64_small hcm
  have hinfo : ∀ w, (typeInfo e).run P w = .ok ti w := fun w => by simp [typeInfo, hi]
  have hsize : ∀ w, (sizeOf e).run P w = .ok ti.size w := fun w => by simp [sizeOf, typeInfo, hi]
  have hzero : ∀ w, (zeroValue e).run P w = .ok z' w := fun w => by simp [zeroValue, typeInfo, hi, hz']
  have hc : ¬ ((281474976710656 : Int) < (ti.bytes : Int) * (cp : Int)) := by
    have : ti.bytes * cp ≤ 32768 * 1048576 := Nat.mul_le_mul hb hcm
    have : ((ti.bytes * cp : Nat) : Int) ≤ 34359738368 := by omega
    rw [Int.natCast_mul] at this
    omega
  have hn0 : ¬ ((cp : Int) < 0) := by omega
  have hn1 : ¬ ((l : Int) < 0) := by omega
  have hn2 : ¬ ((cp : Int) < (l : Int)) := by omega
  have hnews := zero_news (P := P) (c := c) hok cp
  obtain ⟨h1, h2, _, h4⟩ := newCx_le hH (Same.refl c.w) rfl (ty := e) (esz := ti.size) (es := List.replicate cp (valAV z')) (cl := closed (valAV z')) (arr := Builtin.zeroCells z'.cells cp) (okEls_replicate hok) (fun h => closedL_replicate h)
    (by have := CellsOK.of_news (rest := []) hnews; simpa using this)
  refine ⟨.slice (some ⟨c.w.heap.size, 0, none⟩) l cp, _, _, ?_, h1, h2, h4 l cp hlc (by rw [size_zeroCells, hzs]; exact Nat.le_refl _) (some cp) (by simp) (by simp)⟩
  have hcells : ∀ zc : Array Value, (if cp * ti.size = 0 then zc = #[] else zc = z'.cells) → (Array.range (cp * ti.size)).map (fun x => zc[x % zc.size]!) = Builtin.zeroCells z'.cells cp := by
    intro zc hzc
    split at hzc
    · rename_i h0
      subst hzc
      simp [Builtin.zeroCells, hzs, h0]
    · subst hzc
      simp [Builtin.zeroCells, hzs]
  simp only [Instr.makeSlice]
  by_cases h0 : cp * ti.size = 0
  · have := hcells #[] (by simp [h0])
    simp [run_underlying ht, hi1, hi2, hinfo, hw1, hw2, hc, hn0, hn1, hn2, hsize, h0, newRow]
    rw [h0] at this
    simp at this
    rw [← this]
  · have := hcells z'.cells (by simp [h0])
    simp [run_underlying ht, hi1, hi2, hinfo, hw1, hw2, hc, hn0, hn1, hn2, hsize, h0, newRow, hzero]
    rw [this]

end
end Go.Ev
end

section
/- Literals of structs, arrays, slices; texts and bytes; unsafe's. -/
namespace Go.Ev

section
variable {P : Program} {c : Cx} {v : AV} {H' : Heap} {clk' : Nat}

/-- one part's cells go in -/
theorem fill_step (off : Nat) (v : Value) (cells : Array Value) (h : off + v.cells.size ≤ cells.size) :
    (v.cells.zipIdx.foldl (fun cs (x : Value × Nat) => cs.setIfInBounds (off + x.2) x.1) cells) = (cells.toList.take off ++ v.cells.toList ++ cells.toList.drop (off + v.cells.toList.length)).toArray := by
  have e : v.cells.zipIdx.foldl (fun cs (x : Value × Nat) => cs.setIfInBounds (off + x.2) x.1) cells = (v.cells.toList.zipIdx 0).foldl (fun cs (x : Value × Nat) => cs.setIfInBounds (off + x.2) x.1) cells := by
    rw [← Array.foldl_toList, Array.toList_zipIdx]
  rw [e]
  obtain ⟨h1, h2⟩ := Great.foldl_set off v.cells.toList 0 cells
  apply Array.ext_getElem?
  intro k
  have hr : (cells.toList.take off ++ v.cells.toList ++ cells.toList.drop (off + v.cells.toList.length)).toArray[k]? = _ := (List.getElem?_toArray ..).trans (List.getElem?_seg _ _ _ _ (by simpa using h))
  rw [h2 k, hr]
  simp only [Nat.add_zero, Array.length_toList]
  by_cases hk : k < off
  · rw [if_neg (by omega), if_pos hk, Array.getElem?_toList]
  · rw [if_neg hk]
    by_cases hk2 : k < off + v.cells.size
    · rw [if_pos (by omega), if_pos hk2]
    · rw [if_neg (by omega), if_neg hk2, Array.getElem?_toList]

/-- parts and places, abstract and not -/
inductive PartsR (P : Program) (c : Cx) (place : Nat → Option (Nat × Nat)) : List (Nat × Nat × AV) → List (Nat × Value) → Prop
  | nil : PartsR P c place [] []
  | cons {off sz i : Nat} {x : AV} {v : Value} {ps : List (Nat × Nat × AV)} {vs : List (Nat × Value)} (hp : place i = some (off, sz)) (hx : Rep P c x v) (h : PartsR P c place ps vs) : PartsR P c place ((off, sz, x) :: ps) ((i, v) :: vs)

theorem fill_run {place : Nat → Option (Nat × Nat)} {ps : List (Nat × Nat × AV)} {vs : List (Nat × Value)} (hp : PartsR P c place ps vs) : ∀ (cs cs' : List AV) (cells : Array Value), fill ps cs = some cs' → cells.size = cs.length →
    (∀ (k : Nat) a v, cs[k]? = some a → cells[k]? = some v → Rep P c a v) →
    ∃ cells', Instr.fill place cells vs = some cells' ∧ cells'.size = cs'.length ∧ ∀ (k : Nat) a v, cs'[k]? = some a → cells'[k]? = some v → Rep P c a v := by
  induction hp with
  | nil => intro cs cs' cells h hl hr; simp only [fill, Option.some.injEq] at h; subst h; exact ⟨cells, rfl, hl, hr⟩
  | @cons off sz i x v ps vs hp hx _ ih =>
    intro cs cs' cells h hl hr
    simp only [fill] at h
    split at h
    · rename_i hh
      obtain ⟨h1, h2, h3⟩ := hh
      obtain ⟨g1, g2⟩ := hx.cells (by rintro rfl; cases h3)
      have hsz : v.cells.size = sz := by rw [g1, h1]
      have hle : off + v.cells.size ≤ cells.size := by rw [hsz, hl]; exact h2
      have hst := fill_step off v cells hle
      have hlen : (flat x).length = sz := h1
      obtain ⟨cells', k1, k2, k3⟩ := ih _ cs' (cells.toList.take off ++ v.cells.toList ++ cells.toList.drop (off + v.cells.toList.length)).toArray h
        (by rw [List.size_toArray, List.length_seg _ _ _ (by simpa using hle), Array.length_toList, hl, ← h1, List.length_seg _ _ _ (by rw [h1]; exact h2)])
        (by
          intro k a w hk hw
          rw [List.getElem?_toArray, List.getElem?_seg _ _ _ _ (by simpa using hle)] at hw
          rw [← h1, List.getElem?_seg _ _ _ _ (by rw [h1]; exact h2)] at hk
          simp only [Array.length_toList, hsz, h1] at hw hk
          split at hk
          · rename_i hlt
            rw [if_pos hlt, Array.getElem?_toList] at hw
            exact hr k a w hk hw
          · rename_i hge
            rw [if_neg hge] at hw
            split at hk
            · rename_i hlt
              rw [if_pos hlt, Array.getElem?_toList] at hw
              exact g2 _ _ _ hk hw
            · rename_i hge2
              rw [if_neg hge2, Array.getElem?_toList] at hw
              exact hr k a w hk hw)
      refine ⟨cells', ?_, k2, k3⟩
      unfold Instr.fill
      simp only [hp]
      rw [if_neg (by simp [hsz]; rw [hl]; exact h2)]
      rw [← k1]
      congr 1
    · cases h

end
end Go.Ev
end

section
namespace Go.Ev

section
variable {P : Program} {c : Cx} {v : AV} {H' : Heap} {clk' : Nat}

theorem cells_rep (z : Value) : ∀ (k : Nat) a w, (z.cells.toList.map valAV)[k]? = some a → z.cells[k]? = some w → Rep P c a w := by
  intro k a w h1 h2
  simp only [List.getElem?_map, Array.getElem?_toList, h2, Option.map_some, Option.some.injEq] at h1
  subst h1
  exact valAVf_rep P c 4 w

theorem parts_struct {g : Ref → AV} {ρ : Operand → Value} (hρ : ∀ x, Rep P c (g (cRef x)) (ρ x)) (fs : Array Field) (places : Array (Nat × Nat)) (hpl : ∀ (i : Nat) (f : Field), fs[i]? = some f → places[i]? = some (f.offset, P.cellsOf f.type)) :
    ∀ (ps : List (Nat × Operand)) (l : List (Nat × Nat × Ref)), (ps.mapM fun (p : Nat × Operand) => match fs[p.1]? with
        | some f => some (f.offset, P.cellsOf f.type, cRef p.2)
        | none => none) = some l → PartsR P c (places[·]?) (l.map fun p => (p.1, p.2.1, g p.2.2)) (ps.map fun p => (p.1, ρ p.2)) := by
  intro ps
  induction ps with
  | nil => intro l h; simp at h; subst h; exact .nil
  | cons p ps ih =>
    intro l h
    simp only [List.mapM_cons, Option.bind_eq_bind, Option.bind_eq_some_iff, Option.pure_def, Option.some.injEq] at h
    obtain ⟨q, hq, l', hl', rfl⟩ := h
    split at hq
    · rename_i f hf
      cases hq
      exact .cons (hpl _ _ hf) (hρ _) (ih l' hl')
    · cases hq

theorem parts_array {g : Ref → AV} {ρ : Operand → Value} (hρ : ∀ x, Rep P c (g (cRef x)) (ρ x)) (sz : Nat) :
    ∀ (ps : List (Nat × Operand)), PartsR P c (fun i => some (i * sz, sz)) ((ps.map fun p => (p.1 * sz, sz, cRef p.2)).map fun p => (p.1, p.2.1, g p.2.2)) (ps.map fun p => (p.1, ρ p.2)) := by
  intro ps
  induction ps with
  | nil => exact .nil
  | cons p ps ih => exact .cons rfl (hρ _) ih

theorem run_sizes (w : World) : ∀ (fs : List Field), (∀ f ∈ fs, (P.info? f.type).isSome = true) → (fs.mapM fun f => (do pure (f.offset, ← sizeOf f.type) : Sem (Nat × Nat))).run P w = .ok (fs.map fun f => (f.offset, P.cellsOf f.type)) w
  | [], _ => by simp
  | f :: fs, hfs => by
    have hf := hfs f (by simp)
    obtain ⟨i, hi⟩ := Option.isSome_iff_exists.1 hf
    have ih' := run_sizes w fs (fun f hf => hfs f (by simp [hf]))
    have hsz : (sizeOf f.type).run P w = .ok (P.cellsOf f.type) w := by simp [sizeOf, typeInfo, hi, Program.cellsOf]
    simp only [List.mapM_cons, Sem.run_bind, hsz, Result.andThen_ok, Sem.run_pure, ih', List.map_cons]

theorem run_sizesA (w : World) (fs : Array Field) (h : fs.all (fun f => (P.info? f.type).isSome) = true) : (fs.mapM fun f => (do pure (f.offset, ← sizeOf f.type) : Sem (Nat × Nat))).run P w = .ok (fs.map fun f => (f.offset, P.cellsOf f.type)) w := by
  have := run_sizes (P := P) w fs.toList (by
    intro f hf
    obtain ⟨i, hi⟩ := List.getElem?_of_mem hf
    rw [Array.all_eq_true] at h
    rw [Array.getElem?_toList] at hi
    obtain ⟨h1, h2⟩ := Array.getElem?_eq_some_iff.1 hi
    rw [← h2]; exact h i h1)
  rw [Array.mapM_eq_mapM_toList]
  simp only [Sem.run_map, this, Result.andThen_ok]
  congr 1
  apply Array.ext'
  simp

theorem op_build (hH : HR P c) {t : TypeId} {ps : Array (Nat × Operand)} {cop : COp Ref} (hc : compBuild P t ps = some cop) {g : Ref → AV} {ρ : Operand → Value} (hρ : ∀ x, Rep P c (g (cRef x)) (ρ x))
    (h : evOp (cop.map g) c.H c.clk = some (v, H', clk')) : DoneV P c (Instr.build t (ps.map fun (i, x) => (i, ρ x))) v H' clk' := by
  have hzv : ∀ {z : Value}, (P.info? t).bind (·.zero) = some z → ∀ w, (zeroValue t).run P w = .ok z w := by
    intro z hz w
    rw [Option.bind_eq_some_iff] at hz
    obtain ⟨i, hi, hz⟩ := hz
    simp [zeroValue, typeInfo, hi, hz]
  have hps : (ps.map fun (x : Nat × Operand) => (x.1, ρ x.2)).toList = ps.toList.map fun p => (p.1, ρ p.2) := by simp
  unfold compBuild at hc
  split at hc
  · rename_i z fs hz hd
    split at hc
    · rename_i hfs
      rw [Option.map_eq_some_iff] at hc
      obtain ⟨l, hl, rfl⟩ := hc
      simp only [COp.map, evOp, Option.bind_eq_some_iff, Option.some.injEq, Prod.mk.injEq] at h
      obtain ⟨cs, hcs, rfl, rfl, rfl⟩ := h
      have hplaces := run_sizesA (P := P) c.w fs hfs
      have hpl : ∀ (i : Nat) (f : Field), fs[i]? = some f → (fs.map fun f => (f.offset, P.cellsOf f.type))[i]? = some (f.offset, P.cellsOf f.type) := by intro i f hf; simp [hf]
      have hpr := parts_struct hρ fs _ hpl ps.toList l hl
      obtain ⟨cells', h1, h2, h3⟩ := fill_run hpr _ _ z.cells hcs (by simp) (cells_rep z)
      refine .same hH (val := .agg cells') ?_ (.agg h2 h3)
      simp only [Instr.build, Sem.run_bind, hzv hz, run_underlying hd, Result.andThen_ok, hplaces, hps, h1, Sem.run_pure]
    · cases hc
  · rename_i z n e hz hd
    rw [Option.map_eq_some_iff] at hc
    obtain ⟨ti, hi, rfl⟩ := hc
    simp only [COp.map, evOp, Option.bind_eq_some_iff, Option.some.injEq, Prod.mk.injEq] at h
    obtain ⟨cs, hcs, rfl, rfl, rfl⟩ := h
    have hpr := parts_array (P := P) (c := c) hρ ti.size ps.toList
    obtain ⟨cells', h1, h2, h3⟩ := fill_run hpr _ _ z.cells hcs (by simp) (cells_rep z)
    refine .same hH (val := .agg cells') ?_ (.agg h2 h3)
    simp only [Instr.build]
    have hsize : (sizeOf e).run P c.w = .ok ti.size c.w := by simp [sizeOf, typeInfo, hi]
    simp [hzv hz, run_underlying hd, hsize, h1]
  · cases hc


theorem closedL_mem {es : List AV} (h : closedL es = true) : ∀ e ∈ es, closed e = true := by
  induction es with
  | nil => intro e he; cases he
  | cons x es ih =>
    simp only [closedL, Bool.and_eq_true] at h
    intro e he
    rcases List.mem_cons.1 he with rfl | he
    · exact h.1
    · exact ih h.2 e he

/-- elements put in one by one, and their cells -/
theorem fillE_run {esz : Nat} {g : Ref → AV} {ρ : Operand → Value} (hρ : ∀ x, Rep P c (g (cRef x)) (ρ x)) : ∀ (ps : List (Nat × Operand)) (es es' : List AV) (cells : List Value),
    fillE esz (ps.map fun p => (p.1, g (cRef p.2))) es = some es' → NewsR P c esz es cells → okEls esz es = true →
    ∃ cells' : List Value, Instr.fill (fun i => some (i * esz, esz)) cells.toArray (ps.map fun p => (p.1, ρ p.2)) = some cells'.toArray ∧ NewsR P c esz es' cells' ∧ okEls esz es' = true ∧ es'.length = es.length := by
  intro ps
  induction ps with
  | nil => intro es es' cells h hn hz; simp only [List.map_nil, fillE, Option.some.injEq] at h; subst h; exact ⟨cells, rfl, hn, hz, rfl⟩
  | cons p ps ih =>
    obtain ⟨i, x⟩ := p
    intro es es' cells h hn hz
    simp only [List.map_cons, fillE] at h
    split at h
    case isFalse => cases h
    rename_i hh
    obtain ⟨hok, hi⟩ := hh
    have hx := hρ x
    obtain ⟨g1, g2⟩ := hx.cells (ne_junk_of_okEl hok)
    have hsz : (ρ x).cells.size = esz := by rw [g1]; exact okEl_len hok
    have hset : es.set i (g (cRef x)) = es.take i ++ [g (cRef x)] ++ es.drop (i + [g (cRef x)].length) := by
      rw [List.set_eq_take_append_cons_drop, if_pos hi]; simp
    obtain ⟨hseg, hle⟩ := CellsOK.seg (P := P) (c := c) (esz := esz) (es := es) (ys := [g (cRef x)]) (arr := cells.toArray) (p := i) ⟨by rw [List.size_toArray, hn.1]; exact Nat.le_refl _, fun k e j a h1 h2 => by rw [List.getElem?_toArray]; exact hn.2 k e j a h1 h2⟩
      (NewsR.one hok hx) (by simp; omega) (okEls_len hz)
    rw [← hset] at hseg
    simp only [Array.length_toList, List.size_toArray] at hle
    have hok' : okEls esz (es.set i (g (cRef x))) = true := by
      simp only [okEls, List.all_eq_true]
      intro y hy
      rcases List.mem_or_eq_of_mem_set hy with h | rfl
      · exact okEls_mem hz y h
      · exact hok
    obtain ⟨cells', k1, k2, k3, k4⟩ := ih _ es' (cells.take (i * esz) ++ (ρ x).cells.toList ++ cells.drop (i * esz + (ρ x).cells.toList.length)) h
      ⟨by rw [List.length_seg _ _ _ (by simpa using hle), hn.1]; simp, fun k e j a h1 h2 => by have := hseg.2 k e j a h1 h2; simpa using this⟩ hok'
    refine ⟨cells', ?_, k2, k3, by rw [k4]; simp⟩
    simp only [List.map_cons]
    unfold Instr.fill
    simp only []
    rw [if_neg (by simp only [hsz, List.size_toArray]; simp; rw [hsz] at hle; exact hle)]
    rw [← k1]
    congr 1
    exact fill_step (i * esz) (ρ x) cells.toArray (by simpa using hle)

theorem op_mkSl (hH : HR P c) {t : TypeId} {n : Nat} {ps : Array (Nat × Operand)} {cop : COp Ref} (hc : compMkSl P t n ps = some cop) {g : Ref → AV} {ρ : Operand → Value} (hρ : ∀ x, Rep P c (g (cRef x)) (ρ x))
    (h : evOp (cop.map g) c.H c.clk = some (v, H', clk')) : DoneV P c (Instr.buildSlice t n (ps.map fun (i, x) => (i, ρ x))) v H' clk' := by
  unfold compMkSl at hc
  split at hc
  case h_2 => cases hc
  rename_i e ht
  split at hc
  case h_2 => cases hc
  rename_i ti z hi hz
  split at hc
  case isFalse => cases hc
  rename_i hcond
  obtain ⟨hpos, h24, hn15⟩ := hcond
  cases hc
  simp only [COp.map, evOp] at h
  split at h
  case isFalse => cases h
  rename_i hok
  obtain ⟨zv, hzv⟩ : ∃ zv, ti.zero = some zv := by
    cases hzt : ti.zero with
    | some zv => exact ⟨zv, rfl⟩
    | none => simp [zeroOf, hi, hzt] at hz
  obtain rfl := zeroOf_some hi hzv hz
  rw [Option.bind_eq_some_iff] at h
  obtain ⟨es, hes, h⟩ := h
  have hzsz : zv.cells.size = ti.size := by
    obtain ⟨g1, _⟩ := (valAVf_rep P c 4 zv).cells (ne_junk_of_okEl hok)
    rw [g1]; exact okEl_len hok
  simp only [List.map_map] at hes
  obtain ⟨cells', k1, k2, k3, k4⟩ := fillE_run hρ ps.toList _ es (Builtin.zeroCells zv.cells n).toList hes (zero_news hok n) (okEls_replicate hok)
  have hsize : ∀ w, (sizeOf e).run P w = .ok ti.size w := fun w => by simp [sizeOf, typeInfo, hi]
  have hzero : ∀ w, (zeroValue e).run P w = .ok zv w := fun w => by simp [zeroValue, typeInfo, hi, hzv]
  have h24' : ¬ (16777216 < n * ti.size) := by omega
  have hrun : (Instr.buildSlice t n (ps.map fun (i, x) => (i, ρ x))).run P c.w = .ok (.slice (some ⟨c.w.heap.size, 0, none⟩) n n) (c.w.alloc (.cells cells'.toArray e)) := by
    simp only [Instr.buildSlice]
    have hzc : (Array.range (n * ti.size)).map (fun x => zv.cells[x % zv.cells.size]!) = Builtin.zeroCells zv.cells n := by simp [Builtin.zeroCells, hzsz]
    have hps : (ps.map fun (x : Nat × Operand) => (x.1, ρ x.2)).toList = ps.toList.map fun p => (p.1, ρ p.2) := by simp
    have e0 : ((Builtin.zeroCells zv.cells n).toList).toArray = Builtin.zeroCells zv.cells n := by simp
    rw [e0] at k1
    by_cases hn0 : n * ti.size = 0
    · have : n = 0 := by rcases Nat.mul_eq_zero.1 hn0 with h | h; exact h; omega
      subst this
      have hz0 : Builtin.zeroCells zv.cells 0 = #[] := by simp [Builtin.zeroCells]
      rw [hz0] at k1
      have hr0 : (Array.range 0).map (fun _ => (default : Value)) = #[] := by simp
      simp [run_underlying ht, hsize, newRow]
      rw [show (Array.map (fun x => (default : Value)) (Array.range 0)) = #[] from hr0, k1]
      simp
    · simp [run_underlying ht, hsize, h24', hn0, hzero, newRow]
      rw [hzc, k1]
      simp
  have hlen : es.length = n := by rw [k4]; simp
  have hcok : CellsOK P c ti.size es cells'.toArray := by have := CellsOK.of_news (rest := []) k2; simpa using this
  split at h
  · rename_i hcl
    cases h
    obtain ⟨h1, h2⟩ := Cx.le.world hH (w' := c.w.alloc (.cells cells'.toArray e)) ⟨rfl, rfl, rfl⟩ (by show _ ≤ (c.w.heap.push _).size; simp) (fun b hb => by show (c.w.heap.push _)[b]? = _; simp [Array.getElem?_push, Nat.ne_of_lt hb])
    refine ⟨_, _, _, hrun, h1, h2, ?_⟩
    by_cases hne : es = []
    · subst hne
      simp at hlen
      subst hlen
      exact .slE rfl
    · have hb : ∀ j, (c.w.alloc (.cells cells'.toArray e)).cell? ⟨c.w.heap.size, j, none⟩ = cells'[j]? := fun j => by
        rw [World.cell?_alloc_mark]; simp
      have := Rep.sl (P := P) (c := { c with w := c.w.alloc (.cells cells'.toArray e) }) (es := es) (cap := .ex n) (b := c.w.heap.size) (off := 0) (n := n) ti.size (fun k j => (cells'[k * ti.size + j]?).getD undef) hne (Nat.le_of_eq hlen) rfl
        ⟨by show _ < (c.w.heap.push _).size; simp, fun ho => by
          obtain ⟨i, o, h1, h2, h3⟩ := ho
          exact Nat.lt_irrefl c.w.heap.size (hH.own_lt ⟨i, o, h1, h2, h3⟩), fun hx => Nat.lt_irrefl _ (hH.x _ hx)⟩ hcl (okEls_len k3)
        (fun k e j a hk hj => by
          obtain ⟨w, hw, _⟩ := k2.2 k e j a hk hj
          rw [Nat.zero_add, hb, hw]; rfl)
        (fun k e j a hk hj => by
          obtain ⟨w, hw, hr⟩ := k2.2 k e j a hk hj
          rw [hw]; exact hr.mono h1)
      rw [hlen] at this
      exact this
  · cases h
    obtain ⟨h1, h2, _, h4⟩ := newCx_le hH (Same.refl c.w) rfl (ty := e) (esz := ti.size) (es := es) (cl := false) (arr := cells'.toArray) k3 (by simp) hcok
    exact ⟨_, _, _, hrun, h1, h2, h4 n n (Nat.le_refl _) (by rw [List.size_toArray, k2.1, hlen]; exact Nat.le_refl _) (some n) (by simp) (by simp)⟩

end
end Go.Ev
end

section
/- Texts and bytes; unsafe's. -/
namespace Go.Ev

section
variable {P : Program} {c : Cx} {v : AV} {H' : Heap} {clk' : Nat}

theorem isByteT_some {e : TypeId} (h : isByteT P e = true) : P.underlying e = some (.int .u8) := by
  unfold isByteT at h
  split at h
  · assumption
  · cases h

theorem op_toBytes (hH : HR P c) {s d e : TypeId} (hs : P.underlying s = some .string) (hd : P.underlying d = some (.slice e)) (he : isByteT P e = true) {x : AV} {vx : Value} (hx : Rep P c x vx)
    (h : evOp (.toBytes x) c.H c.clk = some (v, H', clk')) : DoneV P c (convert s d vx) v H' clk' := by
  simp only [evOp] at h
  split at h
  case h_2 => cases h
  rename_i b
  cases h
  rw [hx.str_inv]
  have hrun := run_bytes_of_string c.w s d e ⟨b.toArray⟩ hs hd (isByteT_some he)
  generalize hcap : grownCap c.w (ByteArray.size ⟨b.toArray⟩) 0 e = cap at hrun
  have hge : (ByteArray.size ⟨b.toArray⟩) ≤ cap := by rw [← hcap]; exact grownCap_ge c.w _ 0 e
  have hlen : ByteArray.size ⟨b.toArray⟩ = b.length := by show b.toArray.size = _; simp
  generalize hC : Obj.cells (bytesRow ⟨b.toArray⟩ cap) e ((bytesRow ⟨b.toArray⟩ cap).size, (bytesRow ⟨b.toArray⟩ cap).size + 1) = C at hrun
  obtain ⟨h1, h2⟩ := Cx.le.world hH (w' := c.w.drew.alloc C) ⟨rfl, rfl, rfl⟩ (by show _ ≤ (c.w.heap.push _).size; simp) (fun b hb => by show (c.w.heap.push _)[b]? = _; simp [Array.getElem?_push, Nat.ne_of_lt hb])
  refine ⟨_, _, _, hrun, h1, h2, ?_⟩
  by_cases hne : b = []
  · subst hne
    exact .slE trivial
  · have hlm : (b.map fun x => AV.int .u8 (x.toNat : Int)).length = b.length := by simp
    have hcl : ∀ l : List UInt8, closedL (l.map fun x => AV.int .u8 (x.toNat : Int)) = true := by
      intro l; induction l with
      | nil => rfl
      | cons x l ih => simp only [List.map_cons, closedL, closed, ih, Bool.and_self]
    have := Rep.sl (P := P) (c := { c with w := c.w.drew.alloc C }) (es := b.map fun x => AV.int .u8 (x.toNat : Int)) (cap := .unk) (b := c.w.heap.size) (off := 0) (n := cap) 1 (fun k j => .int .u8 ((b.getD k 0).toNat : Int))
      (by simpa using hne) (by rw [hlm, ← hlen]; exact hge) trivial
      ⟨by show _ < (c.w.heap.push _).size; simp, fun ho => by
        obtain ⟨i, o, h1, h2, h3⟩ := ho
        exact Nat.lt_irrefl c.w.heap.size (hH.own_lt ⟨i, o, h1, h2, h3⟩), fun hx => Nat.lt_irrefl _ (hH.x _ hx)⟩ (hcl b)
      (fun e he => by rw [List.mem_map] at he; obtain ⟨x, _, rfl⟩ := he; rfl)
      (fun k e j a hk hj => by
        rw [List.getElem?_map, Option.map_eq_some_iff] at hk
        obtain ⟨x, hx, rfl⟩ := hk
        cases j with
        | succ j => simp [flat] at hj
        | zero =>
          have hkl := (List.getElem?_eq_some_iff.1 hx).1
          show (c.w.drew.alloc C).cell? ⟨c.w.drew.heap.size, _, none⟩ = _
          rw [← hC, World.cell?_alloc_mark]
          simp only [Nat.zero_add, Nat.mul_one, Nat.add_zero]
          have hks : k < (ByteArray.data ⟨b.toArray⟩).size := by simpa using hkl
          rw [bytesRow_at _ _ _ hks]
          simp [List.getD, hkl])
      (fun k e j a hk hj => by
        rw [List.getElem?_map, Option.map_eq_some_iff] at hk
        obtain ⟨x, hx, rfl⟩ := hk
        cases j with
        | succ j => simp [flat] at hj
        | zero =>
          simp [flat] at hj
          subst hj
          have : b.getD k 0 = x := by simp [List.getD, hx]
          rw [this]; exact .int _ _)
    rw [hlm] at this
    rw [hlen]
    exact this

theorem byteOf_some {e : AV} {b : UInt8} (h : byteOf e = some b) : ∃ n : Int, e = .int .u8 n ∧ b = UInt8.ofNat n.toNat := by
  unfold byteOf at h
  split at h
  · cases h; exact ⟨_, rfl, rfl⟩
  · cases h

/-- bytes as elements: the numbers -/
theorem nums_of : ∀ (es : List AV) (bs : List UInt8), es.mapM byteOf = some bs → ∃ ns : List Int, es = ns.map (fun n => AV.int .u8 n) ∧ bs = ns.map fun n => UInt8.ofNat n.toNat
  | [], bs, h => by simp at h; subst h; exact ⟨[], rfl, rfl⟩
  | e :: es, bs, h => by
    simp only [List.mapM_cons, Option.bind_eq_bind, Option.bind_eq_some_iff, Option.pure_def, Option.some.injEq] at h
    obtain ⟨b, hb, bs', hbs, rfl⟩ := h
    obtain ⟨n, rfl, rfl⟩ := byteOf_some hb
    obtain ⟨ns, rfl, rfl⟩ := nums_of es bs' hbs
    exact ⟨n :: ns, rfl, rfl⟩

theorem foldl_push (ns : List Int) : ∀ r : ByteArray, ns.foldl (fun r n => r.push (UInt8.ofNat n.toNat)) r = ⟨r.data ++ (ns.map fun n => UInt8.ofNat n.toNat).toArray⟩ := by
  induction ns with
  | nil => intro r; simp
  | cons n ns ih => intro r; simp only [List.foldl_cons, List.map_cons]; rw [ih]; simp [ByteArray.push]

/-- values that stand for bytes -/
theorem news_nums {ns : List Int} {news : List Value} (h : NewsR P c 1 (ns.map fun n => AV.int .u8 n) news) : news = ns.map (Value.int .u8) := by
  apply List.ext_getElem?
  intro k
  rw [List.getElem?_map]
  cases hk : ns[k]? with
  | none =>
    rw [List.getElem?_eq_none_iff] at hk
    rw [Option.map_none, List.getElem?_eq_none_iff, h.1]
    simpa using hk
  | some n =>
    obtain ⟨v, hv, hr⟩ := h.2 k (.int .u8 n) 0 (.int .u8 n) (by simp [hk]) rfl
    rw [hr.int_inv] at hv
    simpa using hv

theorem okEls_nums (ns : List Int) : okEls 1 (ns.map fun n => AV.int .u8 n) = true := by
  simp [okEls, okEl, flat, isCell]

theorem op_toStr (hH : HR P c) {s d : TypeId} {sl : Bool} {sd : TypeDesc} (hs : P.underlying s = some sd) (hd : P.underlying d = some .string) (hsl : sl = true → ∃ e, sd = .slice e ∧ isByteT P e = true) {x : AV} {vx : Value} (hx : Rep P c x vx)
    (h : evOp (.toStr sl x) c.H c.clk = some (v, H', clk')) : DoneV P c (convert s d vx) v H' clk' := by
  simp only [evOp] at h
  split at h
  · cases h
    rw [hx.str_inv]
    refine .same hH (val := .string ⟨_⟩) ?_ (.str _)
    simp [convert, run_underlying hs, run_underlying hd]
  · rename_i k n
    cases h
    rw [hx.int_inv]
    refine .same hH (val := .string (Utf8.encode n)) ?_ ?_
    · simp [convert, run_underlying hs, run_underlying hd, Conv.intToString]
    · have := Rep.str (P := P) (c := c) (Utf8.encode n).data.toList
      simpa using this
  · rename_i hns hni
    split at h
    case isFalse => cases h
    rename_i hslt
    obtain ⟨e, rfl, he⟩ := hsl hslt
    have he' := isByteT_some he
    split at h
    case h_2 => cases h
    rename_i es cl hel
    rw [Option.bind_eq_some_iff] at h
    obtain ⟨bs, hbs, h⟩ := h
    cases h
    obtain ⟨ns, rfl, rfl⟩ := nums_of es bs hbs
    obtain ⟨news, hn, hsrc, _⟩ := elems_src hH hx hel (okEls_nums ns)
    obtain rfl := news_nums hn
    have hshape : ∃ a n cap, vx = .slice a n cap := by
      unfold elems at hel
      split at hel
      · cases hx with
        | slE _ => exact ⟨_, _, _, rfl⟩
        | sl _ _ _ _ _ _ _ _ _ _ => exact ⟨_, _, _, rfl⟩
      · cases hx with
        | msl _ _ _ _ _ _ => exact ⟨_, _, _, rfl⟩
        | mslS _ _ _ _ _ => exact ⟨_, _, _, rfl⟩
      · exact absurd rfl (hns _)
      · cases hel
    obtain ⟨a, n, cap, rfl⟩ := hshape
    have hl := hsrc.len c.w
    simp only [Builtin.lenOf, Sem.run_pure, List.length_map, Result.ok.injEq, and_true] at hl
    subst hl
    have hf := hsrc.first c.w rfl ns.length (by simp)
    have hlen : (ns.map (Value.int .u8)).take (ns.length * 1) = ns.map (Value.int .u8) := List.take_of_length_le (by simp)
    rw [hlen] at hf
    refine .same hH (val := .string ⟨(ns.map fun n => UInt8.ofNat n.toNat).toArray⟩) ?_ (.str _)
    rw [run_convert_bytes_string c.w s d e a ns.length cap hs he' hd]
    cases a with
    | none =>
      simp only [Builtin.firstCells, Sem.run_pure, Result.ok.injEq, and_true] at hf
      have : ns = [] := by
        have := congrArg Array.size hf
        simp at this
        exact List.eq_nil_of_length_eq_zero this.symm
      subst this
      simp [Conv.bytesToString]
      rfl
    | some a =>
      simp only [Builtin.firstCells, Nat.mul_one] at hf
      rw [run_bytesToString c.w a _ cap ns hf, foldl_push]
      have he0 : ByteArray.empty.data = #[] := rfl
      rw [he0]; simp

theorem op_unsafeData (hH : HR P c) {ts : Array TypeId} {ty : TypeId} {x : AV} {vx : Value} (hx : Rep P c x vx)
    (h : evOp (.unsafeData x) c.H c.clk = some (v, H', clk')) : DoneV P c (Builtin.unsafeSliceData_ ts ty #[vx]) v H' clk' := by
  simp only [evOp] at h
  split at h
  · rename_i i ep off n cap
    split at h
    case h_2 => cases h
    rename_i r hg
    cases h
    obtain ⟨cap', rfl, hle, hcapx, hbs, hep, hL⟩ := hx.msl_inv (sig_of hg)
    refine .same hH (Lib.run_unsafeSliceData_row c.w ts ty _ _ cap' (by omega)) ?_
    have := Rep.ptr (P := P) (c := c) (k := off) (j := 0) (sig_of hg) hep
    simpa using this
  · cases h
    cases hx with
    | slE hc =>
      obtain ⟨rfl, rfl⟩ := hc
      exact .same hH (Lib.run_unsafeSliceData_nil c.w ts ty 0 0) .nilp
    | sl _ _ hne _ _ _ _ _ _ _ => exact absurd rfl hne
  · rename_i e es cap
    cases h
    cases hx with
    | @sl _ _ b off n esz f hne hn hcap hb hcl hsz hf hr =>
      simp only [List.length_cons] at hn
      refine .same hH (Lib.run_unsafeSliceData_row c.w ts ty _ _ n (by omega)) ?_
      simp only [closedL, Bool.and_eq_true] at hcl
      exact .iptr (f 0) hb hcl.1 (fun x a hx => by have := hf 0 e x a rfl hx; simpa using this) (fun x a hx => hr 0 e x a rfl hx)
  · cases h

theorem run_loadNums (w : World) : ∀ (l : List Int) (a : Addr) (acc : ByteArray), (∀ j x, l[j]? = some x → w.cell? (a.add j) = some (.int .u8 x)) →
    (loadBytes a acc l.length).run P w = .ok ⟨acc.data ++ (l.map fun n => UInt8.ofNat n.toNat).toArray⟩ w
  | [], a, acc, _ => by simp [loadBytes]
  | x :: l, a, acc, h => by
    have h0 : w.cell? a = some (.int .u8 x) := by
      have := h 0 x rfl
      simpa [Addr.add] using this
    have ih := run_loadNums w l (a.add 1) (acc.push (UInt8.ofNat x.toNat)) (fun j y hy => by
      have := h (j + 1) y (by simpa using hy)
      have e : (a.add 1).add j = a.add (j + 1) := by
        unfold Addr.add
        by_cases hj : j = 0
        · subst hj; simp
        · simp [hj]; omega
      rw [e]; exact this)
    have hx : x.toNat.toUInt8 = UInt8.ofNat x.toNat := rfl
    simp only [List.length_cons, loadBytes, Sem.run_bind, run_load, h0, Result.andThen, hx]
    rw [ih]
    congr 1
    apply ByteArray.ext
    simp [ByteArray.push]

/-- an object's cells are frozen -/
theorem Cx.le.frozen {i : Nat} {r : VO} (hH : HR P c) (hi : c.H[i]? = some (.var r)) (ho : r.own = true) (n : Nat) :
    c.le ⟨c.H.set i (.var { r with own := false }), c.m, c.clk, c.w.freeze ⟨c.m i, 0, none⟩ n, c.x⟩ ∧ HR P ⟨c.H.set i (.var { r with own := false }), c.m, c.clk, c.w.freeze ⟨c.m i, 0, none⟩ n, c.x⟩ := by
  have hown : c.Own (c.m i) := ⟨i, _, hi, ho, rfl⟩
  have hil : i < c.H.length := (List.getElem?_eq_some_iff.1 hi).1
  have hv := hH.var i r hi
  have hw : ∀ b, b ≠ c.m i → (c.w.freeze ⟨c.m i, 0, none⟩ n).heap[b]? = c.w.heap[b]? := by
    intro b hb
    unfold World.freeze
    split
    · rfl
    · simp [Array.getElem?_modify, Ne.symm hb]
  obtain ⟨arr, fz, hb, hfz, hle, hcells⟩ := hv.cells
  have hwi : ∃ fz', (c.w.freeze ⟨c.m i, 0, none⟩ n).heap[c.m i]? = some (.cells arr r.ty fz') := by
    unfold World.freeze
    split
    · exact ⟨fz, hb⟩
    · exact ⟨if fz.1 == fz.2 then (0, 0 + n) else (min fz.1 0, max fz.2 (0 + n)), by simp only [Array.getElem?_modify, if_true, hb, Option.map_some]⟩
  obtain ⟨fz', hwi⟩ := hwi
  have hsize : (c.w.freeze ⟨c.m i, 0, none⟩ n).heap.size = c.w.heap.size := by unfold World.freeze; split <;> simp
  have hsame : Same c.w (c.w.freeze ⟨c.m i, 0, none⟩ n) := by unfold World.freeze; split <;> exact ⟨rfl, rfl, rfl⟩
  have hget : ∀ j, (c.H.set i (.var { r with own := false }))[j]? = if j = i then some (.var { r with own := false }) else c.H[j]? := by
    intro j
    rw [List.getElem?_set]
    by_cases h : i = j
    · subst h; simp [hil]
    · simp [h, Ne.symm h]
  have hsub : ∀ b, (⟨c.H.set i (.var { r with own := false }), c.m, c.clk, c.w.freeze ⟨c.m i, 0, none⟩ n, c.x⟩ : Cx).Own b → c.Own b ∧ b ≠ c.m i := by
    rintro b ⟨j, o, hj, hoo, rfl⟩
    rw [show (⟨c.H.set i (.var { r with own := false }), c.m, c.clk, c.w.freeze ⟨c.m i, 0, none⟩ n, c.x⟩ : Cx).H = c.H.set i (.var { r with own := false }) from rfl, hget j] at hj
    split at hj
    · cases hj; cases hoo
    · rename_i hji
      exact ⟨⟨j, o, hj, hoo, rfl⟩, fun e => hji (hH.inj j i _ _ hj hi hoo ho e)⟩
  have hbs : ∀ b, bsize (c.w.freeze ⟨c.m i, 0, none⟩ n) b = bsize c.w b := by
    intro b
    by_cases h : b = c.m i
    · subst h; simp [bsize, hwi, hb]
    · simp [bsize, hw b h]
  have hle' : c.le ⟨c.H.set i (.var { r with own := false }), c.m, c.clk, c.w.freeze ⟨c.m i, 0, none⟩ n, c.x⟩ := by
    refine ⟨Nat.le_of_eq hsize.symm, fun b _ h _ => hw b (fun e => h (e ▸ hown)), fun b h => .inl (hsub b h).1, Nat.le_refl _, ?_, fun _ h => .inl h, hsame.os, hsame.tape, hsame.output⟩
    intro j ep z _ hs
    refine ⟨?_, rfl, hbs _⟩
    by_cases hj : j = i
    · subst hj
      rw [sig_var (r := { r with own := false }) (by rw [hget]; simp)] at hs
      rw [sig_var hi]; exact hs
    · rw [sig_set_ne hj] at hs; exact hs
  refine ⟨hle', ⟨?_, ?_, ?_, fun b h => Nat.lt_of_lt_of_le (hH.x b h) hle'.size⟩⟩
  · intro j k o o' hj hk ho1 ho2 hmm
    rw [hget] at hj hk
    split at hj
    · cases hj; cases ho1
    split at hk
    · cases hk; cases ho2
    exact hH.inj j k o o' hj hk ho1 ho2 hmm
  · intro j r2 hj
    rw [hget] at hj
    split at hj
    · rename_i hji
      subst hji
      cases hj
      exact ⟨hv.ep, ⟨arr, fz', hwi, fun h => (by cases h), hle, fun k e j a hk hj => let ⟨v, h1, h2⟩ := hcells k e j a hk hj; ⟨v, h1, h2.mono hle'⟩⟩, fun _ h => (hsub _ h).2 rfl, hv.x, hv.sz, hv.cl⟩
    · rename_i hji
      have hv2 := hH.var j r2 hj
      have hne : c.m j ≠ c.m i := by
        intro e
        cases hr2 : r2.own with
        | true => exact hji (hH.inj j i _ _ hj hi hr2 ho e)
        | false => exact hv2.frz hr2 (e ▸ hown)
      obtain ⟨arr2, fz2, g1, g2, g3, g4⟩ := hv2.cells
      exact ⟨hv2.ep, ⟨arr2, fz2, by show (c.w.freeze _ _).heap[c.m j]? = _; rw [hw _ hne]; exact g1, g2, g3, fun k e j a hk hj => let ⟨v, h1, h2⟩ := g4 k e j a hk hj; ⟨v, h1, h2.mono hle'⟩⟩, fun hf h => hv2.frz hf (hsub _ h).1, hv2.x, hv2.sz, hv2.cl⟩
  · intro j es ep ver hj
    rw [hget] at hj
    split at hj
    · cases hj
    · exact hH.nomap j _ _ _ hj

theorem unsafeString_def (pt it ty : TypeId) (p : Option Addr) (y : Value) : Builtin.unsafeString_ #[pt, it] ty #[.pointer p, y] =
    (do
      let n ← asInt y
      if n < 0 then runtimePanic (.error "unsafe.String: len out of range")
      if n > IntKind.i64.max then unsupported (.unsafePointer "String: a length above the largest int")
      match p with
      | none =>
        if n = 0 then pure (.string .empty)
        else runtimePanic (.error "unsafe.String: ptr is nil and len is not zero")
      | some a =>
        if n = 0 then pure (.string .empty)
        else if ← variablesAt a (← elemOf pt) n.toNat then do
          let s ← loadBytes a .empty n.toNat
          Go.freeze a n.toNat
          pure (.string s)
        else unsupported (.unsafePointer "String: not so many bytes at ptr")) := rfl

theorem op_unsafeStr (hH : HR P c) {pt it ty e : TypeId} {ti : TypeInfo} (hp : P.underlying pt = some (.pointer e)) (hi : P.info? e = some ti) (he : ti.size = 1) {x y : AV} {vx vy : Value} (hx : Rep P c x vx) (hy : Rep P c y vy)
    (h : evOp (.unsafeStr e x y) c.H c.clk = some (v, H', clk')) : DoneV P c (Builtin.unsafeString_ #[pt, it] ty #[vx, vy]) v H' clk' := by
  have hmax : IntKind.i64.max = 9223372036854775807 := rfl
  simp only [evOp] at h
  split at h
  · rename_i hn
    split at h
    case isFalse => cases h
    rename_i hptr
    cases h
    obtain ⟨k, hk⟩ := asNat_run hn hy c.w
    obtain ⟨p, rfl⟩ : ∃ p, vx = .pointer p := by
      cases hx <;> first | exact ⟨_, rfl⟩ | (simp [isPtr] at hptr)
    refine .same hH (val := .string ⟨([] : List UInt8).toArray⟩) ?_ (.str [])
    rw [unsafeString_def]
    cases p with
    | none => simp [asInt, hk, hmax]; rfl
    | some a => simp [asInt, hk, hmax]; rfl
  · rename_i n hn0 hn
    split at h
    case h_2 => cases h
    rename_i i ep
    split at h
    case h_2 => cases h
    rename_i r hg
    split at h
    case isFalse => cases h
    rename_i hcond
    obtain ⟨hown, hesz, hty, hle, hmost⟩ := hcond
    rw [Option.bind_eq_some_iff] at h
    obtain ⟨bs, hbs, h⟩ := h
    cases h
    obtain ⟨hri, hrep⟩ := getO_some hg
    have hv := hH.var i r hri
    obtain ⟨arr, fz, hb, hfz, hles, hcells⟩ := hv.cells
    obtain ⟨rfl, hep⟩ := hx.ptr_inv (sig_of hg)
    obtain ⟨ns, hns, rfl⟩ := nums_of _ bs hbs
    have hlen : ns.length = n := by
      have := congrArg List.length hns
      simp at this; omega
    obtain ⟨k, hk⟩ := asNat_run hn hy c.w
    have hcell : ∀ j x, ns[j]? = some x → c.w.cell? ((⟨c.m i, 0, none⟩ : Addr).add j) = some (.int .u8 x) := by
      intro j x hj
      have hjl := (List.getElem?_eq_some_iff.1 hj).1
      have he2 : r.es[j]? = some (.int .u8 x) := by
        have : (r.es.take n)[j]? = some (.int .u8 x) := by rw [hns]; simp [hj]
        rw [List.getElem?_take, if_pos (by omega)] at this
        exact this
      obtain ⟨w, hw, hr⟩ := hH.cell hg he2 (j := 0) rfl
      rw [hr.int_inv] at hw
      rw [add_none]
      simpa [hesz] using hw
    have hload := run_loadNums (P := P) c.w ns ⟨c.m i, 0, none⟩ .empty hcell
    rw [hlen] at hload
    have hc1 : P.cellsOf e = 1 := by simp [Program.cellsOf, hi, he]
    have hsh : c.w.shape? (c.m i) = some (e, arr.size) := by simp [World.shape?, hb, hty]
    have hlies := Lib.liesAt_bytes (P := P) hc1 (arr.size / P.cellsOf e) n (by rw [hc1, Nat.div_one]; rw [hesz] at hles; omega)
    have hz : 0 * r.esz + 0 = 0 := by simp
    rw [hz]
    obtain ⟨h1, h2⟩ := Cx.le.frozen hH hri hown n
    have hn0' : n ≠ 0 := by simpa using hn0
    refine ⟨.string ⟨(ns.map fun n => UInt8.ofNat n.toNat).toArray⟩, _, _, ?_, h1, h2, .str _⟩
    have hsmall : n ≤ 2147483648 := hmost
    have h63' : ¬ (9223372036854775807 : Int) < (n : Int) := by omega
    have hneg : ¬ (n : Int) < 0 := by omega
    have he0 : ByteArray.empty.data = #[] := rfl
    rw [he0] at hload
    simp only [Array.empty_append] at hload
    rw [unsafeString_def]
    simp [asInt, hk, hmax, h63', hneg, hn0', variablesAt, hsh, elemOf, run_underlying hp, hlies, hload]
  · cases h

end
end Go.Ev
end

section
/- Every operation beside calls, carried out, is as the evaluator says. -/
namespace Go.Ev

section
variable {P : Program} {c : Cx} {v : AV} {H' : Heap} {clk' : Nat}

theorem optRep {g : Ref → AV} {ρ : Operand → Value} (hρ : ∀ x, Rep P c (g (cRef x)) (ρ x)) (x : Option Operand) : OptRep P c ((x.map cRef).map g) (x.map ρ) := by
  cases x with
  | none => trivial
  | some x => exact hρ x

theorem listRep {g : Ref → AV} {ρ : Operand → Value} (hρ : ∀ x, Rep P c (g (cRef x)) (ρ x)) (xs : Array Operand) : (xs.map ρ).size = ((xs.toList.map cRef).map g).length ∧
    ∀ (k : Nat) a v, ((xs.toList.map cRef).map g)[k]? = some a → (xs.map ρ)[k]? = some v → Rep P c a v := by
  refine ⟨by simp, fun k a v h1 h2 => ?_⟩
  simp only [List.map_map, List.getElem?_map, Array.getElem?_toList, Option.map_eq_some_iff, Array.getElem?_map] at h1 h2
  obtain ⟨x, hx, rfl⟩ := h1
  obtain ⟨y, hy, rfl⟩ := h2
  rw [hx] at hy; cases hy
  exact hρ x

theorem bin_shape {op : BinOp} {x y r : AV} (h : bin op x y = some r) : (∃ k n, x = .int k n) ∨ ∃ s, x = .str s := by
  unfold bin at h
  split at h <;> first | exact .inl ⟨_, _, rfl⟩ | exact .inr ⟨_, rfl⟩ | cases h

theorem Done.congr {s t : Sem Next} (h : s.run P c.w = t.run P c.w) (hd : Done P c t v H' clk') : Done P c s v H' clk' := by
  obtain ⟨val, m', w', h1, h2⟩ := hd
  exact ⟨val, m', w', by rw [h]; exact h1, h2⟩

theorem op_call (hH : HR P c) {o : Oper} {cl : Call} (ho : o.op = .call cl) {cop : COp Ref} (hc : compCall P cl = some cop) {g : Ref → AV} {ρ : Operand → Value} (hρ : ∀ x, Rep P c (g (cRef x)) (ρ x))
    (h : evOp (cop.map g) c.H c.clk = some (v, H', clk')) : Done P c (execOp ρ o) v H' clk' := by
  unfold compCall at hc
  split at hc
  · cases hc; cases h
  · cases hc
  rename_i b hb
  have hex : (execOp ρ o).run P c.w = (builtin b cl.argTypes o.type (cl.args.map fun | .const _ => true | _ => false) (cl.args.map ρ)).run P c.w := by
    simp only [execOp, ho, resolve, hb, Sem.run_bind, Sem.run_pure, Result.andThen_ok]
    rfl
  refine Done.congr hex ?_
  have hats : ∀ ts : List TypeId, cl.argTypes.toList = ts → cl.argTypes = ts.toArray := fun ts h => by rw [← h]
  have hargs : ∀ xs : List Operand, cl.args.toList = xs → cl.args.map ρ = (xs.map ρ).toArray := fun xs h => by
    have : cl.args = xs.toArray := by rw [← h]
    rw [this]; simp
  have one : ∀ {d : Option TypeDesc}, cl.argTypes.toList.map P.underlying = [d] → ∃ t, cl.argTypes = #[t] ∧ P.underlying t = d := by
    intro d h
    cases hl : cl.argTypes.toList with
    | nil => rw [hl] at h; cases h
    | cons t ts =>
      rw [hl] at h
      cases ts with
      | nil => simp at h; exact ⟨t, hats _ hl, h⟩
      | cons _ _ => simp at h
  have two : ∀ {d e : Option TypeDesc}, cl.argTypes.toList.map P.underlying = [d, e] → ∃ t u, cl.argTypes = #[t, u] ∧ P.underlying t = d ∧ P.underlying u = e := by
    intro d e h
    cases hl : cl.argTypes.toList with
    | nil => rw [hl] at h; cases h
    | cons t ts =>
      rw [hl] at h
      cases ts with
      | nil => simp at h
      | cons u us =>
        cases us with
        | nil => simp at h; exact ⟨t, u, hats _ hl, h.1, h.2⟩
        | cons _ _ => simp at h
  have any : ∀ {d : Option TypeDesc} {ds : List (Option TypeDesc)}, cl.argTypes.toList.map P.underlying = d :: ds → ∃ t ts, cl.argTypes = (t :: ts).toArray ∧ P.underlying t = d := by
    intro d ds h
    cases hl : cl.argTypes.toList with
    | nil => rw [hl] at h; cases h
    | cons t ts =>
      rw [hl] at h
      simp at h
      exact ⟨t, ts, hats _ hl, h.1⟩
  split at hc
  · rename_i x hx ht
    cases hc
    obtain ⟨t, e1, e2⟩ := one ht
    rw [e1, hargs _ hx]
    exact (op_len_s hH e2 (hρ x) h).done
  · rename_i x e hx ht
    cases hc
    obtain ⟨t, e1, e2⟩ := one ht
    rw [e1, hargs _ hx]
    exact (op_len_l hH e2 (hρ x) h).done
  · rename_i x n e hx ht
    cases hc
    obtain ⟨t, e1, e2⟩ := one ht
    rw [e1, hargs _ hx]
    exact (op_len_a hH e2 (.inl ⟨_, rfl⟩) h).done
  · rename_i x a hx ht
    obtain ⟨t, e1, e2⟩ := one ht
    split at hc
    · rename_i n e ha
      cases hc
      rw [e1, hargs _ hx]
      exact (op_len_a hH e2 (.inr ⟨_, _, rfl, ha⟩) h).done
    · cases hc
  · rename_i x e hx ht
    cases hc
    obtain ⟨t, e1, e2⟩ := one ht
    rw [e1, hargs _ hx]
    exact (op_cap hH e2 (hρ x) h).done
  · rename_i x y e k hx ht
    obtain ⟨t, u, e1, e2, e3⟩ := two ht
    split at hc
    · rename_i sz z hs hz
      cases hc
      rw [e1, hargs _ hx]
      exact (op_appZ hH e2 e3 hs hz (hρ x) (hρ y) h).done
    · cases hc
  · rename_i x y e d hnd hx ht
    obtain ⟨t, u, e1, e2, e3⟩ := two ht
    rw [Option.map_eq_some_iff] at hc
    obtain ⟨sz, hs, rfl⟩ := hc
    rw [e1, hargs _ hx]
    exact (op_app hH e2 e3 (fun k e => hnd k e) hs (hρ x) (hρ y) h).done
  · rename_i x y e ds hx ht
    obtain ⟨t, ts, e1, e2⟩ := any ht
    rw [Option.map_eq_some_iff] at hc
    obtain ⟨i, hi, rfl⟩ := hc
    rw [e1, hargs _ hx]
    exact (op_copy hH e2 hi (hρ x) (hρ y) h).done
  · rename_i x e hx ht
    obtain ⟨t, e1, e2⟩ := one ht
    split at hc
    · rename_i i z hi hz
      cases hc
      rw [e1, hargs _ hx]
      exact (op_clear hH e2 hi hz (hρ x) h).done
    · cases hc
  · rename_i x xs ds hx
    cases hc
    have hl := listRep hρ cl.args
    rw [hx] at hl
    exact (op_mnx (isMax := true) (ts := cl.argTypes) (ty := o.type) hH hl.1 hl.2 h).done
  · rename_i x xs ds hx
    cases hc
    have hl := listRep hρ cl.args
    rw [hx] at hl
    exact (op_mnx (isMax := false) (ts := cl.argTypes) (ty := o.type) hH hl.1 hl.2 h).done
  · rename_i ds x hx
    cases hc
    rw [hargs _ hx]
    exact (op_unsafeData hH (hρ x) h).done
  · rename_i x n e d hx ht
    obtain ⟨t, u, e1, e2, e3⟩ := two ht
    rw [Option.bind_eq_some_iff] at hc
    obtain ⟨i, hi, hc⟩ := hc
    split at hc
    · rename_i hz
      cases hc
      rw [e1, hargs _ hx]
      exact (op_unsafeStr hH e2 hi hz (hρ x) (hρ n) h).done
    · cases hc
  · cases hc

theorem op_sound (hH : HR P c) {o : Oper} {cop : COp Ref} (hc : compOp P o.op = some cop) {g : Ref → AV} {ρ : Operand → Value} (hρ : ∀ x, Rep P c (g (cRef x)) (ρ x))
    (h : evOp (cop.map g) c.H c.clk = some (v, H', clk')) : Done P c (execOp ρ o) v H' clk' := by
  unfold compOp at hc
  split at hc
  · -- move
    rename_i x ho
    cases hc
    simp only [execOp, ho]
    exact (op_mv hH (hρ x) h).done
  · rename_i x ho
    cases hc
    simp only [execOp, ho]
    exact (op_mv hH (hρ x) h).done
  · rename_i a b d ho
    cases hc
    simp only [execOp, ho]
    have := op_pick hH (hρ a) (hρ b) (hρ d) h
    obtain ⟨val, m', w', h1, h2⟩ := this
    refine ⟨val, m', w', .inl ?_, h2⟩
    simp only [Sem.run_bind, Sem.run_pure] at h1 ⊢
    revert h1
    cases (asBool (ρ a)).run P c.w <;> simp
  · rename_i t ho
    simp only [execOp, ho]
    exact (op_alloc hH hc h).done
  · rename_i t x ho
    rw [Option.map_eq_some_iff] at hc
    obtain ⟨i, hi, rfl⟩ := hc
    simp only [execOp, ho]
    exact (op_box hH (hρ x) h).done
  · rename_i t ps ho
    simp only [execOp, ho]
    exact (op_build hH hc hρ h).done
  · rename_i t n ps ho
    simp only [execOp, ho]
    exact (op_mkSl hH hc hρ h).done
  · rename_i t x ho
    rw [Option.map_eq_some_iff] at hc
    obtain ⟨r, hr, rfl⟩ := hc
    simp only [execOp, ho]
    exact (op_load hH hr (hρ x) h).done
  · rename_i t x y ho
    rw [Option.map_eq_some_iff] at hc
    obtain ⟨i, hi, rfl⟩ := hc
    simp only [execOp, ho]
    obtain ⟨m', w', h1, h2, h3, h4⟩ := op_store hH hi (hρ x) (hρ y) h
    subst h2
    exact ⟨undef, m', w', .inr ⟨by simp [h1], rfl⟩, h3, h4, .junk _⟩
  · rename_i x ho
    cases hc
    exact op_nilchk hH (hρ x) ρ rfl ho h
  · rename_i op t x y g2 ho
    simp only [execOp, ho]
    have hint : cop = .bin op (cRef x) (cRef y) → DoneV P c (do eqGuard op t x y (ρ x) (ρ y); binOp op t (ρ x) (ρ y)) v H' clk' := by
      rintro rfl
      obtain ⟨val, m', w', h1, h2⟩ := op_bin (t := t) hH (hρ x) (hρ y) h
      refine ⟨val, m', w', ?_, h2⟩
      simp only [COp.map, evOp, Option.bind_eq_some_iff] at h
      obtain ⟨r, hr, _⟩ := h
      have hg : eqGuard op t x y (ρ x) (ρ y) = pure () := by
        rcases bin_shape hr with ⟨k, n, e⟩ | ⟨s, e⟩
        · have := hρ x; rw [e] at this; rw [this.int_inv]; exact eqGuard_at_int ..
        · have := hρ x; rw [e] at this; rw [this.str_inv]; exact eqGuard_at_string ..
      simp [hg, h1]
    refine DoneV.done ?_
    unfold compBin at hc
    split at hc
    · cases hc; exact hint rfl
    · cases hc; exact hint rfl
    · rw [Option.map_eq_some_iff] at hc
      obtain ⟨k, hk, rfl⟩ := hc
      exact op_eqv (neg := false) hH (eqK_ok hk) (hρ x) (hρ y) h
    · rw [Option.map_eq_some_iff] at hc
      obtain ⟨k, hk, rfl⟩ := hc
      exact op_eqv (neg := true) hH (eqK_ok hk) (hρ x) (hρ y) h
    · cases hc
  · rename_i op t x ho
    cases hc
    simp only [execOp, ho]
    exact (op_un hH (hρ x) h).done
  · rename_i s d x ho
    simp only [execOp, ho]
    refine DoneV.done ?_
    unfold compConv at hc
    split at hc
    · rename_i sd k hs hd
      cases hc
      exact op_toInt hH hs hd (hρ x) h
    · rename_i e hs hd
      split at hc
      · rename_i he
        cases hc
        exact op_toStr hH hs hd (fun _ => ⟨_, rfl, he⟩) (hρ x) h
      · cases hc
    · rename_i sd _ hs hd
      cases hc
      exact op_toStr hH hs hd (fun h => by cases h) (hρ x) h
    · rename_i e hs hd
      split at hc
      · rename_i he
        cases hc
        exact op_toBytes hH hs hd he (hρ x) h
      · cases hc
    · rename_i t hs hd
      split at hc
      · rename_i hz
        cases hc
        rw [Option.any_eq_true] at hz
        obtain ⟨i, hi, hz⟩ := hz
        exact op_p2u hH hs hd hi (by simpa using hz) (hρ x) h
      · cases hc
    · rename_i u hs hd
      split at hc
      · rename_i i hi
        split at hc
        · rename_i hz
          cases hc
          exact op_u2p hH hs hd hi hz (hρ x) h
        · cases hc
      · cases hc
    · cases hc
  · rename_i t x lo hi mx ho
    simp only [execOp, ho]
    refine DoneV.done ?_
    unfold compSlice at hc
    split at hc
    · rename_i ht
      cases hc
      exact op_slice_str hH ht (hρ x) (optRep hρ lo) (optRep hρ hi) (optRep hρ mx) h
    · rename_i e ht
      rw [Option.map_eq_some_iff] at hc
      obtain ⟨i, hi', rfl⟩ := hc
      exact op_slice_sl hH ht hi' (hρ x) (optRep hρ lo) (optRep hρ hi) (optRep hρ mx) h
    · rename_i n e ht
      rw [Option.map_eq_some_iff] at hc
      obtain ⟨i, hi', rfl⟩ := hc
      exact op_sliceA hH (.inl ht) hi' (hρ x) (optRep hρ lo) (optRep hρ hi) (optRep hρ mx) h
    · rename_i a ht
      split at hc
      · rename_i n e ha
        rw [Option.map_eq_some_iff] at hc
        obtain ⟨i, hi', rfl⟩ := hc
        exact op_sliceA hH (.inr ⟨a, ht, ha⟩) hi' (hρ x) (optRep hρ lo) (optRep hρ hi) (optRep hρ mx) h
      · cases hc
    · cases hc
  · rename_i t x f ho
    simp only [execOp, ho]
    rw [Option.bind_eq_some_iff] at hc
    obtain ⟨fd, hf, hc⟩ := hc
    rw [Option.map_eq_some_iff] at hc
    obtain ⟨r, hr, rfl⟩ := hc
    exact (op_fld hH hf hr (hρ x) h).done
  · rename_i t x f ho
    simp only [execOp, ho]
    rw [Option.bind_eq_some_iff] at hc
    obtain ⟨fd, hf, hc⟩ := hc
    rw [Option.bind_eq_some_iff] at hc
    obtain ⟨r, hr, hc⟩ := hc
    split at hc
    · cases hc
    · rename_i hz
      cases hc
      exact (op_fldA hH hf hr hz (hρ x) h).done
  · rename_i t x i ho
    simp only [execOp, ho]
    refine DoneV.done ?_
    split at hc
    · rename_i n e ht
      rw [Option.map_eq_some_iff] at hc
      obtain ⟨j, hj, rfl⟩ := hc
      exact op_idxA (arr := some n) hH hj ht (hρ x) (hρ i) h
    · rename_i e ht
      rw [Option.map_eq_some_iff] at hc
      obtain ⟨j, hj, rfl⟩ := hc
      exact op_idxA (arr := none) hH hj ht (hρ x) (hρ i) h
    · cases hc
  · rename_i t x i ho
    simp only [execOp, ho]
    refine DoneV.done ?_
    split at hc
    · rename_i n e ht
      rw [Option.map_eq_some_iff] at hc
      obtain ⟨r, hr, rfl⟩ := hc
      exact op_idx_arr hH hr ht (hρ x) (hρ i) h
    · rename_i ht
      cases hc
      exact op_idx_str hH ht (hρ x) (hρ i) h
    · cases hc
  · rename_i x i ho
    cases hc
    simp only [execOp, ho]
    exact (op_ext hH (hρ x) h).done
  · rename_i cl ho
    exact op_call hH ho hc hρ h
  · rename_i t x ho
    simp only [execOp, ho]
    refine DoneV.done ?_
    split at hc
    · cases hc
    · rename_i d hni hd
      cases hc
      exact op_mkIface hH hd (fun ms e => hni ms e) (hρ x) h
    · cases hc
  · rename_i f first caps ho
    simp only [execOp, ho]
    refine DoneV.done ?_
    split at hc
    · rename_i hz
      cases hc
      obtain rfl := Array.eq_empty_of_size_eq_zero hz
      have := listRep hρ caps
      rw [show Array.map ρ #[] = #[] from by simp]
      exact op_mkFn hH this.1 this.2 h
    · cases hc
  · rename_i t l cp ho
    simp only [execOp, ho]
    refine DoneV.done ?_
    split at hc
    · rename_i e ht
      split at hc
      · rename_i sz z hs hz
        cases hc
        exact op_mkSlice hH ht hs hz (hρ l) (hρ cp) h
      · cases hc
    · cases hc
  · cases hc

end
end Go.Ev
end
