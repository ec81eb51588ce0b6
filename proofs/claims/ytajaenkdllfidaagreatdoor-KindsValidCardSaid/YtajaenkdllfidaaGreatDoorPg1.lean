/- An evaluator of plain Go operations, with the proof that what it computes is what the model's machine computes, part 1 of 3; nothing is assumed beyond each theorem's own hypotheses. -/
import GoSem.Step
import Derived.Calls
import Derived.Laws.World
import Derived.Laws.Sem
import Derived.Laws.Cells
import Derived.Laws.Rows
import Derived.WalkKit
import Derived.Deep.AppendSrc
import Derived.Laws.CopyRow
import Derived.Laws.MakeOwn
import Derived.Deep.Upon
import Derived.Laws.StructEq
import Derived.Laws.BytesArg
import Derived.Laws.Tables
import Derived.MapKept
section
/- Pure Go: an evaluator of loaded Go code on plain data with small local heaps. Definitions. -/
namespace Go.PG
open Go

/-- Plain data: scalars and slices that nobody writes any more. -/
inductive D where
  | bool (b : Bool)
  | int (k : IntKind) (n : Int)
  | str (s : List UInt8)
  | sl (es : List (List D))
  | nilp
  deriving Inhabited

/-- What a slot or a cell of a local heap may hold. -/
inductive V where
  | d (x : D)
  | nil
  | vec (id sz off len : Nat)
  | ptr (id off : Nat)
  | eptr (id i off : Nat)
  | imm (cs : List D)
  | map (id : Nat)
  | nilm
  | fn (f : Nat) (cap : List V)
  | nilf
  | nili
  | agg (cs : List V)
  | tup (vs : List V)
  | any
  deriving Inhabited

inductive Ob where
  | dead
  | box (ty : Nat) (cs : List V)
  | vec (ty sz : Nat) (es : List (List D))
  | map (es : List (D × D))
  | iter (s : List UInt8) (pos : Nat)
  deriving Inhabited

inductive X where
  | t (n : Nat)
  | c (v : V)
  deriving Inhabited

/-- Kinds of scalars. -/
inductive Kd where
  | b | i | s
  deriving Inhabited, DecidableEq

inductive PO where
  | mv (x : X)
  | pick (c a b : X)
  | alloc (ty : Nat) (zero : List V)
  | box (ty : Nat) (x : X)
  | build (zero : List V) (parts : List (Nat × Nat × X))
  | lits (ty : Nat) (sz : Nat) (bytes : Nat) (zero : List D) (len : Nat) (parts : List (Nat × X))
  | load1 (x : X)
  | loadn (n : Nat) (x : X)
  | store (n : Nat) (a x : X)
  | bin (op : BinOp) (x y : X)
  | binb (neg : Bool) (x y : X)
  | eqs (neg : Bool) (ks : List Kd) (x y : X)
  | un (op : UnOp) (x : X)
  | conv (k : IntKind) (x : X)
  | same (x : X)
  | b2s (x : X)
  | faddr (off : Nat) (x : X)
  | fld (agg : Bool) (off n : Nat) (x : X)
  | iaddr (sz : Nat) (x i : X)
  | idx (x i : X)
  | ext (x : X) (i : Nat)
  | lenS (x : X)
  | lenL (x : X)
  | lenM (x : X)
  | app (ty sz bytes : Nat) (s x : X)
  | clr (sz : Nat) (zero : List D) (x : X)
  | cpy (sz : Nat) (dst src : X)
  | min (x y : X)
  | max (x y : X)
  | slc (sz : Nat) (x : X) (lo hi mx : Option X)
  | sstr (x : X) (lo hi : Option X)
  | mkf (f : Nat) (cap : List X)
  | mkm
  | mupd (kd : Kd) (m k v : X)
  | look (kd : Kd) (zero : D) (ok : Bool) (m k : X)
  | mks (ty sz bytes : Nat) (zero : List D) (l c : X)
  | call (f : Nat) (args : List X)
  | callv (f : X) (args : List X)
  | rng (x : X)
  | nxt (x : X)
  | nilc (x : X)
  | usd (x : X)
  | ustr (ty : Nat) (p n : X)
  | peq (neg : Bool) (x y : X)
  | p2u (x : X)
  | u2p (ty n : Nat) (x : X)
  deriving Inhabited

structure POp where
  dst : Option Nat
  op : PO
  guard : Option (Nat × Bool)   -- the slot to be asked, and what is wanted
  deriving Inhabited

inductive PC where
  | skip
  | reg (draw : Option (List (Nat × Nat))) (ops : List POp) (kills : List Nat)
  | seq (a b : PC)
  | cond (x : X) (a b : PC)
  | blk (id : Nat) (keep : Option (List Nat)) (a : PC)
  | loop (kills : List Nat) (virts : List (Nat × Option Nat × Nat)) (a : PC)
  | exit (id : Nat)
  | ret
  | bad
  deriving Inhabited

inductive RV where
  | t (n : Nat)
  | c1 (n : Nat)
  | cn (n size : Nat)
  deriving Inhabited

structure PFn where
  np : Nat
  ntmps : Nat
  res : List RV
  keep : Bool
  body : PC
  deriving Inhabited

/-- A function's meaning: arguments and the objects that they lead to; the result, the objects, the arguments' objects that were written. -/
abbrev CallT := Nat → List V → List Ob → Option (V × List Ob × List Nat)

structure Dl where
  val : V
  upd : List (Nat × Ob)
  foot : List Nat
  deriving Inhabited

structure St where
  env : List (Nat × V)
  heap : List (Nat × Ob)
  nx : Nat
  na : Nat
  dirty : List Nat
  deriving Inhabited

/-! ### Looking up and putting -/
def aget {α : Type} (dflt : α) : List (Nat × α) → Nat → α
  | [], _ => dflt
  | (k, v) :: r, t => bif Nat.beq k t then v else aget dflt r t
theorem aget_cons {α : Type} (dflt : α) (k : Nat) (v : α) (r : List (Nat × α)) (t : Nat) : aget dflt ((k, v) :: r) t = if k = t then v else aget dflt r t := by
  show (bif Nat.beq k t then v else aget dflt r t) = _
  by_cases h : k = t
  · subst h; simp
  · rw [if_neg h, Bool.eq_false_iff.2 fun hb => h (Nat.eq_of_beq_eq_true hb)]; rfl
/-- The newest lies in front. -/
def aput {α : Type} (l : List (Nat × α)) (t : Nat) (x : α) : List (Nat × α) := (t, x) :: l
def adel {α : Type} (ks : List Nat) : List (Nat × α) → List (Nat × α)
  | [] => []
  | (k, v) :: r => if ks.contains k then adel ks r else (k, v) :: adel ks r

abbrev eget (e : List (Nat × V)) (t : Nat) : V := aget .any e t
/-- The slots named, in their order. -/
def akeep (ks : List Nat) (e : List (Nat × V)) : List (Nat × V) := ks.map fun k => (k, eget e k)
abbrev hget (h : List (Nat × Ob)) (i : Nat) : Ob := aget .dead h i

def X.val (e : List (Nat × V)) : X → V
  | .t n => eget e n
  | .c v => v

/-! ### References -/
mutual
def V.refs : V → List Nat
  | .vec id _ _ _ => [id]
  | .ptr id _ => [id]
  | .eptr id _ _ => [id]
  | .map id => [id]
  | .fn _ c => V.refsL c
  | .agg c => V.refsL c
  | .tup c => V.refsL c
  | _ => []
def V.refsL : List V → List Nat
  | [] => []
  | v :: r => v.refs ++ V.refsL r
end
mutual
def V.ren (f : Nat → Nat) : V → V
  | .vec id sz off len => .vec (f id) sz off len
  | .ptr id off => .ptr (f id) off
  | .eptr id i off => .eptr (f id) i off
  | .map id => .map (f id)
  | .fn g c => .fn g (V.renL f c)
  | .agg c => .agg (V.renL f c)
  | .tup c => .tup (V.renL f c)
  | v => v
def V.renL (f : Nat → Nat) : List V → List V
  | [] => []
  | v :: r => v.ren f :: V.renL f r
end
def Ob.refs : Ob → List Nat
  | .box _ cs => V.refsL cs
  | _ => []
def Ob.ren (f : Nat → Nat) : Ob → Ob
  | .box ty cs => .box ty (V.renL f cs)
  | o => o

/-- All that the roots lead to, each once, the roots first. -/
def reach (hp : Nat → Ob) : Nat → List Nat → List Nat → Option (List Nat)
  | _, [], acc => some acc
  | 0, _ :: _, _ => none
  | n + 1, i :: todo, acc => if acc.contains i then reach hp n todo acc else reach hp n (todo ++ (hp i).refs) (acc ++ [i])
def fuel : Nat := 4000
def idxOf (ids : List Nat) (i : Nat) : Nat := ids.idxOf i

/-! ### Values as cells, as data -/
def V.scal : V → Bool
  | .agg _ | .tup _ | .any => false
  | _ => true
def V.cells : V → Option (List V)
  | .agg cs => if cs.all V.scal then some cs else none
  | .tup _ | .any => none
  | v => some [v]
def toD (hp : Nat → Ob) : V → Option (D × List Nat)
  | .d x => some (x, [])
  | .nil => some (.sl [], [])
  | .vec id sz off len =>
    match hp id with
    | .vec _ sz' es => if sz' = sz ∧ off + len ≤ es.length then some (.sl ((es.drop off).take len), [id]) else none
    | _ => none
  | _ => none
def toDs (hp : Nat → Ob) : List V → Option (List D × List Nat)
  | [] => some ([], [])
  | v :: r => (toD hp v).bind fun (x, k) => (toDs hp r).bind fun (xs, ks) => some (x :: xs, k ++ ks)
def deads (ks : List Nat) : List (Nat × Ob) := ks.map fun k => (k, .dead)
def splice {α : Type} (l : List α) (off : Nat) (c : List α) : List α := l.take off ++ (c ++ l.drop (off + c.length))

/-- The elements of what append or copy read from. -/
def elems (hp : Nat → Ob) (sz : Nat) : V → Option (List (List D) × List Nat)
  | .d (.sl es) => if es.all (fun e => e.length == sz) then some (es, []) else none
  | .d (.str s) => if sz = 1 then some (s.map fun b => [D.int .u8 b.toNat], []) else none
  | .nil => some ([], [])
  | .vec id sz' off len =>
    match hp id with
    | .vec _ sz'' es => if sz' = sz ∧ sz'' = sz ∧ off + len ≤ es.length then some ((es.drop off).take len, [id]) else none
    | _ => none
  | _ => none

/-- A slice's bytes. -/
def bytesOf : List (List D) → Option (List UInt8)
  | [] => some []
  | [.int .u8 n] :: r => (bytesOf r).map (UInt8.ofNat n.toNat :: ·)
  | _ => none
/-- .. each of them a byte. -/
def bytes8 : List (List D) → Option (List UInt8)
  | [] => some []
  | [.int .u8 n] :: r => if 0 ≤ n ∧ n < 256 then (bytes8 r).map (UInt8.ofNat n.toNat :: ·) else none
  | _ => none
def bytesLt : List UInt8 → List UInt8 → Bool := Op.bytesLess
def maxInt : Nat := 9223372036854775807
def room : Nat := 140737488355328

def binD : BinOp → D → D → Option D
  | .add, .int k a, .int j b => if k = j then some (.int k (k.wrap (a + b))) else none
  | .sub, .int k a, .int j b => if k = j then some (.int k (k.wrap (a - b))) else none
  | .mul, .int k a, .int j b => if k = j then some (.int k (k.wrap (a * b))) else none
  | .quo, .int k a, .int j b => if k = j ∧ b ≠ 0 then some (.int k (k.wrap (a.tdiv b))) else none
  | .rem, .int k a, .int j b => if k = j ∧ b ≠ 0 then some (.int k (a.tmod b)) else none
  | .eql, .int k a, .int j b => if k = j then some (.bool (a == b)) else none
  | .neq, .int k a, .int j b => if k = j then some (.bool (a != b)) else none
  | .lss, .int k a, .int j b => if k = j then some (.bool (decide (a < b))) else none
  | .leq, .int k a, .int j b => if k = j then some (.bool (decide (a ≤ b))) else none
  | .gtr, .int k a, .int j b => if k = j then some (.bool (decide (a > b))) else none
  | .geq, .int k a, .int j b => if k = j then some (.bool (decide (a ≥ b))) else none
  | .add, .str a, .str b => if a.length + b.length ≤ maxInt then some (.str (a ++ b)) else none
  | .eql, .str a, .str b => some (.bool (a == b))
  | .neq, .str a, .str b => some (.bool (!(a == b)))
  | .lss, .str a, .str b => some (.bool (bytesLt a b))
  | .leq, .str a, .str b => some (.bool (bytesLt a b || a == b))
  | .gtr, .str a, .str b => some (.bool (!(bytesLt a b || a == b)))
  | .geq, .str a, .str b => some (.bool (!bytesLt a b))
  | _, _, _ => none
def unD : UnOp → D → Option D
  | .neg, .int k a => some (.int k (k.wrap (0 - a)))
  | .not, .bool b => some (.bool (!b))
  | _, _ => none
def eqD : D → D → Option Bool
  | .int k a, .int j b => if k = j then some (a == b) else none
  | .str a, .str b => some (a == b)
  | .bool a, .bool b => some (a == b)
  | _, _ => none
def eqK : Kd → V → V → Option Bool
  | .b, .d (.bool a), .d (.bool b) => some (a == b)
  | .i, .d (.int k a), .d (.int j b) => if k = j then some (a == b) else none
  | .s, .d (.str a), .d (.str b) => some (a == b)
  | _, _, _ => none
def eqDs : List Kd → List V → List V → Option Bool
  | [], [], [] => some true
  | k :: ks, x :: r, y :: s => (eqK k x y).bind fun b => (eqDs ks r s).bind fun c => some (b && c)
  | _, _, _ => none
def eqKey : Kd → D → D → Option Bool
  | .i, .int k a, .int j b => if k = j then some (a == b) else none
  | .s, .str a, .str b => some (a == b)
  | _, _, _ => none
def findD (kd : Kd) (k : D) : List (D × D) → Option (Option D)
  | [] => some none
  | (j, v) :: r => (eqKey kd k j).bind fun b => if b then some (some v) else findD kd k r
def setD (kd : Kd) (k v : D) : List (D × D) → Option (List (D × D))
  | [] => some [(k, v)]
  | (j, u) :: r => (eqKey kd k j).bind fun b => if b then some ((k, v) :: r) else (setD kd k v r).map ((j, u) :: ·)
def keyOk : Kd → D → Bool
  | .i, .int _ _ => true
  | .s, .str _ => true
  | _, _ => false

def asNat : V → Option Nat
  | .d (.int _ n) => if 0 ≤ n then some n.toNat else none
  | _ => none
def bnd (e : List (Nat × V)) (d : Nat) : Option X → Option Nat
  | none => some d
  | some x => asNat (x.val e)
def bounds (e : List (Nat × V)) (len : Nat) (lo hi : Option X) : Option (Nat × Nat) :=
  (bnd e len hi).bind fun h => (bnd e 0 lo).bind fun l => if l ≤ h ∧ h ≤ len then some (l, h) else none

def fillV (e : List (Nat × V)) : List V → List (Nat × Nat × X) → Option (List V)
  | cs, [] => some cs
  | cs, (off, n, x) :: r => (x.val e).cells.bind fun c => if c.length = n ∧ off + n ≤ cs.length then fillV e (splice cs off c) r else none
def fillD (e : List (Nat × V)) (hp : Nat → Ob) (sz : Nat) : List (List D) → List Nat → List (Nat × X) → Option (List (List D) × List Nat)
  | es, ks, [] => some (es, ks)
  | es, ks, (i, x) :: r => (x.val e).cells.bind fun c => (toDs hp c).bind fun (ds, k) => if ds.length = sz ∧ i < es.length then fillD e hp sz (es.set i ds) (ks ++ k) r else none

def evalCall (call : CallT) (hp : Nat → Ob) (nid f : Nat) (args : List V) : Option Dl :=
  (reach hp fuel (V.refsL args) []).bind fun ids =>
  (call f (V.renL (idxOf ids) args) (ids.map fun i => (hp i).ren (idxOf ids))).bind fun (res, obs, dirty) =>
  if obs.length ≤ ids.length + 8 then
    let back := fun j => (ids[j]?).getD (nid + (j - ids.length))
    some { val := res.ren back,
           upd := (dirty.map fun j => (back j, ((obs[j]?).getD .dead).ren back)) ++
                  ((List.range (obs.length - ids.length)).map fun j => (nid + j, ((obs[ids.length + j]?).getD .dead).ren back)),
           foot := ids }
  else none

def pureD (v : V) : Option Dl := some ⟨v, [], []⟩

def evalOp (call : CallT) (e : List (Nat × V)) (hp : Nat → Ob) (nid : Nat) : PO → Option Dl
  | .mv x => pureD (x.val e)
  | .pick c a b => match c.val e with
    | .d (.bool t) => pureD (if t then a.val e else b.val e)
    | _ => none
  | .alloc ty z => some ⟨.ptr nid 0, [(nid, .box ty z)], []⟩
  | .box ty x => (x.val e).cells.bind fun cs => some ⟨.ptr nid 0, [(nid, .box ty cs)], []⟩
  | .build z ps => (fillV e z ps).bind fun cs => pureD (.agg cs)
  | .lits ty sz _ z n ps => if n = 0 then (match ps with | [] => pureD .nil | _ => none) else if z.length ≠ sz then none else
    (fillD e hp sz (List.replicate n z) [] ps).bind fun (es, ks) => some ⟨.vec nid sz 0 n, (nid, .vec ty sz es) :: deads ks, ks⟩
  | .load1 x => match x.val e with
    | .ptr id off => match hp id with
      | .box _ cs => (cs[off]?).bind fun v => some ⟨v, [], [id]⟩
      | _ => none
    | .eptr id i off => match hp id with
      | .vec _ _ es => (es[i]?).bind fun c => (c[off]?).bind fun v => some ⟨.d v, [], [id]⟩
      | _ => none
    | .imm cs => match cs with
      | c :: _ => pureD (.d c)
      | [] => none
    | _ => none
  | .loadn n x => match x.val e with
    | .ptr id off => match hp id with
      | .box _ cs => if off + n ≤ cs.length then some ⟨.agg ((cs.drop off).take n), [], [id]⟩ else none
      | _ => none
    | .eptr id i off => match hp id with
      | .vec _ _ es => (es[i]?).bind fun c => if off + n ≤ c.length then some ⟨.agg (((c.drop off).take n).map .d), [], [id]⟩ else none
      | _ => none
    | .imm cs => if n ≤ cs.length then pureD (.agg ((cs.take n).map .d)) else none
    | _ => none
  | .store n a x => (x.val e).cells.bind fun c => if c.length ≠ n then none else match a.val e with
    | .ptr id off => match hp id with
      | .box ty cs => if off + n ≤ cs.length then some ⟨.tup [], [(id, .box ty (splice cs off c))], [id]⟩ else none
      | _ => none
    | .eptr id i off => match hp id with
      | .vec ty sz es => (toDs hp c).bind fun (ds, ks) => (es[i]?).bind fun el => if off + n ≤ el.length ∧ id ∉ ks then
          some ⟨.tup [], (id, .vec ty sz (es.set i (splice el off ds))) :: deads ks, id :: ks⟩ else none
      | _ => none
    | _ => none
  | .bin op x y => match x.val e, y.val e with
    | .d a, .d b => (binD op a b).bind fun r => pureD (.d r)
    | _, _ => none
  | .binb neg x y => match x.val e, y.val e with
    | .d (.bool a), .d (.bool b) => pureD (.d (.bool (if neg then !(a == b) else a == b)))
    | _, _ => none
  | .eqs neg ks x y => match x.val e, y.val e with
    | .agg a, .agg b => (eqDs ks a b).bind fun r => pureD (.d (.bool (if neg then !r else r)))
    | _, _ => none
  | .un op x => match x.val e with
    | .d a => (unD op a).bind fun r => pureD (.d r)
    | _ => none
  | .conv k x => match x.val e with
    | .d (.int _ n) => pureD (.d (.int k (k.wrap n)))
    | _ => none
  | .same x => match x.val e with
    | .d (.str s) => pureD (.d (.str s))
    | _ => none
  | .b2s x => match x.val e with
    | .d (.str _) => none
    | v => (elems hp 1 v).bind fun (es, f) => (bytesOf es).bind fun s => some ⟨.d (.str s), [], f⟩
  | .faddr off x => match x.val e with
    | .ptr id o => pureD (.ptr id (o + off))
    | .eptr id i o => pureD (.eptr id i (o + off))
    | .imm cs => if off ≤ cs.length then pureD (.imm (cs.drop off)) else none
    | _ => none
  | .fld agg off n x => match x.val e with
    | .agg cs => if off + n ≤ cs.length then
        (if agg then pureD (.agg ((cs.drop off).take n)) else (cs[off]?).bind pureD) else none
    | _ => none
  | .iaddr sz x i => (asNat (i.val e)).bind fun i => match x.val e with
    | .d (.sl es) => (es[i]?).bind fun c => if c.length = sz then pureD (.imm c) else none
    | .vec id sz' off len => if sz' = sz ∧ i < len then pureD (.eptr id (off + i) 0) else none
    | _ => none
  | .idx x i => (asNat (i.val e)).bind fun i => match x.val e with
    | .d (.str s) => (s[i]?).bind fun b => pureD (.d (.int .u8 b.toNat))
    | _ => none
  | .ext x i => match x.val e with
    | .tup vs => (vs[i]?).bind pureD
    | _ => none
  | .lenS x => match x.val e with
    | .d (.str s) => pureD (.d (.int .i64 s.length))
    | _ => none
  | .lenL x => match x.val e with
    | .d (.sl es) => pureD (.d (.int .i64 es.length))
    | .nil => pureD (.d (.int .i64 0))
    | .vec _ _ _ n => pureD (.d (.int .i64 n))
    | _ => none
  | .lenM x => match x.val e with
    | .nilm => pureD (.d (.int .i64 0))
    | .map id => match hp id with
      | .map es => some ⟨.d (.int .i64 es.length), [], [id]⟩
      | _ => none
    | _ => none
  | .app ty sz bytes s x => (elems hp sz (x.val e)).bind fun (ys, f) => match s.val e with
    | .nil => if ys.length * bytes ≤ room then some ⟨.vec nid sz 0 ys.length, [(nid, .vec ty sz ys)], f⟩ else none
    | .d (.sl es) => if ys.isEmpty then some ⟨.d (.sl es), [], f⟩ else none
    | .vec id sz' off len => match hp id with
      | .vec ty'' sz'' es => if sz' = sz ∧ sz'' = sz ∧ ty'' = ty then
          if off + len = es.length then
            if (len + ys.length) * bytes ≤ room then some ⟨.vec nid sz 0 (len + ys.length), [(nid, .vec ty sz (es.drop off ++ ys)), (id, .dead)], id :: f⟩ else none
          else if off + len + ys.length ≤ es.length then some ⟨.vec id sz off (len + ys.length), [(id, .vec ty sz (splice es (off + len) ys))], id :: f⟩ else none
        else none
      | _ => none
    | _ => none
  | .clr sz z x => match x.val e with
    | .nil => pureD (.tup [])
    | .d (.sl []) => pureD (.tup [])
    | .vec id sz' off len => match hp id with
      | .vec ty sz'' es => if sz' = sz ∧ sz'' = sz ∧ off + len ≤ es.length ∧ z.length = sz then
          some ⟨.tup [], [(id, .vec ty sz (splice es off (List.replicate len z)))], [id]⟩ else none
      | _ => none
    | _ => none
  | .cpy sz d x => (elems hp sz (x.val e)).bind fun (ys, f) => match d.val e with
    | .nil => some ⟨.d (.int .i64 0), [], f⟩
    | .vec id sz' off len => match hp id with
      | .vec ty sz'' es => if sz' = sz ∧ sz'' = sz ∧ off + len ≤ es.length then
          some ⟨.d (.int .i64 (Nat.min ys.length len)), [(id, .vec ty sz (splice es off (ys.take (Nat.min ys.length len))))], id :: f⟩ else none
      | _ => none
    | _ => none
  | .min x y => match x.val e, y.val e with
    | .d (.int k a), .d (.int _ b) => pureD (.d (.int k (if b < a then b else a)))
    | _, _ => none
  | .max x y => match x.val e, y.val e with
    | .d (.int k a), .d (.int _ b) => pureD (.d (.int k (if b > a then b else a)))
    | _, _ => none
  | .slc sz x lo hi mx => match x.val e with
    | .d (.sl es) => if es.all (fun e => e.length == sz) = false then none else match mx with
      | none => (bounds e es.length lo hi).bind fun (l, h) => pureD (.d (.sl ((es.take h).drop l)))
      | some m => (asNat (m.val e)).bind fun m => (bounds e es.length lo hi).bind fun (_, h) => if m = 0 ∧ h = 0 then pureD .nil else none
    | .nil => match mx with
      | none => (bounds e 0 lo hi).bind fun _ => pureD .nil
      | some m => (asNat (m.val e)).bind fun m => if m = 0 then (bounds e 0 lo hi).bind fun _ => pureD .nil else none
    | .vec id sz' off len => if sz' ≠ sz then none else match mx with
      | none => (bounds e len lo hi).bind fun (l, h) => pureD (.vec id sz (off + l) (h - l))
      | some m => (asNat (m.val e)).bind fun m => (bounds e len lo hi).bind fun (l, h) =>
        if m = 0 ∧ h = 0 then pureD .nil else
        match hp id with
        | .vec _ _ es => if off + m = es.length then some ⟨.vec id sz (off + l) (h - l), [], [id]⟩ else none
        | _ => none
    | _ => none
  | .sstr x lo hi => match x.val e with
    | .d (.str s) => (bounds e s.length lo hi).bind fun (l, h) => pureD (.d (.str ((s.take h).drop l)))
    | _ => none
  | .mkf f cap => pureD (.fn f (cap.map (X.val e)))
  | .mkm => some ⟨.map nid, [(nid, .map [])], []⟩
  | .mupd kd m k v => match m.val e, k.val e, v.val e with
    | .map id, .d k, .d v => match hp id with
      | .map es => if keyOk kd k then (setD kd k v es).bind fun es' => some ⟨.tup [], [(id, .map es')], [id]⟩ else none
      | _ => none
    | _, _, _ => none
  | .look kd z ok m k => match m.val e, k.val e with
    | .map id, .d k => match hp id with
      | .map es => if keyOk kd k then (findD kd k es).bind fun r => some ⟨if ok then .tup [.d (r.getD z), .d (.bool r.isSome)] else .d (r.getD z), [], [id]⟩ else none
      | _ => none
    | _, _ => none
  | .mks ty sz bytes z l c => (asNat (l.val e)).bind fun l => (asNat (c.val e)).bind fun c =>
      if l ≤ c ∧ c * bytes ≤ room ∧ z.length = sz then some ⟨.vec nid sz 0 l, [(nid, .vec ty sz (List.replicate l z))], []⟩ else none
  | .call f args => evalCall call hp nid f (args.map (X.val e))
  | .callv f args => match f.val e with
    | .fn g cap => evalCall call hp nid g (args.map (X.val e) ++ cap)
    | _ => none
  | .rng x => match x.val e with
    | .d (.str s) => some ⟨.ptr nid 0, [(nid, .iter s 0)], []⟩
    | _ => none
  | .nxt x => match x.val e with
    | .ptr id 0 => match hp id with
      | .iter s pos => if pos < s.length then
          let r := Utf8.decode ⟨s.toArray⟩ pos
          some ⟨.tup [.d (.bool true), .d (.int .i64 pos), .d (.int .i32 r.1)], [(id, .iter s (pos + r.2))], [id]⟩
        else some ⟨.tup [.d (.bool false)], [], [id]⟩
      | _ => none
    | _ => none
  | .nilc x => match x.val e with
    | .ptr id o => pureD (.ptr id o)
    | .eptr id i o => pureD (.eptr id i o)
    | .imm cs => pureD (.imm cs)
    | .fn f c => pureD (.fn f c)
    | _ => none
  | .usd x => match x.val e with
    | .vec id sz off len => if sz = 1 ∧ len ≠ 0 then pureD (.eptr id off 0) else none
    | _ => none
  | .ustr ty p n => match p.val e, asNat (n.val e) with
    | .eptr id off 0, some n => match hp id with
      | .vec ty' sz es => if ty' = ty ∧ sz = 1 ∧ n ≠ 0 ∧ off + n ≤ es.length ∧ n ≤ maxInt then
          (bytes8 ((es.drop off).take n)).bind fun s => some ⟨.d (.str s), [(id, .dead)], [id]⟩ else none
      | _ => none
    | _, _ => none
  | .peq neg x y => match x.val e, y.val e with
    | .ptr _ _, .d .nilp => pureD (.d (.bool neg))
    | .d .nilp, .d .nilp => pureD (.d (.bool (!neg)))
    | .ptr i o, .ptr j p => if i = j ∧ o = p then pureD (.d (.bool (!neg))) else none
    | _, _ => none
  | .p2u x => match x.val e with
    | .ptr id o => match hp id with
      | .box _ cs => if o < cs.length then some ⟨.ptr id o, [], [id]⟩ else none
      | _ => none
    | _ => none
  | .u2p ty n x => match x.val e with
    | .ptr id 0 => match hp id with
      | .box ty' cs => if ty' = ty ∧ cs.length = n then some ⟨.ptr id 0, [], [id]⟩ else none
      | _ => none
    | _ => none

/-! ### Regions -/
def stepNid : Nat := 8
def addDirty (na : Nat) : List (Nat × Ob) → List Nat → List Nat
  | [], l => l
  | (i, _) :: r, l => addDirty na r (if i < na ∧ ¬ l.contains i then l ++ [i] else l)
def putAll : List (Nat × Ob) → List (Nat × Ob) → List (Nat × Ob)
  | h, [] => h
  | h, (i, o) :: r => putAll (aput h i o) r
def eputO (e : List (Nat × V)) : Option Nat → V → List (Nat × V)
  | none, _ => e
  | some t, v => aput e t v
def St.step (s : St) (dst : Option Nat) (δ : Dl) : St :=
  { s with env := eputO s.env dst δ.val, heap := putAll s.heap δ.upd, dirty := addDirty s.na δ.upd s.dirty }

def opAt (call : CallT) (nid : Nat) (o : POp) (s : St) : Option Dl :=
  match o.guard with
  | none => evalOp call s.env (hget s.heap) nid o.op
  | some (t, want) => match eget s.env t with
    | .d (.bool b) => if b = want then evalOp call s.env (hget s.heap) nid o.op else some ⟨.tup [], [], []⟩
    | .tup [] => some ⟨.tup [], [], []⟩
    | _ => none
def evalOps (call : CallT) : Nat → List POp → St → Option St
  | _, [], s => some s
  | nid, o :: r, s => (opAt call nid o s).bind fun δ => evalOps call (nid + stepNid) r (s.step o.dst δ)

def X.tmps : X → List Nat
  | .t n => [n]
  | .c _ => []
def PO.xs : PO → List X
  | .alloc _ _ | .mkm => []
  | .mv x | .box _ x | .load1 x | .loadn _ x | .un _ x | .clr _ _ x | .conv _ x | .same x | .b2s x | .faddr _ x | .fld _ _ _ x | .ext x _ | .lenS x | .lenL x | .lenM x | .rng x | .nxt x | .nilc x | .usd x | .p2u x | .u2p _ _ x => [x]
  | .pick c a b => [c, a, b]
  | .build _ ps => ps.map (·.2.2)
  | .lits _ _ _ _ _ ps => ps.map (·.2)
  | .store _ a x | .bin _ a x | .binb _ a x | .eqs _ _ a x | .iaddr _ a x | .idx a x | .app _ _ _ a x | .cpy _ a x | .min a x | .max a x | .look _ _ _ a x | .mks _ _ _ _ a x | .ustr _ a x | .peq _ a x => [a, x]
  | .slc _ x l h m => [x] ++ l.toList ++ h.toList ++ m.toList
  | .sstr x l h => [x] ++ l.toList ++ h.toList
  | .mkf _ c | .call _ c => c
  | .callv f c => f :: c
  | .mupd _ m k v => [m, k, v]
def POp.uses (o : POp) : List Nat := o.op.xs.flatMap X.tmps ++ (o.guard.map (·.1)).toList

/-- 0: looks at no object; 1: writes none; 2: may write. -/
def PO.cls : PO → Nat
  | .mv _ | .pick _ _ _ | .build _ _ | .bin _ _ _ | .binb _ _ _ | .eqs _ _ _ _ | .un _ _ | .conv _ _ | .same _ | .faddr _ _ | .fld _ _ _ _ | .iaddr _ _ _ | .idx _ _ | .ext _ _ | .lenS _ | .lenL _ | .min _ _ | .max _ _ | .sstr _ _ _ | .mkf _ _ | .nilc _ | .usd _ | .peq _ _ _ => 0
  | .load1 _ | .loadn _ _ | .lenM _ | .look _ _ _ _ _ | .b2s _ | .slc _ _ _ _ _ | .p2u _ | .u2p _ _ _ => 1
  | _ => 2
/-- May two operations be exchanged, by their slots? -/
def statInd (a b : POp) : Bool :=
  (match a.dst with
   | some d => !(b.uses.contains d) && b.dst != some d
   | none => true) &&
  (match b.dst with
   | some d => !(a.uses.contains d)
   | none => true)
/-- .. by the objects that they look at and write? -/
def dynInd (δ ε : Dl) : Bool :=
  δ.upd.all (fun u => !(ε.foot.contains u.1) && ε.upd.all (fun v => u.1 != v.1)) &&
  ε.upd.all (fun u => !(δ.foot.contains u.1))
def needs (a b : POp) : Bool := (Nat.beq a.op.cls 2 && !Nat.beq b.op.cls 0) || (Nat.beq b.op.cls 2 && !Nat.beq a.op.cls 0)
/-- The operations with what they come to, in the text's order, and the last state. -/
def traceOps (call : CallT) : Nat → List POp → St → Option (List (POp × Dl) × St)
  | _, [], s => some ([], s)
  | nid, o :: r, s => (opAt call nid o s).bind fun δ => (traceOps call (nid + stepNid) r (s.step o.dst δ)).bind fun (l, s') => some ((o, δ) :: l, s')
/-- 'free' names the pairs (earlier, later) that no edge orders. -/
def indepAll (l : List (POp × Dl)) : List (Nat × Nat) → Bool
  | [] => true
  | (i, j) :: r => (match l[i]?, l[j]? with
    | some a, some b => dynInd a.2 b.2
    | _, _ => false) && indepAll l r


def evalReg (call : CallT) (draw : Option (List (Nat × Nat))) (ops : List POp) (kills : List Nat) (s : St) : Option St :=
  ((match draw with
    | none => evalOps call s.nx ops s
    | some [] => evalOps call s.nx ops s
    | some free => (traceOps call s.nx ops s).bind fun (l, s') => if indepAll l free then some s' else none) : Option St).bind fun s' =>
  some { s' with env := adel kills s'.env, nx := s.nx + stepNid * ops.length }

/-! ### What is still reached, numbered anew -/
def envRefs : List (Nat × V) → List Nat
  | [] => []
  | (_, v) :: r => v.refs ++ envRefs r
def envRen (f : Nat → Nat) : List (Nat × V) → List (Nat × V)
  | [] => []
  | (t, v) :: r => (t, v.ren f) :: envRen f r
def number {α : Type} : Nat → List α → List (Nat × α)
  | _, [] => []
  | k, x :: r => (k, x) :: number (k + 1) r
def St.tidy (s : St) : Option St :=
  (reach (hget s.heap) fuel (List.range s.na ++ envRefs s.env) []).bind fun ids =>
  let f := idxOf ids
  some { s with env := envRen f s.env, heap := number 0 (ids.map fun i => (hget s.heap i).ren f), nx := ids.length }

/-- An empty slice's slot becomes one with an object of its own (nothing is made yet). -/
def St.virt (s : St) : List (Nat × Option Nat × Nat) → St
  | [] => s
  | (t, none, sz) :: r => match eget s.env t with
    | .nil => if sz = 0 then s.virt r else ({ s with env := aput s.env t (.vec s.nx sz 0 0), heap := aput s.heap s.nx (.vec 0 sz []), nx := s.nx + 1 } : St).virt r
    | _ => s.virt r
  | (t, some off, sz) :: r => match eget s.env t with
    | .ptr id o => match hget s.heap id with
      | .box ty cs => match cs[o + off]? with
        | some .nil => if sz = 0 then s.virt r else
          ({ s with heap := aput (aput s.heap id (.box ty (cs.set (o + off) (.vec s.nx sz 0 0)))) s.nx (.vec 0 sz []), nx := s.nx + 1,
                    dirty := addDirty s.na [(id, .dead)] s.dirty } : St).virt r
        | _ => s.virt r
      | _ => s.virt r
    | _ => s.virt r
def St.head (s : St) (kills : List Nat) (virts : List (Nat × Option Nat × Nat)) : Option St :=
  (({ s with env := akeep kills s.env } : St).virt virts).tidy

inductive Ex where
  | normal
  | exit (id : Nat)
  | ret
  deriving Inhabited, DecidableEq

/-- Behind a block. -/
def St.leave (s : St) : Option (List Nat) → Option (Ex × St)
  | none => some (.normal, s)
  | some ks => (s.head ks []).map fun s => (.normal, s)
/-- The code, with so much fuel. -/
def evalC (call : CallT) : Nat → PC → St → Option (Ex × St)
  | 0, _, _ => none
  | n + 1, c, s => match c with
    | .skip => some (.normal, s)
    | .reg d ops ks => (evalReg call d ops ks s).map fun s => (.normal, s)
    | .seq a b => (evalC call n a s).bind fun (e, s') => match e with
      | .normal => evalC call n b s'
      | e => some (e, s')
    | .cond x a b => match x.val s.env with
      | .d (.bool t) => if t then evalC call n a s else evalC call n b s
      | _ => none
    | .blk id k a => (evalC call n a s).bind fun (e, s') => match e with
      | .exit j => if j = id then s'.leave k else some (.exit j, s')
      | .normal => s'.leave k
      | .ret => some (.ret, s')
    | .loop ks vs a => (s.head ks vs).bind fun s => (evalC call n a s).bind fun (e, s') => match e with
      | .normal => evalC call n (.loop ks vs a) s'
      | e => some (e, s')
    | .exit id => some (.exit id, s)
    | .ret => some (.ret, s)
    | .bad => none

/-! ### Functions -/
def argsEnv : Nat → List V → List (Nat × V)
  | _, [] => []
  | k, v :: r => (k, v) :: argsEnv (k + 1) r
def rvVal (s : St) : RV → Option V
  | .t n => some (eget s.env n)
  | .c1 n => match eget s.env n with
    | .ptr id o => match hget s.heap id with
      | .box _ cs => cs[o]?
      | _ => none
    | _ => none
  | .cn n k => match eget s.env n with
    | .ptr id o => match hget s.heap id with
      | .box _ cs => if o + k ≤ cs.length then some (.agg ((cs.drop o).take k)) else none
      | _ => none
    | _ => none
def rvVals (s : St) : List RV → Option (List V)
  | [] => some []
  | r :: l => (rvVal s r).bind fun v => (rvVals s l).bind fun vs => some (v :: vs)
mutual
/-- What is handed back becomes data, its objects are given up. -/
def frz (hp : Nat → Ob) : V → Option (V × List Nat)
  | .nil => some (.d (.sl []), [])
  | .vec id sz off len => (toD hp (.vec id sz off len)).map fun (x, k) => (.d x, k)
  | .agg cs => (frzL hp cs).map fun (c, k) => (.agg c, k)
  | v => some (v, [])
def frzL (hp : Nat → Ob) : List V → Option (List V × List Nat)
  | [] => some ([], [])
  | v :: r => (frz hp v).bind fun (x, k) => (frzL hp r).bind fun (xs, ks) => some (x :: xs, k ++ ks)
end
def retV : List V → V
  | [v] => v
  | vs => .tup vs
def finish (F : PFn) (s : St) : Option (V × List Ob × List Nat) :=
  (rvVals s F.res).bind fun vs =>
  (if F.keep then some (vs, []) else frzL (hget s.heap) vs).bind fun (vs, ks) =>
  let h := putAll s.heap (deads ks)
  let dirty := addDirty s.na (deads ks) s.dirty
  (reach (hget h) fuel (List.range s.na ++ V.refsL vs) []).bind fun ids =>
  let f := idxOf ids
  some (retV (V.renL f vs), ids.map (fun i => (hget h i).ren f), dirty)
def start (args : List V) (obs : List Ob) : St :=
  { env := argsEnv 0 args, heap := number 0 obs, nx := obs.length, na := obs.length, dirty := [] }
def evalFn (call : CallT) (n : Nat) (F : PFn) (args : List V) (obs : List Ob) : Option (V × List Ob × List Nat) :=
  if args.length ≠ F.np then none else
  (evalC call n F.body (start args obs)).bind fun (e, s) => match e with
    | .exit _ => none
    | _ => finish F s

/-- The functions of a program, and those whose meaning is given otherwise. -/
structure Prg where
  fn : Nat → Option PFn
  hook : CallT
def callK (Q : Prg) : Nat → CallT
  | 0, _, _, _ => none
  | n + 1, f, args, obs => match Q.hook f args obs with
    | some r => some r
    | none => match Q.fn f with
      | some F => evalFn (callK Q n) n F args obs
      | none => none

end Go.PG
end
section
/- Pure Go: from loaded code to the evaluator's code. -/
namespace Go.PG
open Go

def constD : Value → Option D
  | .bool b => some (.bool b)
  | .int k n => some (.int k n)
  | .string s => some (.str s.data.toList)
  | .slice none 0 0 => some (.sl [])
  | .pointer none => some .nilp
  | _ => none
def const1 : Value → Option V
  | .bool b => some (.d (.bool b))
  | .int k n => some (.d (.int k n))
  | .string s => some (.d (.str s.data.toList))
  | .slice none 0 0 => some .nil
  | .pointer none => some (.d .nilp)
  | .map none => some .nilm
  | .nilFunc => some .nilf
  | .nilIface => some .nili
  | _ => none
def mapO {α β : Type} (f : α → Option β) : List α → Option (List β)
  | [] => some []
  | x :: r => (f x).bind fun y => (mapO f r).bind fun ys => some (y :: ys)
def constV : Value → Option V
  | .agg cs => (mapO const1 cs.toList).map .agg
  | v => const1 v
def toX : Operand → Option X
  | .tmp t => some (.t t)
  | .const v => (constV v).map .c
  | .func f => some (.c (.fn f []))
  | .global _ => none
def optX : Option Operand → Option (Option X)
  | none => some none
  | some x => (toX x).map some

section
variable (P : Program)
def zeroCells (t : TypeId) : Option (List Value) := (P.info? t).bind fun i => i.zero.map fun z => z.cells.toList
def zeroV (t : TypeId) : Option (List V) := (zeroCells P t).bind (mapO const1)
def zeroD (t : TypeId) : Option (List D) := (zeroCells P t).bind (mapO constD)
def zero1 (t : TypeId) : Option D := (P.info? t).bind fun i => i.zero.bind constD
def sizeT (t : TypeId) : Option Nat := (P.info? t).map (·.size)
def bytesT (t : TypeId) : Option Nat := (P.info? t).map (·.bytes)
def aggT (t : TypeId) : Option Bool := match P.underlying t with
  | some (.struct _) => some true
  | some (.array _ _) => some true
  | some _ => some false
  | none => none
def elemT (t : TypeId) : Option TypeId := match P.underlying t with
  | some (.slice e) => some e
  | _ => none
def fieldsT (t : TypeId) : Option (List Field) := match P.underlying t with
  | some (.struct fs) => some fs.toList
  | _ => none
def placeF (f : Field) : Option (Nat × Nat) := (P.info? f.type).map fun i => (f.offset, i.size)
def partsV (pl : List (Nat × Nat)) : List (Nat × Operand) → Option (List (Nat × Nat × X))
  | [] => some []
  | (i, x) :: r => (pl[i]?).bind fun p => (toX x).bind fun x => (partsV pl r).bind fun l => some ((p.1, p.2, x) :: l)
def partsD : List (Nat × Operand) → Option (List (Nat × X))
  | [] => some []
  | (i, x) :: r => (toX x).bind fun x => (partsD r).bind fun l => some ((i, x) :: l)
def kindT (t : TypeId) : Option Kd := match P.underlying t with
  | some (.int _) => some .i
  | some .string => some .s
  | some .bool => some .b
  | _ => none
/-- A struct of plain scalars, each a cell, in their order. -/
def flatKinds : Nat → List Field → Option (List Kd)
  | _, [] => some []
  | k, f :: r => if f.offset = k ∧ f.name ≠ "_" then (kindT P f.type).bind fun d => (flatKinds (k + 1) r).bind fun l => some (d :: l) else none
def isU8 (t : TypeId) : Bool := match P.underlying t with
  | some (.int .u8) => true
  | _ => false

def compOp (o : Oper) : Option PO :=
  match o.op with
  | .move x => (toX x).map .mv
  | .assign x => (toX x).map .mv
  | .pick c a b => (toX c).bind fun c => (toX a).bind fun a => (toX b).bind fun b => some (.pick c a b)
  | .alloc t => (zeroV P t).map (.alloc t)
  | .box t x => (toX x).map (.box t)
  | .build t ps => (zeroV P t).bind fun z => (fieldsT P t).bind fun fs => (mapO (placeF P) fs).bind fun pl => (partsV pl ps.toList).bind fun l => some (.build z l)
  | .buildSlice t n ps => (elemT P t).bind fun e => (sizeT P e).bind fun sz => (bytesT P e).bind fun by' => (zeroD P e).bind fun z =>
    (partsD ps.toList).bind fun l => if 0 < sz ∧ n * sz ≤ 16777216 then some (.lits e sz by' z n l) else none
  | .load t x => (aggT P t).bind fun a => (sizeT P t).bind fun n => (toX x).bind fun x => some (if a then .loadn n x else .load1 x)
  | .store t a x => (sizeT P t).bind fun n => (toX a).bind fun a => (toX x).bind fun x => some (.store n a x)
  | .binOp op xt x y _ => (toX x).bind fun x => (toX y).bind fun y =>
    match P.underlying xt with
    | some (.int _) => some (.bin op x y)
    | some .string => some (.bin op x y)
    | some .bool => (match op with
         | .eql => some (.binb false x y)
         | .neq => some (.binb true x y)
         | _ => none)
    | some (.pointer el) => (sizeT P el).bind fun n => if n ≠ 0 then (match op with
         | .eql => some (.peq false x y)
         | .neq => some (.peq true x y)
         | _ => none) else none
    | some (.struct fs) => (flatKinds P 0 fs.toList).bind fun ks => if P.stoodInHeld xt = false ∧ P.eqGuardType P.depth xt = false then
        (match op with
         | .eql => some (.eqs false ks x y)
         | .neq => some (.eqs true ks x y)
         | _ => none) else none
    | _ => none
  | .unOp op _ x => (toX x).map (.un op)
  | .convert src dst x => (toX x).bind fun x => match P.underlying src, P.underlying dst with
    | some (.int _), some (.int k) => some (.conv k x)
    | some .string, some .string => some (.same x)
    | some (.pointer t), some .unsafePointer => (sizeT P t).bind fun n => if n ≠ 0 then some (.p2u x) else none
    | some .unsafePointer, some (.pointer t) => (sizeT P t).bind fun n => if n ≠ 0 then some (.u2p t n x) else none
    | some (.slice e), some .string => if isU8 P e then some (.b2s x) else none
    | _, _ => none
  | .makeFunc (.func f) first cap => if first.size = 0 then (mapO toX cap.toList).map (.mkf f) else none
  | .makeMap _ none => some .mkm
  | .makeSlice t l c => (elemT P t).bind fun e => (sizeT P e).bind fun sz => (bytesT P e).bind fun by' => (zeroD P e).bind fun z =>
    (toX l).bind fun l => (toX c).bind fun c => if 0 < sz ∧ 0 < by' then some (.mks e sz by' z l c) else none
  | .slice t x lo hi mx => (toX x).bind fun x => (optX lo).bind fun lo => (optX hi).bind fun hi => (optX mx).bind fun mx => match P.underlying t with
    | some (.slice e) => (sizeT P e).bind fun sz => if mx.isSome = true ∧ hi.isSome = false then none else some (.slc sz x lo hi mx)
    | some .string => match mx with
      | none => some (.sstr x lo hi)
      | some _ => none
    | _ => none
  | .fieldAddr s x f => (fieldsT P s).bind fun fs => (fs[f]?).bind fun f => (sizeT P f.type).bind fun n => (toX x).bind fun x => if n ≠ 0 then some (.faddr f.offset x) else none
  | .field s x f => (fieldsT P s).bind fun fs => (fs[f]?).bind fun f => (aggT P f.type).bind fun a => (sizeT P f.type).bind fun n => (toX x).bind fun x =>
    if a = true ∨ n = 1 then some (.fld a f.offset n x) else none
  | .indexAddr t x i => (elemT P t).bind fun e => (sizeT P e).bind fun sz => (toX x).bind fun x => (toX i).bind fun i => some (.iaddr sz x i)
  | .index t x i => (toX x).bind fun x => (toX i).bind fun i => match P.underlying t with
    | some .string => some (.idx x i)
    | _ => none
  | .lookup t m k ok => match P.underlying t with
    | some (.map kt et) => (zero1 P et).bind fun z => (toX m).bind fun m => (toX k).bind fun k => match P.underlying kt with
      | some (.int _) => some (.look .i z ok m k)
      | some .string => some (.look .s z ok m k)
      | _ => none
    | _ => none
  | .mapUpdate t m k v => match P.underlying t with
    | some (.map kt _) => (toX m).bind fun m => (toX k).bind fun k => (toX v).bind fun v => match P.underlying kt with
      | some (.int _) => some (.mupd .i m k v)
      | some .string => some (.mupd .s m k v)
      | _ => none
    | _ => none
  | .range t x => match P.underlying t with
    | some .string => (toX x).map .rng
    | _ => none
  | .next it true => (toX it).map .nxt
  | .extract x i => (toX x).map (.ext · i)
  | .nilCheck x => (toX x).map .nilc
  | .call c => (mapO toX c.args.toList).bind fun xs => match c.callee with
    | .builtin .len => match xs, c.argTypes.toList with
      | [x], [t] => (match P.underlying t with
        | some .string => some (.lenS x)
        | some (.slice _) => some (.lenL x)
        | some (.map _ _) => some (.lenM x)
        | _ => none)
      | _, _ => none
    | .builtin .append => match xs, c.argTypes.toList with
      | [s, x], [t, u] => (elemT P t).bind fun e => (sizeT P e).bind fun sz => (bytesT P e).bind fun by' => (zeroCells P e).bind fun z => (match P.underlying u with
        | some (.slice _) => if 0 < sz ∧ 0 < by' ∧ z.length = sz then some (.app e sz by' s x) else none
        | some .string => if 0 < sz ∧ 0 < by' ∧ z.length = sz then some (.app e sz by' s x) else none
        | _ => none)
      | _, _ => none
    | .builtin .unsafeSliceData => match xs with
      | [x] => some (.usd x)
      | _ => none
    | .builtin .unsafeString => match xs, c.argTypes.toList with
      | [p, n], [t, _] => (match P.underlying t with
        | some (.pointer el) => (sizeT P el).bind fun z => if z = 1 then some (.ustr el p n) else none
        | _ => none)
      | _, _ => none
    | .builtin .min => match xs with
      | [x, y] => some (.min x y)
      | _ => none
    | .builtin .max => match xs with
      | [x, y] => some (.max x y)
      | _ => none
    | .builtin .clear => match xs, c.argTypes.toList with
      | [x], [t] => (elemT P t).bind fun e => (sizeT P e).bind fun sz => (zeroD P e).bind fun z => if 0 < sz then some (.clr sz z x) else none
      | _, _ => none
    | .builtin .copy => match xs, c.argTypes.toList with
      | [d, s], [t, _] => (elemT P t).bind fun e => (sizeT P e).bind fun sz => if 0 < sz then some (.cpy sz d s) else none
      | _, _ => none
    | _ => none
  | _ => none

/-- Calls of functions and of function values. -/
def callOf (o : Oper) : Option PO :=
  match o.op with
  | .call ⟨.value (.func f), args, _⟩ => (mapO toX args.toList).map (.call f)
  | .call ⟨.value (.tmp t), args, _⟩ => (mapO toX args.toList).map (.callv (.t t))
  | _ => none
def compAny (o : Oper) : Option PO := match callOf o with
  | some p => some p
  | none => compOp P o
def compGuard (ops : Array Oper) : Option (Nat × Bool) → Option (Option (Nat × Bool))
  | none => some none
  | some (j, w) => ((ops[j]?).bind (·.dst)).map fun t => some (t, w)
def compPOp (nt : Nat) (ops : Array Oper) (o : Oper) : Option POp :=
  (compAny P o).bind fun p => (compGuard ops o.guard).bind fun g =>
    if o.dst.all (· < nt) then some ⟨o.dst, p, g⟩ else none

/-- Does i come before j by edges? -/
def edges (o : Oper) : List Nat := (o.after.toList.filter (Region.binds .any ·)).map (·.on)
def anc (ops : Array Oper) : Nat → Nat → List Nat
  | 0, _ => []
  | n + 1, j => let e := ((ops[j]?).map edges).getD []
    e ++ e.flatMap (anc ops n)
/-- The same, quicker: rows made once, the earlier ones looked up. -/
def ancAll : List Oper → List (List Nat) → List (List Nat)
  | [], acc => acc
  | o :: r, acc => ancAll r (acc ++ [(edges o).foldl (fun l e => ((acc[e]?).getD []).foldl (fun l i => if l.contains i then l else i :: l) (if l.contains e then l else e :: l)) []])
def freePairs (ops : Array Oper) : List (Nat × Nat) :=
  let a := ancAll ops.toList []
  (List.range ops.size).flatMap fun j => (List.range j).filterMap fun i => if ((a[j]?).getD []).contains i then none else some (i, j)

/-- Each edge leads back. -/
def backOk (ops : Array Oper) : Bool := (List.range ops.size).all fun i => (((ops[i]?).map edges).getD []).all (· < i)

/-- Pairs that no edge orders: by their slots they may be exchanged; those whose objects are to be looked at when they run. -/
def statOk (l : List POp) (free : List (Nat × Nat)) : Bool := free.all fun (i, j) => match l[i]?, l[j]? with
  | some a, some b => statInd a b
  | _, _ => false
def dynPairs (l : List POp) (free : List (Nat × Nat)) : List (Nat × Nat) := free.filter fun (i, j) => match l[i]?, l[j]? with
  | some a, some b => needs a b
  | _, _ => true
def compC (nt : Nat) : Code → PC
  | .skip => .skip
  | .region _ ops draw => match mapO (compPOp P nt ops) ops.toList with
    | some l => if draw && !(backOk ops && statOk l (freePairs ops)) then .bad else .reg (if draw then some (dynPairs l (freePairs ops)) else none) l []
    | none => .bad
  | .seq a b => .seq (compC nt a) (compC nt b)
  | .cond c a b => match toX c with
    | some x => .cond x (compC nt a) (compC nt b)
    | none => .bad
  | .block id a => .blk id none (compC nt a)
  | .loop a => .loop [] [] (compC nt a)
  | .exit id => .exit id
  | .ret => .ret
  | _ => .bad
def compRV : ResultVar → Option RV
  | .tmp t => some (.t t)
  | .cell t ty => (aggT P ty).bind fun a => (sizeT P ty).bind fun n => some (if a then .cn t n else .c1 t)
def compFn (keep : Bool) (f : Func) : Option PFn :=
  f.body.bind fun b => (mapO (compRV P) f.results.toList).bind fun rs =>
    if f.params.size + f.nfree ≤ f.ntmps then some { np := f.params.size + f.nfree, ntmps := f.ntmps, res := rs, keep, body := compC P f.ntmps b } else none
end

def PC.erase : PC → PC
  | .reg d ops _ => .reg d ops []
  | .seq a b => .seq a.erase b.erase
  | .cond x a b => .cond x a.erase b.erase
  | .blk id _ a => .blk id none a.erase
  | .loop _ _ a => .loop [] [] a.erase
  | c => c
def PFn.erase (F : PFn) : PFn := { F with body := F.body.erase }

end Go.PG
end
section
/- Pure Go: how the evaluator's states stand to the machine's. -/
namespace Go.PG
open Go

/-- Where an object lies: nowhere, nowhere yet (an empty slice), or at a block, an offset; element size, elements, cells of the block. -/
inductive Loc where
  | no
  | virt
  | lies (b o sz n k : Nat)
  deriving Inhabited
def Loc.blk : Loc → Option Nat
  | .lies b _ _ _ _ => some b
  | _ => none

def live : Ob → Bool
  | .dead => false
  | _ => true
/-- The blocks that may still be written. -/
def Mut (ρ : Nat → Loc) (X : Nat → Prop) (hp : Nat → Ob) (b : Nat) : Prop := X b ∨ ∃ i, live (hp i) = true ∧ (ρ i).blk = some b

inductive RD (M : Nat → Prop) (w : World) : Value → D → Prop
  | bool (b : Bool) : RD M w (.bool b) (.bool b)
  | int (k : IntKind) (n : Int) : RD M w (.int k n) (.int k n)
  | str (s : ByteArray) : RD M w (.string s) (.str s.data.toList)
  | nilp : RD M w (.pointer none) .nilp
  | sl0 (a : Option Addr) (c : Nat) : RD M w (.slice a 0 c) (.sl [])
  | sl (b o c sz : Nat) (es : List (List D)) (u : Nat → Nat → Value) (hM : ¬ M b) (hb : b < w.heap.size) (hn : 0 < es.length) (hk : es.length ≤ c) (hz : ∀ e ∈ es, e.length = sz)
      (hc : ∀ i j e x, es[i]? = some e → e[j]? = some x → w.cell? ⟨b, o + i * sz + j, none⟩ = some (u i j))
      (hr : ∀ i j e x, es[i]? = some e → e[j]? = some x → RD M w (u i j) x) : RD M w (.slice (some ⟨b, o, none⟩) es.length c) (.sl es)

inductive R (ρ : Nat → Loc) (M : Nat → Prop) (w : World) : Value → V → Prop
  | d {v : Value} {x : D} (h : RD M w v x) : R ρ M w v (.d x)
  | nil (a : Option Addr) : R ρ M w (.slice a 0 0) .nil
  | vec {id b o sz n k : Nat} (off len c : Nat) (a : Option Addr) (h : ρ id = .lies b o sz n k) (h1 : off + len ≤ n) (h2 : n - off ≤ c) (h3 : o + (off + c) * sz ≤ k)
      (h4 : a = some ⟨b, o + off * sz, none⟩ ∨ c = 0) : R ρ M w (.slice a len c) (.vec id sz off len)
  | vecv {id : Nat} (sz : Nat) (a : Option Addr) (h : ρ id = .virt) : R ρ M w (.slice a 0 0) (.vec id sz 0 0)
  | ptr {id b o sz n k : Nat} (off : Nat) (h : ρ id = .lies b o sz n k) : R ρ M w (.pointer (some ⟨b, o + off, none⟩)) (.ptr id off)
  | eptr {id b o sz n k : Nat} (i off : Nat) (h : ρ id = .lies b o sz n k) (hi : i < n) : R ρ M w (.pointer (some ⟨b, o + i * sz + off, none⟩)) (.eptr id i off)
  | imm (b o : Nat) (cs : List D) (u : Nat → Value) (hM : ¬ M b) (hb : b < w.heap.size) (hc : ∀ j x, cs[j]? = some x → w.cell? ⟨b, o + j, none⟩ = some (u j))
      (hr : ∀ j x, cs[j]? = some x → RD M w (u j) x) : R ρ M w (.pointer (some ⟨b, o, none⟩)) (.imm cs)
  | map {id b o sz n k : Nat} (h : ρ id = .lies b o sz n k) : R ρ M w (.map (some b)) (.map id)
  | nilm : R ρ M w (.map none) .nilm
  | fn (f : Nat) (c : Array Value) (cap : List V) (hs : c.size = cap.length) (hr : ∀ (i : Nat) v x, c[i]? = some v → cap[i]? = some x → R ρ M w v x) : R ρ M w (.func (.func f) #[] c) (.fn f cap)
  | nilf : R ρ M w .nilFunc .nilf
  | nili : R ρ M w .nilIface .nili
  | agg (c : Array Value) (cs : List V) (hs : c.size = cs.length) (hr : ∀ (i : Nat) v x, c[i]? = some v → cs[i]? = some x → R ρ M w v x) : R ρ M w (.agg c) (.agg cs)
  | tup (c : Array Value) (cs : List V) (hs : c.size = cs.length) (hr : ∀ (i : Nat) v x, c[i]? = some v → cs[i]? = some x → R ρ M w v x) : R ρ M w (.tuple c) (.tup cs)
  | any (v : Value) : R ρ M w v .any

/-- Values side by side. -/
def RL (ρ : Nat → Loc) (M : Nat → Prop) (w : World) (c : List Value) (cs : List V) : Prop :=
  c.length = cs.length ∧ ∀ (i : Nat) v x, c[i]? = some v → cs[i]? = some x → R ρ M w v x

/-- One object. -/
def OI (ρ : Nat → Loc) (M : Nat → Prop) (w : World) (id : Nat) : Ob → Prop
  | .dead => True
  | .box t cs => ∃ b c, ρ id = .lies b 0 cs.length 1 cs.length ∧ w.heap[b]? = some (.cells c t (0, 0)) ∧ RL ρ M w c.toList cs ∧ cs.all V.scal = true
  | .vec t sz es => 0 < sz ∧ ((es = [] ∧ ρ id = .virt) ∨ ∃ b o c, ρ id = .lies b o sz es.length c.size ∧ w.heap[b]? = some (.cells c t (0, 0)) ∧ o + es.length * sz ≤ c.size ∧
      (∀ e ∈ es, e.length = sz) ∧ ∀ i j e x, es[i]? = some e → e[j]? = some x → ∃ u, c[o + i * sz + j]? = some u ∧ RD M w u x)
  | .map es => ∃ b me clock, ρ id = .lies b 0 0 0 0 ∧ w.heap[b]? = some (.map me clock) ∧ me.size = es.length ∧
      ∀ (i : Nat) (m : MapEntry) kv, me[i]? = some m → es[i]? = some kv → RD M w m.key kv.1 ∧ RD M w m.val kv.2
  | .iter s pos => ∃ b, ρ id = .lies b 0 0 0 0 ∧ w.heap[b]? = some (.stringIter ⟨s.toArray⟩ pos)

structure Inv (G : Nat → Option Obj) (ρ : Nat → Loc) (X : Nat → Prop) (w : World) (hp : Nat → Ob) : Prop where
  obj : ∀ id, OI ρ (Mut ρ X hp) w id (hp id)
  inj : ∀ i j b, live (hp i) = true → live (hp j) = true → (ρ i).blk = some b → (ρ j).blk = some b → i = j
  lt : ∀ i b, (ρ i).blk = some b → b < w.heap.size
  xlt : ∀ b, X b → b < w.heap.size
  dis : ∀ i b, live (hp i) = true → (ρ i).blk = some b → ¬ X b
  glob : ∀ b o, G b = some o → w.heap[b]? = some o ∧ ¬ Mut ρ X hp b

/-- From one world to a later one: what nobody may write is as it was. -/
structure Later (M : Nat → Prop) (w w' : World) : Prop where
  size : w.heap.size ≤ w'.heap.size
  keep : ∀ b, b < w.heap.size → ¬ M b → w'.heap[b]? = w.heap[b]?

theorem Later.refl (M : Nat → Prop) (w : World) : Later M w w := ⟨Nat.le_refl _, fun _ _ _ => rfl⟩
theorem Later.cell {M : Nat → Prop} {w w' : World} (h : Later M w w') {b o : Nat} (hb : b < w.heap.size) (hM : ¬ M b) : w'.cell? ⟨b, o, none⟩ = w.cell? ⟨b, o, none⟩ := by
  simp only [World.cell?, h.keep b hb hM]

theorem RD.later {M M' : Nat → Prop} {w w' : World} (hl : Later M w w') (hm : ∀ b, b < w.heap.size → M' b → M b) {v : Value} {x : D} (h : RD M w v x) : RD M' w' v x := by
  induction h with
  | bool b => exact .bool b
  | int k n => exact .int k n
  | str s => exact .str s
  | nilp => exact .nilp
  | sl0 a c => exact .sl0 a c
  | sl b o c sz es u hM hb hn hk hz hc hr ih =>
    exact .sl b o c sz es u (fun h' => hM (hm b hb h')) (Nat.lt_of_lt_of_le hb hl.size) hn hk hz (fun i j e x h1 h2 => by rw [hl.cell hb hM]; exact hc i j e x h1 h2) ih

theorem R.later {ρ ρ' : Nat → Loc} {M M' : Nat → Prop} {w w' : World} (hl : Later M w w') (hm : ∀ b, b < w.heap.size → M' b → M b) (hρ : ∀ i, (ρ i) ≠ .no → ρ' i = ρ i)
    {v : Value} {x : V} (h : R ρ M w v x) : R ρ' M' w' v x := by
  induction h with
  | d h => exact .d (h.later hl hm)
  | nil a => exact .nil a
  | vec off len c a h h1 h2 h3 h4 => exact .vec off len c a (by rw [hρ _ (by rw [h]; exact Loc.noConfusion), h]) h1 h2 h3 h4
  | vecv sz a h => exact .vecv sz a (by rw [hρ _ (by rw [h]; exact Loc.noConfusion), h])
  | ptr off h => exact .ptr off (by rw [hρ _ (by rw [h]; exact Loc.noConfusion), h])
  | eptr i off h hi => exact .eptr i off (by rw [hρ _ (by rw [h]; exact Loc.noConfusion), h]) hi
  | imm b o cs u hM hb hc hr => exact .imm b o cs u (fun h' => hM (hm b hb h')) (Nat.lt_of_lt_of_le hb hl.size) (fun j x h1 => by rw [hl.cell hb hM]; exact hc j x h1) (fun j x h1 => (hr j x h1).later hl hm)
  | map h => exact .map (by rw [hρ _ (by rw [h]; exact Loc.noConfusion), h])
  | nilm => exact .nilm
  | fn f c cap hs hr ih => exact .fn f c cap hs ih
  | nilf => exact .nilf
  | nili => exact .nili
  | agg c cs hs hr ih => exact .agg c cs hs ih
  | tup c cs hs hr ih => exact .tup c cs hs ih
  | any v => exact .any v

theorem RL.later {ρ ρ' : Nat → Loc} {M M' : Nat → Prop} {w w' : World} (hl : Later M w w') (hm : ∀ b, b < w.heap.size → M' b → M b) (hρ : ∀ i, (ρ i) ≠ .no → ρ' i = ρ i)
    {c : List Value} {cs : List V} (h : RL ρ M w c cs) : RL ρ' M' w' c cs := ⟨h.1, fun i v x h1 h2 => (h.2 i v x h1 h2).later hl hm hρ⟩

/-- An object whose block is as it was. -/
theorem OI.later {ρ ρ' : Nat → Loc} {M M' : Nat → Prop} {w w' : World} (hl : Later M w w') (hm : ∀ b, b < w.heap.size → M' b → M b) (hρ : ∀ i, (ρ i) ≠ .no → ρ' i = ρ i)
    {id : Nat} {ob : Ob} (hb : ∀ b, (ρ id).blk = some b → live ob = true → w'.heap[b]? = w.heap[b]?) (h : OI ρ M w id ob) : OI ρ' M' w' id ob := by
  cases ob with
  | dead => trivial
  | box t cs =>
    obtain ⟨b, c, h1, h2, h3, h4⟩ := h
    exact ⟨b, c, by rw [hρ _ (by rw [h1]; exact Loc.noConfusion), h1], by rw [hb b (by rw [h1]; rfl) rfl]; exact h2, h3.later hl hm hρ, h4⟩
  | vec t sz es =>
    obtain ⟨h0, h | ⟨b, o, c, h1, h2, h3, h4, h5⟩⟩ := h
    · exact ⟨h0, .inl ⟨h.1, by rw [hρ _ (by rw [h.2]; exact Loc.noConfusion), h.2]⟩⟩
    · exact ⟨h0, .inr ⟨b, o, c, by rw [hρ _ (by rw [h1]; exact Loc.noConfusion), h1], by rw [hb b (by rw [h1]; rfl) rfl]; exact h2, h3, h4, fun i j e x e1 e2 => by
        obtain ⟨u, hu, hr⟩ := h5 i j e x e1 e2
        exact ⟨u, hu, hr.later hl hm⟩⟩⟩
  | map es =>
    obtain ⟨b, me, clock, h1, h2, h3, h4⟩ := h
    exact ⟨b, me, clock, by rw [hρ _ (by rw [h1]; exact Loc.noConfusion), h1], by rw [hb b (by rw [h1]; rfl) rfl]; exact h2, h3, fun i m kv e1 e2 => ⟨(h4 i m kv e1 e2).1.later hl hm, (h4 i m kv e1 e2).2.later hl hm⟩⟩
  | iter s pos =>
    obtain ⟨b, h1, h2⟩ := h
    exact ⟨b, by rw [hρ _ (by rw [h1]; exact Loc.noConfusion), h1], by rw [hb b (by rw [h1]; rfl) rfl]; exact h2⟩

/-! ### what is behind an evaluator's value -/
section
variable {ρ : Nat → Loc} {M : Nat → Prop} {w : World} {v : Value}
theorem R.nil_inv (h : R ρ M w v .nil) : ∃ a, v = .slice a 0 0 := by
  generalize hz : V.nil = z at h
  cases h <;> cases hz
  exact ⟨_, rfl⟩
theorem R.vec_inv {id sz off len : Nat} (h : R ρ M w v (.vec id sz off len)) :
    (∃ b o n k c a, ρ id = .lies b o sz n k ∧ off + len ≤ n ∧ n - off ≤ c ∧ o + (off + c) * sz ≤ k ∧ (a = some ⟨b, o + off * sz, none⟩ ∨ c = 0) ∧ v = .slice a len c) ∨
    (ρ id = .virt ∧ off = 0 ∧ len = 0 ∧ ∃ a, v = .slice a 0 0) := by
  generalize hz : V.vec id sz off len = z at h
  cases h <;> cases hz
  · exact .inl ⟨_, _, _, _, _, _, by assumption, by assumption, by assumption, by assumption, by assumption, rfl⟩
  · exact .inr ⟨by assumption, rfl, rfl, _, rfl⟩
theorem R.ptr_inv {id off : Nat} (h : R ρ M w v (.ptr id off)) : ∃ b o sz n k, ρ id = .lies b o sz n k ∧ v = .pointer (some ⟨b, o + off, none⟩) := by
  generalize hz : V.ptr id off = z at h
  cases h <;> cases hz
  exact ⟨_, _, _, _, _, by assumption, rfl⟩
theorem R.eptr_inv {id i off : Nat} (h : R ρ M w v (.eptr id i off)) : ∃ b o sz n k, ρ id = .lies b o sz n k ∧ i < n ∧ v = .pointer (some ⟨b, o + i * sz + off, none⟩) := by
  generalize hz : V.eptr id i off = z at h
  cases h <;> cases hz
  exact ⟨_, _, _, _, _, by assumption, by assumption, rfl⟩
theorem R.imm_inv {cs : List D} (h : R ρ M w v (.imm cs)) : ∃ (b o : Nat) (u : Nat → Value), ¬ M b ∧ b < w.heap.size ∧ (∀ j x, cs[j]? = some x → w.cell? ⟨b, o + j, none⟩ = some (u j)) ∧ (∀ j x, cs[j]? = some x → RD M w (u j) x) ∧ v = .pointer (some ⟨b, o, none⟩) := by
  generalize hz : V.imm cs = z at h
  cases h <;> cases hz
  exact ⟨_, _, _, by assumption, by assumption, by assumption, by assumption, rfl⟩
theorem R.map_inv {id : Nat} (h : R ρ M w v (.map id)) : ∃ b o sz n k, ρ id = .lies b o sz n k ∧ v = .map (some b) := by
  generalize hz : V.map id = z at h
  cases h <;> cases hz
  exact ⟨_, _, _, _, _, by assumption, rfl⟩
theorem R.nilm_inv (h : R ρ M w v .nilm) : v = .map none := by
  generalize hz : V.nilm = z at h
  cases h <;> cases hz
  rfl
theorem R.fn_inv {f : Nat} {cap : List V} (h : R ρ M w v (.fn f cap)) : ∃ c : Array Value, v = .func (.func f) #[] c ∧ RL ρ M w c.toList cap := by
  generalize hz : V.fn f cap = z at h
  cases h <;> cases hz
  rename_i c hs hr
  exact ⟨c, rfl, by simpa using hs, fun i v x e1 e2 => hr i v x (by simpa using e1) e2⟩
theorem R.agg_inv {cs : List V} (h : R ρ M w v (.agg cs)) : ∃ c : Array Value, v = .agg c ∧ RL ρ M w c.toList cs := by
  generalize hz : V.agg cs = z at h
  cases h <;> cases hz
  rename_i c hs hr
  exact ⟨c, rfl, by simpa using hs, fun i v x e1 e2 => hr i v x (by simpa using e1) e2⟩
theorem R.tup_inv {cs : List V} (h : R ρ M w v (.tup cs)) : ∃ c : Array Value, v = .tuple c ∧ RL ρ M w c.toList cs := by
  generalize hz : V.tup cs = z at h
  cases h <;> cases hz
  rename_i c hs hr
  exact ⟨c, rfl, by simpa using hs, fun i v x e1 e2 => hr i v x (by simpa using e1) e2⟩
theorem R.d_inv {x : D} (h : R ρ M w v (.d x)) : RD M w v x := by
  generalize hy : V.d x = y at h
  cases h <;> cases hy
  assumption
theorem R.mkAgg {c : List Value} {cs : List V} (h : RL ρ M w c cs) : R ρ M w (.agg c.toArray) (.agg cs) := .agg _ _ (by simpa using h.1) fun i v x e1 e2 => h.2 i v x (by simpa using e1) e2
theorem R.mkTup {c : List Value} {cs : List V} (h : RL ρ M w c cs) : R ρ M w (.tuple c.toArray) (.tup cs) := .tup _ _ (by simpa using h.1) fun i v x e1 e2 => h.2 i v x (by simpa using e1) e2
/-- What is behind data that is a slice. -/
theorem RD.sl_inv {es : List (List D)} (h : RD M w v (.sl es)) : (es = [] ∧ ∃ a c, v = .slice a 0 c) ∨
    (∃ (b o c sz : Nat) (u : Nat → Nat → Value), v = .slice (some ⟨b, o, none⟩) es.length c ∧ ¬ M b ∧ b < w.heap.size ∧ 0 < es.length ∧ es.length ≤ c ∧ (∀ e ∈ es, e.length = sz) ∧
      (∀ i j e x, es[i]? = some e → e[j]? = some x → w.cell? ⟨b, o + i * sz + j, none⟩ = some (u i j)) ∧ (∀ i j e x, es[i]? = some e → e[j]? = some x → RD M w (u i j) x)) := by
  generalize hz : D.sl es = z at h
  cases h <;> cases hz
  · exact .inl ⟨rfl, _, _, rfl⟩
  · exact .inr ⟨_, _, _, _, _, rfl, by assumption, by assumption, by assumption, by assumption, by assumption, by assumption, by assumption⟩
end
end Go.PG
end
section
/- Pure Go: what becomes of the invariant when an object is made, written, given up. -/
namespace Go.PG
open Go

theorem pg_old (w : World) (o : Obj) (i : Nat) (h : i < w.heap.size) : (w.alloc o).heap[i]? = w.heap[i]? := by
  show (w.heap.push o)[i]? = _
  rw [Array.getElem?_push_lt h, Array.getElem?_eq_getElem h]
theorem pg_new (w : World) (o : Obj) : (w.alloc o).heap[w.heap.size]? = some o := by
  show (w.heap.push o)[w.heap.size]? = _
  simp
def upd1 {α : Type} (f : Nat → α) (i : Nat) (x : α) : Nat → α := fun j => if j = i then x else f j
theorem upd1_same {α : Type} (f : Nat → α) (i : Nat) (x : α) : upd1 f i x i = x := by simp [upd1]
theorem upd1_other {α : Type} (f : Nat → α) {i j : Nat} (x : α) (h : j ≠ i) : upd1 f i x j = f j := by simp [upd1, h]
def hup (hp : Nat → Ob) : List (Nat × Ob) → Nat → Ob
  | [] => hp
  | (i, o) :: r => hup (upd1 hp i o) r

variable {G : Nat → Option Obj} {ρ ρ' : Nat → Loc} {X : Nat → Prop} {w w' : World} {hp hp' : Nat → Ob}

theorem OI.loc {M : Nat → Prop} {id : Nat} {ob : Ob} (h : OI ρ M w id ob) (hl : live ob = true) : ρ id ≠ .no := by
  intro hn
  cases ob with
  | dead => cases hl
  | box t cs => obtain ⟨b, c, h1, _⟩ := h; rw [hn] at h1; cases h1
  | vec t sz es =>
    obtain ⟨_, h | ⟨b, o, c, h1, _⟩⟩ := h
    · rw [hn] at h; cases h.2
    · rw [hn] at h1; cases h1
  | map es => obtain ⟨b, me, clock, h1, _⟩ := h; rw [hn] at h1; cases h1
  | iter s pos => obtain ⟨b, h1, _⟩ := h; rw [hn] at h1; cases h1
theorem Inv.fresh_dead (h : Inv G ρ X w hp) {i : Nat} (hi : ρ i = .no) : hp i = .dead := by
  cases hl : hp i with
  | dead => rfl
  | _ => exact absurd hi ((h.obj i).loc (by rw [hl]; rfl))

/-- From one state to a later one, fresh names from 'nid' on. -/
structure Fr (X : Nat → Prop) (ρ ρ' : Nat → Loc) (hp hp' : Nat → Ob) (nid : Nat) (w w' : World) : Prop where
  os : w'.os = w.os
  tape : w'.tape = w.tape
  output : w'.output = w.output
  size : w.heap.size ≤ w'.heap.size
  keep : ∀ b, b < w.heap.size → (∀ i, live (hp i) = true → (ρ i).blk ≠ some b) → w'.heap[b]? = w.heap[b]?
  ext : ∀ i, (i < nid ∨ nid + 8 ≤ i) → ρ' i = ρ i
  mu : ∀ b, b < w.heap.size → Mut ρ' X hp' b → Mut ρ X hp b

theorem Fr.later {nid : Nat} (h : Fr X ρ ρ' hp hp' nid w w') : Later (Mut ρ X hp) w w' :=
  ⟨h.size, fun b hb hM => h.keep b hb fun i hi he => hM (.inr ⟨i, hi, he⟩)⟩
theorem Fr.loc {nid : Nat} (h : Fr X ρ ρ' hp hp' nid w w') (hf : ∀ j, j < 8 → ρ (nid + j) = .no) : ∀ i, ρ i ≠ .no → ρ' i = ρ i := fun i hi => by
  refine h.ext i ?_
  by_cases h1 : i < nid
  · exact .inl h1
  · by_cases h2 : nid + 8 ≤ i
    · exact .inr h2
    · exact absurd (by have := hf (i - nid) (by omega); rwa [show nid + (i - nid) = i from by omega] at this) hi
theorem Fr.refl (X : Nat → Prop) (ρ : Nat → Loc) (hp : Nat → Ob) (nid : Nat) (w : World) : Fr X ρ ρ hp hp nid w w :=
  ⟨rfl, rfl, rfl, Nat.le_refl _, fun _ _ _ => rfl, fun _ _ => rfl, fun _ _ h => h⟩
theorem R.fr {nid : Nat} (h : Fr X ρ ρ' hp hp' nid w w') (hf : ∀ j, j < 8 → ρ (nid + j) = .no) {v : Value} {x : V} (hr : R ρ (Mut ρ X hp) w v x) : R ρ' (Mut ρ' X hp') w' v x :=
  hr.later h.later h.mu (h.loc hf)

/-- A new object in a new block. -/
theorem Inv.alloc (hI : Inv G ρ X w hp) {nid : Nat} (hn : ρ nid = .no) (o : Obj) (L : Loc) (hL : L.blk = some w.heap.size) (ob : Ob)
    (hob : OI (upd1 ρ nid L) (Mut (upd1 ρ nid L) X (upd1 hp nid ob)) (w.alloc o) nid ob) :
    Inv G (upd1 ρ nid L) X (w.alloc o) (upd1 hp nid ob) ∧ Fr X ρ (upd1 ρ nid L) hp (upd1 hp nid ob) nid w (w.alloc o) := by
  have hmut : ∀ b, b < w.heap.size → Mut (upd1 ρ nid L) X (upd1 hp nid ob) b → Mut ρ X hp b := by
    intro b hb h
    rcases h with h | ⟨i, h1, h2⟩
    · exact .inl h
    · by_cases hi : i = nid
      · subst hi; rw [upd1_same, hL] at h2; injection h2 with h2; omega
      · rw [upd1_other _ _ hi] at h1 h2; exact .inr ⟨i, h1, h2⟩
  have hl : Later (Mut ρ X hp) w (w.alloc o) := ⟨by simp, fun b hb _ => pg_old w o b hb⟩
  have hρ : ∀ i, ρ i ≠ .no → upd1 ρ nid L i = ρ i := fun i hi => upd1_other _ _ (fun e => hi (e ▸ hn))
  refine ⟨⟨fun id => ?_, ?_, ?_, ?_, ?_, ?_⟩, ⟨rfl, rfl, rfl, by simp, fun b hb _ => pg_old w o b hb, fun i hi => upd1_other _ _ (by omega), hmut⟩⟩
  · by_cases hi : id = nid
    · subst hi; rw [upd1_same]; exact hob
    · rw [upd1_other _ _ hi]
      exact (hI.obj id).later hl hmut hρ fun b hb _ => pg_old w o b (hI.lt id b hb)
  · intro i j b h1 h2 h3 h4
    by_cases hi : i = nid <;> by_cases hj : j = nid
    · rw [hi, hj]
    · subst hi; rw [upd1_same, hL] at h3; rw [upd1_other _ _ hj] at h4; injection h3 with h3; have := hI.lt j b h4; omega
    · subst hj; rw [upd1_same, hL] at h4; rw [upd1_other _ _ hi] at h3; injection h4 with h4; have := hI.lt i b h3; omega
    · rw [upd1_other _ _ hi] at h1 h3; rw [upd1_other _ _ hj] at h2 h4; exact hI.inj i j b h1 h2 h3 h4
  · intro i b h
    by_cases hi : i = nid
    · subst hi; rw [upd1_same, hL] at h; injection h with h; simp; omega
    · rw [upd1_other _ _ hi] at h; have := hI.lt i b h; simp; omega
  · intro b h; have := hI.xlt b h; simp; omega
  · intro i b h1 h2 h3
    by_cases hi : i = nid
    · subst hi; rw [upd1_same, hL] at h2; injection h2 with h2; have := hI.xlt b h3; omega
    · rw [upd1_other _ _ hi] at h1 h2; exact hI.dis i b h1 h2 h3
  · intro b ob' h
    obtain ⟨h1, h2⟩ := hI.glob b ob' h
    have hb : b < w.heap.size := (Array.getElem?_eq_some_iff.1 h1).1
    exact ⟨by rw [pg_old w o b hb]; exact h1, fun h' => h2 (hmut b hb h')⟩

/-- A new object that lies nowhere yet. -/
theorem Inv.virt (hI : Inv G ρ X w hp) {nid : Nat} (hn : ρ nid = .no) {ty sz : Nat} (hz : 0 < sz) :
    Inv G (upd1 ρ nid .virt) X w (upd1 hp nid (.vec ty sz [])) ∧ Fr X ρ (upd1 ρ nid .virt) hp (upd1 hp nid (.vec ty sz [])) nid w w := by
  have hmut : ∀ b, Mut (upd1 ρ nid .virt) X (upd1 hp nid (.vec ty sz [])) b → Mut ρ X hp b := by
    intro b h
    rcases h with h | ⟨i, h1, h2⟩
    · exact .inl h
    · by_cases hi : i = nid
      · subst hi; rw [upd1_same] at h2; cases h2
      · rw [upd1_other _ _ hi] at h1 h2; exact .inr ⟨i, h1, h2⟩
  have hρ : ∀ i, ρ i ≠ .no → upd1 ρ nid .virt i = ρ i := fun i hi => upd1_other _ _ (fun e => hi (e ▸ hn))
  refine ⟨⟨fun id => ?_, ?_, ?_, hI.xlt, ?_, ?_⟩, ⟨rfl, rfl, rfl, Nat.le_refl _, fun b hb _ => rfl, fun i hi => upd1_other _ _ (by omega), fun b _ h => hmut b h⟩⟩
  · by_cases hi : id = nid
    · subst hi; rw [upd1_same]; exact ⟨hz, .inl ⟨rfl, upd1_same _ _ _⟩⟩
    · rw [upd1_other _ _ hi]
      exact (hI.obj id).later (Later.refl _ w) (fun b _ h => hmut b h) hρ fun _ _ _ => rfl
  · intro i j b h1 h2 h3 h4
    by_cases hi : i = nid <;> by_cases hj : j = nid
    · rw [hi, hj]
    · subst hi; rw [upd1_same] at h3; cases h3
    · subst hj; rw [upd1_same] at h4; cases h4
    · rw [upd1_other _ _ hi] at h1 h3; rw [upd1_other _ _ hj] at h2 h4; exact hI.inj i j b h1 h2 h3 h4
  · intro i b h
    by_cases hi : i = nid
    · subst hi; rw [upd1_same] at h; cases h
    · rw [upd1_other _ _ hi] at h; exact hI.lt i b h
  · intro i b h1 h2 h3
    by_cases hi : i = nid
    · subst hi; rw [upd1_same] at h2; cases h2
    · rw [upd1_other _ _ hi] at h1 h2; exact hI.dis i b h1 h2 h3
  · intro b ob' h
    obtain ⟨h1, h2⟩ := hI.glob b ob' h
    exact ⟨h1, fun h' => h2 (hmut b h')⟩

/-- An object is given up, and a new one lies in its block, which alone may have been written. -/
theorem Inv.move (hI : Inv G ρ X w hp) {nid id b : Nat} (hn : ρ nid = .no) (hl : live (hp id) = true) (hb : (ρ id).blk = some b) (hs : w'.heap.size = w.heap.size) (hk : ∀ b', b' ≠ b → w'.heap[b']? = w.heap[b']?)
    (ho : w'.os = w.os) (ht : w'.tape = w.tape) (hu : w'.output = w.output)
    (L : Loc) (hL : L.blk = some b) (ob : Ob) (hlive : live ob = true)
    (hob : (∀ b, Mut (upd1 ρ nid L) X (upd1 (upd1 hp id .dead) nid ob) b ↔ Mut ρ X hp b) → OI (upd1 ρ nid L) (Mut (upd1 ρ nid L) X (upd1 (upd1 hp id .dead) nid ob)) w' nid ob) :
    Inv G (upd1 ρ nid L) X w' (upd1 (upd1 hp id .dead) nid ob) ∧ Fr X ρ (upd1 ρ nid L) hp (upd1 (upd1 hp id .dead) nid ob) nid w w' := by
  have hne : id ≠ nid := fun e => (hI.obj id).loc hl (e ▸ hn)
  have hlv : ∀ i, live (upd1 (upd1 hp id .dead) nid ob i) = true ↔ (i = nid ∨ (i ≠ id ∧ live (hp i) = true)) := fun i => by
    by_cases hi : i = nid
    · subst hi; simp [upd1_same, hlive]
    · by_cases hj : i = id
      · subst hj; rw [upd1_other _ _ hi, upd1_same]; simp [live, hi]
      · rw [upd1_other _ _ hi, upd1_other _ _ hj]; simp [hi, hj]
  have hmut : ∀ b, Mut (upd1 ρ nid L) X (upd1 (upd1 hp id .dead) nid ob) b ↔ Mut ρ X hp b := by
    intro b'
    constructor
    · rintro (h | ⟨i, h1, h2⟩)
      · exact .inl h
      · rcases (hlv i).1 h1 with rfl | ⟨h3, h4⟩
        · rw [upd1_same, hL] at h2; exact .inr ⟨id, hl, hb.trans h2⟩
        · have hi : i ≠ nid := fun e => (hI.obj i).loc h4 (e ▸ hn)
          rw [upd1_other _ _ hi] at h2; exact .inr ⟨i, h4, h2⟩
    · rintro (h | ⟨i, h1, h2⟩)
      · exact .inl h
      · by_cases hj : i = id
        · subst hj; exact .inr ⟨nid, (hlv nid).2 (.inl rfl), by rw [upd1_same, hL]; exact hb.symm.trans h2⟩
        · have hi : i ≠ nid := fun e => (hI.obj i).loc h1 (e ▸ hn)
          exact .inr ⟨i, (hlv i).2 (.inr ⟨hj, h1⟩), by rw [upd1_other _ _ hi]; exact h2⟩
  have hρ : ∀ i, ρ i ≠ .no → upd1 ρ nid L i = ρ i := fun i hi => upd1_other _ _ (fun e => hi (e ▸ hn))
  have hbM : Mut ρ X hp b := .inr ⟨id, hl, hb⟩
  have hLt : Later (Mut ρ X hp) w w' := ⟨by omega, fun b' _ hM => hk b' fun e => hM (e ▸ hbM)⟩
  refine ⟨⟨fun i => ?_, ?_, ?_, fun b' h => by rw [hs]; exact hI.xlt b' h, ?_, ?_⟩, ⟨ho, ht, hu, by omega, fun b' hb' h => hk b' fun e => h id hl (e ▸ hb), fun i hi => upd1_other _ _ (by omega), fun b' _ h => (hmut b').1 h⟩⟩
  · by_cases hi : i = nid
    · subst hi; rw [upd1_same]; exact hob hmut
    · rw [upd1_other _ _ hi]
      by_cases hj : i = id
      · subst hj; rw [upd1_same]; trivial
      · rw [upd1_other _ _ hj]
        exact (hI.obj i).later hLt (fun b' _ h => (hmut b').1 h) hρ fun b' h1 h2 => hk b' fun e => hj (hI.inj i id b h2 hl (e ▸ h1) hb)
  · intro i j b' h1 h2 h3 h4
    rcases (hlv i).1 h1 with rfl | ⟨hi1, hi2⟩ <;> rcases (hlv j).1 h2 with hj | ⟨hj1, hj2⟩
    · exact hj.symm
    · have hjn : j ≠ i := fun e => (hI.obj j).loc hj2 (e ▸ hn)
      rw [upd1_same, hL] at h3; rw [upd1_other _ _ hjn] at h4; injection h3 with h3
      exact absurd (hI.inj j id b hj2 hl (h3 ▸ h4) hb) hj1
    · subst hj
      have hin : i ≠ j := fun e => (hI.obj i).loc hi2 (e ▸ hn)
      rw [upd1_same, hL] at h4; rw [upd1_other _ _ hin] at h3; injection h4 with h4
      exact absurd (hI.inj i id b hi2 hl (h4 ▸ h3) hb) hi1
    · have hin : i ≠ nid := fun e => (hI.obj i).loc hi2 (e ▸ hn)
      have hjn : j ≠ nid := fun e => (hI.obj j).loc hj2 (e ▸ hn)
      rw [upd1_other _ _ hin] at h3; rw [upd1_other _ _ hjn] at h4
      exact hI.inj i j b' hi2 hj2 h3 h4
  · intro i b' h
    by_cases hi : i = nid
    · subst hi; rw [upd1_same, hL] at h; injection h with h; rw [hs, ← h]; exact hI.lt id b hb
    · rw [upd1_other _ _ hi] at h; rw [hs]; exact hI.lt i b' h
  · intro i b' h1 h2 h3
    rcases (hlv i).1 h1 with rfl | ⟨hi1, hi2⟩
    · rw [upd1_same, hL] at h2; injection h2 with h2; exact hI.dis id b hl hb (h2 ▸ h3)
    · have hin : i ≠ nid := fun e => (hI.obj i).loc hi2 (e ▸ hn)
      rw [upd1_other _ _ hin] at h2; exact hI.dis i b' hi2 h2 h3
  · intro b' o h
    obtain ⟨h1, h2⟩ := hI.glob b' o h
    exact ⟨by rw [hk b' fun e => h2 (e ▸ hbM)]; exact h1, fun h' => h2 ((hmut b').1 h')⟩

/-- The objects named are given up. -/
def killF (hp : Nat → Ob) (ks : List Nat) : Nat → Ob := fun i => if i ∈ ks then .dead else hp i
theorem mut_kill {ks : List Nat} {b : Nat} (h : Mut ρ X (killF hp ks) b) : Mut ρ X hp b := by
  rcases h with h | ⟨i, h1, h2⟩
  · exact .inl h
  · refine .inr ⟨i, ?_, h2⟩
    unfold killF at h1
    split at h1
    · cases h1
    · exact h1
theorem live_kill {ks : List Nat} {i : Nat} (h : live (killF hp ks i) = true) : live (hp i) = true ∧ i ∉ ks := by
  unfold killF at h
  split at h
  · cases h
  · rename_i hi; exact ⟨h, hi⟩
theorem Inv.kill (hI : Inv G ρ X w hp) (ks : List Nat) : Inv G ρ X w (killF hp ks) := by
  refine ⟨fun id => ?_, ?_, hI.lt, hI.xlt, ?_, ?_⟩
  · by_cases h : id ∈ ks
    · simp only [killF, h, if_true]; trivial
    · simp only [killF, h, if_false]
      exact (hI.obj id).later (Later.refl _ w) (fun b _ h => mut_kill h) (fun _ _ => rfl) (fun _ _ _ => rfl)
  · intro i j b h1 h2 h3 h4
    exact hI.inj i j b (live_kill h1).1 (live_kill h2).1 h3 h4
  · intro i b h1 h2; exact hI.dis i b (live_kill h1).1 h2
  · intro b o h
    obtain ⟨h1, h2⟩ := hI.glob b o h
    exact ⟨h1, fun h' => h2 (mut_kill h')⟩
theorem hup_deads (ks : List Nat) : ∀ hp : Nat → Ob, hup hp (deads ks) = killF hp ks := by
  induction ks with
  | nil => intro hp; funext i; simp [deads, hup, killF]
  | cons k ks ih =>
    intro hp
    have : hup hp (deads (k :: ks)) = hup (upd1 hp k .dead) (deads ks) := rfl
    rw [this, ih]
    funext i
    unfold killF upd1
    by_cases h1 : i ∈ ks <;> by_cases h2 : i = k <;> simp [h1, h2]
/-- What is given up may be read as data from then on. -/
theorem Inv.not_mut_killed (hI : Inv G ρ X w hp) {ks : List Nat} {i b : Nat} (hi : i ∈ ks) (hl : live (hp i) = true) (hb : (ρ i).blk = some b) : ¬ Mut ρ X (killF hp ks) b := by
  rintro (h | ⟨j, h1, h2⟩)
  · exact hI.dis i b hl hb h
  · obtain ⟨h3, h4⟩ := live_kill h1
    exact h4 (hI.inj i j b hl h3 hb h2 ▸ hi)

/-- An object's block is written, and nothing else. -/
theorem Inv.write (hI : Inv G ρ X w hp) {id b : Nat} (hl : live (hp id) = true) (hb : (ρ id).blk = some b) (hs : w'.heap.size = w.heap.size) (hk : ∀ b', b' ≠ b → w'.heap[b']? = w.heap[b']?)
    (ob : Ob) (hlive : live ob = true) (hob : OI ρ (Mut ρ X (upd1 hp id ob)) w' id ob) : Inv G ρ X w' (upd1 hp id ob) := by
  have hlv : ∀ i, live (upd1 hp id ob i) = live (hp i) := fun i => by
    by_cases hi : i = id
    · subst hi; rw [upd1_same, hl, hlive]
    · rw [upd1_other _ _ hi]
  have hmut : ∀ b, Mut ρ X (upd1 hp id ob) b ↔ Mut ρ X hp b := fun b => by simp only [Mut, hlv]
  have hL : Later (Mut ρ X hp) w w' := ⟨by omega, fun b' _ hM => hk b' fun e => hM (.inr ⟨id, hl, e ▸ hb⟩)⟩
  refine ⟨fun i => ?_, ?_, fun i b' h => by rw [hs]; exact hI.lt i b' h, fun b' h => by rw [hs]; exact hI.xlt b' h, ?_, ?_⟩
  · by_cases hi : i = id
    · subst hi; rw [upd1_same]; exact hob
    · rw [upd1_other _ _ hi]
      exact (hI.obj i).later hL (fun b' _ h => (hmut b').1 h) (fun _ _ => rfl) fun b' h1 h2 => hk b' fun e => hi (hI.inj i id b h2 hl (e ▸ h1) hb)
  · intro i j b' h1 h2; rw [hlv] at h1 h2; exact hI.inj i j b' h1 h2
  · intro i b' h1; rw [hlv] at h1; exact hI.dis i b' h1
  · intro b' o h
    obtain ⟨h1, h2⟩ := hI.glob b' o h
    exact ⟨by rw [hk b' fun e => h2 (.inr ⟨id, hl, e ▸ hb⟩)]; exact h1, fun h' => h2 ((hmut b').1 h')⟩
theorem Fr.write (X : Nat → Prop) {id b : Nat} (nid : Nat) (hl : live (hp id) = true) (hb : (ρ id).blk = some b) (hs : w'.heap.size = w.heap.size) (hk : ∀ b', b' ≠ b → w'.heap[b']? = w.heap[b']?)
    (ho : w'.os = w.os) (ht : w'.tape = w.tape) (hu : w'.output = w.output) (ob : Ob) : Fr X ρ ρ hp (upd1 hp id ob) nid w w' := by
  refine ⟨ho, ht, hu, by omega, fun b' _ h => hk b' fun e => h id hl (e ▸ hb), fun _ _ => rfl, ?_⟩
  intro b' _ h
  rcases h with h | ⟨i, h1, h2⟩
  · exact .inl h
  · by_cases hi : i = id
    · subst hi; exact .inr ⟨i, hl, h2⟩
    · rw [upd1_other _ _ hi] at h1; exact .inr ⟨i, h1, h2⟩
theorem Fr.kill (X : Nat → Prop) (ρ : Nat → Loc) (hp : Nat → Ob) (ks : List Nat) (nid : Nat) (w : World) : Fr X ρ ρ hp (killF hp ks) nid w w :=
  ⟨rfl, rfl, rfl, Nat.le_refl _, fun _ _ _ => rfl, fun _ _ => rfl, fun _ _ h => mut_kill h⟩
theorem Fr.trans {nid : Nat} {ρ'' : Nat → Loc} {hp'' : Nat → Ob} {w'' : World} (h : Fr X ρ ρ' hp hp' nid w w') (k : Fr X ρ' ρ'' hp' hp'' nid w' w'') (hX : ∀ b, b < w.heap.size → X b → ∀ i, live (hp' i) = true → (ρ' i).blk ≠ some b) : Fr X ρ ρ'' hp hp'' nid w w'' := by
  refine ⟨k.os.trans h.os, k.tape.trans h.tape, k.output.trans h.output, Nat.le_trans h.size k.size, fun b hb hn => ?_, fun i hi => (k.ext i hi).trans (h.ext i hi), fun b hb hm => h.mu b hb (k.mu b (Nat.lt_of_lt_of_le hb h.size) hm)⟩
  refine (k.keep b (Nat.lt_of_lt_of_le hb h.size) fun i hi he => ?_).trans (h.keep b hb hn)
  rcases h.mu b hb (.inr ⟨i, hi, he⟩) with hx | ⟨j, h1, h2⟩
  · exact hX b hb hx i hi he
  · exact hn j h1 h2
end Go.PG
end
section
/- Pure Go: what single operations do in the machine, each as one equation. -/
set_option linter.unusedSimpArgs false
namespace Go.PG
open Go
variable {P : Program} {ev : Operand → Value} {w : World} {dst : Option Tmp} {ty : TypeId} {pos : String} {af : Array Edge} {g : Option (Nat × Bool)}

theorem run_zeroValue {t : TypeId} {i : TypeInfo} {z : Value} (hi : P.info? t = some i) (hz : i.zero = some z) : (zeroValue t).run P w = .ok z w := by
  simp [zeroValue, typeInfo, program, hi, hz, bind, pure, Sem.run, Sem.bind]
theorem run_sizeOf {t : TypeId} {i : TypeInfo} (hi : P.info? t = some i) : (sizeOf t).run P w = .ok i.size w := by
  simp [sizeOf, typeInfo, program, hi, bind, pure, Sem.run, Sem.bind]
theorem run_underlying {t : TypeId} {d : TypeDesc} (hi : P.underlying t = some d) : (underlying t).run P w = .ok d w := by
  simp [underlying, program, hi, bind, pure, Sem.run, Sem.bind]
theorem run_typeInfo {t : TypeId} {i : TypeInfo} (hi : P.info? t = some i) : (typeInfo t).run P w = .ok i w := by
  simp [typeInfo, program, hi, bind, pure, Sem.run, Sem.bind]

theorem run_move (x : Operand) : (execOp ev ⟨dst, .move x, ty, pos, af, g⟩).run P w = .ok (.value (ev x)) w := by simp [execOp, pure, Sem.run]
theorem run_assign (x : Operand) : (execOp ev ⟨dst, .assign x, ty, pos, af, g⟩).run P w = .ok (.value (ev x)) w := by simp [execOp, pure, Sem.run]
theorem run_pick {c x y : Operand} {b : Bool} (h : ev c = .bool b) : (execOp ev ⟨dst, .pick c x y, ty, pos, af, g⟩).run P w = .ok (.value (if b then ev x else ev y)) w := by
  simp [execOp, h, asBool, bind, pure, Sem.run, Sem.bind]
theorem run_alloc {t : TypeId} {i : TypeInfo} {z : Value} (hi : P.info? t = some i) (hz : i.zero = some z) :
    (execOp ev ⟨dst, .alloc t, ty, pos, af, g⟩).run P w = .ok (.value (.pointer (some ⟨w.heap.size, 0, none⟩))) (w.alloc (.cells z.cells t)) := by
  simp [execOp, Instr.alloc, Sem.run_bind', run_zeroValue hi hz, Result.andThen, newVar, newRow, newObj, bind, pure, Sem.run, Sem.bind]
theorem run_box (t : TypeId) (x : Operand) :
    (execOp ev ⟨dst, .box t x, ty, pos, af, g⟩).run P w = .ok (.value (.pointer (some ⟨w.heap.size, 0, none⟩))) (w.alloc (.cells (ev x).cells t)) := by
  simp [execOp, Instr.box, newVar, newRow, newObj, bind, pure, Sem.run, Sem.bind]
theorem run_fieldAddr {s f : Nat} {x : Operand} {fs : Array Field} {fd : Field} {i : TypeInfo} {ad : Addr} (hs : P.underlying s = some (.struct fs)) (hf : fs[f]? = some fd) (hi : P.info? fd.type = some i) (hn : i.size ≠ 0) (hx : ev x = .pointer (some ad)) :
    (execOp ev ⟨dst, .fieldAddr s x f, ty, pos, af, g⟩).run P w = .ok (.value (.pointer (some (ad.add fd.offset)))) w := by
  simp [execOp, Instr.fieldAt, Instr.sureAddr, hx, fieldPlace, Sem.run_bind', run_underlying hs, run_sizeOf hi, hf, hn, Result.andThen, bind, pure, Sem.run, Sem.bind]
theorem run_loadn {t : TypeId} {x : Operand} {i : TypeInfo} {ad : Addr} {d : TypeDesc} (hs : P.underlying t = some d) (hd : (∃ fs, d = .struct fs) ∨ ∃ n e, d = .array n e) (cs : List Value) (hi : P.info? t = some i) (hn : i.size = cs.length) (hx : ev x = .pointer (some ad))
    (hc : ∀ (j : Nat) (v : Value), cs[j]? = some v → w.cell? (ad.add j) = some v) :
    (execOp ev ⟨dst, .load t x, ty, pos, af, g⟩).run P w = .ok (.value (.agg cs.toArray)) w := by
  have hl := run_loadCells_list (P := P) (w := w) ad cs hc
  rcases hd with ⟨fs, rfl⟩ | ⟨n, e, rfl⟩ <;>
    simp [execOp, Instr.loadAt, Instr.sureAddr, hx, loadVar, isAgg, Sem.run_bind', run_underlying hs, run_sizeOf hi, hn, hl, Result.andThen, bind, pure, Sem.run, Sem.bind]
theorem run_load1 {t : TypeId} {x : Operand} {ad : Addr} {d : TypeDesc} {v : Value} (hs : P.underlying t = some d) (h1 : ∀ fs, d ≠ .struct fs) (h2 : ∀ n e, d ≠ .array n e) (hx : ev x = .pointer (some ad))
    (hc : w.cell? ad = some v) :
    (execOp ev ⟨dst, .load t x, ty, pos, af, g⟩).run P w = .ok (.value v) w := by
  have : (isAgg t).run P w = .ok false w := by
    unfold isAgg
    simp only [bind, Sem.run_bind', run_underlying hs, Result.andThen]
    cases d <;> first | exact absurd rfl (h1 _) | exact absurd rfl (h2 _ _) | rfl
  simp [execOp, Instr.loadAt, Instr.sureAddr, hx, loadVar, Sem.run_bind', this, Result.andThen, load, hc, bind, pure, Sem.run, Sem.bind]
theorem run_extract {x : Operand} {k : Nat} {vs : Array Value} {v : Value} (hx : ev x = .tuple vs) (hv : vs[k]? = some v) :
    (execOp ev ⟨dst, .extract x k, ty, pos, af, g⟩).run P w = .ok (.value v) w := by
  simp [execOp, hx, Instr.extract, hv, bind, pure, Sem.run, Sem.bind]
theorem run_makeFunc {f : FuncId} (cap : Array Operand) :
    (execOp ev ⟨dst, .makeFunc (.func f) #[] cap, ty, pos, af, g⟩).run P w = .ok (.value (.func (.func f) #[] (cap.map ev))) w := by
  simp [execOp, Instr.makeFunc, bind, pure, Sem.run, Sem.bind]
theorem run_makeMap (t : TypeId) :
    (execOp ev ⟨dst, .makeMap t none, ty, pos, af, g⟩).run P w = .ok (.value (.map (some w.heap.size))) (w.alloc (.map #[] 0)) := by
  simp [execOp, Instr.makeMap, newObj, bind, pure, Sem.run, Sem.bind]
theorem run_rangeStr {t : TypeId} {x : Operand} {s : ByteArray} (hs : P.underlying t = some .string) (hx : ev x = .string s) :
    (execOp ev ⟨dst, .range t x, ty, pos, af, g⟩).run P w = .ok (.value (.pointer (some ⟨w.heap.size, 0, none⟩))) (w.alloc (.stringIter s 0)) := by
  simp [execOp, hx, Instr.range, Sem.run_bind', run_underlying hs, Result.andThen, newObj, bind, pure, Sem.run, Sem.bind]
theorem run_indexStr {t : TypeId} {x i : Operand} {s : ByteArray} {k : IntKind} {n : Nat} {b : UInt8} (hs : P.underlying t = some .string) (hx : ev x = .string s) (hi : ev i = .int k n) (hb : s[n]? = some b) :
    (execOp ev ⟨dst, .index t x i, ty, pos, af, g⟩).run P w = .ok (.value (.int .u8 b.toNat)) w := by
  simp [execOp, hx, hi, Instr.index, asIntOf, Sem.run_bind', run_underlying hs, Result.andThen, hb, bind, pure, Sem.run, Sem.bind]
theorem run_indexAddr {t e : TypeId} {x i : Operand} {k : IntKind} {n len cap : Nat} {ad : Addr} {ti : TypeInfo} (hs : P.underlying t = some (.slice e)) (hx : ev x = .slice (some ad) len cap) (hi : ev i = .int k n) (hn : n < len) (he : P.info? e = some ti) :
    (execOp ev ⟨dst, .indexAddr t x i, ty, pos, af, g⟩).run P w = .ok (.value (.pointer (some (ad.add (n * ti.size))))) w := by
  have h1 : (n : Int) < (len : Int) := by omega
  simp [execOp, hx, hi, Instr.indexAt, asIntOf, Sem.run_bind', run_underlying hs, run_sizeOf he, Result.andThen, h1, hn, bind, pure, Sem.run, Sem.bind]
theorem run_lenStr {t : TypeId} {x : Operand} {s : ByteArray} (hs : P.underlying t = some .string) (hx : ev x = .string s) :
    (execOp ev ⟨dst, .call { callee := .builtin .len, args := #[x], argTypes := #[t] }, ty, pos, af, g⟩).run P w = .ok (.value (.int .i64 s.size)) w := by
  simp [execOp, resolve, invoke, builtin, hx, Builtin.len_, goInt, Sem.run_bind', run_underlying hs, Result.andThen, bind, pure, Sem.run, Sem.bind]
theorem run_lenSlice {t e : TypeId} {x : Operand} {ad : Option Addr} {n c : Nat} (hs : P.underlying t = some (.slice e)) (hx : ev x = .slice ad n c) :
    (execOp ev ⟨dst, .call { callee := .builtin .len, args := #[x], argTypes := #[t] }, ty, pos, af, g⟩).run P w = .ok (.value (.int .i64 n)) w := by
  simp [execOp, resolve, invoke, builtin, hx, Builtin.len_, goInt, Sem.run_bind', run_underlying hs, Result.andThen, bind, pure, Sem.run, Sem.bind]

/-! ### numbers, strings, tests -/
theorem run_bytesLess (a b : ByteArray) : Op.bytesLess a.toList b.toList = bytesLt a.data.toList b.data.toList := by
  unfold bytesLt; rw [ByteArray.toList_eq, ByteArray.toList_eq]
theorem RD.int_inv {M : Nat → Prop} {v : Value} {k : IntKind} {n : Int} (h : RD M w v (.int k n)) : v = .int k n := by cases h; rfl
theorem RD.bool_inv {M : Nat → Prop} {v : Value} {b : Bool} (h : RD M w v (.bool b)) : v = .bool b := by cases h; rfl
theorem RD.str_inv {M : Nat → Prop} {v : Value} {s : List UInt8} (h : RD M w v (.str s)) : ∃ t : ByteArray, v = .string t ∧ t.data.toList = s := by cases h; exact ⟨_, rfl, rfl⟩

theorem run_binOp {M : Nat → Prop} (op : BinOp) (xt yt : TypeId) {x y : Operand} {a b r : D} (hx : RD M w (ev x) a) (hy : RD M w (ev y) b) (h : binD op a b = some r) :
    ∃ v, (execOp ev ⟨dst, .binOp op xt x y yt, ty, pos, af, g⟩).run P w = .ok (.value v) w ∧ RD M w v r := by
  cases a <;> cases b <;> first | (exfalso; (cases op <;> simp [binD] at h); done) | skip
  case int.int k m j n =>
    have ex := hx.int_inv; have ey := hy.int_inv
    cases op <;> simp only [binD] at h <;> first | (cases h; done) | skip
    all_goals
      (split at h <;> first | (cases h; done) | skip)
      injection h with h; subst h
    all_goals first
      | (rename_i hk; obtain ⟨rfl, hb⟩ := hk
         refine ⟨_, ?_, .int _ _⟩
         simp [execOp, eqGuard, binOp, ex, ey, Op.intDiv, hb, bind, pure, Sem.run, Sem.bind]; done)
      | (rename_i hk; subst hk
         first
          | (refine ⟨_, ?_, .int _ _⟩
             simp [execOp, eqGuard, binOp, ex, ey, Op.intArith, Op.intCmp, bind, pure, Sem.run, Sem.bind]; done)
          | (refine ⟨_, ?_, .bool _⟩
             simp [execOp, eqGuard, binOp, ex, ey, Op.intArith, Op.intCmp, bind, pure, Sem.run, Sem.bind]; done))
  case str.str s t =>
    obtain ⟨s', ex, rfl⟩ := hx.str_inv; obtain ⟨t', ey, rfl⟩ := hy.str_inv
    cases op <;> simp only [binD] at h <;> first | (cases h; done) | skip
    case add =>
      split at h
      · rename_i hl
        injection h with h; subst h
        refine ⟨.string (s' ++ t'), ?_, ?_⟩
        · have : ¬ ((9223372036854775807 : Int) < ((s'.size : Int) + (t'.size : Int))) := by
            have h1 : s'.data.toList.length = s'.size := Array.length_toList
            have h2 : t'.data.toList.length = t'.size := Array.length_toList
            simp only [maxInt] at hl; omega
          simp [execOp, eqGuard, binOp, ex, ey, Op.stringOp, IntKind.max, IntKind.bits, IntKind.signed, this, bind, pure, Sem.run, Sem.bind]
        · have : (s' ++ t').data.toList = s'.data.toList ++ t'.data.toList := by simp
          rw [← this]; exact .str _
      · cases h
    all_goals
      injection h with h; subst h
      refine ⟨_, ?_, .bool _⟩
      simp [execOp, eqGuard, binOp, ex, ey, Op.stringOp, bytesLt, ByteArray.toList_eq, bind, pure, Sem.run, Sem.bind]
theorem run_equal_bool {t : TypeId} (ht : P.underlying t = some .bool) (a b : Bool) : (Op.equal t (.bool a) (.bool b)).run P w = .ok (a == b) w := by
  simp only [Op.equal, Op.maxDepth]
  rw [show (10000 : Nat) = 9999 + 1 from rfl, Op.equalIn]
  simp only [bind, Sem.run_bind', run_underlying ht, Result.andThen]
  rfl
theorem run_value {o : Oper} {s : Sem Value} {v : Value} {w' : World} (h : execOp ev o = (do pure (.value (← s)))) (hs : s.run P w = .ok v w') : (execOp ev o).run P w = .ok (.value v) w' := by
  rw [h]; simp [Sem.run_bind', hs, Result.andThen, bind, pure, Sem.run]
theorem run_binb {M : Nat → Prop} (neg : Bool) (xt yt : TypeId) {x y : Operand} {a b : Bool} (hx : RD M w (ev x) (.bool a)) (hy : RD M w (ev y) (.bool b)) (ht : P.underlying xt = some .bool) :
    (execOp ev ⟨dst, .binOp (if neg then .neq else .eql) xt x y yt, ty, pos, af, g⟩).run P w = .ok (.value (.bool (if neg then !(a == b) else a == b))) w := by
  have ex := hx.bool_inv; have ey := hy.bool_inv
  refine run_value (s := do eqGuard (if neg then .neq else .eql) xt x y (.bool a) (.bool b); binOp (if neg then .neq else .eql) xt (.bool a) (.bool b)) (by simp only [execOp, ex, ey]) ?_
  have h1 : (eqGuard (if neg then .neq else .eql) xt x y (.bool a) (.bool b)).run P w = .ok () w := by cases neg <;> rfl
  have h2 : (binOp (if neg then .neq else .eql) xt (.bool a) (.bool b)).run P w = .ok (.bool (if neg then !(a == b) else a == b)) w := by
    cases neg
    · show (do pure (Value.bool (← Op.equal xt (.bool a) (.bool b))) : Sem Value).run P w = _
      simp only [bind, Sem.run_bind', run_equal_bool ht, Result.andThen]; rfl
    · show (do pure (Value.bool (!(← Op.equal xt (.bool a) (.bool b)))) : Sem Value).run P w = _
      simp only [bind, Sem.run_bind', run_equal_bool ht, Result.andThen]; rfl
  simp only [bind, Sem.run_bind', h1, h2, Result.andThen]
theorem run_unOp {M : Nat → Prop} (op : UnOp) (xt : TypeId) {x : Operand} {a r : D} (hx : RD M w (ev x) a) (h : unD op a = some r) :
    ∃ v, (execOp ev ⟨dst, .unOp op xt x, ty, pos, af, g⟩).run P w = .ok (.value v) w ∧ RD M w v r := by
  cases a <;> cases op <;> simp only [unD] at h <;> first | (cases h; done) | skip
  · injection h with h; subst h
    exact ⟨_, by simp [execOp, hx.bool_inv, Op.unary, bind, pure, Sem.run, Sem.bind], .bool _⟩
  · injection h with h; subst h
    exact ⟨_, by simp [execOp, hx.int_inv, Op.unary, Op.intArith, bind, pure, Sem.run, Sem.bind], .int _ _⟩
theorem run_conv {src d : TypeId} {x : Operand} {k j : IntKind} {n : Int} {sd : TypeDesc} (hs : P.underlying src = some sd) (hd : P.underlying d = some (.int k)) (hx : ev x = .int j n) :
    (execOp ev ⟨dst, .convert src d x, ty, pos, af, g⟩).run P w = .ok (.value (.int k (k.wrap n))) w := by
  have : (convert src d (.int j n)).run P w = .ok (.int k (k.wrap n)) w := by
    unfold convert
    simp only [bind, Sem.run_bind', run_underlying hs, run_underlying hd, Result.andThen]
    rfl
  simp [execOp, hx, Sem.run_bind', this, Result.andThen, bind, pure, Sem.run, Sem.bind]
theorem run_convStr {src d : TypeId} {x : Operand} {s : ByteArray} (hs : P.underlying src = some .string) (hd : P.underlying d = some .string) (hx : ev x = .string s) :
    (execOp ev ⟨dst, .convert src d x, ty, pos, af, g⟩).run P w = .ok (.value (.string s)) w := by
  have : (convert src d (.string s)).run P w = .ok (.string s) w := by
    unfold convert
    simp only [bind, Sem.run_bind', run_underlying hs, run_underlying hd, Result.andThen]
    rfl
  simp [execOp, hx, Sem.run_bind', this, Result.andThen, bind, pure, Sem.run, Sem.bind]
theorem run_convBytes {src d : TypeId} {x : Operand} {v : Value} {r : Value} (hx : ev x = v)
    (h : (convert src d v).run P w = .ok r w) :
    (execOp ev ⟨dst, .convert src d x, ty, pos, af, g⟩).run P w = .ok (.value r) w := by
  exact run_value (s := convert src d v) (by simp [execOp, hx]) h
theorem run_store {t b o : Nat} {a x : Operand} {i : TypeInfo} {v : Value} {cur : Array Value} {te : TypeId} (hi : P.info? t = some i) (ha : ev a = .pointer (some ⟨b, o, none⟩)) (hx : ev x = v) (hn : v.cells.size = i.size)
    (hb : w.heap[b]? = some (.cells cur te (0, 0))) (hl : o + v.cells.size ≤ cur.size) (h1 : ∀ u ∈ v.cells.toList, u.oneCell' = true) :
    (execOp ev ⟨dst, .store t a x, ty, pos, af, g⟩).run P w = .ok .skip (w.setRow b (cur.toList.take o ++ v.cells.toList ++ cur.toList.drop (o + v.cells.size)).toArray) := by
  have hs := run_storeCells_at (P := P) b o te v.cells.toList 0 cur w hb (by simpa using hl) h1
  simp only [Nat.add_zero, Array.length_toList] at hs
  simp [execOp, Instr.storeAt, Instr.sureAddr, ha, hx, storeVar, Sem.run_bind', run_sizeOf hi, hn, hs, Result.andThen, bind, pure, Sem.run, Sem.bind]
end Go.PG
end
section
/- Pure Go: what single operations do in the machine, more. -/
set_option linter.unusedSimpArgs false
namespace Go.PG
open Go
variable {P : Program} {ev : Operand → Value} {w : World} {dst : Option Tmp} {ty : TypeId} {pos : String} {af : Array Edge} {g : Option (Nat × Bool)}

/-! ### equality of flat structs -/
theorem R.bool_inv {ρ : Nat → Loc} {M : Nat → Prop} {v : Value} {b : Bool} (h : R ρ M w v (.d (.bool b))) : v = .bool b := by
  generalize hx : V.d (.bool b) = x at h
  cases h <;> cases hx
  rename_i h; exact h.bool_inv
theorem R.int_inv {ρ : Nat → Loc} {M : Nat → Prop} {v : Value} {k : IntKind} {n : Int} (h : R ρ M w v (.d (.int k n))) : v = .int k n := by
  generalize hx : V.d (.int k n) = x at h
  cases h <;> cases hx
  rename_i h; exact h.int_inv
theorem R.str_inv {ρ : Nat → Loc} {M : Nat → Prop} {v : Value} {s : List UInt8} (h : R ρ M w v (.d (.str s))) : ∃ t : ByteArray, v = .string t ∧ t.data.toList = s := by
  generalize hx : V.d (.str s) = x at h
  cases h <;> cases hx
  rename_i h; exact h.str_inv
theorem kind_b {t : TypeId} (h : kindT P t = some .b) : P.underlying t = some .bool := by
  unfold kindT at h; split at h <;> first | contradiction | assumption
theorem kind_s {t : TypeId} (h : kindT P t = some .s) : P.underlying t = some .string := by
  unfold kindT at h; split at h <;> first | contradiction | assumption
theorem kind_i {t : TypeId} (h : kindT P t = some .i) : ∃ k, P.underlying t = some (.int k) := by
  unfold kindT at h; split at h <;> first | contradiction | exact ⟨_, by assumption⟩
theorem eqK_run {ρ : Nat → Loc} {M : Nat → Prop} {t : TypeId} {k : Kd} {u v : Value} {x y : V} {c : Bool} (hk : kindT P t = some k) (hx : R ρ M w u x) (hy : R ρ M w v y) (h : eqK k x y = some c) (d : Nat) :
    (Op.equalIn (d + 1) t u v).run P w = .ok c w := by
  unfold eqK at h
  split at h
  · injection h with h; subst h
    rw [hx.bool_inv, hy.bool_inv]
    exact run_equalIn_bool' _ _ _ _ _ (kind_b hk)
  · split at h
    · injection h with h; subst h
      rename_i hkj; subst hkj
      rw [hx.int_inv, hy.int_inv]
      obtain ⟨k, hu⟩ := kind_i hk
      exact run_equalIn_int _ _ _ _ _ _ _ hu
    · contradiction
  · injection h with h; subst h
    obtain ⟨s, rfl, rfl⟩ := hx.str_inv; obtain ⟨s', rfl, rfl⟩ := hy.str_inv
    rw [run_equalIn_string _ _ _ _ _ (kind_s hk), ByteArray.toList_eq, ByteArray.toList_eq]
  · contradiction
theorem run_isAgg {t : TypeId} {b : Bool} (h : aggT P t = some b) : (isAgg t).run P w = .ok b w := by
  unfold aggT at h
  cases hu : P.underlying t with
  | none => rw [hu] at h; cases h
  | some d =>
    rw [hu] at h
    unfold isAgg
    simp only [bind, Sem.run_bind', run_underlying hu, Result.andThen]
    cases d <;> (injection h with h; subst h; rfl)
theorem kind_agg {t : TypeId} {k : Kd} (h : kindT P t = some k) : aggT P t = some false := by
  unfold kindT at h; unfold aggT
  split at h <;> first | (cases h; done) | skip
  all_goals (rename_i hu; rw [hu])
theorem flat_eq {ρ : Nat → Loc} {M : Nat → Prop} (d : Nat) (xs ys : Array Value) : ∀ (fs : List Field) (k : Nat) (ks : List Kd) (a b : List V) (r : Bool), flatKinds P k fs = some ks →
    (∀ (i : Nat) v x, xs[k + i]? = some v → a[i]? = some x → R ρ M w v x) → (∀ (i : Nat) v x, ys[k + i]? = some v → b[i]? = some x → R ρ M w v x) → xs.size = k + a.length → ys.size = k + b.length →
    eqDs ks a b = some r → (Op.eqFields (d + 1) xs ys fs).run P w = .ok r w
  | [], k, ks, a, b, r, hf, hx, hy, sx, sy, he => by
    simp only [flatKinds, Option.some.injEq] at hf; subst hf
    cases a <;> cases b <;> simp [eqDs] at he
    subst he; simp [Op.eqFields, pure, Sem.run]
  | f :: fs, k, ks, a, b, r, hf, hx, hy, sx, sy, he => by
    simp only [flatKinds] at hf
    split at hf
    case isFalse => cases hf
    rename_i h12
    obtain ⟨h1, h2⟩ := h12
    cases hk : kindT P f.type with
    | none => rw [hk] at hf; cases hf
    | some kd =>
    cases hl : flatKinds P (k + 1) fs with
    | none => rw [hk, hl] at hf; cases hf
    | some l =>
    rw [hk, hl] at hf; simp at hf; subst hf
    cases a with
    | nil => simp [eqDs] at he
    | cons x a =>
    cases b with
    | nil => simp [eqDs] at he
    | cons y b =>
    have hkx : k < xs.size := by simp at sx; omega
    have hky : k < ys.size := by simp at sy; omega
    have rx := hx 0 xs[k] x (by simp [hkx]) rfl
    have ry := hy 0 ys[k] y (by simp [hky]) rfl
    simp only [eqDs] at he
    cases hc : eqK kd x y with
    | none => rw [hc] at he; cases he
    | some c =>
    cases hc' : eqDs l a b with
    | none => rw [hc, hc'] at he; cases he
    | some c' =>
    rw [hc, hc'] at he; simp at he; subst he
    have hpart : ∀ (zs : Array Value) (hz : k < zs.size), (part f.type zs f.offset).run P w = .ok zs[k] w := by
      intro zs hz
      unfold part
      simp only [bind, Sem.run_bind', run_isAgg (kind_agg hk), Result.andThen, h1]
      simp [Array.getElem?_eq_getElem hz, pure, Sem.run]
    simp only [Op.eqFields, ne_eq, h2, not_false_eq_true, if_true, bind, Sem.run_bind', hpart xs hkx, hpart ys hky, eqK_run hk rx ry hc, Result.andThen]
    cases c
    · simp [pure, Sem.run]
    · simp only [Bool.not_true, Bool.false_eq_true, if_false, Bool.true_and]
      exact flat_eq d xs ys fs (k + 1) l a b c' hl (fun i v z e1 e2 => hx (i + 1) v z (by rw [← e1]; congr 1; omega) (by simpa using e2)) (fun i v z e1 e2 => hy (i + 1) v z (by rw [← e1]; congr 1; omega) (by simpa using e2))
        (by simp at sx; omega) (by simp at sy; omega) hc'
theorem run_eqs {ρ : Nat → Loc} {M : Nat → Prop} (neg : Bool) {xt yt : TypeId} {x y : Operand} {fs : Array Field} {ks : List Kd} {xs ys : Array Value} {a b : List V} {r : Bool} (hu : P.underlying xt = some (.struct fs)) (hk : flatKinds P 0 fs.toList = some ks)
    (hp : P.stoodInHeld xt = false) (hg : P.eqGuardType P.depth xt = false) (ex : ev x = .agg xs) (ey : ev y = .agg ys) (hx : R ρ M w (.agg xs) (.agg a)) (hy : R ρ M w (.agg ys) (.agg b)) (he : eqDs ks a b = some r) :
    (execOp ev ⟨dst, .binOp (if neg then .neq else .eql) xt x y yt, ty, pos, af, g⟩).run P w = .ok (.value (.bool (if neg then !r else r))) w := by
  have hx' : xs.size = a.length ∧ ∀ (i : Nat) v x, xs[i]? = some v → a[i]? = some x → R ρ M w v x := by
    generalize hz : V.agg a = z at hx
    cases hx <;> cases hz
    exact ⟨by assumption, by assumption⟩
  have hy' : ys.size = b.length ∧ ∀ (i : Nat) v x, ys[i]? = some v → b[i]? = some x → R ρ M w v x := by
    generalize hz : V.agg b = z at hy
    cases hy <;> cases hz
    exact ⟨by assumption, by assumption⟩
  have hfo : P.fieldsOf xt = fs := by simp [Program.fieldsOf, hu]
  have heq : (Op.equal xt (.agg xs) (.agg ys)).run P w = .ok r w := by
    simp only [Op.equal, Op.maxDepth]
    rw [show (10000 : Nat) = 9998 + 1 + 1 from rfl, run_equalIn_struct w _ xt xs ys (by rw [hfo]; exact hu) hp, hfo]
    exact flat_eq 9998 xs ys fs.toList 0 ks a b r hk (fun i v x e1 e2 => hx'.2 i v x (by rw [← e1]; congr 1; omega) e2) (fun i v x e1 e2 => hy'.2 i v x (by rw [← e1]; congr 1; omega) e2) (by omega) (by omega) he
  have hgd : (eqGuard (if neg then .neq else .eql) xt x y (.agg xs) (.agg ys)).run P w = .ok () w := by
    cases neg <;> simp [eqGuard, bind, program, Sem.run_bind', Result.andThen, hg, pure, Sem.run, Sem.bind]
  refine run_value (s := do eqGuard (if neg then .neq else .eql) xt x y (.agg xs) (.agg ys); binOp (if neg then .neq else .eql) xt (.agg xs) (.agg ys)) (by simp only [execOp, ex, ey]) ?_
  have h2 : (binOp (if neg then .neq else .eql) xt (.agg xs) (.agg ys)).run P w = .ok (.bool (if neg then !r else r)) w := by
    cases neg
    · show (do pure (Value.bool (← Op.equal xt (.agg xs) (.agg ys))) : Sem Value).run P w = _
      simp only [bind, Sem.run_bind', heq, Result.andThen]; rfl
    · show (do pure (Value.bool (!(← Op.equal xt (.agg xs) (.agg ys)))) : Sem Value).run P w = _
      simp only [bind, Sem.run_bind', heq, Result.andThen]; rfl
  simp only [bind, Sem.run_bind', hgd, h2, Result.andThen]

/-! ### building, slicing, cutting -/
theorem run_mapM_places (fs : List Field) (hs : ∀ f ∈ fs, ∃ i, P.info? f.type = some i) : (fs.mapM (fun f => (do pure (f.offset, ← sizeOf f.type) : Sem (Nat × Nat)))).run P w = .ok (fs.map fun f => (f.offset, ((P.info? f.type).map (·.size)).getD 0)) w := by
  induction fs with
  | nil => simp [pure, Sem.run]
  | cons f fs ih =>
    obtain ⟨i, hi⟩ := hs f (by simp)
    have ih := ih fun f hf => hs f (by simp [hf])
    simp only [List.mapM_cons, bind, Sem.run_bind', run_sizeOf hi, Result.andThen, pure, Sem.run] at ih ⊢
    rw [ih]
    simp [hi]
theorem run_field {s k : Nat} {x : Operand} {fs : Array Field} {fd : Field} {cs : Array Value} (hs : P.underlying s = some (.struct fs)) (hf : fs[k]? = some fd) (hx : ev x = .agg cs) {v : Value} (hv : (part fd.type cs fd.offset).run P w = .ok v w) :
    (execOp ev ⟨dst, .field s x k, ty, pos, af, g⟩).run P w = .ok (.value v) w := by
  refine run_value (s := Instr.field s (.agg cs) k) (by simp only [execOp, hx]) ?_
  unfold Instr.field
  simp only [bind, Sem.run_bind', run_underlying hs, Result.andThen, hf, asAgg]
  exact hv
theorem run_part_agg {t : TypeId} {cs : Array Value} {off : Nat} {i : TypeInfo} (ha : aggT P t = some true) (hi : P.info? t = some i) : (part t cs off).run P w = .ok (.agg (cs.extract off (off + i.size))) w := by
  unfold part
  simp only [bind, Sem.run_bind', run_isAgg ha, run_sizeOf hi, Result.andThen, if_true]
  rfl
theorem run_part_one {t : TypeId} {cs : Array Value} {off : Nat} {v : Value} (ha : aggT P t = some false) (hv : cs[off]? = some v) : (part t cs off).run P w = .ok v w := by
  unfold part
  simp only [bind, Sem.run_bind', run_isAgg ha, Result.andThen, hv]
  rfl
/-- A bound that is given, or is not. -/
def boundIs (ev : Operand → Value) (o : Option Operand) (dflt n : Nat) : Prop := match o with
  | none => n = dflt
  | some x => ∃ k, ev x = .int k n
theorem run_sliceBound {k : IntKind} {n y : Nat} {code : BoundsCode} (h : n ≤ y) : (Instr.sliceBound (.int k n) y code).run P w = .ok n w := by
  have : (0 : Int) ≤ (n : Int) ∧ (n : Int) ≤ (y : Int) := by omega
  simp [Instr.sliceBound, asIntOf, h, bind, pure, Sem.run, Sem.bind]
theorem run_sliceBounds {isS : Bool} {len cap l h m : Nat} {lo hi mx : Option Operand} (hm : boundIs ev mx cap m) (hh : boundIs ev hi len h) (hl : boundIs ev lo 0 l) (h1 : l ≤ h) (h2 : h ≤ m) (h3 : m ≤ cap) (hmx : mx.isSome = true → hi.isSome = true) (h4 : hi = none → len ≤ cap) :
    (Instr.sliceBounds isS len cap (lo.map ev) (hi.map ev) (mx.map ev)).run P w = .ok (l, h, m) w := by
  unfold Instr.sliceBounds
  rcases mx with _ | mx <;> rcases hi with _ | hi <;> rcases lo with _ | lo <;> simp only [boundIs] at hm hh hl <;> first
    | (exfalso; simp at hmx; done)
    | (subst hm; subst hh; subst hl; simp [bind, Sem.run_bind', Result.andThen, pure, Sem.run, Sem.bind]; done)
    | (obtain ⟨k3, e3⟩ := hl; subst hm; subst hh; simp [e3, run_sliceBound h1, bind, Sem.run_bind', Result.andThen, pure, Sem.run, Sem.bind]; done)
    | (obtain ⟨k2, e2⟩ := hh; subst hm; subst hl; simp [e2, run_sliceBound h2, bind, Sem.run_bind', Result.andThen, pure, Sem.run, Sem.bind]; done)
    | (obtain ⟨k2, e2⟩ := hh; obtain ⟨k3, e3⟩ := hl; subst hm; simp [e2, e3, run_sliceBound h1, run_sliceBound h2, bind, Sem.run_bind', Result.andThen, pure, Sem.run, Sem.bind]; done)
    | (obtain ⟨k1, e1⟩ := hm; obtain ⟨k2, e2⟩ := hh; subst hl; simp [e1, e2, run_sliceBound h2, run_sliceBound h3, bind, Sem.run_bind', Result.andThen, pure, Sem.run, Sem.bind]; done)
    | (obtain ⟨k1, e1⟩ := hm; obtain ⟨k2, e2⟩ := hh; obtain ⟨k3, e3⟩ := hl; simp [e1, e2, e3, run_sliceBound h1, run_sliceBound h2, run_sliceBound h3, bind, Sem.run_bind', Result.andThen, pure, Sem.run, Sem.bind]; done)
theorem run_slice_sl {t e : TypeId} {x : Operand} {lo hi mx : Option Operand} {a : Option Addr} {len cap l h m : Nat} {i : TypeInfo} (ht : P.underlying t = some (.slice e)) (he : P.info? e = some i) (hx : ev x = .slice a len cap)
    (hm : boundIs ev mx cap m) (hh : boundIs ev hi len h) (hl : boundIs ev lo 0 l) (h1 : l ≤ h) (h2 : h ≤ m) (h3 : m ≤ cap) (hmx : mx.isSome = true → hi.isSome = true) (h4 : hi = none → len ≤ cap) :
    (execOp ev ⟨dst, .slice t x lo hi mx, ty, pos, af, g⟩).run P w = .ok (.value (.slice (if m = l then a else a.map (·.add (l * i.size))) (h - l) (m - l))) w := by
  refine run_value (s := Instr.sliceAt t (.slice a len cap) (lo.map ev) (hi.map ev) (mx.map ev)) (by simp only [execOp, hx]) ?_
  unfold Instr.sliceAt
  simp only [bind, Sem.run_bind', run_underlying ht, Result.andThen]
  unfold Instr.slice
  simp only [bind, Sem.run_bind', run_underlying ht, Result.andThen, run_sliceBounds hm hh hl h1 h2 h3 hmx h4, run_sizeOf he]
  rfl
theorem run_slice_str {t : TypeId} {x : Operand} {lo hi : Option Operand} {s : ByteArray} {l h : Nat} (ht : P.underlying t = some .string) (hx : ev x = .string s)
    (hh : boundIs ev hi s.size h) (hl : boundIs ev lo 0 l) (h1 : l ≤ h) (h2 : h ≤ s.size) :
    (execOp ev ⟨dst, .slice t x lo hi none, ty, pos, af, g⟩).run P w = .ok (.value (.string (s.extract l h))) w := by
  refine run_value (s := Instr.sliceAt t (.string s) (lo.map ev) (hi.map ev) none) (by simp only [execOp, hx, Option.map_none]) ?_
  unfold Instr.sliceAt
  simp only [bind, Sem.run_bind', run_underlying ht, Result.andThen]
  unfold Instr.slice
  have := run_sliceBounds (P := P) (w := w) (isS := false) (ev := ev) (len := s.size) (cap := s.size) (mx := none) (m := s.size) rfl hh hl h1 h2 (Nat.le_refl _) (by simp) (fun _ => Nat.le_refl _)
  simp only [Option.map_none] at this
  simp only [bind, Sem.run_bind', run_underlying ht, Result.andThen, Option.isSome_none, Bool.false_eq_true, if_false, this]
  rfl
theorem run_nilCheck_ptr {x : Operand} {a : Addr} (hx : ev x = .pointer (some a)) : (execOp ev ⟨dst, .nilCheck x, ty, pos, af, g⟩).run P w = .ok (.value (.pointer (some a))) w := by
  simp [execOp, hx, pure, Sem.run]
theorem run_nilCheck_fn {x : Operand} {f : FuncId} {c : Array Value} (hx : ev x = .func (.func f) #[] c) : (execOp ev ⟨dst, .nilCheck x, ty, pos, af, g⟩).run P w = .ok (.value (.func (.func f) #[] c)) w := by
  simp [execOp, hx, pure, Sem.run]
theorem run_min {x y : Operand} {k j : IntKind} {a b : Int} {ts : Array TypeId} (hx : ev x = .int k a) (hy : ev y = .int j b) :
    (execOp ev ⟨dst, .call { callee := .builtin .min, args := #[x, y], argTypes := ts }, ty, pos, af, g⟩).run P w = .ok (.value (.int k (if b < a then b else a))) w := by
  simp [execOp, resolve, invoke, builtin, hx, hy, Builtin.min_, Builtin.min2, bind, pure, Sem.run, Sem.bind]
theorem run_max {x y : Operand} {k j : IntKind} {a b : Int} {ts : Array TypeId} (hx : ev x = .int k a) (hy : ev y = .int j b) :
    (execOp ev ⟨dst, .call { callee := .builtin .max, args := #[x, y], argTypes := ts }, ty, pos, af, g⟩).run P w = .ok (.value (.int k (if b > a then b else a))) w := by
  simp [execOp, resolve, invoke, builtin, hx, hy, Builtin.max_, Builtin.max2, bind, pure, Sem.run, Sem.bind]
end Go.PG
end
section
/- Pure Go: literals of structs and slices, appends, makes, maps: what they do in the machine. -/
set_option linter.unusedSimpArgs false
namespace Go.PG
open Go
variable {P : Program} {ev : Operand → Value} {w : World} {dst : Option Tmp} {ty : TypeId} {pos : String} {af : Array Edge} {g : Option (Nat × Bool)}
variable {ρ : Nat → Loc} {M : Nat → Prop}

/-! ### constants and operands -/
theorem constD_RD {v : Value} {x : D} (h : constD v = some x) : RD M w v x := by
  unfold constD at h
  split at h <;> first | contradiction | (injection h with h; subst h; first | exact .bool _ | exact .int _ _ | exact .str _ | exact .nilp | exact .sl0 _ _)
theorem const1_R {v : Value} {x : V} (h : const1 v = some x) : R ρ M w v x ∧ x.scal = true ∧ (∀ cs, v ≠ .agg cs) := by
  unfold const1 at h
  split at h <;> first | contradiction | (injection h with h; subst h; refine ⟨?_, rfl, by intro cs h; cases h⟩; first | exact .d (.bool _) | exact .d (.int _ _) | exact .d (.str _) | exact .nil _ | exact .d .nilp | exact .nilm | exact .nilf | exact .nili)
theorem mapO_spec {α β : Type} {f : α → Option β} : ∀ {l : List α} {r : List β}, mapO f l = some r → l.length = r.length ∧ ∀ (i : Nat) a b, l[i]? = some a → r[i]? = some b → f a = some b
  | [], r, h => by simp [mapO] at h; subst h; exact ⟨rfl, by simp⟩
  | x :: l, r, h => by
    simp only [mapO] at h
    cases hx : f x with
    | none => rw [hx] at h; cases h
    | some y =>
      cases hl : mapO f l with
      | none => rw [hx, hl] at h; cases h
      | some ys =>
        rw [hx, hl] at h; simp at h; subst h
        obtain ⟨h1, h2⟩ := mapO_spec hl
        refine ⟨by simp [h1], fun i a b e1 e2 => ?_⟩
        cases i with
        | zero => simp at e1 e2; subst e1; subst e2; exact hx
        | succ i => simp at e1 e2; exact h2 i a b e1 e2
theorem constV_R {v : Value} {x : V} (h : constV v = some x) : R ρ M w v x := by
  unfold constV at h
  split at h
  · rename_i cs
    cases hm : mapO const1 cs.toList with
    | none => rw [hm] at h; cases h
    | some l =>
      rw [hm] at h; simp at h; subst h
      obtain ⟨h1, h2⟩ := mapO_spec hm
      exact .agg cs l (by simpa using h1) fun i v x e1 e2 => (const1_R (h2 i v x (by simpa using e1) e2)).1
  · exact (const1_R h).1
/-- The slots, as the evaluator has them. -/
def SE (ρ : Nat → Loc) (M : Nat → Prop) (w : World) (a : Act) (e : List (Nat × V)) : Prop := ∀ t, R ρ M w (a.tmps.getD t undef) (eget e t)
theorem toX_R {a : Act} {e : List (Nat × V)} (hs : SE ρ M w a e) {o : Operand} {x : X} (h : toX o = some x) : R ρ M w (a.eval o) (x.val e) := by
  unfold toX at h
  split at h
  · injection h with h; subst h; exact hs _
  · rename_i v
    cases hc : constV v with
    | none => rw [hc] at h; cases h
    | some y => rw [hc] at h; simp at h; subst h; exact constV_R hc
  · injection h with h; subst h; exact .fn _ #[] [] rfl (by simp)
  · contradiction
theorem R.nat_inv {v : Value} {x : V} {n : Nat} (h : R ρ M w v x) (hn : asNat x = some n) : ∃ k, v = .int k n := by
  unfold asNat at hn
  split at hn
  · split at hn
    · rename_i k m h0
      injection hn with hn
      refine ⟨k, ?_⟩
      rw [h.int_inv]; congr 1; omega
    · contradiction
  · contradiction

/-! ### cells of values -/
theorem R.scal_one {v : Value} {x : V} (h : R ρ M w v x) (hx : x.scal = true) : v.oneCell' = true ∧ v.cells = #[v] := by
  cases h <;> first | (simp [V.scal] at hx; done) | exact ⟨rfl, rfl⟩ | skip
  rename_i h
  cases h <;> exact ⟨rfl, rfl⟩
theorem RL.cons {v : Value} {x : V} {c : List Value} {cs : List V} (h : R ρ M w v x) (k : RL ρ M w c cs) : RL ρ M w (v :: c) (x :: cs) := by
  refine ⟨by simp [k.1], fun i u y e1 e2 => ?_⟩
  cases i with
  | zero => simp at e1 e2; subst e1; subst e2; exact h
  | succ i => simp at e1 e2; exact k.2 i u y e1 e2
theorem RL.nil : RL ρ M w [] [] := ⟨rfl, by simp⟩
theorem R.cells {v : Value} {x : V} {cs : List V} (h : R ρ M w v x) (hc : x.cells = some cs) : RL ρ M w v.cells.toList cs ∧ (∀ u ∈ v.cells.toList, u.oneCell' = true) ∧ cs.all V.scal = true := by
  by_cases ha : ∃ l, x = .agg l
  · obtain ⟨l, rfl⟩ := ha
    simp only [V.cells] at hc
    split at hc
    · rename_i hall
      injection hc with hc; subst hc
      obtain ⟨c, rfl, hr⟩ := h.agg_inv
      have hs := hr.1
      simp only [Array.length_toList] at hs
      refine ⟨hr, fun u hu => ?_, hall⟩
      obtain ⟨i, hi, e⟩ := List.getElem_of_mem hu
      simp only [Value.cells, Array.length_toList] at hi
      have hl : i < l.length := by omega
      have := hr.2 i c[i] l[i] (by simp [hi]) (by simp [hl])
      have h1 := (this.scal_one (List.all_eq_true.1 hall _ (List.getElem_mem hl))).1
      simp only [Value.cells, Array.getElem_toList] at e
      rw [← e]; exact h1
    · contradiction
  · have hsc : x.scal = true := by cases x <;> first | rfl | (simp [V.cells] at hc; done) | (exact absurd ⟨_, rfl⟩ ha)
    have hcs : cs = [x] := by cases x <;> first | (simp [V.cells] at hc; exact hc.symm) | (simp [V.cells] at hc; done) | (exact absurd ⟨_, rfl⟩ ha)
    subst hcs
    obtain ⟨h1, h2⟩ := h.scal_one hsc
    rw [h2]
    exact ⟨RL.cons h RL.nil, by simpa using h1, by simp [hsc]⟩
theorem splice_len {α : Type} {l c : List α} {off : Nat} (h : off + c.length ≤ l.length) : (splice l off c).length = l.length := by
  simp only [splice, List.length_append, List.length_take, List.length_drop]; omega
theorem splice_get {α : Type} {l c : List α} {off : Nat} (h : off + c.length ≤ l.length) (i : Nat) : (splice l off c)[i]? = if off ≤ i ∧ i < off + c.length then c[i - off]? else l[i]? := by
  have e1 : (l.take off).length = off := by rw [List.length_take]; omega
  simp only [splice]
  by_cases c1 : i < off
  · rw [if_neg (by omega), List.getElem?_append_left (by omega), List.getElem?_take_of_lt c1]
  · rw [List.getElem?_append_right (by omega), e1]
    by_cases c2 : i < off + c.length
    · rw [if_pos (by omega), List.getElem?_append_left (by omega)]
    · rw [if_neg (by omega), List.getElem?_append_right (by omega), List.getElem?_drop]
      congr 1; omega
theorem RL.splice {a b : List Value} {x y : List V} (h : RL ρ M w a x) (k : RL ρ M w b y) (off : Nat) (hl : off + b.length ≤ a.length) : RL ρ M w (splice a off b) (splice x off y) := by
  have e1 := h.1; have e2 := k.1
  refine ⟨by rw [splice_len hl, splice_len (by omega), e1], fun i u z h1 h2 => ?_⟩
  rw [splice_get hl] at h1
  rw [splice_get (by omega)] at h2
  by_cases c : off ≤ i ∧ i < off + b.length
  · rw [if_pos c] at h1; rw [if_pos (by omega)] at h2; exact k.2 _ u z h1 h2
  · rw [if_neg c] at h1; rw [if_neg (by omega)] at h2; exact h.2 _ u z h1 h2
theorem all_splice {p : V → Bool} {x y : List V} (hx : x.all p = true) (hy : y.all p = true) (off : Nat) : (splice x off y).all p = true := by
  simp only [splice, List.all_append, Bool.and_eq_true]
  refine ⟨?_, hy, ?_⟩ <;> rw [List.all_eq_true] at hx ⊢ <;> intro z hz
  · exact hx z (List.mem_of_mem_take hz)
  · exact hx z (List.mem_of_mem_drop hz)

/-! ### fill -/
theorem foldl_set (cs : Array Value) (v : List Value) : ∀ (off : Nat) (j : Nat), off + j + v.length ≤ cs.size →
    ((v.zipIdx j).foldl (fun cs x => cs.setIfInBounds (off + x.2) x.1) cs).toList = splice cs.toList (off + j) v := by
  induction v generalizing cs with
  | nil => intro off j _; simp [splice]
  | cons u v ih =>
    intro off j h
    simp only [List.zipIdx_cons, List.foldl_cons]
    have h1 := ih (cs.setIfInBounds (off + j) u) off (j + 1) (by simp at h ⊢; omega)
    rw [show off + (j + 1) = off + j + 1 from by omega] at h1
    refine h1.trans ?_
    have hl : off + j + v.length + 1 ≤ cs.toList.length := by simp at h ⊢; omega
    apply List.ext_getElem?
    intro i
    rw [Array.toList_setIfInBounds, splice_get (by rw [List.length_set]; omega), splice_get (by simp only [List.length_cons]; omega)]
    by_cases c1 : i = off + j
    · subst c1
      rw [if_neg (by omega), if_pos (by simp), List.getElem?_set_self (by omega), Nat.sub_self]; rfl
    · by_cases c2 : off + j + 1 ≤ i ∧ i < off + j + 1 + v.length
      · rw [if_pos c2, if_pos (by simp only [List.length_cons]; omega), show i - (off + j) = (i - (off + j + 1)) + 1 from by omega, List.getElem?_cons_succ]
      · rw [if_neg c2, if_neg (by simp only [List.length_cons]; omega), List.getElem?_set_ne (by omega)]
theorem fill_one {place : Nat → Option (Nat × Nat)} {cs : Array Value} {i off size : Nat} {v : Value} {rest : List (Nat × Value)} (hp : place i = some (off, size)) (h1 : v.cells.size = size) (h2 : off + size ≤ cs.size) :
    ∃ cs' : Array Value, Instr.fill place cs ((i, v) :: rest) = Instr.fill place cs' rest ∧ cs'.toList = splice cs.toList off v.cells.toList := by
  refine ⟨_, ?_, foldl_set cs v.cells.toList off 0 (by simp; omega)⟩
  rw [Instr.fill]
  simp only [hp]
  rw [if_neg (by simp [h1]; omega)]
  rw [← Array.foldl_toList, Array.toList_zipIdx]

theorem mapO_eq {α β : Type} (f : α → Option β) : ∀ l : List α, mapO f l = l.mapM f
  | [] => rfl
  | x :: l => by simp only [mapO, mapO_eq f l, List.mapM_cons, Option.bind_eq_bind, Option.pure_def]
theorem fillV_run {a : Act} {e : List (Nat × V)} (hs : SE ρ M w a e) (pl : List (Nat × Nat)) : ∀ (l : List (Nat × Operand)) (ps : List (Nat × Nat × X)) (zc : Array Value) (cs cs' : List V),
    partsV pl l = some ps → fillV e cs ps = some cs' → RL ρ M w zc.toList cs → cs.all V.scal = true →
    ∃ zc' : Array Value, Instr.fill (fun x => pl.toArray[x]?) zc (l.map fun p => (p.1, a.eval p.2)) = some zc' ∧ RL ρ M w zc'.toList cs' ∧ cs'.all V.scal = true
  | [], ps, zc, cs, cs', hp, hf, hr, hc => by
    simp only [partsV, Option.some.injEq] at hp; subst hp
    simp only [fillV, Option.some.injEq] at hf; subst hf
    exact ⟨zc, rfl, hr, hc⟩
  | (i, x) :: l, ps, zc, cs, cs', hp, hf, hr, hc => by
    simp only [partsV] at hp
    cases h1 : pl[i]? with
    | none => rw [h1] at hp; cases hp
    | some p =>
    cases h2 : toX x with
    | none => rw [h1, h2] at hp; cases hp
    | some y =>
    cases h3 : partsV pl l with
    | none => rw [h1, h2, h3] at hp; cases hp
    | some ps' =>
    rw [h1, h2, h3] at hp; simp at hp; subst hp
    simp only [fillV] at hf
    cases h4 : (y.val e).cells with
    | none => rw [h4] at hf; cases hf
    | some c =>
    rw [h4] at hf; simp only [Option.bind_some] at hf
    split at hf
    case isFalse => cases hf
    rename_i hlen
    obtain ⟨k1, k2, k3⟩ := (toX_R hs h2).cells h4
    have e1 := hr.1; have e2 := k1.1
    simp only [Array.length_toList] at e1 e2
    obtain ⟨zc1, f1, f2⟩ := fill_one (place := fun x => pl.toArray[x]?) (cs := zc) (i := i) (off := p.1) (size := p.2) (v := a.eval x) (rest := l.map fun p => (p.1, a.eval p.2)) (by simpa using h1) (by omega) (by omega)
    obtain ⟨zc', g1, g2, g3⟩ := fillV_run hs pl l ps' zc1 _ cs' h3 hf (f2 ▸ hr.splice k1 p.1 (by simp only [Array.length_toList]; omega)) (all_splice hc k3 _)
    exact ⟨zc', by simp only [List.map_cons]; rw [f1]; exact g1, g2, g3⟩

/-! ### data -/
/-- The cells of elements, one behind the other. -/
def RE (M : Nat → Prop) (w : World) (sz : Nat) (c : List Value) (o : Nat) (es : List (List D)) : Prop :=
  (∀ e ∈ es, e.length = sz) ∧ ∀ i j e x, es[i]? = some e → e[j]? = some x → ∃ u, c[o + i * sz + j]? = some u ∧ RD M w u x
variable {X' : Nat → Prop} {hp : Nat → Ob} {G : Nat → Option Obj}
/-- A slot's slice, given up, reads as data. -/
theorem toD_R (hI : Inv G ρ X' w hp) {v : Value} {x : V} {y : D} {ks : List Nat} (h : R ρ (Mut ρ X' hp) w v x) (hd : toD hp x = some (y, ks)) {ks' : List Nat} (hk : ∀ k ∈ ks, k ∈ ks') :
    RD (Mut ρ X' (killF hp ks')) w v y ∧ ∀ k ∈ ks, live (hp k) = true := by
  unfold toD at hd
  split at hd
  · simp at hd; obtain ⟨rfl, rfl⟩ := hd
    exact ⟨h.d_inv.later (Later.refl _ w) (fun b _ h => mut_kill h), by simp⟩
  · simp at hd; obtain ⟨rfl, rfl⟩ := hd
    obtain ⟨a, rfl⟩ := h.nil_inv
    exact ⟨.sl0 _ _, by simp⟩
  · rename_i id sz off len
    split at hd
    · rename_i sz' es hob
      split at hd
      · rename_i hc
        obtain ⟨rfl, hlen⟩ := hc
        simp at hd; obtain ⟨rfl, rfl⟩ := hd
        have hlive : live (hp id) = true := by rw [hob]; rfl
        refine ⟨?_, by simpa using hlive⟩
        have hO := hI.obj id
        rw [hob] at hO
        obtain ⟨h0, hO⟩ := hO
        have hlenT : ((es.drop off).take len).length = len := by simp; omega
        rcases h.vec_inv with ⟨b, o, n, k, c, a, hρ, h1, h2, h3, h4, rfl⟩ | ⟨hρ, rfl, rfl, a, rfl⟩
        case inr => exact .sl0 _ _
        by_cases hl0 : len = 0
        · subst hl0
          simp only [List.take_zero]
          exact .sl0 _ _
        rcases hO with ⟨rfl, _⟩ | ⟨b', o', c', hρ', hb, hfit, hz', hcell⟩
        · simp at hlen; omega
        rw [hρ] at hρ'; cases hρ'
        rcases h4 with rfl | rfl
        case inr => omega
        have := RD.sl (M := Mut ρ X' (killF hp ks')) (w := w) b (o + off * sz') c sz' ((es.drop off).take len) (fun i j => (c'[o + (off + i) * sz' + j]?).getD undef)
          (hI.not_mut_killed (hk id (by simp)) hlive (by rw [hρ]; rfl)) (hI.lt id b (by rw [hρ]; rfl)) (by omega) (by omega) (fun e he => hz' e (List.mem_of_mem_drop (List.mem_of_mem_take he)))
          (fun i j e x e1 e2 => ?_) (fun i j e x e1 e2 => ?_)
        · rw [hlenT] at this; exact this
        · have hi : i < len := by
            have := (List.getElem?_eq_some_iff.1 e1).1; omega
          rw [List.getElem?_take_of_lt hi, List.getElem?_drop] at e1
          obtain ⟨u, hu, _⟩ := hcell (off + i) j e x e1 e2
          rw [World.cell?, hb]
          simp only [Option.isSome_none, Bool.false_eq_true, if_false]
          rw [show o + off * sz' + i * sz' + j = o + (off + i) * sz' + j from by rw [Nat.add_mul]; omega, hu]; rfl
        · have hi : i < len := by
            have := (List.getElem?_eq_some_iff.1 e1).1; omega
          rw [List.getElem?_take_of_lt hi, List.getElem?_drop] at e1
          obtain ⟨u, hu, hr⟩ := hcell (off + i) j e x e1 e2
          rw [hu]; exact hr.later (Later.refl _ w) (fun b _ h => mut_kill h)
      · contradiction
    · contradiction
  · contradiction
theorem toDs_R (hI : Inv G ρ X' w hp) {ks' : List Nat} : ∀ {c : List Value} {cs : List V} {ds : List D} {ks : List Nat}, RL ρ (Mut ρ X' hp) w c cs → toDs hp cs = some (ds, ks) → (∀ k ∈ ks, k ∈ ks') →
    c.length = ds.length ∧ (∀ (i : Nat) v x, c[i]? = some v → ds[i]? = some x → RD (Mut ρ X' (killF hp ks')) w v x) ∧ ∀ k ∈ ks, live (hp k) = true
  | c, [], ds, ks, h, hd, hk => by
    simp [toDs] at hd; obtain ⟨rfl, rfl⟩ := hd
    have := h.1; simp at this; subst this
    simp
  | c, x :: cs, ds, ks, h, hd, hk => by
    simp only [toDs] at hd
    cases h1 : toD hp x with
    | none => rw [h1] at hd; cases hd
    | some p =>
    obtain ⟨y, k1⟩ := p
    cases h2 : toDs hp cs with
    | none => rw [h1, h2] at hd; cases hd
    | some q =>
    obtain ⟨ys, k2⟩ := q
    rw [h1, h2] at hd; simp at hd; obtain ⟨rfl, rfl⟩ := hd
    cases c with
    | nil => have := h.1; simp at this
    | cons v c =>
      obtain ⟨r1, r2⟩ := toD_R hI (h.2 0 v x rfl rfl) h1 (ks' := ks') (fun k hk' => hk k (by simp [hk']))
      obtain ⟨q1, q2, q3⟩ := toDs_R hI (c := c) (cs := cs) ⟨by have := h.1; simpa using this, fun i v x e1 e2 => h.2 (i + 1) v x (by simpa using e1) (by simpa using e2)⟩ h2 (fun k hk' => hk k (by simp [hk']))
      refine ⟨by simp [q1], fun i u z e1 e2 => ?_, fun k hk' => ?_⟩
      · cases i with
        | zero => simp at e1 e2; subst e1; subst e2; exact r1
        | succ i => simp at e1 e2; exact q2 i u z e1 e2
      · simp at hk'; rcases hk' with hk' | hk'
        · exact r2 k hk'
        · exact q3 k hk'
end Go.PG
end
section
/- Pure Go: each operation does in the machine what the evaluator says. Part 1. -/
set_option linter.unusedSimpArgs false
set_option linter.unusedVariables false
namespace Go.PG
open Go

def Good (P : Program) (G : Nat → Option Obj) (X : Nat → Prop) (ρ : Nat → Loc) (hp : Nat → Ob) (nid : Nat) (w : World) (ev : Operand → Value) (o : Oper) (δ : Dl) : Prop :=
  ∃ v w' ρ', ((execOp ev o).run P w = .ok (.value v) w' ∨ ((execOp ev o).run P w = .ok .skip w' ∧ v = undef)) ∧ R ρ' (Mut ρ' X (hup hp δ.upd)) w' v δ.val ∧ Inv G ρ' X w' (hup hp δ.upd) ∧
    Fr X ρ ρ' hp (hup hp δ.upd) nid w w'

variable {P : Program} {w : World} {dst : Option Tmp} {ty : TypeId} {pos : String} {af : Array Edge} {g : Option (Nat × Bool)}
variable {ρ : Nat → Loc} {X : Nat → Prop} {hp : Nat → Ob} {G : Nat → Option Obj} {nid : Nat} {a : Act} {e : List (Nat × V)} {δ : Dl}

theorem good_pure {o : Oper} {v : Value} {x : V} (hI : Inv G ρ X w hp) (hr : (execOp a.eval o).run P w = .ok (.value v) w) (h : R ρ (Mut ρ X hp) w v x) (hδ : δ.val = x) (hu : δ.upd = []) : Good P G X ρ hp nid w a.eval o δ :=
  ⟨v, w, ρ, .inl hr, by rw [hδ, hu]; exact h, by rw [hu]; exact hI, by rw [hu]; exact Fr.refl X ρ hp nid w⟩
theorem Fr.next {ρ' ρ'' : Nat → Loc} {hp' hp'' : Nat → Ob} {w' w'' : World} (h : Fr X ρ ρ' hp hp' nid w w') (hI : Inv G ρ' X w' hp') (k : Fr X ρ' ρ'' hp' hp'' nid w' w'') : Fr X ρ ρ'' hp hp'' nid w w'' :=
  h.trans k fun b _ hx i hi he => hI.dis i b hi he hx
theorem Inv.not_live_fresh (hI : Inv G ρ X w hp) (hn : ρ nid = .no) {k : Nat} (hk : live (hp k) = true) : k ≠ nid := fun e => by
  have := hI.fresh_dead hn
  rw [e, this] at hk; cases hk
theorem kill_upd {ks : List Nat} {ob : Ob} (h : nid ∉ ks) : killF (upd1 hp nid ob) ks = upd1 (killF hp ks) nid ob := by
  funext i
  unfold killF upd1
  by_cases h1 : i = nid
  · subst h1; simp [h]
  · simp [h1]
theorem asNat_int {k : IntKind} {n : Int} : asNat (.d (.int k n)) = if 0 ≤ n then some n.toNat else none := rfl

/-- A new object in a new block, some having been given up before. -/
theorem good_new {o : Oper} {v : Value} {x : V} {ob : Ob} {ks : List Nat} {ob' : Obj} {L : Loc} (hI : Inv G ρ X w hp) (hn : ρ nid = .no) (hks : ∀ k ∈ ks, live (hp k) = true)
    (hr : (execOp a.eval o).run P w = .ok (.value v) (w.alloc ob')) (hL : L.blk = some w.heap.size)
    (hO : (∀ b, b < w.heap.size → Mut (upd1 ρ nid L) X (upd1 (killF hp ks) nid ob) b → Mut ρ X (killF hp ks) b) → OI (upd1 ρ nid L) (Mut (upd1 ρ nid L) X (upd1 (killF hp ks) nid ob)) (w.alloc ob') nid ob)
    (hR : R (upd1 ρ nid L) (Mut (upd1 ρ nid L) X (upd1 (killF hp ks) nid ob)) (w.alloc ob') v x) (hδ : δ.val = x) (hu : δ.upd = (nid, ob) :: deads ks) : Good P G X ρ hp nid w a.eval o δ := by
  have hnk : nid ∉ ks := fun h => (hI.not_live_fresh hn (hks nid h)) rfl
  have hh : hup hp δ.upd = upd1 (killF hp ks) nid ob := by
    rw [hu]; show hup (upd1 hp nid ob) (deads ks) = _
    rw [hup_deads, kill_upd hnk]
  have hmut : ∀ b, b < w.heap.size → Mut (upd1 ρ nid L) X (upd1 (killF hp ks) nid ob) b → Mut ρ X (killF hp ks) b := by
    intro b hb h
    rcases h with h | ⟨i, h1, h2⟩
    · exact .inl h
    · by_cases hi : i = nid
      · subst hi; rw [upd1_same, hL] at h2; injection h2 with h2; omega
      · rw [upd1_other _ _ hi] at h1 h2; exact .inr ⟨i, h1, h2⟩
  have hI1 := hI.kill ks
  obtain ⟨hI2, hF2⟩ := hI1.alloc hn ob' L hL ob (hO hmut)
  refine ⟨v, w.alloc ob', upd1 ρ nid L, .inl hr, by rw [hh, hδ]; exact hR, by rw [hh]; exact hI2, ?_⟩
  rw [hh]
  exact (Fr.kill X ρ hp ks nid w).next hI1 hF2

theorem zeroV_spec {t : TypeId} {z : List V} (h : zeroV P t = some z) : ∃ i zv, P.info? t = some i ∧ i.zero = some zv ∧ mapO const1 zv.cells.toList = some z := by
  unfold zeroV zeroCells at h
  cases hi : P.info? t with
  | none => rw [hi] at h; cases h
  | some i =>
    cases hz : i.zero with
    | none => rw [hi] at h; simp [hz] at h
    | some zv => rw [hi] at h; simp [hz] at h; exact ⟨i, zv, rfl, hz, h⟩
theorem const_RL {M : Nat → Prop} {c : List Value} {cs : List V} (h : mapO const1 c = some cs) : RL ρ M w c cs ∧ cs.all V.scal = true := by
  obtain ⟨h1, h2⟩ := mapO_spec h
  refine ⟨⟨h1, fun i v x e1 e2 => (const1_R (h2 i v x e1 e2)).1⟩, List.all_eq_true.2 fun x hx => ?_⟩
  obtain ⟨i, hi, rfl⟩ := List.getElem_of_mem hx
  exact (const1_R (ρ := ρ) (M := M) (w := w) (h2 i (c[i]'(by omega)) cs[i] (by simp [h1, hi]) (by simp [hi]))).2.1

theorem good_alloc {t : TypeId} {z : List V} (hI : Inv G ρ X w hp) (hn : ρ nid = .no) (hz : zeroV P t = some z) (hδ : δ = ⟨.ptr nid 0, [(nid, .box t z)], []⟩) :
    Good P G X ρ hp nid w a.eval ⟨dst, .alloc t, ty, pos, af, g⟩ δ := by
  obtain ⟨i, zv, hi, hzz, hm⟩ := zeroV_spec hz
  subst hδ
  have hlen := (mapO_spec hm).1
  refine good_new (ks := []) (L := .lies w.heap.size 0 z.length 1 z.length) hI hn (by simp) (run_alloc hi hzz) rfl (fun hmut => ?_) ?_ rfl rfl
  · refine ⟨w.heap.size, zv.cells, upd1_same _ _ _, pg_new w _, (const_RL hm).1, (const_RL (ρ := ρ) (M := Mut ρ X hp) (w := w) hm).2⟩
  · have := R.ptr (M := Mut (upd1 ρ nid (.lies w.heap.size 0 z.length 1 z.length)) X (upd1 (killF hp []) nid (.box t z))) (w := w.alloc (.cells zv.cells t)) (id := nid) 0 (upd1_same ρ nid (.lies w.heap.size 0 z.length 1 z.length))
    exact this
theorem good_box {t : TypeId} {x : Operand} {y : Go.PG.X} {cs : List V} (hI : Inv G ρ X w hp) (hn : ρ nid = .no) (hs : SE ρ (Mut ρ X hp) w a e) (hx : toX x = some y) (hc : (y.val e).cells = some cs) (hδ : δ = ⟨.ptr nid 0, [(nid, .box t cs)], []⟩) :
    Good P G X ρ hp nid w a.eval ⟨dst, .box t x, ty, pos, af, g⟩ δ := by
  subst hδ
  obtain ⟨k1, k2, k3⟩ := (toX_R hs hx).cells hc
  have hlen := k1.1
  refine good_new (ks := []) (L := .lies w.heap.size 0 cs.length 1 cs.length) hI hn (by simp) (run_box t x) rfl (fun hmut => ?_) ?_ rfl rfl
  · refine ⟨w.heap.size, (a.eval x).cells, upd1_same _ _ _, pg_new w _, ?_, k3⟩
    exact k1.later ⟨by simp, fun b hb _ => pg_old w _ b hb⟩ (fun b hb h => mut_kill (hmut b hb h)) (fun i hi => upd1_other _ _ (fun e => hi (e ▸ hn)))
  · have := R.ptr (M := Mut (upd1 ρ nid (.lies w.heap.size 0 cs.length 1 cs.length)) X (upd1 (killF hp []) nid (.box t cs))) (w := w.alloc (.cells (a.eval x).cells t)) (id := nid) 0 (upd1_same ρ nid (.lies w.heap.size 0 cs.length 1 cs.length))
    exact this
theorem good_mv {x : Operand} {y : Go.PG.X} (hI : Inv G ρ X w hp) (hs : SE ρ (Mut ρ X hp) w a e) (hx : toX x = some y) (hδ : δ.val = y.val e) (hu : δ.upd = []) : Good P G X ρ hp nid w a.eval ⟨dst, .move x, ty, pos, af, g⟩ δ :=
  good_pure hI (run_move x) (toX_R hs hx) hδ hu
theorem good_as {x : Operand} {y : Go.PG.X} (hI : Inv G ρ X w hp) (hs : SE ρ (Mut ρ X hp) w a e) (hx : toX x = some y) (hδ : δ.val = y.val e) (hu : δ.upd = []) : Good P G X ρ hp nid w a.eval ⟨dst, .assign x, ty, pos, af, g⟩ δ :=
  good_pure hI (run_assign x) (toX_R hs hx) hδ hu
end Go.PG
end
section
/- Pure Go: each operation does in the machine what the evaluator says. Part 2: structs, loads, stores. -/
set_option linter.unusedSimpArgs false
set_option linter.unusedVariables false
namespace Go.PG
open Go
variable {P : Program} {w : World} {dst : Option Tmp} {ty : TypeId} {pos : String} {af : Array Edge} {g : Option (Nat × Bool)}
variable {ρ : Nat → Loc} {X : Nat → Prop} {hp : Nat → Ob} {G : Nat → Option Obj} {nid : Nat} {a : Act} {e : List (Nat × V)} {δ : Dl} {M : Nat → Prop}

theorem fieldsT_spec {t : TypeId} {fs : List Field} (h : fieldsT P t = some fs) : ∃ f : Array Field, P.underlying t = some (.struct f) ∧ f.toList = fs := by
  unfold fieldsT at h
  split at h
  · rename_i f hu; injection h with h; exact ⟨f, hu, h⟩
  · contradiction
theorem good_build {t : TypeId} {ps : Array (Nat × Operand)} {z : List V} {fs : List Field} {pl : List (Nat × Nat)} {l : List (Nat × Nat × Go.PG.X)} {cs : List V} (hI : Inv G ρ X w hp) (hs : SE ρ (Mut ρ X hp) w a e)
    (hz : zeroV P t = some z) (hf : fieldsT P t = some fs) (hpl : mapO (placeF P) fs = some pl) (hl : partsV pl ps.toList = some l) (hc : fillV e z l = some cs) (hδ : δ = ⟨.agg cs, [], []⟩) :
    Good P G X ρ hp nid w a.eval ⟨dst, .build t ps, ty, pos, af, g⟩ δ := by
  subst hδ
  obtain ⟨i, zv, hi, hzz, hm⟩ := zeroV_spec hz
  obtain ⟨f, hu, rfl⟩ := fieldsT_spec hf
  obtain ⟨h1, h2⟩ := const_RL (ρ := ρ) (M := Mut ρ X hp) (w := w) hm
  obtain ⟨zc, k1, k2, k3⟩ := fillV_run hs pl ps.toList l zv.cells z cs hl hc h1 h2
  have hb : P.built t (ps.map fun (i, x) => (i, a.eval x)).toList = some zc := by
    unfold Program.built
    rw [hi, hu]
    simp only [hzz]
    rw [mapO_eq] at hpl
    have : f.toList.mapM (fun f => (P.info? f.type).map fun i => (f.offset, i.size)) = some pl := hpl
    rw [this]
    simp only [Array.toList_map]
    exact k1
  refine good_pure hI (v := .agg zc) (x := .agg cs) (run_value (s := Instr.build t (ps.map fun (i, x) => (i, a.eval x))) (by simp only [execOp]) (run_build w t _ zc hb)) ?_ rfl rfl
  exact R.mkAgg k2

theorem aggT_false {t : TypeId} (h : aggT P t = some false) : ∃ d, P.underlying t = some d ∧ (∀ fs, d ≠ .struct fs) ∧ ∀ n e, d ≠ .array n e := by
  unfold aggT at h
  split at h <;> first | contradiction | skip
  rename_i d h1 h2 hu
  exact ⟨d, hu, fun fs e => h1 fs e, fun n e' e => h2 n e' e⟩
theorem aggT_true {t : TypeId} (h : aggT P t = some true) : ∃ d, P.underlying t = some d ∧ ((∃ fs, d = .struct fs) ∨ ∃ n e, d = .array n e) := by
  unfold aggT at h
  split at h <;> first | contradiction | skip
  · rename_i fs hu; exact ⟨_, hu, .inl ⟨_, rfl⟩⟩
  · rename_i n e hu; exact ⟨_, hu, .inr ⟨_, _, rfl⟩⟩
theorem cell_block {w : World} {b o : Nat} {c : Array Value} {t : TypeId} {fr : Nat × Nat} (h : w.heap[b]? = some (.cells c t fr)) : w.cell? ⟨b, o, none⟩ = c[o]? := by
  simp [World.cell?, h]
theorem RL.sub {c : List Value} {cs : List V} (h : RL ρ M w c cs) (off n : Nat) : RL ρ M w ((c.drop off).take n) ((cs.drop off).take n) := by
  refine ⟨by simp [h.1], fun i v x e1 e2 => ?_⟩
  by_cases hi : i < n
  · rw [List.getElem?_take_of_lt hi, List.getElem?_drop] at e1 e2; exact h.2 _ v x e1 e2
  · have := (List.getElem?_eq_some_iff.1 e1).1; simp at this; omega
theorem add_none (b o j : Nat) : (⟨b, o, none⟩ : Addr).add j = ⟨b, o + j, none⟩ := by
  unfold Addr.add; split
  · rename_i h; subst h; rfl
  · rfl

theorem good_load1 {t : TypeId} {x : Operand} {y : Go.PG.X} {call : CallT} (hI : Inv G ρ X w hp) (hs : SE ρ (Mut ρ X hp) w a e) (ha : aggT P t = some false) (hx : toX x = some y) (hδ : evalOp call e hp nid (.load1 y) = some δ) :
    Good P G X ρ hp nid w a.eval ⟨dst, .load t x, ty, pos, af, g⟩ δ := by
  obtain ⟨d, hu, hd1, hd2⟩ := aggT_false ha
  have hR := toX_R hs hx
  simp only [evalOp] at hδ
  split at hδ
  · rename_i id off hv
    rw [hv] at hR
    obtain ⟨b, o, sz, n, k, hρ, hvv⟩ := hR.ptr_inv
    split at hδ
    · rename_i cs hob
      cases hc : cs[off]? with
      | none => rw [hc] at hδ; cases hδ
      | some v' =>
        rw [hc] at hδ; simp only [Option.bind_some, Option.some.injEq] at hδ; subst hδ
        have hO := hI.obj id
        rw [hob] at hO
        obtain ⟨b', c, h1, h2, h3, h4⟩ := hO
        rw [hρ] at h1; cases h1
        have hlt : off < c.toList.length := by rw [h3.1]; exact (List.getElem?_eq_some_iff.1 hc).1
        have hcell : w.cell? ⟨b, 0 + off, none⟩ = some c.toList[off] := by
          rw [cell_block h2, Nat.zero_add]; simp at hlt; simp [hlt]
        exact good_pure hI (run_load1 hu hd1 hd2 hvv hcell) (h3.2 off _ v' (by simp) hc) rfl rfl
    · contradiction
  · rename_i id i off hv
    rw [hv] at hR
    obtain ⟨b, o, sz, n, k, hρ, hin, hvv⟩ := hR.eptr_inv
    split at hδ
    · rename_i sz' es hob
      cases hc : es[i]? with
      | none => rw [hc] at hδ; cases hδ
      | some c =>
      cases hc' : c[off]? with
      | none => rw [hc] at hδ; simp [hc'] at hδ
      | some v' =>
        rw [hc] at hδ; simp only [Option.bind_some, hc', Option.some.injEq] at hδ; subst hδ
        have hO := hI.obj id
        rw [hob] at hO
        obtain ⟨h0, ⟨rfl, h1⟩ | ⟨b', o', c', h1, h2, h3, h4, h5⟩⟩ := hO
        · simp at hc
        rw [hρ] at h1; cases h1
        obtain ⟨u, hu', hr⟩ := h5 i off c v' hc hc'
        exact good_pure hI (run_load1 hu hd1 hd2 hvv (by rw [cell_block h2]; exact hu')) (.d hr) rfl rfl
    · contradiction
  · rename_i cs hv
    rw [hv] at hR
    obtain ⟨b, o, u, hM, hb, hc, hr, hvv⟩ := hR.imm_inv
    split at hδ
    · rename_i c cs'
      simp only [pureD, Option.some.injEq] at hδ; subst hδ
      have := hc 0 c rfl
      exact good_pure hI (run_load1 hu hd1 hd2 hvv (by simpa using this)) (.d (hr 0 c rfl)) rfl rfl
    · contradiction
  · contradiction

theorem sizeT_spec {t : TypeId} {n : Nat} (h : sizeT P t = some n) : ∃ i, P.info? t = some i ∧ i.size = n := by
  unfold sizeT at h
  cases hi : P.info? t with
  | none => rw [hi] at h; cases h
  | some i => rw [hi] at h; simp at h; exact ⟨i, rfl, h⟩
theorem good_loadn {t : TypeId} {x : Operand} {y : Go.PG.X} {n : Nat} {call : CallT} (hI : Inv G ρ X w hp) (hs : SE ρ (Mut ρ X hp) w a e) (ha : aggT P t = some true) (hn : sizeT P t = some n) (hx : toX x = some y) (hδ : evalOp call e hp nid (.loadn n y) = some δ) :
    Good P G X ρ hp nid w a.eval ⟨dst, .load t x, ty, pos, af, g⟩ δ := by
  obtain ⟨d, hu, hd⟩ := aggT_true ha
  obtain ⟨ti, hti, rfl⟩ := sizeT_spec hn
  have hR := toX_R hs hx
  simp only [evalOp] at hδ
  split at hδ
  · rename_i id off hv
    rw [hv] at hR
    obtain ⟨b, o, sz, m, k, hρ, hvv⟩ := hR.ptr_inv
    split at hδ
    · rename_i cs hob
      split at hδ
      case isFalse => contradiction
      rename_i hlen
      simp only [Option.some.injEq] at hδ; subst hδ
      have hO := hI.obj id
      rw [hob] at hO
      obtain ⟨b', c, h1, h2, h3, h4⟩ := hO
      rw [hρ] at h1; cases h1
      have hsub := h3.sub off ti.size
      have hl := h3.1
      refine good_pure hI (run_loadn hu hd ((c.toList.drop off).take ti.size) hti (by rw [hsub.1]; simp; omega) hvv fun j v hj => ?_) (R.mkAgg hsub) rfl rfl
      have hj' : j < ti.size := by have := (List.getElem?_eq_some_iff.1 hj).1; simp at this; omega
      rw [add_none, cell_block h2]
      rw [List.getElem?_take_of_lt hj', List.getElem?_drop] at hj
      rw [show 0 + off + j = off + j from by omega]
      simpa using hj
    · contradiction
  · rename_i id i off hv
    rw [hv] at hR
    obtain ⟨b, o, sz, m, k, hρ, hin, hvv⟩ := hR.eptr_inv
    split at hδ
    · rename_i sz' es hob
      cases hc : es[i]? with
      | none => rw [hc] at hδ; cases hδ
      | some c =>
      rw [hc] at hδ; simp only [Option.bind_some] at hδ
      split at hδ
      case isFalse => contradiction
      rename_i hlen
      simp only [Option.some.injEq] at hδ; subst hδ
      have hO := hI.obj id
      rw [hob] at hO
      obtain ⟨h0, ⟨rfl, h1⟩ | ⟨b', o', c', h1, h2, h3, h4, h5⟩⟩ := hO
      · simp at hc
      rw [hρ] at h1; cases h1
      have hce : c.length = sz := h4 c (List.mem_of_getElem? hc)
      have hie : (i + 1) * sz ≤ es.length * sz := Nat.mul_le_mul_right _ (List.getElem?_eq_some_iff.1 hc).1
      rw [Nat.add_mul] at hie
      have hcl : c'.toList.length = c'.size := Array.length_toList
      refine good_pure hI (run_loadn hu hd ((c'.toList.drop (o + i * sz + off)).take ti.size) hti (by rw [List.length_take, List.length_drop]; omega) hvv fun j v hj => ?_) (R.mkAgg ⟨by rw [List.length_take, List.length_drop, List.length_map, List.length_take, List.length_drop]; omega, fun j v x e1 e2 => ?_⟩) rfl rfl
      · have hj' : j < ti.size := by have := (List.getElem?_eq_some_iff.1 hj).1; rw [List.length_take] at this; omega
        rw [add_none, cell_block h2]
        rw [List.getElem?_take_of_lt hj', List.getElem?_drop] at hj
        simpa using hj
      · have hj' : j < ti.size := by have := (List.getElem?_eq_some_iff.1 e1).1; rw [List.length_take] at this; omega
        rw [List.getElem?_take_of_lt hj', List.getElem?_drop] at e1
        rw [List.getElem?_map, List.getElem?_take_of_lt hj', List.getElem?_drop] at e2
        cases hx2 : c[off + j]? with
        | none => rw [hx2] at e2; cases e2
        | some x2 =>
          rw [hx2] at e2; simp at e2; subst e2
          obtain ⟨u, hu', hr⟩ := h5 i (off + j) c x2 hc hx2
          rw [show o + i * sz + (off + j) = o + i * sz + off + j from by omega] at hu'
          have : v = u := by
            have e3 : c'[o + i * sz + off + j]? = some v := by simpa using e1
            rw [e3] at hu'; injection hu'
          subst this
          exact .d hr
    · contradiction
  · rename_i cs hv
    rw [hv] at hR
    obtain ⟨b, o, u, hM, hb, hc, hr, hvv⟩ := hR.imm_inv
    split at hδ
    case isFalse => contradiction
    rename_i hlen
    simp only [pureD, Option.some.injEq] at hδ; subst hδ
    refine good_pure hI (run_loadn hu hd ((List.range ti.size).map u) hti (by simp) hvv fun j v hj => ?_) (R.mkAgg ⟨by simp; omega, fun j v x e1 e2 => ?_⟩) rfl rfl
    · have hj' : j < ti.size := by have := (List.getElem?_eq_some_iff.1 hj).1; simpa using this
      rw [add_none]
      rw [List.getElem?_map, List.getElem?_range hj'] at hj
      simp at hj; subst hj
      exact hc j (cs[j]'(by omega)) (by simp)
    · have hj' : j < ti.size := by have := (List.getElem?_eq_some_iff.1 e1).1; simpa using this
      rw [List.getElem?_map, List.getElem?_range hj'] at e1
      simp at e1; subst e1
      rw [List.getElem?_map, List.getElem?_take_of_lt hj'] at e2
      cases hx2 : cs[j]? with
      | none => rw [hx2] at e2; cases e2
      | some x2 => rw [hx2] at e2; simp at e2; subst e2; exact .d (hr j x2 hx2)
  · contradiction

theorem setRow_same {b : Nat} {cur cs : Array Value} {te : TypeId} {fr : Nat × Nat} (h : w.heap[b]? = some (.cells cur te fr)) : (w.setRow b cs).heap[b]? = some (.cells cs te fr) := by
  simp [World.setRow, Array.getElem?_modify, h]
theorem setRow_other {b b' : Nat} {cs : Array Value} (h : b' ≠ b) : (w.setRow b cs).heap[b']? = w.heap[b']? := by
  simp only [World.setRow, Array.getElem?_modify]; rw [if_neg (by omega)]
theorem setRow_size {b : Nat} {cs : Array Value} : (w.setRow b cs).heap.size = w.heap.size := by simp [World.setRow]
theorem upd1_upd1 {α : Type} (f : Nat → α) (i : Nat) (x y : α) : upd1 (upd1 f i x) i y = upd1 f i y := by funext j; unfold upd1; split <;> rfl

theorem good_store {t : TypeId} {x z : Operand} {y u : Go.PG.X} {n : Nat} {call : CallT} (hI : Inv G ρ X w hp) (hs : SE ρ (Mut ρ X hp) w a e) (hn : sizeT P t = some n) (hz : toX z = some u) (hx : toX x = some y) (hδ : evalOp call e hp nid (.store n u y) = some δ) :
    Good P G X ρ hp nid w a.eval ⟨dst, .store t z x, ty, pos, af, g⟩ δ := by
  obtain ⟨ti, hti, rfl⟩ := sizeT_spec hn
  have hRx := toX_R hs hx
  have hRz := toX_R hs hz
  simp only [evalOp] at hδ
  cases hc : (y.val e).cells with
  | none => rw [hc] at hδ; cases hδ
  | some c =>
  rw [hc] at hδ; simp only [Option.bind_some] at hδ
  split at hδ
  case isTrue => contradiction
  rename_i hcl
  obtain ⟨k1, k2, k3⟩ := hRx.cells hc
  have hkl := k1.1
  simp only [Array.length_toList] at hkl
  split at hδ
  · rename_i id off hv
    rw [hv] at hRz
    obtain ⟨b, o, sz, m, k, hρ, hvv⟩ := hRz.ptr_inv
    split at hδ
    case h_2 => contradiction
    rename_i tb cs hob
    split at hδ
    case isFalse => contradiction
    rename_i hlen
    simp only [Option.some.injEq] at hδ; subst hδ
    have hO := hI.obj id
    rw [hob] at hO
    obtain ⟨b', cur, h1, h2, h3, h4⟩ := hO
    rw [hρ] at h1; cases h1
    have hl3 := h3.1
    simp only [Array.length_toList] at hl3
    have hlive : live (hp id) = true := by rw [hob]; rfl
    have hblk : (ρ id).blk = some b := by rw [hρ]; rfl
    have hrun := run_store (P := P) (ev := a.eval) (w := w) (dst := dst) (ty := ty) (pos := pos) (af := af) (g := g) hti (by rw [hvv, Nat.zero_add]) rfl (by omega) h2 (by omega) k2
    have hW := hI.write (w' := w.setRow b (cur.toList.take off ++ (a.eval x).cells.toList ++ cur.toList.drop (off + (a.eval x).cells.size)).toArray) hlive hblk setRow_size (fun b' hb' => setRow_other hb') (.box tb (splice cs off c)) rfl ?_
    · refine ⟨undef, _, ρ, .inr ⟨hrun, rfl⟩, R.mkTup (c := []) (cs := []) RL.nil, hW, Fr.write X nid hlive hblk setRow_size (fun b' hb' => setRow_other hb') rfl rfl rfl _⟩
    · refine ⟨b, _, by rw [hρ, splice_len (by omega)], setRow_same h2, ?_, all_splice h4 k3 off⟩
      have hL : Later (Mut ρ X hp) w (w.setRow b (cur.toList.take off ++ (a.eval x).cells.toList ++ cur.toList.drop (off + (a.eval x).cells.size)).toArray) :=
        ⟨by rw [setRow_size]; exact Nat.le_refl _, fun b' _ hM => setRow_other fun e => hM (.inr ⟨id, hlive, e ▸ hblk⟩)⟩
      have hmu : ∀ b', Mut ρ X (upd1 hp id (.box tb (splice cs off c))) b' → Mut ρ X hp b' := by
        rintro b' (h | ⟨i, g1, g2⟩)
        · exact .inl h
        · by_cases hi : i = id
          · subst hi; exact .inr ⟨i, hlive, g2⟩
          · rw [upd1_other _ _ hi] at g1; exact .inr ⟨i, g1, g2⟩
      have := (h3.splice k1 off (by simp only [Array.length_toList]; omega)).later hL (fun b' _ h => hmu b' h) (fun _ _ => rfl)
      simpa [splice, List.append_assoc] using this
  · rename_i id i off hv
    rw [hv] at hRz
    obtain ⟨b, o, sz, m, k, hρ, hin, hvv⟩ := hRz.eptr_inv
    split at hδ
    case h_2 => contradiction
    rename_i tv sz' es hob
    cases hds : toDs hp c with
    | none => rw [hds] at hδ; cases hδ
    | some q =>
    obtain ⟨ds, ks⟩ := q
    rw [hds] at hδ; simp only [Option.bind_some] at hδ
    cases hel : es[i]? with
    | none => rw [hel] at hδ; cases hδ
    | some el =>
    rw [hel] at hδ; simp only [Option.bind_some] at hδ
    split at hδ
    case isFalse => contradiction
    rename_i hlen
    obtain ⟨hlen, hidk⟩ := hlen
    simp only [Option.some.injEq] at hδ; subst hδ
    have hO := hI.obj id
    rw [hob] at hO
    obtain ⟨h0, ⟨rfl, h1⟩ | ⟨b', o', cur, h1, h2, h3, h4, h5⟩⟩ := hO
    · simp at hel
    rw [hρ] at h1; cases h1
    have hlive : live (hp id) = true := by rw [hob]; rfl
    have hblk : (ρ id).blk = some b := by rw [hρ]; rfl
    have hle : el.length = sz := h4 el (List.mem_of_getElem? hel)
    have hie : (i + 1) * sz ≤ es.length * sz := Nat.mul_le_mul_right _ (List.getElem?_eq_some_iff.1 hel).1
    rw [Nat.add_mul] at hie
    have hrun := run_store (P := P) (ev := a.eval) (w := w) (dst := dst) (ty := ty) (pos := pos) (af := af) (g := g) hti hvv rfl (by omega) h2 (by omega) k2
    obtain ⟨q1, q2, q3⟩ := toDs_R hI k1 hds (ks' := ks) (fun _ h => h)
    simp only [Array.length_toList] at q1
    have hI1 := hI.kill ks
    have hlive1 : live (killF hp ks id) = true := by simp only [killF, hidk, if_false]; exact hlive
    have hh : hup hp ((id, Ob.vec tv sz (es.set i (splice el off ds))) :: deads ks) = upd1 (killF hp ks) id (.vec tv sz (es.set i (splice el off ds))) := by
      show hup (upd1 hp id _) (deads ks) = _
      rw [hup_deads, kill_upd hidk]
    have hL : Later (Mut ρ X (killF hp ks)) w (w.setRow b (cur.toList.take (o + i * sz + off) ++ (a.eval x).cells.toList ++ cur.toList.drop (o + i * sz + off + (a.eval x).cells.size)).toArray) :=
      ⟨by rw [setRow_size]; exact Nat.le_refl _, fun b' _ hM => setRow_other fun e => hM (.inr ⟨id, hlive1, e ▸ hblk⟩)⟩
    have hL' : Later (Mut ρ X hp) w (w.setRow b (cur.toList.take (o + i * sz + off) ++ (a.eval x).cells.toList ++ cur.toList.drop (o + i * sz + off + (a.eval x).cells.size)).toArray) := ⟨hL.size, fun b' hb' hM => hL.keep b' hb' fun h => hM (mut_kill h)⟩
    have hmu : ∀ b', Mut ρ X (upd1 (killF hp ks) id (.vec tv sz (es.set i (splice el off ds)))) b' → Mut ρ X (killF hp ks) b' := by
      rintro b' (h | ⟨j, g1, g2⟩)
      · exact .inl h
      · by_cases hi : j = id
        · subst hi; exact .inr ⟨j, hlive1, g2⟩
        · rw [upd1_other _ _ hi] at g1; exact .inr ⟨j, g1, g2⟩
    have hW := hI1.write (w' := w.setRow b (cur.toList.take (o + i * sz + off) ++ (a.eval x).cells.toList ++ cur.toList.drop (o + i * sz + off + (a.eval x).cells.size)).toArray) hlive1 hblk setRow_size (fun b' hb' => setRow_other hb') (.vec tv sz (es.set i (splice el off ds))) rfl ?_
    · refine ⟨undef, _, ρ, .inr ⟨hrun, rfl⟩, R.mkTup (c := []) (cs := []) RL.nil, by rw [hh]; exact hW, ?_⟩
      rw [hh]
      exact (Fr.kill X ρ hp ks nid w).next hI1 (Fr.write X nid hlive1 hblk setRow_size (fun b' hb' => setRow_other hb') rfl rfl rfl _)
    · have hdl : off + ds.length ≤ el.length := by omega
      have hsz : (cur.toList.take (o + i * sz + off) ++ (a.eval x).cells.toList ++ cur.toList.drop (o + i * sz + off + (a.eval x).cells.size)).toArray.size = cur.size := by
        simp only [List.size_toArray, List.length_append, List.length_take, List.length_drop, Array.length_toList]; omega
      have hget : ∀ p, ((cur.toList.take (o + i * sz + off) ++ (a.eval x).cells.toList ++ cur.toList.drop (o + i * sz + off + (a.eval x).cells.size)).toArray)[p]? =
          if o + i * sz + off ≤ p ∧ p < o + i * sz + off + (a.eval x).cells.size then (a.eval x).cells[p - (o + i * sz + off)]? else cur[p]? := by
        intro p
        have := splice_get (l := cur.toList) (c := (a.eval x).cells.toList) (off := o + i * sz + off) (by simp only [Array.length_toList]; omega) p
        simp only [splice, Array.length_toList, Array.getElem?_toList] at this
        rw [← this]; simp [List.append_assoc]
      refine ⟨h0, .inr ⟨b, o, _, by rw [hρ, List.length_set, hsz], setRow_same h2, by rw [List.length_set, hsz]; exact h3, fun e' he' => ?_, fun i' j e' x' e1 e2 => ?_⟩⟩
      · rcases List.mem_or_eq_of_mem_set he' with he' | rfl
        · exact h4 e' he'
        · rw [splice_len hdl]; exact hle
      · rw [hget]
        by_cases hi : i' = i
        · subst hi
          rw [List.getElem?_set_self (List.getElem?_eq_some_iff.1 hel).1] at e1
          injection e1 with e1; subst e1
          rw [splice_get hdl] at e2
          by_cases hj : off ≤ j ∧ j < off + ds.length
          · rw [if_pos hj] at e2
            rw [if_pos (by omega)]
            have hlt : j - off < (a.eval x).cells.size := by omega
            refine ⟨(a.eval x).cells[j - off], by rw [show o + i' * sz + j - (o + i' * sz + off) = j - off from by omega]; simp [hlt], ?_⟩
            exact (q2 (j - off) _ x' (by simp [hlt]) e2).later hL (fun b' _ h => hmu b' h)
          · rw [if_neg hj] at e2
            have hjs : j < sz := by have := (List.getElem?_eq_some_iff.1 e2).1; omega
            rw [if_neg (by omega)]
            obtain ⟨u, hu, hr⟩ := h5 i' j el x' hel e2
            exact ⟨u, hu, hr.later hL' (fun b' hb' h => mut_kill (hmu b' h))⟩
        · rw [List.getElem?_set_ne (fun h => hi h.symm)] at e1
          have hjs : j < sz := by have := (List.getElem?_eq_some_iff.1 e2).1; have := h4 e' (List.mem_of_getElem? e1); omega
          have hne : ¬ (o + i * sz + off ≤ o + i' * sz + j ∧ o + i' * sz + j < o + i * sz + off + (a.eval x).cells.size) := by
            rintro ⟨n1, n2⟩
            rcases Nat.lt_or_gt_of_ne hi with hlt | hgt
            · have : (i' + 1) * sz ≤ i * sz := Nat.mul_le_mul_right _ hlt
              rw [Nat.add_mul] at this; omega
            · have : (i + 1) * sz ≤ i' * sz := Nat.mul_le_mul_right _ hgt
              rw [Nat.add_mul] at this; omega
          rw [if_neg hne]
          obtain ⟨u, hu, hr⟩ := h5 i' j e' x' e1 e2
          exact ⟨u, hu, hr.later hL' (fun b' hb' h => mut_kill (hmu b' h))⟩
  · contradiction
end Go.PG
end
section
/- Pure Go: each operation does in the machine what the evaluator says. Part 3: numbers, strings, addresses, parts. -/
set_option linter.unusedSimpArgs false
set_option linter.unusedVariables false
namespace Go.PG
open Go
variable {P : Program} {w : World} {dst : Option Tmp} {ty : TypeId} {pos : String} {af : Array Edge} {g : Option (Nat × Bool)}
variable {ρ : Nat → Loc} {X : Nat → Prop} {hp : Nat → Ob} {G : Nat → Option Obj} {nid : Nat} {a : Act} {e : List (Nat × V)} {δ : Dl} {M : Nat → Prop} {call : CallT}

theorem good_pick {c x z : Operand} {c' x' z' : Go.PG.X} (hI : Inv G ρ X w hp) (hs : SE ρ (Mut ρ X hp) w a e) (hc : toX c = some c') (hx : toX x = some x') (hz : toX z = some z') (hδ : evalOp call e hp nid (.pick c' x' z') = some δ) :
    Good P G X ρ hp nid w a.eval ⟨dst, .pick c x z, ty, pos, af, g⟩ δ := by
  simp only [evalOp] at hδ
  split at hδ
  case h_2 => contradiction
  rename_i t ht
  have h1 := (ht ▸ toX_R hs hc).bool_inv
  simp only [pureD, Option.some.injEq] at hδ; subst hδ
  refine good_pure hI (run_pick h1) ?_ rfl rfl
  cases t
  · exact toX_R hs hz
  · exact toX_R hs hx
theorem good_bin {op : BinOp} {xt yt : TypeId} {x y : Operand} {x' y' : Go.PG.X} (hI : Inv G ρ X w hp) (hs : SE ρ (Mut ρ X hp) w a e) (hx : toX x = some x') (hy : toX y = some y') (hδ : evalOp call e hp nid (.bin op x' y') = some δ) :
    Good P G X ρ hp nid w a.eval ⟨dst, .binOp op xt x y yt, ty, pos, af, g⟩ δ := by
  simp only [evalOp] at hδ
  split at hδ
  case h_2 => contradiction
  rename_i p q hp' hq'
  cases hb : binD op p q with
  | none => rw [hb] at hδ; cases hδ
  | some r =>
    rw [hb] at hδ; simp only [Option.bind_some, pureD, Option.some.injEq] at hδ; subst hδ
    obtain ⟨v, h1, h2⟩ := run_binOp (P := P) (ev := a.eval) (w := w) (dst := dst) (ty := ty) (pos := pos) (af := af) (g := g) op xt yt (hp' ▸ toX_R hs hx).d_inv (hq' ▸ toX_R hs hy).d_inv hb
    exact good_pure hI h1 (.d h2) rfl rfl
theorem good_binb {op : BinOp} {neg : Bool} (ho : op = if neg then .neq else .eql) {xt yt : TypeId} {x y : Operand} {x' y' : Go.PG.X} (hI : Inv G ρ X w hp) (hs : SE ρ (Mut ρ X hp) w a e) (ht : P.underlying xt = some .bool) (hx : toX x = some x') (hy : toX y = some y')
    (hδ : evalOp call e hp nid (.binb neg x' y') = some δ) : Good P G X ρ hp nid w a.eval ⟨dst, .binOp op xt x y yt, ty, pos, af, g⟩ δ := by
  simp only [evalOp] at hδ
  split at hδ
  case h_2 => contradiction
  rename_i p q hp' hq'
  simp only [pureD, Option.some.injEq] at hδ; subst hδ; subst ho
  exact good_pure hI (run_binb neg xt yt (hp' ▸ toX_R hs hx).d_inv (hq' ▸ toX_R hs hy).d_inv ht) (.d (.bool _)) rfl rfl
theorem good_eqs {op : BinOp} {neg : Bool} (ho : op = if neg then .neq else .eql) {xt yt : TypeId} {x y : Operand} {x' y' : Go.PG.X} {fs : Array Field} {ks : List Kd} (hI : Inv G ρ X w hp) (hs : SE ρ (Mut ρ X hp) w a e) (hu : P.underlying xt = some (.struct fs)) (hk : flatKinds P 0 fs.toList = some ks)
    (hp' : P.stoodInHeld xt = false) (hg : P.eqGuardType P.depth xt = false) (hx : toX x = some x') (hy : toX y = some y')
    (hδ : evalOp call e hp nid (.eqs neg ks x' y') = some δ) : Good P G X ρ hp nid w a.eval ⟨dst, .binOp op xt x y yt, ty, pos, af, g⟩ δ := by
  simp only [evalOp] at hδ
  split at hδ
  case h_2 => contradiction
  rename_i p q hp2 hq2
  cases hr : eqDs ks p q with
  | none => rw [hr] at hδ; cases hδ
  | some r =>
    rw [hr] at hδ; simp only [Option.bind_some, pureD, Option.some.injEq] at hδ; subst hδ; subst ho
    have h1 := hp2 ▸ toX_R hs hx
    have h2 := hq2 ▸ toX_R hs hy
    obtain ⟨c, ec, _⟩ := h1.agg_inv
    obtain ⟨d, ed, _⟩ := h2.agg_inv
    rw [ec] at h1; rw [ed] at h2
    exact good_pure hI (run_eqs neg hu hk hp' hg ec ed h1 h2 hr) (.d (.bool _)) rfl rfl
theorem good_un {op : UnOp} {xt : TypeId} {x : Operand} {x' : Go.PG.X} (hI : Inv G ρ X w hp) (hs : SE ρ (Mut ρ X hp) w a e) (hx : toX x = some x') (hδ : evalOp call e hp nid (.un op x') = some δ) :
    Good P G X ρ hp nid w a.eval ⟨dst, .unOp op xt x, ty, pos, af, g⟩ δ := by
  simp only [evalOp] at hδ
  split at hδ
  case h_2 => contradiction
  rename_i p hp'
  cases hb : unD op p with
  | none => rw [hb] at hδ; cases hδ
  | some r =>
    rw [hb] at hδ; simp only [Option.bind_some, pureD, Option.some.injEq] at hδ; subst hδ
    obtain ⟨v, h1, h2⟩ := run_unOp (P := P) (ev := a.eval) (w := w) (dst := dst) (ty := ty) (pos := pos) (af := af) (g := g) op xt (hp' ▸ toX_R hs hx).d_inv hb
    exact good_pure hI h1 (.d h2) rfl rfl
theorem good_conv {src d : TypeId} {k j : IntKind} {x : Operand} {x' : Go.PG.X} (hI : Inv G ρ X w hp) (hs : SE ρ (Mut ρ X hp) w a e) (hsrc : P.underlying src = some (.int j)) (hd : P.underlying d = some (.int k)) (hx : toX x = some x')
    (hδ : evalOp call e hp nid (.conv k x') = some δ) : Good P G X ρ hp nid w a.eval ⟨dst, .convert src d x, ty, pos, af, g⟩ δ := by
  simp only [evalOp] at hδ
  split at hδ
  case h_2 => contradiction
  rename_i k' n hp'
  simp only [pureD, Option.some.injEq] at hδ; subst hδ
  exact good_pure hI (run_conv hsrc hd (hp' ▸ toX_R hs hx).int_inv) (.d (.int _ _)) rfl rfl
theorem good_same {src d : TypeId} {x : Operand} {x' : Go.PG.X} (hI : Inv G ρ X w hp) (hs : SE ρ (Mut ρ X hp) w a e) (hsrc : P.underlying src = some .string) (hd : P.underlying d = some .string) (hx : toX x = some x')
    (hδ : evalOp call e hp nid (.same x') = some δ) : Good P G X ρ hp nid w a.eval ⟨dst, .convert src d x, ty, pos, af, g⟩ δ := by
  simp only [evalOp] at hδ
  split at hδ
  case h_2 => contradiction
  rename_i s hp'
  simp only [pureD, Option.some.injEq] at hδ; subst hδ
  obtain ⟨t, h1, rfl⟩ := (hp' ▸ toX_R hs hx).str_inv
  exact good_pure hI (run_convStr hsrc hd h1) (.d (.str _)) rfl rfl
theorem good_faddr {s f : Nat} {x : Operand} {x' : Go.PG.X} {fs : List Field} {fd : Field} {n : Nat} (hI : Inv G ρ X w hp) (hs : SE ρ (Mut ρ X hp) w a e) (hf : fieldsT P s = some fs) (hfd : fs[f]? = some fd) (hn : sizeT P fd.type = some n) (hn0 : n ≠ 0) (hx : toX x = some x')
    (hδ : evalOp call e hp nid (.faddr fd.offset x') = some δ) : Good P G X ρ hp nid w a.eval ⟨dst, .fieldAddr s x f, ty, pos, af, g⟩ δ := by
  obtain ⟨fa, hu, rfl⟩ := fieldsT_spec hf
  obtain ⟨ti, hti, rfl⟩ := sizeT_spec hn
  have hR := toX_R hs hx
  simp only [evalOp] at hδ
  split at hδ
  · rename_i id o hv
    rw [hv] at hR
    obtain ⟨b, o', sz, m, k, hρ, hvv⟩ := hR.ptr_inv
    simp only [pureD, Option.some.injEq] at hδ; subst hδ
    refine good_pure hI (run_fieldAddr hu (by simpa using hfd) hti hn0 hvv) ?_ rfl rfl
    rw [add_none, Nat.add_assoc]; exact .ptr _ hρ
  · rename_i id i o hv
    rw [hv] at hR
    obtain ⟨b, o', sz, m, k, hρ, hin, hvv⟩ := hR.eptr_inv
    simp only [pureD, Option.some.injEq] at hδ; subst hδ
    refine good_pure hI (run_fieldAddr hu (by simpa using hfd) hti hn0 hvv) ?_ rfl rfl
    rw [add_none, Nat.add_assoc]; exact .eptr _ _ hρ hin
  · rename_i cs hv
    rw [hv] at hR
    obtain ⟨b, o, u, hM, hb, hc, hr, hvv⟩ := hR.imm_inv
    split at hδ
    case isFalse => contradiction
    simp only [pureD, Option.some.injEq] at hδ; subst hδ
    refine good_pure hI (run_fieldAddr hu (by simpa using hfd) hti hn0 hvv) ?_ rfl rfl
    rw [add_none]
    refine .imm b _ _ (fun j => u (fd.offset + j)) hM hb (fun j x hj => ?_) (fun j x hj => ?_)
    · rw [List.getElem?_drop] at hj; rw [Nat.add_assoc]; exact hc _ x hj
    · rw [List.getElem?_drop] at hj; exact hr _ x hj
  · contradiction
theorem good_fld {s k : Nat} {x : Operand} {x' : Go.PG.X} {fs : List Field} {fd : Field} {n : Nat} {ag : Bool} (hI : Inv G ρ X w hp) (hs : SE ρ (Mut ρ X hp) w a e) (hf : fieldsT P s = some fs) (hfd : fs[k]? = some fd) (ha : aggT P fd.type = some ag) (hn : sizeT P fd.type = some n) (hx : toX x = some x')
    (hδ : evalOp call e hp nid (.fld ag fd.offset n x') = some δ) : Good P G X ρ hp nid w a.eval ⟨dst, .field s x k, ty, pos, af, g⟩ δ := by
  obtain ⟨fa, hu, rfl⟩ := fieldsT_spec hf
  obtain ⟨ti, hti, rfl⟩ := sizeT_spec hn
  have hR := toX_R hs hx
  simp only [evalOp] at hδ
  split at hδ
  case h_2 => contradiction
  rename_i cs hv
  rw [hv] at hR
  obtain ⟨c, hc, hrl⟩ := hR.agg_inv
  split at hδ
  case isFalse => contradiction
  rename_i hlen
  have hl := hrl.1
  simp only [Array.length_toList] at hl
  cases ag
  · simp only [Bool.false_eq_true, if_false] at hδ
    cases hcs : cs[fd.offset]? with
    | none => rw [hcs] at hδ; cases hδ
    | some y =>
      rw [hcs] at hδ; simp only [Option.bind_some, pureD, Option.some.injEq] at hδ; subst hδ
      have hlt : fd.offset < c.size := by have := (List.getElem?_eq_some_iff.1 hcs).1; omega
      exact good_pure hI (run_field hu (by simpa using hfd) hc (run_part_one ha (by simp [hlt] : c[fd.offset]? = some c[fd.offset]))) (hrl.2 _ _ y (by simp [hlt]) hcs) rfl rfl
  · simp only [if_true, pureD, Option.some.injEq] at hδ; subst hδ
    refine good_pure hI (run_field hu (by simpa using hfd) hc (run_part_agg ha hti)) ?_ rfl rfl
    have := R.mkAgg (hrl.sub fd.offset ti.size)
    have e1 : ((c.toList.drop fd.offset).take ti.size).toArray = c.extract fd.offset (fd.offset + ti.size) := by
      apply Array.ext'
      rw [Array.toList_extract]
      simp [List.extract, Nat.add_sub_cancel_left]
    rw [e1] at this; exact this
theorem elemT_spec {t e : TypeId} (h : elemT P t = some e) : P.underlying t = some (.slice e) := by
  unfold elemT at h
  split at h
  · rename_i e' hu; injection h with h; rw [hu, h]
  · contradiction
theorem good_iaddr {t el : TypeId} {sz : Nat} {x i : Operand} {x' i' : Go.PG.X} (hI : Inv G ρ X w hp) (hs : SE ρ (Mut ρ X hp) w a e) (ht : elemT P t = some el) (hz : sizeT P el = some sz) (hx : toX x = some x') (hi : toX i = some i')
    (hδ : evalOp call e hp nid (.iaddr sz x' i') = some δ) : Good P G X ρ hp nid w a.eval ⟨dst, .indexAddr t x i, ty, pos, af, g⟩ δ := by
  have hu := elemT_spec ht
  obtain ⟨ti, hti, rfl⟩ := sizeT_spec hz
  have hR := toX_R hs hx
  simp only [evalOp] at hδ
  cases hn : asNat (i'.val e) with
  | none => rw [hn] at hδ; cases hδ
  | some n =>
  rw [hn] at hδ; simp only [Option.bind_some] at hδ
  obtain ⟨k, hk⟩ := (toX_R hs hi).nat_inv hn
  split at hδ
  · rename_i es hv
    rw [hv] at hR
    cases hc : es[n]? with
    | none => rw [hc] at hδ; cases hδ
    | some c =>
    rw [hc] at hδ; simp only [Option.bind_some] at hδ
    split at hδ
    case isFalse => contradiction
    rename_i hcl
    simp only [pureD, Option.some.injEq] at hδ; subst hδ
    have hnl := (List.getElem?_eq_some_iff.1 hc).1
    rcases hR.d_inv.sl_inv with ⟨rfl, _⟩ | ⟨b, o, cp, sz, u, hvv, hM, hb, hn0, hcap, hz, hcell, hr⟩
    · simp at hc
    · have hsz : sz = ti.size := by rw [← hcl]; exact (hz c (List.mem_of_getElem? hc)).symm
      subst hsz
      refine good_pure hI (run_indexAddr hu hvv hk hnl hti) ?_ rfl rfl
      rw [add_none]
      exact .imm b _ c (u n) hM hb (fun j x hj => hcell n j c x hc hj) (fun j x hj => hr n j c x hc hj)
  · rename_i id sz' off len hv
    rw [hv] at hR
    split at hδ
    case isFalse => contradiction
    rename_i hc
    obtain ⟨rfl, hlt⟩ := hc
    simp only [pureD, Option.some.injEq] at hδ; subst hδ
    rcases hR.vec_inv with ⟨b, o, m, k', c, ad, hρ, h1, h2, h3, h4, hvv⟩ | ⟨hρ, rfl, rfl, ad, hvv⟩
    · rcases h4 with rfl | rfl
      · refine good_pure hI (run_indexAddr hu hvv hk hlt hti) ?_ rfl rfl
        rw [add_none]
        have := R.eptr (M := Mut ρ X hp) (w := w) (off + n) 0 hρ (by omega)
        rw [show o + off * ti.size + n * ti.size = o + (off + n) * ti.size + 0 from by rw [Nat.add_mul]; omega]
        exact this
      · omega
    · omega
  · contradiction
theorem good_idx {t : TypeId} {x i : Operand} {x' i' : Go.PG.X} (hI : Inv G ρ X w hp) (hs : SE ρ (Mut ρ X hp) w a e) (ht : P.underlying t = some .string) (hx : toX x = some x') (hi : toX i = some i')
    (hδ : evalOp call e hp nid (.idx x' i') = some δ) : Good P G X ρ hp nid w a.eval ⟨dst, .index t x i, ty, pos, af, g⟩ δ := by
  simp only [evalOp] at hδ
  cases hn : asNat (i'.val e) with
  | none => rw [hn] at hδ; cases hδ
  | some n =>
  rw [hn] at hδ; simp only [Option.bind_some] at hδ
  obtain ⟨k, hk⟩ := (toX_R hs hi).nat_inv hn
  split at hδ
  case h_2 => contradiction
  rename_i s hv
  obtain ⟨t', h1, rfl⟩ := (hv ▸ toX_R hs hx).str_inv
  cases hc : t'.data.toList[n]? with
  | none => rw [hc] at hδ; cases hδ
  | some b =>
    rw [hc] at hδ; simp only [Option.bind_some, pureD, Option.some.injEq] at hδ; subst hδ
    have hlt : n < t'.size := by have := (List.getElem?_eq_some_iff.1 hc).1; simpa using this
    have hb : t'[n]? = some b := by
      have h2 := (List.getElem?_eq_some_iff.1 hc).2
      rw [getElem?_pos t' n hlt]
      exact congrArg some h2
    exact good_pure hI (run_indexStr ht h1 hk hb) (.d (.int _ _)) rfl rfl
theorem good_ext {x : Operand} {k : Nat} {x' : Go.PG.X} (hI : Inv G ρ X w hp) (hs : SE ρ (Mut ρ X hp) w a e) (hx : toX x = some x') (hδ : evalOp call e hp nid (.ext x' k) = some δ) :
    Good P G X ρ hp nid w a.eval ⟨dst, .extract x k, ty, pos, af, g⟩ δ := by
  simp only [evalOp] at hδ
  split at hδ
  case h_2 => contradiction
  rename_i vs hv
  cases hc : vs[k]? with
  | none => rw [hc] at hδ; cases hδ
  | some y =>
    rw [hc] at hδ; simp only [Option.bind_some, pureD, Option.some.injEq] at hδ; subst hδ
    obtain ⟨c, h1, h2⟩ := (hv ▸ toX_R hs hx).tup_inv
    have hlt : k < c.size := by have := (List.getElem?_eq_some_iff.1 hc).1; have := h2.1; simp only [Array.length_toList] at this; omega
    exact good_pure hI (run_extract h1 (by simp [hlt] : c[k]? = some c[k])) (h2.2 k _ y (by simp [hlt]) hc) rfl rfl
theorem good_min {x y : Operand} {ts : Array TypeId} {x' y' : Go.PG.X} (hI : Inv G ρ X w hp) (hs : SE ρ (Mut ρ X hp) w a e) (hx : toX x = some x') (hy : toX y = some y') (hδ : evalOp call e hp nid (.min x' y') = some δ) :
    Good P G X ρ hp nid w a.eval ⟨dst, .call { callee := .builtin .min, args := #[x, y], argTypes := ts }, ty, pos, af, g⟩ δ := by
  simp only [evalOp] at hδ
  split at hδ
  case h_2 => contradiction
  rename_i k m j n h1 h2
  simp only [pureD, Option.some.injEq] at hδ; subst hδ
  exact good_pure hI (run_min (h1 ▸ toX_R hs hx).int_inv (h2 ▸ toX_R hs hy).int_inv) (.d (.int _ _)) rfl rfl
theorem good_max {x y : Operand} {ts : Array TypeId} {x' y' : Go.PG.X} (hI : Inv G ρ X w hp) (hs : SE ρ (Mut ρ X hp) w a e) (hx : toX x = some x') (hy : toX y = some y') (hδ : evalOp call e hp nid (.max x' y') = some δ) :
    Good P G X ρ hp nid w a.eval ⟨dst, .call { callee := .builtin .max, args := #[x, y], argTypes := ts }, ty, pos, af, g⟩ δ := by
  simp only [evalOp] at hδ
  split at hδ
  case h_2 => contradiction
  rename_i k m j n h1 h2
  simp only [pureD, Option.some.injEq] at hδ; subst hδ
  exact good_pure hI (run_max (h1 ▸ toX_R hs hx).int_inv (h2 ▸ toX_R hs hy).int_inv) (.d (.int _ _)) rfl rfl
theorem good_mkf {f : Nat} {cap : Array Operand} {cs : List Go.PG.X} (hI : Inv G ρ X w hp) (hs : SE ρ (Mut ρ X hp) w a e) (hc : mapO toX cap.toList = some cs) (hδ : evalOp call e hp nid (.mkf f cs) = some δ) :
    Good P G X ρ hp nid w a.eval ⟨dst, .makeFunc (.func f) #[] cap, ty, pos, af, g⟩ δ := by
  simp only [evalOp, pureD, Option.some.injEq] at hδ; subst hδ
  obtain ⟨h1, h2⟩ := mapO_spec hc
  refine good_pure hI (run_makeFunc cap) (.fn f _ _ (by simpa using h1) fun i v x e1 e2 => ?_) rfl rfl
  rw [Array.getElem?_map] at e1
  rw [List.getElem?_map] at e2
  cases ho : cap[i]? with
  | none => rw [ho] at e1; cases e1
  | some o =>
    cases hy : cs[i]? with
    | none => rw [hy] at e2; cases e2
    | some y =>
      rw [ho] at e1; rw [hy] at e2; simp at e1 e2; subst e1; subst e2
      exact toX_R hs (h2 i o y (by simpa using ho) hy)
theorem good_nilc {x : Operand} {x' : Go.PG.X} (hI : Inv G ρ X w hp) (hs : SE ρ (Mut ρ X hp) w a e) (hx : toX x = some x') (hδ : evalOp call e hp nid (.nilc x') = some δ) :
    Good P G X ρ hp nid w a.eval ⟨dst, .nilCheck x, ty, pos, af, g⟩ δ := by
  have hR := toX_R hs hx
  simp only [evalOp] at hδ
  split at hδ <;> first | contradiction | skip
  all_goals
    rename_i hv
    rw [hv] at hR
    simp only [pureD, Option.some.injEq] at hδ; subst hδ
  · obtain ⟨b, o', sz, m, k, hρ, hvv⟩ := hR.ptr_inv
    exact good_pure hI (run_nilCheck_ptr hvv) (by rw [← hvv]; exact hR) rfl rfl
  · obtain ⟨b, o', sz, m, k, hρ, hin, hvv⟩ := hR.eptr_inv
    exact good_pure hI (run_nilCheck_ptr hvv) (by rw [← hvv]; exact hR) rfl rfl
  · obtain ⟨b, o, u, hM, hb, hc, hr, hvv⟩ := hR.imm_inv
    exact good_pure hI (run_nilCheck_ptr hvv) (by rw [← hvv]; exact hR) rfl rfl
  · obtain ⟨c, hvv, hr⟩ := hR.fn_inv
    exact good_pure hI (run_nilCheck_fn hvv) (by rw [← hvv]; exact hR) rfl rfl
end Go.PG
end
section
/- Pure Go: each operation does in the machine what the evaluator says. Part 4: append. -/
set_option linter.unusedSimpArgs false
set_option linter.unusedVariables false
namespace Go.PG
open Go
variable {P : Program} {w : World} {dst : Option Tmp} {ty : TypeId} {pos : String} {af : Array Edge} {g : Option (Nat × Bool)}
variable {ρ : Nat → Loc} {X : Nat → Prop} {hp : Nat → Ob} {G : Nat → Option Obj} {nid : Nat} {a : Act} {e : List (Nat × V)} {δ : Dl} {M : Nat → Prop} {call : CallT}

theorem RD.one {v : Value} {x : D} (h : RD M w v x) : v.oneCell' = true := by cases h <;> rfl
theorem divmod {sz i j : Nat} (h : j < sz) : (i * sz + j) / sz = i ∧ (i * sz + j) % sz = j := by
  have h0 : 0 < sz := by omega
  constructor
  · rw [Nat.add_comm, Nat.add_mul_div_right _ _ h0, Nat.div_eq_of_lt h, Nat.zero_add]
  · rw [Nat.add_comm, Nat.add_mul_mod_self_right, Nat.mod_eq_of_lt h]
/-- What is read from: its length and its cells, in this world and in those that read alike. -/
theorem elems_R (hI : Inv G ρ X w hp) {v : Value} {x : V} {sz : Nat} {ys : List (List D)} {f : List Nat} (h0 : 0 < sz) (h : R ρ (Mut ρ X hp) w v x) (hd : elems hp sz x = some (ys, f)) :
    ∃ news : List Value, (∀ w', (Builtin.lenOf v).run P w' = .ok ys.length w') ∧
      (∀ w'' : World, (∀ ad, w''.cell? ad = w.cell? ad) → ∀ m, m ≤ ys.length → (Builtin.firstCells sz m v).run P w'' = .ok (news.take (m * sz)).toArray w'') ∧
      news.length = ys.length * sz ∧ (∀ u ∈ news, u.oneCell' = true) ∧ RE (Mut ρ X hp) w sz news 0 ys := by
  have empty : ∀ (ad : Option Addr) (c : Nat), v = .slice ad 0 c → ys = [] → ∃ news : List Value, (∀ w', (Builtin.lenOf v).run P w' = .ok ys.length w') ∧
      (∀ w'' : World, (∀ ad, w''.cell? ad = w.cell? ad) → ∀ m, m ≤ ys.length → (Builtin.firstCells sz m v).run P w'' = .ok (news.take (m * sz)).toArray w'') ∧
      news.length = ys.length * sz ∧ (∀ u ∈ news, u.oneCell' = true) ∧ RE (Mut ρ X hp) w sz news 0 ys := by
    rintro ad c rfl rfl
    refine ⟨[], fun _ => rfl, fun w'' hw m hm => ?_, by simp, by simp, by simp [RE]⟩
    simp at hm; subst hm
    cases ad with
    | none => simp [Builtin.firstCells, pure, Sem.run]
    | some ad => simp [Builtin.firstCells, loadCells, loadCellsFrom, pure, Sem.run]
  unfold elems at hd
  split at hd
  · rename_i es
    split at hd
    case isFalse => contradiction
    rename_i hall
    simp only [Option.some.injEq, Prod.mk.injEq] at hd; obtain ⟨rfl, rfl⟩ := hd
    rcases h.d_inv.sl_inv with ⟨rfl, ad, c, rfl⟩ | ⟨b, o, c, sz', u, rfl, hM, hb, hn, hcap, hz, hc, hr⟩
    · exact empty ad c rfl rfl
    · have hsz : sz' = sz := by
        have h1 := hz es[0] (List.getElem_mem hn)
        have h2 := List.all_eq_true.1 hall es[0] (List.getElem_mem hn)
        simp at h2; omega
      subst hsz
      have key : ∀ k, k < es.length * sz' → ∃ e x, es[k / sz']? = some e ∧ e[k % sz']? = some x := by
        intro k hk
        have h1 : k / sz' < es.length := (Nat.div_lt_iff_lt_mul h0).2 hk
        have h2 : k % sz' < (es[k / sz']).length := by rw [hz _ (List.getElem_mem h1)]; exact Nat.mod_lt _ h0
        exact ⟨es[k / sz'], es[k / sz'][k % sz'], by simp [h1], by simp [h2]⟩
      refine ⟨(List.range (es.length * sz')).map fun k => u (k / sz') (k % sz'), fun _ => rfl, fun w'' hw m hm => ?_, by simp, fun v hv => ?_, fun e he => hz e he, fun i j e x e1 e2 => ?_⟩
      · have hle : m * sz' ≤ es.length * sz' := Nat.mul_le_mul_right _ hm
        refine run_firstCells_some w'' sz' m ⟨b, o, none⟩ es.length c _ (by rw [List.length_take, List.length_map, List.length_range]; omega) fun j v' hj => ?_
        have hj' : j < m * sz' := by have := (List.getElem?_eq_some_iff.1 hj).1; rw [List.length_take] at this; omega
        rw [List.getElem?_take_of_lt hj', List.getElem?_map, List.getElem?_range (by omega)] at hj
        simp at hj; subst hj
        obtain ⟨e, x, k1, k2⟩ := key j (by omega)
        rw [add_none, hw, ← hc _ _ e x k1 k2]
        congr 2
        rw [show o + j / sz' * sz' + j % sz' = o + j from by have := Nat.div_add_mod j sz'; rw [Nat.mul_comm] at this; omega]
      · obtain ⟨k, hk, rfl⟩ := List.mem_map.1 hv
        obtain ⟨e, x, k1, k2⟩ := key k (by simpa using hk)
        exact (hr _ _ e x k1 k2).one
      · have hj : j < sz' := by have := (List.getElem?_eq_some_iff.1 e2).1; rw [hz e (List.mem_of_getElem? e1)] at this; exact this
        have hi := (List.getElem?_eq_some_iff.1 e1).1
        have hlt : i * sz' + j < es.length * sz' := by
          have : (i + 1) * sz' ≤ es.length * sz' := Nat.mul_le_mul_right _ hi
          rw [Nat.add_mul] at this; omega
        obtain ⟨d1, d2⟩ := divmod (i := i) hj
        refine ⟨u i j, ?_, hr i j e x e1 e2⟩
        rw [Nat.zero_add, List.getElem?_map, List.getElem?_range hlt]
        simp [d1, d2]
  · rename_i s
    split at hd
    case isFalse => contradiction
    rename_i hs1; subst hs1
    simp only [Option.some.injEq, Prod.mk.injEq] at hd; obtain ⟨rfl, rfl⟩ := hd
    obtain ⟨t, rfl, rfl⟩ := h.str_inv
    have hlen : t.data.toList.length = t.size := Array.length_toList
    refine ⟨t.data.toList.map fun b => .int .u8 b.toNat, fun w' => by simp [Builtin.lenOf, pure, Sem.run, hlen], fun w'' hw m hm => ?_, by simp, fun u hu => ?_, fun e he => ?_, fun i j e x e1 e2 => ?_⟩
    · simp [Builtin.firstCells, pure, Sem.run]
      apply Array.ext'
      simp [List.map_take]
    · obtain ⟨b, _, rfl⟩ := List.mem_map.1 hu; rfl
    · obtain ⟨b, _, rfl⟩ := List.mem_map.1 he; rfl
    · rw [List.getElem?_map] at e1
      cases hb : t.data.toList[i]? with
      | none => rw [hb] at e1; cases e1
      | some b =>
        rw [hb] at e1; simp at e1; subst e1
        have hj : j = 0 := by have := (List.getElem?_eq_some_iff.1 e2).1; simpa using this
        subst hj; simp at e2; subst e2
        exact ⟨.int .u8 b.toNat, by rw [List.getElem?_map, show 0 + i * 1 + 0 = i from by omega, hb]; rfl, .int _ _⟩
  · simp only [Option.some.injEq, Prod.mk.injEq] at hd; obtain ⟨rfl, rfl⟩ := hd
    obtain ⟨ad, rfl⟩ := h.nil_inv
    exact empty ad 0 rfl rfl
  · rename_i id sz' off len
    split at hd
    case h_2 => contradiction
    rename_i sz'' es hob
    split at hd
    case isFalse => contradiction
    rename_i hc
    obtain ⟨rfl, rfl, hlen⟩ := hc
    simp only [Option.some.injEq, Prod.mk.injEq] at hd; obtain ⟨rfl, rfl⟩ := hd
    have hO := hI.obj id
    rw [hob] at hO
    obtain ⟨_, hO⟩ := hO
    have hlT : ((es.drop off).take len).length = len := by simp; omega
    rcases h.vec_inv with ⟨b, o, n, k, c, ad, hρ, h1, h2, h3, h4, rfl⟩ | ⟨hρ, rfl, rfl, ad, rfl⟩
    case inr => exact empty ad 0 rfl (by simp)
    by_cases hl0 : len = 0
    · subst hl0; exact empty ad c rfl (by simp)
    rcases hO with ⟨rfl, _⟩ | ⟨b', o', c', hρ', hb, hfit, hz', hcell⟩
    · simp at hlen; omega
    rw [hρ] at hρ'; cases hρ'
    rcases h4 with rfl | rfl
    case inr => omega
    have hmul : (off + len) * sz'' ≤ es.length * sz'' := Nat.mul_le_mul_right _ hlen
    rw [Nat.add_mul] at hmul
    have hcl : c'.toList.length = c'.size := Array.length_toList
    have hnl : ((c'.toList.drop (o + off * sz'')).take (len * sz'')).length = len * sz'' := by rw [List.length_take, List.length_drop]; omega
    have key : ∀ i j e x, ((es.drop off).take len)[i]? = some e → e[j]? = some x → ∃ u, ((c'.toList.drop (o + off * sz'')).take (len * sz''))[i * sz'' + j]? = some u ∧ RD (Mut ρ X hp) w u x := by
      intro i j e x e1 e2
      have hi : i < len := by have := (List.getElem?_eq_some_iff.1 e1).1; omega
      rw [List.getElem?_take_of_lt hi, List.getElem?_drop] at e1
      have hj : j < sz'' := by have := (List.getElem?_eq_some_iff.1 e2).1; rw [hz' e (List.mem_of_getElem? e1)] at this; exact this
      obtain ⟨u, hu, hr⟩ := hcell (off + i) j e x e1 e2
      have hlt : i * sz'' + j < len * sz'' := by
        have : (i + 1) * sz'' ≤ len * sz'' := Nat.mul_le_mul_right _ hi
        rw [Nat.add_mul] at this; omega
      refine ⟨u, ?_, hr⟩
      rw [List.getElem?_take_of_lt hlt, List.getElem?_drop, Array.getElem?_toList, ← hu]
      congr 1; rw [Nat.add_mul]; omega
    have hze : ∀ e ∈ (es.drop off).take len, e.length = sz'' := fun e he => hz' e (List.mem_of_mem_drop (List.mem_of_mem_take he))
    refine ⟨(c'.toList.drop (o + off * sz'')).take (len * sz''), fun w' => by simp [Builtin.lenOf, pure, Sem.run, hlT], fun w'' hw m hm => ?_, by rw [hnl, hlT], fun u hu => ?_, hze, fun i j e x e1 e2 => by simpa using key i j e x e1 e2⟩
    · rw [hlT] at hm
      have hle : m * sz'' ≤ len * sz'' := Nat.mul_le_mul_right _ hm
      refine run_firstCells_some w'' sz'' m ⟨b, o + off * sz'', none⟩ len c _ (by rw [List.length_take, hnl]; omega) fun j v' hj => ?_
      have hj' : j < m * sz'' := by have := (List.getElem?_eq_some_iff.1 hj).1; rw [List.length_take, hnl] at this; omega
      rw [List.getElem?_take_of_lt hj', List.getElem?_take_of_lt (by omega), List.getElem?_drop, Array.getElem?_toList] at hj
      rw [add_none, hw, cell_block hb]; exact hj
    · obtain ⟨k', hk', rfl⟩ := List.getElem_of_mem hu
      rw [hnl] at hk'
      have hi : k' / sz'' < len := (Nat.div_lt_iff_lt_mul h0).2 hk'
      have hi' : k' / sz'' < ((es.drop off).take len).length := by omega
      have hj : k' % sz'' < (((es.drop off).take len)[k' / sz'']).length := by rw [hze _ (List.getElem_mem hi')]; exact Nat.mod_lt _ h0
      obtain ⟨u, hu', hr⟩ := key (k' / sz'') (k' % sz'') _ _ (List.getElem?_eq_getElem hi') (List.getElem?_eq_getElem hj)
      have hdm := Nat.div_add_mod k' sz''
      rw [Nat.mul_comm] at hdm
      rw [hdm, List.getElem?_eq_getElem (by omega)] at hu'
      injection hu' with hu'
      rw [hu']; exact hr.one
  · contradiction

/-- THERE IS ROOM, and where it is written is known. -/
theorem run_app_room {t tx ty' el : TypeId} {i : TypeInfo} (ht : P.underlying t = some (.slice el)) (hk : (∃ e', P.underlying tx = some (.slice e')) ∨ P.underlying tx = some .string) (hi : P.info? el = some i) {b o sLen sCap n : Nat} {x : Value} {news : List Value} {cur : Array Value} {te : TypeId}
    (hlen : ∀ w', (Builtin.lenOf x).run P w' = .ok n w') (hcells : (Builtin.firstCells i.size n x).run P w = .ok news.toArray w) (h1 : ∀ u ∈ news, u.oneCell' = true) (hroom : sLen + n ≤ sCap)
    (hb : w.heap[b]? = some (.cells cur te (0, 0))) (hfit : o + sLen * i.size + news.length ≤ cur.size) :
    (Builtin.append_ #[t, tx] ty' #[.slice (some ⟨b, o, none⟩) sLen sCap, x]).run P w = .ok (.slice (some ⟨b, o, none⟩) (sLen + n) sCap) (w.setRow b (splice cur.toList (o + sLen * i.size) news).toArray) := by
  have hst := run_storeCells_at (P := P) b (o + sLen * i.size) te news 0 cur w hb (by omega) h1
  simp only [Nat.add_zero] at hst
  have e1 : (cur.toList.take (o + sLen * i.size) ++ news ++ cur.toList.drop (o + sLen * i.size + news.length)) = splice cur.toList (o + sLen * i.size) news := by simp [splice, List.append_assoc]
  rw [e1] at hst
  rcases hk with ⟨e', hk⟩ | hk <;> simp [Builtin.append_, Sem.run_bind', run_underlying ht, run_underlying hk, run_sizeOf hi, hlen, hroom, hcells, add_none, hst, Result.andThen, bind, pure, Sem.run, Sem.bind]
/-- Nothing is appended to what has no room. -/
theorem run_app_none {t tx ty' el : TypeId} {i : TypeInfo} (ht : P.underlying t = some (.slice el)) (hk : (∃ e', P.underlying tx = some (.slice e')) ∨ P.underlying tx = some .string) (hi : P.info? el = some i) {base : Option Addr} {sLen sCap : Nat} (hle : sLen ≤ sCap) {x : Value}
    (hlen : ∀ w', (Builtin.lenOf x).run P w' = .ok 0 w') (hcells : (Builtin.firstCells i.size 0 x).run P w = .ok #[] w) :
    (Builtin.append_ #[t, tx] ty' #[.slice base sLen sCap, x]).run P w = .ok (.slice base sLen sCap) w := by
  rcases hk with ⟨e', hk⟩ | hk <;> cases base <;> simp [Builtin.append_, Sem.run_bind', run_underlying ht, run_underlying hk, run_sizeOf hi, hlen, hle, hcells, storeCells, Result.andThen, bind, pure, Sem.run, Sem.bind]
/-- THERE IS NONE: a new row. -/
theorem run_app_grow {t tx ty' el : TypeId} {i : TypeInfo} {z : Value} (ht : P.underlying t = some (.slice el)) (hk : (∃ e', P.underlying tx = some (.slice e')) ∨ P.underlying tx = some .string) (hi : P.info? el = some i) (hz : i.zero = some z) {base : Option Addr} {sLen sCap n : Nat} {olds news : List Value} {x : Value}
    (hold : (Builtin.firstCells i.size sLen (.slice base sLen sCap)).run P w.drew = .ok olds.toArray w.drew) (hlen : ∀ w', (Builtin.lenOf x).run P w' = .ok n w') (hcells : (Builtin.firstCells i.size n x).run P w.drew = .ok news.toArray w.drew)
    (hg : sCap < sLen + n) (hb : (sLen + n) * i.bytes ≤ room) (hb0 : 0 < i.bytes) :
    ∃ cap, sLen + n ≤ cap ∧ (Builtin.append_ #[t, tx] ty' #[.slice base sLen sCap, x]).run P w = .ok (.slice (some ⟨w.heap.size, 0, none⟩) (sLen + n) cap)
        (w.drew.alloc (.cells ((olds ++ news).toArray ++ Builtin.zeroCells z.cells (cap - (sLen + n))) el)) := by
  have h63 : (sLen + n) ≤ room := Nat.le_trans (Nat.le_mul_of_pos_right _ hb0) hb
  have hfit := growslice_fits hg hb
  unfold room at h63
  have hn : ¬ (sLen + n ≤ sCap) := by omega
  have h63' : ¬ (9223372036854775807 < ((sLen : Int) + (n : Int))) := by omega
  have h48' : ¬ (281474976710656 < Builtin.nextslicecap (sLen + n) sCap * i.bytes) := by omega
  have e : ∀ Z : Array Value, (olds ++ news).toArray ++ Z = olds.toArray ++ (news.toArray ++ Z) := fun Z => by apply Array.ext'; simp
  refine ⟨grownCap w (sLen + n) sCap el, grownCap_ge _ _ _ _, ?_⟩
  rcases hk with ⟨e', hk⟩ | hk <;>
    (simp [Builtin.append_, Sem.run_bind', run_underlying ht, run_underlying hk, run_sizeOf hi, run_typeInfo hi, run_zeroValue hi hz, hlen, hn, h63', h48', IntKind.max, IntKind.bits, IntKind.signed, choose, Question.forced, hcells, hold, newRow, newObj, askRoom, mark, grownCap, Result.andThen, bind, pure, Sem.run, Sem.bind]
     rw [e]; rfl)
end Go.PG
end
section
/- Pure Go: each operation does in the machine what the evaluator says. Part 5: append, its sides. -/
set_option linter.unusedSimpArgs false
set_option linter.unusedVariables false
namespace Go.PG
open Go
variable {P : Program} {w : World} {dst : Option Tmp} {ty : TypeId} {pos : String} {af : Array Edge} {g : Option (Nat × Bool)}
variable {ρ : Nat → Loc} {X : Nat → Prop} {hp : Nat → Ob} {G : Nat → Option Obj} {nid : Nat} {a : Act} {e : List (Nat × V)} {δ : Dl} {M : Nat → Prop} {call : CallT}

theorem Later.same {w w' : World} (M : Nat → Prop) (h : w'.heap = w.heap) : Later M w w' := ⟨by rw [h]; exact Nat.le_refl _, fun _ _ _ => by rw [h]⟩
theorem Inv.drew (hI : Inv G ρ X w hp) : Inv G ρ X w.drew hp :=
  ⟨fun id => (hI.obj id).later (Later.same (w := w) (w' := w.drew) _ rfl) (fun _ _ h => h) (fun _ _ => rfl) (fun _ _ _ => rfl), hI.inj, hI.lt, hI.xlt, hI.dis, hI.glob⟩
theorem Fr.of_drew {ρ' : Nat → Loc} {hp' : Nat → Ob} {w' : World} (h : Fr X ρ ρ' hp hp' nid w.drew w') : Fr X ρ ρ' hp hp' nid w w' := ⟨h.os, h.tape, h.output, h.size, h.keep, h.ext, h.mu⟩
theorem RE.later {M' : Nat → Prop} {w' : World} {sz o : Nat} {c : List Value} {es : List (List D)} (hl : Later M w w') (hm : ∀ b, b < w.heap.size → M' b → M b) (h : RE M w sz c o es) : RE M' w' sz c o es :=
  ⟨h.1, fun i j e x e1 e2 => by obtain ⟨u, hu, hr⟩ := h.2 i j e x e1 e2; exact ⟨u, hu, hr.later hl hm⟩⟩
theorem RE.append {sz : Nat} {c d : List Value} {es ys : List (List D)} (h : RE M w sz c 0 es) (hl : c.length = es.length * sz) (k : RE M w sz d 0 ys) : RE M w sz (c ++ d) 0 (es ++ ys) := by
  refine ⟨fun e he => ?_, fun i j e x e1 e2 => ?_⟩
  · rcases List.mem_append.1 he with he | he
    · exact h.1 e he
    · exact k.1 e he
  · by_cases hi : i < es.length
    · rw [List.getElem?_append_left hi] at e1
      obtain ⟨u, hu, hr⟩ := h.2 i j e x e1 e2
      exact ⟨u, by rw [List.getElem?_append_left (List.getElem?_eq_some_iff.1 hu).1]; exact hu, hr⟩
    · rw [List.getElem?_append_right (by omega)] at e1
      obtain ⟨u, hu, hr⟩ := k.2 (i - es.length) j e x e1 e2
      refine ⟨u, ?_, hr⟩
      have hge : es.length * sz ≤ i * sz := Nat.mul_le_mul_right _ (by omega)
      rw [List.getElem?_append_right (by omega), ← hu]
      congr 1
      rw [Nat.sub_mul]; omega
theorem RE.drop {sz o : Nat} {c : List Value} {es : List (List D)} (h : RE M w sz c o es) (off : Nat) : RE M w sz c (o + off * sz) (es.drop off) := by
  refine ⟨fun e he => h.1 e (List.mem_of_mem_drop he), fun i j e x e1 e2 => ?_⟩
  rw [List.getElem?_drop] at e1
  obtain ⟨u, hu, hr⟩ := h.2 (off + i) j e x e1 e2
  exact ⟨u, by rw [← hu]; congr 1; rw [Nat.add_mul]; omega, hr⟩
/-- Elements written over, one behind the other. -/
theorem RE.splice {sz o : Nat} {c d : List Value} {es ys : List (List D)} (h : RE M w sz c o es) (k : RE M w sz d 0 ys) (hd : d.length = ys.length * sz) (at_ : Nat) (hfit : at_ + ys.length ≤ es.length) (hc : o + es.length * sz ≤ c.length) :
    RE M w sz (PG.splice c (o + at_ * sz) d) o (PG.splice es at_ ys) := by
  have hm : (at_ + ys.length) * sz ≤ es.length * sz := Nat.mul_le_mul_right _ hfit
  rw [Nat.add_mul] at hm
  refine ⟨fun e he => ?_, fun i j e x e1 e2 => ?_⟩
  · simp only [PG.splice, List.mem_append] at he
    rcases he with he | he | he
    · exact h.1 e (List.mem_of_mem_take he)
    · exact k.1 e he
    · exact h.1 e (List.mem_of_mem_drop he)
  · rw [splice_get hfit] at e1
    rw [splice_get (by omega)]
    by_cases hi : at_ ≤ i ∧ i < at_ + ys.length
    · rw [if_pos hi] at e1
      obtain ⟨u, hu, hr⟩ := k.2 (i - at_) j e x e1 e2
      have hlt := (List.getElem?_eq_some_iff.1 hu).1
      have hge : at_ * sz ≤ i * sz := Nat.mul_le_mul_right _ hi.1
      rw [Nat.sub_mul] at hlt hu
      refine ⟨u, ?_, hr⟩
      rw [if_pos (by omega), ← hu]
      congr 1; omega
    · rw [if_neg hi] at e1
      obtain ⟨u, hu, hr⟩ := h.2 i j e x e1 e2
      have hj : j < sz := by have := (List.getElem?_eq_some_iff.1 e2).1; rw [h.1 e (List.mem_of_getElem? e1)] at this; exact this
      refine ⟨u, ?_, hr⟩
      rw [if_neg, hu]
      rintro ⟨n1, n2⟩
      by_cases hlt : i < at_
      · have : (i + 1) * sz ≤ at_ * sz := Nat.mul_le_mul_right _ hlt
        rw [Nat.add_mul] at this; omega
      · have : (at_ + ys.length) * sz ≤ i * sz := Nat.mul_le_mul_right _ (by omega)
        rw [Nat.add_mul] at this; omega
/-- Elements put behind the last. -/
theorem RE.behind {sz o : Nat} {c d : List Value} {es ys : List (List D)} (h : RE M w sz c o es) (k : RE M w sz d 0 ys) (hd : d.length = ys.length * sz) (hfit : o + es.length * sz + ys.length * sz ≤ c.length) :
    RE M w sz (PG.splice c (o + es.length * sz) d) o (es ++ ys) := by
  refine ⟨fun e he => ?_, fun i j e x e1 e2 => ?_⟩
  · rcases List.mem_append.1 he with he | he
    · exact h.1 e he
    · exact k.1 e he
  · rw [splice_get (by omega)]
    by_cases hi : i < es.length
    · rw [List.getElem?_append_left hi] at e1
      obtain ⟨u, hu, hr⟩ := h.2 i j e x e1 e2
      have hj : j < sz := by have := (List.getElem?_eq_some_iff.1 e2).1; rw [h.1 e (List.mem_of_getElem? e1)] at this; exact this
      have : (i + 1) * sz ≤ es.length * sz := Nat.mul_le_mul_right _ hi
      rw [Nat.add_mul] at this
      exact ⟨u, by rw [if_neg (by omega)]; exact hu, hr⟩
    · rw [List.getElem?_append_right (by omega)] at e1
      obtain ⟨u, hu, hr⟩ := k.2 (i - es.length) j e x e1 e2
      have hlt := (List.getElem?_eq_some_iff.1 hu).1
      have hge : es.length * sz ≤ i * sz := Nat.mul_le_mul_right _ (by omega)
      rw [Nat.sub_mul] at hlt hu
      exact ⟨u, by rw [if_pos (by omega), ← hu]; congr 1; omega, hr⟩
theorem OI.re {M : Nat → Prop} {id sz t : Nat} {es : List (List D)} (h : OI ρ M w id (.vec t sz es)) : 0 < sz ∧ ((es = [] ∧ ρ id = .virt) ∨ ∃ b o c, ρ id = .lies b o sz es.length c.size ∧ w.heap[b]? = some (.cells c t (0, 0)) ∧ o + es.length * sz ≤ c.size ∧ RE M w sz c.toList o es) := by
  obtain ⟨h0, h | ⟨b, o, c, h1, h2, h3, h4, h5⟩⟩ := h
  · exact ⟨h0, .inl h⟩
  · exact ⟨h0, .inr ⟨b, o, c, h1, h2, h3, h4, fun i j e x e1 e2 => by simpa using h5 i j e x e1 e2⟩⟩
theorem OI.of_re {M : Nat → Prop} {id sz : Nat} {es : List (List D)} (h0 : 0 < sz) {b o : Nat} {c : Array Value} {t : TypeId} (h1 : ρ id = .lies b o sz es.length c.size) (h2 : w.heap[b]? = some (.cells c t (0, 0))) (h3 : o + es.length * sz ≤ c.size) (h4 : RE M w sz c.toList o es) :
    OI ρ M w id (.vec t sz es) := ⟨h0, .inr ⟨b, o, c, h1, h2, h3, h4.1, fun i j e x e1 e2 => by simpa using h4.2 i j e x e1 e2⟩⟩
theorem OI.virt {M : Nat → Prop} {id sz t : Nat} (h0 : 0 < sz) (h : ρ id = .virt) : OI ρ M w id (.vec t sz []) := ⟨h0, .inl ⟨rfl, h⟩⟩

/-- A fresh row of elements: the new object. -/
theorem good_row {o : Oper} {x : V} {sz cap : Nat} {ks : List Nat} {es : List (List D)} {c : Array Value} {t : TypeId} {w1 : World} (hw1 : w1 = w ∨ w1 = w.drew) (hI : Inv G ρ X w hp) (hn : ρ nid = .no) (h0 : 0 < sz) (hks : ∀ k ∈ ks, live (hp k) = true)
    (hr : (execOp a.eval o).run P w = .ok (.value (.slice (some ⟨w.heap.size, 0, none⟩) es.length cap)) (w1.alloc (.cells c t))) (hcap : es.length ≤ cap) (hc : c.size = cap * sz)
    (hE : RE (Mut ρ X (killF hp ks)) w sz c.toList 0 es) (hx : x = .vec nid sz 0 es.length) (hδ : δ.val = x) (hu : hup hp δ.upd = upd1 (killF hp ks) nid (.vec t sz es)) : Good P G X ρ hp nid w a.eval o δ := by
  have hh1 : w1.heap = w.heap := by rcases hw1 with rfl | rfl <;> rfl
  have hI1 : Inv G ρ X w1 (killF hp ks) := by
    rcases hw1 with rfl | rfl
    · exact hI.kill ks
    · exact (hI.kill ks).drew
  have hF0 : Fr X ρ ρ hp (killF hp ks) nid w w1 := by
    rcases hw1 with rfl | rfl
    · exact Fr.kill X ρ hp ks nid _
    · exact (Fr.kill X ρ hp ks nid w.drew).of_drew
  have hmul : es.length * sz ≤ cap * sz := Nat.mul_le_mul_right _ hcap
  have hsz1 : w1.heap.size = w.heap.size := by rw [hh1]
  let L : Loc := .lies w1.heap.size 0 sz es.length c.size
  have hmut : ∀ b, b < w1.heap.size → Mut (upd1 ρ nid L) X (upd1 (killF hp ks) nid (.vec t sz es)) b → Mut ρ X (killF hp ks) b := by
    intro b hb h
    rcases h with h | ⟨i, h1, h2⟩
    · exact .inl h
    · by_cases hi : i = nid
      · subst hi; rw [upd1_same] at h2; injection h2 with h2; omega
      · rw [upd1_other _ _ hi] at h1 h2; exact .inr ⟨i, h1, h2⟩
  have hE1 : RE (Mut (upd1 ρ nid L) X (upd1 (killF hp ks) nid (.vec t sz es))) (w1.alloc (.cells c t)) sz c.toList 0 es :=
    (hE.later (Later.same (Mut ρ X (killF hp ks)) hh1) (M' := Mut ρ X (killF hp ks)) (fun _ _ h => h)).later ⟨by simp, fun b hb _ => pg_old w1 _ b hb⟩ hmut
  obtain ⟨hI2, hF2⟩ := hI1.alloc hn (.cells c t) L rfl (.vec t sz es) (OI.of_re h0 (upd1_same _ _ _) (pg_new w1 _) (by omega) hE1)
  refine ⟨_, _, _, .inl hr, ?_, by rw [hu]; exact hI2, by rw [hu]; exact hF0.next hI1 hF2⟩
  rw [hδ, hx, hu]
  have := R.vec (M := Mut (upd1 ρ nid L) X (upd1 (killF hp ks) nid (.vec t sz es))) (w := w1.alloc (.cells c t)) (id := nid) 0 es.length cap (some ⟨w1.heap.size, 0 + 0 * sz, none⟩) (upd1_same ρ nid L) (by omega) (by omega) (by rw [Nat.zero_add, Nat.zero_add, hc]; exact Nat.le_refl _) (.inl rfl)
  rw [hsz1, show 0 + 0 * sz = 0 from by omega] at this
  exact this

/-- Nothing is handed over: the new object lies nowhere yet. -/
theorem good_row0 {o : Oper} {x : V} {sz tv : Nat} {ks : List Nat} {ad : Option Addr} (hI : Inv G ρ X w hp) (hn : ρ nid = .no) (h0 : 0 < sz)
    (hr : (execOp a.eval o).run P w = .ok (.value (.slice ad 0 0)) w) (hx : x = .vec nid sz 0 0) (hδ : δ.val = x) (hu : hup hp δ.upd = upd1 (killF hp ks) nid (.vec tv sz [])) : Good P G X ρ hp nid w a.eval o δ := by
  have hI1 := hI.kill ks
  obtain ⟨hI2, hF2⟩ := hI1.virt hn h0
  refine ⟨_, _, _, .inl hr, ?_, by rw [hu]; exact hI2, by rw [hu]; exact (Fr.kill X ρ hp ks nid w).next hI1 hF2⟩
  rw [hδ, hx]
  exact .vecv sz ad (upd1_same _ _ _)
theorem run_app {t u : TypeId} {s x : Operand} {v : Value} {w' : World} (h : (Builtin.append_ #[t, u] ty #[a.eval s, a.eval x]).run P w = .ok v w') :
    (execOp a.eval ⟨dst, .call { callee := .builtin .append, args := #[s, x], argTypes := #[t, u] }, ty, pos, af, g⟩).run P w = .ok (.value v) w' := by
  simp [execOp, resolve, invoke, builtin, bind, pure, Sem.run_bind', h, Result.andThen, Sem.run, Sem.bind]
theorem zeroCells_spec {el : TypeId} {z : List Value} (h : zeroCells P el = some z) : ∃ i zv, P.info? el = some i ∧ i.zero = some zv ∧ zv.cells.toList = z := by
  unfold zeroCells at h
  cases hi : P.info? el with
  | none => rw [hi] at h; cases h
  | some i =>
    cases hz : i.zero with
    | none => rw [hi] at h; simp [hz] at h
    | some zv => rw [hi] at h; simp [hz] at h; exact ⟨i, zv, rfl, hz, h⟩
theorem RE.kill {sz o : Nat} {c : List Value} {es : List (List D)} (h : RE (Mut ρ X hp) w sz c o es) (ks : List Nat) : RE (Mut ρ X (killF hp ks)) w sz c o es := h.later (Later.refl _ w) (fun _ _ h => mut_kill h)
theorem kill_nil : killF hp [] = hp := by funext i; simp [killF]
theorem RE.pre_of {sz : Nat} {c d : List Value} {es : List (List D)} (h : RE M w sz c 0 es) : RE M w sz (c ++ d) 0 es :=
  ⟨h.1, fun i j e x e1 e2 => by obtain ⟨u, hu, hr⟩ := h.2 i j e x e1 e2; exact ⟨u, by rw [List.getElem?_append_left (List.getElem?_eq_some_iff.1 hu).1]; exact hu, hr⟩⟩

theorem good_app {t u el : TypeId} {sz by' : Nat} {z : List Value} {s x : Operand} {s' x' : Go.PG.X} (hI : Inv G ρ X w hp) (hn : ρ nid = .no) (hs : SE ρ (Mut ρ X hp) w a e) (ht : elemT P t = some el) (hsz : sizeT P el = some sz) (hby : bytesT P el = some by')
    (hz : zeroCells P el = some z) (h0 : 0 < sz) (hb0 : 0 < by') (hzl : z.length = sz) (hk : (∃ e', P.underlying u = some (.slice e')) ∨ P.underlying u = some .string) (hx : toX s = some s') (hy : toX x = some x') (hδ : evalOp call e hp nid (.app el sz by' s' x') = some δ) :
    Good P G X ρ hp nid w a.eval ⟨dst, .call { callee := .builtin .append, args := #[s, x], argTypes := #[t, u] }, ty, pos, af, g⟩ δ := by
  have hu := elemT_spec ht
  obtain ⟨ti, zv, hti, hzz, rfl⟩ := zeroCells_spec hz
  obtain ⟨ti', hti', rfl⟩ := sizeT_spec hsz
  rw [hti] at hti'; cases hti'
  have hbi : ti.bytes = by' := by unfold bytesT at hby; rw [hti] at hby; simpa using hby
  subst hbi
  have hR := toX_R hs hx
  simp only [evalOp] at hδ
  cases hel : elems hp ti.size (x'.val e) with
  | none => rw [hel] at hδ; cases hδ
  | some q =>
  obtain ⟨ys, f⟩ := q
  rw [hel] at hδ; simp only [Option.bind_some] at hδ
  obtain ⟨news, n1, n2, n3, n4, n5⟩ := elems_R hI h0 (toX_R hs hy) hel
  have hnews : ∀ w'' : World, (∀ ad, w''.cell? ad = w.cell? ad) → (Builtin.firstCells ti.size ys.length (a.eval x)).run P w'' = .ok news.toArray w'' := fun w'' hw => by
    have := n2 w'' hw ys.length (Nat.le_refl _)
    rwa [← n3, List.take_length] at this
  have hzs : zv.cells.size = ti.size := by rw [← hzl]; exact (Array.length_toList).symm
  -- what grows, from known olds
  have grow : ∀ (ad : Option Addr) (len c : Nat) (olds : List Value) (es : List (List D)) (ks : List Nat), a.eval s = .slice ad len c → es.length = len → olds.length = len * ti.size → RE (Mut ρ X hp) w ti.size olds 0 es →
      (Builtin.firstCells ti.size len (.slice ad len c)).run P w.drew = .ok olds.toArray w.drew → c < len + ys.length → (len + ys.length) * ti.bytes ≤ room → (∀ k ∈ ks, live (hp k) = true) →
      δ.val = .vec nid ti.size 0 (len + ys.length) → hup hp δ.upd = upd1 (killF hp ks) nid (.vec el ti.size (es ++ ys)) →
      Good P G X ρ hp nid w a.eval ⟨dst, .call { callee := .builtin .append, args := #[s, x], argTypes := #[t, u] }, ty, pos, af, g⟩ δ := by
    intro ad len c olds es ks hv hes hol hre hold hlt hroom hks hval hup'
    obtain ⟨cap, hc1, hc2⟩ := run_app_grow (P := P) (w := w) (t := t) (tx := u) (ty' := ty) hu hk hti hzz hold n1 (hnews w.drew fun _ => rfl) hlt hroom hb0
    have hlen : (es ++ ys).length = len + ys.length := by simp [hes]
    refine good_row (w1 := w.drew) (t := el) (c := (olds ++ news).toArray ++ Builtin.zeroCells zv.cells (cap - (len + ys.length))) (.inr rfl) hI hn h0 hks (cap := cap) (es := es ++ ys) (run_app ?_) (by omega) ?_ ?_ rfl (by rw [hval, hlen]) hup'
    · rw [hv, hc2, hlen]
    · have hmul : (len + ys.length) * ti.size ≤ cap * ti.size := Nat.mul_le_mul_right _ hc1
      rw [Array.size_append, size_zeroCells, List.size_toArray, List.length_append, hol, n3, hzs, Nat.sub_mul]
      rw [Nat.add_mul] at *; omega
    · rw [Array.toList_append]
      exact ((hre.append (by rw [hol, hes]) n5).pre_of).kill ks
  split at hδ
  · rename_i hv
    rw [hv] at hR
    obtain ⟨ad, hvv⟩ := hR.nil_inv
    split at hδ
    case isFalse => contradiction
    rename_i hroom
    simp only [Option.some.injEq] at hδ; subst hδ
    by_cases hys : ys.length = 0
    · have hy0 : ys = [] := List.eq_nil_of_length_eq_zero hys
      subst hy0
      refine good_row0 (ad := ad) (ks := []) hI hn h0 (run_app ?_) rfl rfl (by rw [kill_nil]; rfl)
      rw [hvv]
      have hc := hnews w fun _ => rfl
      have hne : news = [] := by simpa using n3
      subst hne
      exact run_app_none hu hk hti (Nat.le_refl _) n1 (by simpa using hc)
    · refine grow ad 0 0 [] [] [] hvv rfl (by simp) (by simp [RE]) ?_ (by omega) (by rw [Nat.zero_add]; exact hroom) (by simp) (by rw [Nat.zero_add]) (by rw [kill_nil]; rfl)
      cases ad <;> simp [Builtin.firstCells, loadCells, loadCellsFrom, pure, Sem.run]
  · rename_i es hv
    split at hδ
    case isFalse => contradiction
    rename_i hemp
    simp only [Option.some.injEq] at hδ; subst hδ
    have hy0 : ys = [] := by simpa using hemp
    subst hy0
    rw [hv] at hR
    have hne : news = [] := by simpa using n3
    subst hne
    have hc := hnews w fun _ => rfl
    have hsl : ∃ ad n c, a.eval s = .slice ad n c ∧ n ≤ c := by
      rcases hR.d_inv.sl_inv with ⟨rfl, ad, c, hvv⟩ | ⟨b, o, c, sz', u', hvv, hM, hb, hn0, hcap, hz', hc', hr'⟩
      · exact ⟨ad, 0, c, hvv, by omega⟩
      · exact ⟨_, _, c, hvv, hcap⟩
    obtain ⟨ad, n, c, hvv, hle⟩ := hsl
    refine good_pure hI (run_app (v := .slice ad n c) ?_) (x := .d (.sl es)) (by rw [← hvv]; exact hR) rfl rfl
    rw [hvv]
    exact run_app_none hu hk hti hle n1 (by simpa using hc)
  · rename_i id sz' off len hv
    rw [hv] at hR
    split at hδ
    case h_2 => contradiction
    rename_i te sz'' es hob
    split at hδ
    case isFalse => contradiction
    rename_i hszs
    obtain ⟨rfl, rfl, hte⟩ := hszs
    have hte' := hte.symm
    subst hte'
    have hlive : live (hp id) = true := by rw [hob]; rfl
    have hne : id ≠ nid := hI.not_live_fresh hn hlive
    have hO := hI.obj id
    rw [hob] at hO
    obtain ⟨_, hO⟩ := hO.re
    split at hδ
    · rename_i hend
      split at hδ
      case isFalse => contradiction
      rename_i hroom
      simp only [Option.some.injEq] at hδ; subst hδ
      have hup' : hup hp [(nid, Ob.vec el ti.size (es.drop off ++ ys)), (id, Ob.dead)] = upd1 (killF hp [id]) nid (.vec el ti.size (es.drop off ++ ys)) := by
        show upd1 (upd1 hp nid _) id .dead = _
        funext i
        unfold upd1 killF
        by_cases h1 : i = id
        · subst h1; simp [hne]
        · by_cases h2 : i = nid
          · subst h2; simp [h1]
          · simp [h1, h2]
      have hes : (es.drop off).length = len := by rw [List.length_drop]; omega
      -- the old elements, read
      have hels : elems hp ti.size (.vec id ti.size off len) = some ((es.drop off).take len, [id]) := by
        simp only [elems, hob]; rw [if_pos ⟨trivial, trivial, by omega⟩]
      have htk : (es.drop off).take len = es.drop off := by rw [← hes, List.take_length]
      rw [htk] at hels
      obtain ⟨olds, o1, o2, o3, o4, o5⟩ := elems_R hI h0 hR hels
      rcases hR.vec_inv with ⟨b, o, n, k, c, ad, hρ, h1, h2, h3, h4, hvv⟩ | ⟨hρ, rfl, rfl, ad, hvv⟩
      · by_cases hfits : len + ys.length ≤ c
        · rcases h4 with rfl | rfl
          · -- in place
            rcases hO with ⟨rfl, hρ2⟩ | ⟨b', o', cur, hρ', hb, hfit, hre⟩
            · rw [hρ] at hρ2; cases hρ2
            rw [hρ] at hρ'; cases hρ'
            have hcl : cur.toList.length = cur.size := Array.length_toList
            have hmul : (len + ys.length) * ti.size ≤ c * ti.size := Nat.mul_le_mul_right _ hfits
            rw [Nat.add_mul] at hmul h3
            have hrun := run_app_room (P := P) (w := w) (t := t) (tx := u) (ty' := ty) hu hk hti (b := b) (o := o + off * ti.size) (sLen := len) (sCap := c) n1 (hnews w fun _ => rfl) n4 hfits hb (by rw [n3]; omega)
            have hblk : (ρ id).blk = some b := by rw [hρ]; rfl
            have hst : o + off * ti.size + len * ti.size = o + off * ti.size + (es.drop off).length * ti.size := by rw [hes]
            have hdl : cur.size = (splice cur.toList (o + off * ti.size + len * ti.size) news).length := by rw [splice_len (by rw [n3]; omega), hcl]
            have hsize : (w.setRow b (splice cur.toList (o + off * ti.size + len * ti.size) news).toArray).heap.size = w.heap.size := setRow_size
            have hmv := hI.move (w' := w.setRow b (splice cur.toList (o + off * ti.size + len * ti.size) news).toArray) hn hlive hblk setRow_size (fun b' hb' => setRow_other hb') rfl rfl rfl
              (.lies b (o + off * ti.size) ti.size (es.drop off ++ ys).length cur.size) rfl (.vec el ti.size (es.drop off ++ ys)) rfl ?_
            · obtain ⟨hI2, hF2⟩ := hmv
              refine ⟨_, _, upd1 ρ nid (.lies b (o + off * ti.size) ti.size (es.drop off ++ ys).length cur.size), .inl (run_app (by rw [hvv]; exact hrun)), ?_, ?_, ?_⟩
              · have hl : (es.drop off ++ ys).length = len + ys.length := by rw [List.length_append, hes]
                have := R.vec (M := Mut (upd1 ρ nid (.lies b (o + off * ti.size) ti.size (es.drop off ++ ys).length cur.size)) X (upd1 (upd1 hp id .dead) nid (.vec el ti.size (es.drop off ++ ys))))
                  (w := w.setRow b (splice cur.toList (o + off * ti.size + len * ti.size) news).toArray) (id := nid) (b := b) (o := o + off * ti.size) (sz := ti.size) (n := (es.drop off ++ ys).length) (k := cur.size) 0 (len + ys.length) c (some ⟨b, o + off * ti.size, none⟩) (upd1_same ρ nid _) (by omega) (by omega) (by rw [Nat.zero_add]; omega) (.inl (by rw [Nat.zero_mul, Nat.add_zero]))
                rw [hup']
                have e1 : killF hp [id] = upd1 hp id .dead := by funext i; unfold killF upd1; simp
                rw [e1]; exact this
              · rw [hup']
                have e1 : killF hp [id] = upd1 hp id .dead := by funext i; unfold killF upd1; simp
                rw [e1]; exact hI2
              · rw [hup']
                have e1 : killF hp [id] = upd1 hp id .dead := by funext i; unfold killF upd1; simp
                rw [e1]; exact hF2
            · intro hmut
              have hL : Later (Mut ρ X hp) w (w.setRow b (splice cur.toList (o + off * ti.size + len * ti.size) news).toArray) :=
                ⟨by rw [setRow_size]; exact Nat.le_refl _, fun b' _ hM => setRow_other fun e => hM (.inr ⟨id, hlive, e ▸ hblk⟩)⟩
              have hbh := (hre.drop off).behind n5 n3 (by rw [hes]; omega)
              rw [hes] at hbh
              refine OI.of_re (o := o + off * ti.size) h0 ?_ (setRow_same hb) ?_ ?_
              · rw [upd1_same]; congr 1
              · rw [List.size_toArray, ← hdl, List.length_append, hes, Nat.add_mul]; omega
              · have := hbh.later hL (fun b' _ h => (hmut b').1 h)
                simpa using this
          · -- no room, nothing new
            have hlen0 : len = 0 := by omega
            have hys : ys = [] := List.eq_nil_of_length_eq_zero (by omega)
            subst hlen0; subst hys
            have hd0 : es.drop off = [] := List.eq_nil_of_length_eq_zero hes
            have hne' : news = [] := by simpa using n3
            subst hne'
            have hc := hnews w fun _ => rfl
            rw [hd0] at hup'
            refine good_row0 (ad := ad) (ks := [id]) hI hn h0 (run_app ?_) rfl rfl (by simp only [hd0]; exact hup')
            rw [hvv]
            exact run_app_none hu hk hti (Nat.le_refl _) n1 (by simpa using hc)
        · have hold := o2 w.drew (fun _ => rfl) len (by omega)
          rw [show len * ti.size = olds.length from by rw [o3, hes], List.take_length, hvv] at hold
          exact grow ad len c olds (es.drop off) [id] hvv hes (by rw [o3, hes]) o5 hold (by omega) hroom (by simpa using hlive) rfl hup'
      · have hd0 : es.drop 0 = [] := List.eq_nil_of_length_eq_zero hes
        by_cases hys : ys.length = 0
        · have hy0 : ys = [] := List.eq_nil_of_length_eq_zero hys
          subst hy0
          have hne' : news = [] := by simpa using n3
          subst hne'
          have hc := hnews w fun _ => rfl
          rw [hd0] at hup'
          refine good_row0 (ad := ad) (ks := [id]) hI hn h0 (run_app ?_) rfl rfl (by simp only [hd0]; exact hup')
          rw [hvv]
          exact run_app_none hu hk hti (Nat.le_refl _) n1 (by simpa using hc)
        · have hold := o2 w.drew (fun _ => rfl) 0 (by omega)
          simp only [Nat.zero_mul, List.take_zero, hvv] at hold
          exact grow ad 0 0 [] (es.drop 0) [id] hvv hes (by simp) (by rw [hd0]; simp [RE]) hold (by omega) hroom (by simpa using hlive) rfl hup'
    · rename_i hend
      split at hδ
      case isFalse => contradiction
      rename_i hin
      simp only [Option.some.injEq] at hδ; subst hδ
      rcases hO with ⟨rfl, hρ2⟩ | ⟨b', o', cur, hρ', hb, hfit, hre⟩
      · simp at hin hend; omega
      rcases hR.vec_inv with ⟨b, o, n, k, c, ad, hρ, h1, h2, h3, h4, hvv⟩ | ⟨hρ, rfl, rfl, ad, hvv⟩
      case inr => rw [hρ] at hρ'; cases hρ'
      rw [hρ] at hρ'; cases hρ'
      have hfits : len + ys.length ≤ c := by omega
      rcases h4 with rfl | rfl
      case inr => omega
      have hcl : cur.toList.length = cur.size := Array.length_toList
      have hmul : (len + ys.length) * ti.size ≤ c * ti.size := Nat.mul_le_mul_right _ hfits
      rw [Nat.add_mul] at hmul h3
      have hrun := run_app_room (P := P) (w := w) (t := t) (tx := u) (ty' := ty) hu hk hti (b := b') (o := o' + off * ti.size) (sLen := len) (sCap := c) n1 (hnews w fun _ => rfl) n4 hfits hb (by rw [n3]; omega)
      have hblk : (ρ id).blk = some b' := by rw [hρ]; rfl
      have hat : o' + off * ti.size + len * ti.size = o' + (off + len) * ti.size := by rw [Nat.add_mul]; omega
      have hdl : cur.size = (splice cur.toList (o' + off * ti.size + len * ti.size) news).length := by rw [splice_len (by rw [n3]; omega), hcl]
      have hsl : (splice es (off + len) ys).length = es.length := splice_len (by omega)
      have hW := hI.write (w' := w.setRow b' (splice cur.toList (o' + off * ti.size + len * ti.size) news).toArray) hlive hblk setRow_size (fun b'' hb' => setRow_other hb') (.vec el ti.size (splice es (off + len) ys)) rfl ?_
      · refine ⟨_, _, ρ, .inl (run_app (by rw [hvv]; exact hrun)), ?_, hW, Fr.write X nid hlive hblk setRow_size (fun b'' hb' => setRow_other hb') rfl rfl rfl _⟩
        exact .vec off (len + ys.length) c _ hρ (by omega) h2 (by rw [Nat.add_mul]; omega) (.inl rfl)
      · have hL : Later (Mut ρ X hp) w (w.setRow b' (splice cur.toList (o' + off * ti.size + len * ti.size) news).toArray) :=
          ⟨by rw [setRow_size]; exact Nat.le_refl _, fun b'' _ hM => setRow_other fun e => hM (.inr ⟨id, hlive, e ▸ hblk⟩)⟩
        have hmu : ∀ b'', Mut ρ X (upd1 hp id (.vec el ti.size (splice es (off + len) ys))) b'' → Mut ρ X hp b'' := by
          rintro b'' (h | ⟨i, g1, g2⟩)
          · exact .inl h
          · by_cases hi : i = id
            · subst hi; exact .inr ⟨i, hlive, g2⟩
            · rw [upd1_other _ _ hi] at g1; exact .inr ⟨i, g1, g2⟩
        have hbh := (hre.splice n5 n3 (off + len) (by omega) (by omega)).later hL (fun b'' _ h => hmu b'' h)
        rw [← hat] at hbh
        refine OI.of_re h0 ?_ (setRow_same hb) ?_ (by simpa using hbh)
        · rw [hρ, hsl]; congr 1
        · rw [hsl, List.size_toArray, ← hdl]; exact hfit
  · contradiction
end Go.PG
end
section
/- Pure Go: each operation does in the machine what the evaluator says. Part 6: lengths, cuts, literals, makes, strings' rounds. -/
set_option linter.unusedSimpArgs false
set_option linter.unusedVariables false
namespace Go.PG
open Go
variable {P : Program} {w : World} {dst : Option Tmp} {ty : TypeId} {pos : String} {af : Array Edge} {g : Option (Nat × Bool)}
variable {ρ : Nat → Loc} {X : Nat → Prop} {hp : Nat → Ob} {G : Nat → Option Obj} {nid : Nat} {a : Act} {e : List (Nat × V)} {δ : Dl} {M : Nat → Prop} {call : CallT}

theorem run_lenMap {ev : Operand → Value} {t k el : TypeId} {x : Operand} {b : Nat} {me : Array MapEntry} {cl : Nat} (hs : P.underlying t = some (.map k el)) (hx : ev x = .map (some b)) (hb : w.heap[b]? = some (.map me cl)) :
    (execOp ev ⟨dst, .call { callee := .builtin .len, args := #[x], argTypes := #[t] }, ty, pos, af, g⟩).run P w = .ok (.value (.int .i64 me.size)) w := by
  simp [execOp, resolve, invoke, builtin, hx, Builtin.len_, goInt, getObj, hb, Sem.run_bind', run_underlying hs, Result.andThen, bind, pure, Sem.run, Sem.bind]
theorem run_lenMap0 {ev : Operand → Value} {t k el : TypeId} {x : Operand} (hs : P.underlying t = some (.map k el)) (hx : ev x = .map none) :
    (execOp ev ⟨dst, .call { callee := .builtin .len, args := #[x], argTypes := #[t] }, ty, pos, af, g⟩).run P w = .ok (.value (.int .i64 0)) w := by
  simp [execOp, resolve, invoke, builtin, hx, Builtin.len_, goInt, Sem.run_bind', run_underlying hs, Result.andThen, bind, pure, Sem.run, Sem.bind]
theorem good_len_str {t : TypeId} {x : Operand} {x' : Go.PG.X} (hI : Inv G ρ X w hp) (hs : SE ρ (Mut ρ X hp) w a e) (ht : P.underlying t = some .string) (hx : toX x = some x') (hδ : evalOp call e hp nid (.lenS x') = some δ) :
    Good P G X ρ hp nid w a.eval ⟨dst, .call { callee := .builtin .len, args := #[x], argTypes := #[t] }, ty, pos, af, g⟩ δ := by
  simp only [evalOp] at hδ
  split at hδ
  case h_2 => contradiction
  rename_i s hv
  simp only [pureD, Option.some.injEq] at hδ; subst hδ
  obtain ⟨t', h1, rfl⟩ := (hv ▸ toX_R hs hx).str_inv
  refine good_pure hI (run_lenStr ht h1) (.d ?_) rfl rfl
  rw [Array.length_toList]; exact .int _ _
theorem good_len_sl {t el : TypeId} {x : Operand} {x' : Go.PG.X} (hI : Inv G ρ X w hp) (hs : SE ρ (Mut ρ X hp) w a e) (ht : P.underlying t = some (.slice el)) (hx : toX x = some x') (hδ : evalOp call e hp nid (.lenL x') = some δ) :
    Good P G X ρ hp nid w a.eval ⟨dst, .call { callee := .builtin .len, args := #[x], argTypes := #[t] }, ty, pos, af, g⟩ δ := by
  have hR := toX_R hs hx
  simp only [evalOp] at hδ
  split at hδ
  · rename_i es hv
    rw [hv] at hR
    simp only [pureD, Option.some.injEq] at hδ; subst hδ
    rcases hR.d_inv.sl_inv with ⟨rfl, ad, c, hvv⟩ | ⟨b, o, c, sz, u, hvv, _⟩
    · exact good_pure hI (run_lenSlice ht hvv) (.d (.int _ _)) rfl rfl
    · exact good_pure hI (run_lenSlice ht hvv) (.d (.int _ _)) rfl rfl
  · rename_i hv
    rw [hv] at hR
    simp only [pureD, Option.some.injEq] at hδ; subst hδ
    obtain ⟨ad, hvv⟩ := hR.nil_inv
    exact good_pure hI (run_lenSlice ht hvv) (.d (.int _ _)) rfl rfl
  · rename_i id sz off n hv
    rw [hv] at hR
    simp only [pureD, Option.some.injEq] at hδ; subst hδ
    rcases hR.vec_inv with ⟨b, o, m, k, c, ad, hρ, h1, h2, h3, h4, hvv⟩ | ⟨hρ, rfl, rfl, ad, hvv⟩
    · exact good_pure hI (run_lenSlice ht hvv) (.d (.int _ _)) rfl rfl
    · exact good_pure hI (run_lenSlice ht hvv) (.d (.int _ _)) rfl rfl
  · contradiction
theorem good_len_map {t k el : TypeId} {x : Operand} {x' : Go.PG.X} (hI : Inv G ρ X w hp) (hs : SE ρ (Mut ρ X hp) w a e) (ht : P.underlying t = some (.map k el)) (hx : toX x = some x') (hδ : evalOp call e hp nid (.lenM x') = some δ) :
    Good P G X ρ hp nid w a.eval ⟨dst, .call { callee := .builtin .len, args := #[x], argTypes := #[t] }, ty, pos, af, g⟩ δ := by
  have hR := toX_R hs hx
  simp only [evalOp] at hδ
  split at hδ
  · rename_i hv
    rw [hv] at hR
    simp only [pureD, Option.some.injEq] at hδ; subst hδ
    exact good_pure hI (run_lenMap0 ht hR.nilm_inv) (.d (.int _ _)) rfl rfl
  · rename_i id hv
    rw [hv] at hR
    split at hδ
    case h_2 => contradiction
    rename_i es hob
    simp only [Option.some.injEq] at hδ; subst hδ
    have hO := hI.obj id
    rw [hob] at hO
    obtain ⟨b, me, cl, h1, h2, h3, h4⟩ := hO
    obtain ⟨b', o, sz, n, k', hρ, hvv⟩ := hR.map_inv
    rw [hρ] at h1; cases h1
    refine good_pure hI (run_lenMap ht hvv h2) ?_ rfl rfl
    rw [h3]; exact .d (.int _ _)
  · contradiction

/-! ### cuts -/
theorem bounds_spec {len l h : Nat} {lo hi : Option Go.PG.X} {lo' hi' : Option Operand} (hs : SE ρ M w a e) (hlo : optX lo' = some lo) (hhi : optX hi' = some hi) (hb : bounds e len lo hi = some (l, h)) :
    boundIs a.eval hi' len h ∧ boundIs a.eval lo' 0 l ∧ l ≤ h ∧ h ≤ len := by
  unfold bounds at hb
  have key : ∀ (o' : Option Operand) (o : Option Go.PG.X) (d n : Nat), optX o' = some o → bnd e d o = some n → boundIs a.eval o' d n := by
    intro o' o d n ho hn
    cases o' with
    | none => simp only [optX, Option.some.injEq] at ho; subst ho; simp only [bnd, Option.some.injEq] at hn; subst hn; rfl
    | some x =>
      simp only [optX] at ho
      cases hx : toX x with
      | none => rw [hx] at ho; cases ho
      | some y => rw [hx] at ho; simp at ho; subst ho; exact (toX_R hs hx).nat_inv hn
  cases h1 : bnd e len hi with
  | none => rw [h1] at hb; cases hb
  | some h' =>
  cases h2 : bnd e 0 lo with
  | none => rw [h1, h2] at hb; cases hb
  | some l' =>
  rw [h1, h2] at hb
  simp only [Option.bind_some] at hb
  split at hb
  case isFalse => contradiction
  rename_i hc
  simp only [Option.some.injEq, Prod.mk.injEq] at hb; obtain ⟨rfl, rfl⟩ := hb
  exact ⟨key _ _ _ _ hhi h1, key _ _ _ _ hlo h2, hc.1, hc.2⟩
theorem good_sstr {t : TypeId} {x : Operand} {x' : Go.PG.X} {lo hi : Option Go.PG.X} {lo' hi' : Option Operand} (hI : Inv G ρ X w hp) (hs : SE ρ (Mut ρ X hp) w a e) (ht : P.underlying t = some .string) (hx : toX x = some x') (hlo : optX lo' = some lo) (hhi : optX hi' = some hi)
    (hδ : evalOp call e hp nid (.sstr x' lo hi) = some δ) : Good P G X ρ hp nid w a.eval ⟨dst, .slice t x lo' hi' none, ty, pos, af, g⟩ δ := by
  simp only [evalOp] at hδ
  split at hδ
  case h_2 => contradiction
  rename_i s hv
  obtain ⟨t', h1, rfl⟩ := (hv ▸ toX_R hs hx).str_inv
  cases hb : bounds e t'.data.toList.length lo hi with
  | none => rw [hb] at hδ; cases hδ
  | some q =>
  obtain ⟨l, h⟩ := q
  rw [hb] at hδ; simp only [Option.bind_some, pureD, Option.some.injEq] at hδ; subst hδ
  obtain ⟨b1, b2, b3, b4⟩ := bounds_spec hs hlo hhi hb
  have hl : t'.data.toList.length = t'.size := Array.length_toList
  rw [hl] at b1 b4
  refine good_pure hI (run_slice_str ht h1 b1 b2 b3 b4) (.d ?_) rfl rfl
  have : (t'.extract l h).data.toList = (t'.data.toList.take h).drop l := by
    rw [ByteArray.data_extract, Array.toList_extract, List.extract, List.drop_take]
  rw [← this]; exact .str _
theorem good_slc {t el : TypeId} {sz : Nat} {x : Operand} {x' : Go.PG.X} {lo hi mx : Option Go.PG.X} {lo' hi' mx' : Option Operand} (hI : Inv G ρ X w hp) (hs : SE ρ (Mut ρ X hp) w a e) (ht : P.underlying t = some (.slice el)) (hz : sizeT P el = some sz) (hx : toX x = some x') (hlo : optX lo' = some lo) (hhi : optX hi' = some hi) (hmx : optX mx' = some mx)
    (hδ : evalOp call e hp nid (.slc sz x' lo hi mx) = some δ) (hmh : mx'.isSome = true → hi'.isSome = true) : Good P G X ρ hp nid w a.eval ⟨dst, .slice t x lo' hi' mx', ty, pos, af, g⟩ δ := by
  obtain ⟨ti, hti, rfl⟩ := sizeT_spec hz
  have hR := toX_R hs hx
  have nomx : mx = none → mx' = none := by
    intro h; subst h
    cases mx' with
    | none => rfl
    | some y => simp only [optX] at hmx; cases hy : toX y <;> rw [hy] at hmx <;> simp at hmx
  have somx : ∀ m n, mx = some m → asNat (m.val e) = some n → ∀ d, boundIs a.eval mx' d n := by
    intro m n h hn d; subst h
    cases mx' with
    | none => simp [optX] at hmx
    | some y =>
      simp only [optX] at hmx
      cases hy : toX y with
      | none => rw [hy] at hmx; cases hmx
      | some z => rw [hy] at hmx; simp at hmx; subst hmx; exact (toX_R hs hy).nat_inv hn
  simp only [evalOp] at hδ
  split at hδ
  · rename_i es hv
    rw [hv] at hR
    split at hδ
    case isTrue => contradiction
    rename_i hall
    simp only [Bool.not_eq_false] at hall
    have hsl : ∃ ad c, a.eval x = .slice ad es.length c ∧ es.length ≤ c := by
      rcases hR.d_inv.sl_inv with ⟨rfl, ad, c, hvv⟩ | ⟨b, o, c, sz', u', hvv, hM, hb, hn0, hcap, hz', hc', hr'⟩
      · exact ⟨ad, c, hvv, by simp⟩
      · exact ⟨_, c, hvv, hcap⟩
    split at hδ
    · rename_i hm
      have hm' := nomx rfl
      subst hm'
      cases hb : bounds e es.length lo hi with
      | none => rw [hb] at hδ; cases hδ
      | some q =>
      obtain ⟨l, h⟩ := q
      rw [hb] at hδ; simp only [Option.bind_some, pureD, Option.some.injEq] at hδ; subst hδ
      obtain ⟨b1, b2, b3, b4⟩ := bounds_spec hs hlo hhi hb
      have hlen : ((es.take h).drop l).length = h - l := by rw [List.length_drop, List.length_take]; omega
      rcases hR.d_inv.sl_inv with ⟨rfl, ad, c, hvv⟩ | ⟨b, o, c, sz', u, hvv, hM, hb', hn0, hcap, hz', hc', hr'⟩
      · refine good_pure hI (run_slice_sl ht hti hvv rfl b1 b2 b3 (by simp at b4; omega) (Nat.le_refl _) (by simp) (fun _ => by simp)) ?_ rfl rfl
        have h0 : h = 0 := by simpa using b4
        subst h0
        have : ((([] : List (List D)).take 0).drop l) = [] := by simp
        rw [this]; rw [show 0 - l = 0 from by omega]; exact .d (.sl0 _ _)
      · refine good_pure hI (run_slice_sl ht hti hvv rfl b1 b2 b3 (by omega) (Nat.le_refl _) (by simp) (fun _ => hcap)) ?_ rfl rfl
        by_cases hhl : h = l
        · subst hhl
          have : (es.take h).drop h = [] := List.eq_nil_of_length_eq_zero (by omega)
          rw [this, Nat.sub_self]; exact .d (.sl0 _ _)
        · rw [if_neg (by omega)]
          simp only [Option.map_some, add_none]
          have hszs : sz' = ti.size := by
            have h1 := hz' es[0] (List.getElem_mem hn0)
            have h2 := List.all_eq_true.1 hall es[0] (List.getElem_mem hn0)
            simp at h2; omega
          · subst hszs
            have := RD.sl (M := Mut ρ X hp) (w := w) b (o + l * ti.size) (c - l) ti.size ((es.take h).drop l) (fun i j => u (l + i) j) hM hb' (by omega) (by omega) (fun e he => hz' e (List.mem_of_mem_take (List.mem_of_mem_drop he)))
              (fun i j e x e1 e2 => ?_) (fun i j e x e1 e2 => ?_)
            · rw [hlen] at this; exact .d this
            · rw [List.getElem?_drop] at e1
              have hi' : l + i < h := by have := (List.getElem?_eq_some_iff.1 e1).1; rw [List.length_take] at this; omega
              rw [List.getElem?_take_of_lt hi'] at e1
              rw [show o + l * ti.size + i * ti.size + j = o + (l + i) * ti.size + j from by rw [Nat.add_mul]; omega]
              exact hc' (l + i) j e x e1 e2
            · rw [List.getElem?_drop] at e1
              have hi' : l + i < h := by have := (List.getElem?_eq_some_iff.1 e1).1; rw [List.length_take] at this; omega
              rw [List.getElem?_take_of_lt hi'] at e1
              exact hr' (l + i) j e x e1 e2
    · rename_i m
      cases hn : asNat (m.val e) with
      | none => rw [hn] at hδ; cases hδ
      | some n =>
      rw [hn] at hδ; simp only [Option.bind_some] at hδ
      cases hb : bounds e es.length lo hi with
      | none => rw [hb] at hδ; cases hδ
      | some q =>
      obtain ⟨l, h⟩ := q
      rw [hb] at hδ; simp only [Option.bind_some] at hδ
      split at hδ
      case isFalse => contradiction
      rename_i h0
      obtain ⟨rfl, rfl⟩ := h0
      simp only [pureD, Option.some.injEq] at hδ; subst hδ
      obtain ⟨b1, b2, b3, b4⟩ := bounds_spec hs hlo hhi hb
      obtain ⟨ad, c, hvv, hcap⟩ := hsl
      have hl0 : l = 0 := by omega
      subst hl0
      refine good_pure hI (run_slice_sl ht hti hvv (somx m 0 rfl hn c) b1 b2 (Nat.le_refl _) (Nat.le_refl _) (Nat.zero_le _) hmh (fun _ => hcap)) ?_ rfl rfl
      exact .nil _
  · rename_i hv
    rw [hv] at hR
    obtain ⟨ad, hvv⟩ := hR.nil_inv
    split at hδ
    · have hm' := nomx rfl
      subst hm'
      cases hb : bounds e 0 lo hi with
      | none => rw [hb] at hδ; cases hδ
      | some q =>
      obtain ⟨l, h⟩ := q
      rw [hb] at hδ; simp only [Option.bind_some, pureD, Option.some.injEq] at hδ; subst hδ
      obtain ⟨b1, b2, b3, b4⟩ := bounds_spec hs hlo hhi hb
      refine good_pure hI (run_slice_sl ht hti hvv rfl b1 b2 b3 b4 (Nat.le_refl _) (by simp) (fun _ => Nat.le_refl _)) ?_ rfl rfl
      rw [show h - l = 0 from by omega, show 0 - l = 0 from by omega]; exact .nil _
    · rename_i m
      cases hn : asNat (m.val e) with
      | none => rw [hn] at hδ; cases hδ
      | some n =>
      rw [hn] at hδ; simp only [Option.bind_some] at hδ
      split at hδ
      case isFalse => contradiction
      rename_i h0; subst h0
      cases hb : bounds e 0 lo hi with
      | none => rw [hb] at hδ; cases hδ
      | some q =>
      obtain ⟨l, h⟩ := q
      rw [hb] at hδ; simp only [Option.bind_some, pureD, Option.some.injEq] at hδ; subst hδ
      obtain ⟨b1, b2, b3, b4⟩ := bounds_spec hs hlo hhi hb
      refine good_pure hI (run_slice_sl ht hti hvv (somx m 0 rfl hn 0) b1 b2 b3 b4 (Nat.le_refl _) hmh (fun _ => Nat.le_refl _)) ?_ rfl rfl
      rw [show h - l = 0 from by omega, show 0 - l = 0 from by omega]; exact .nil _
  · rename_i id sz' off len hv
    rw [hv] at hR
    split at hδ
    case isTrue => contradiction
    rename_i hszs
    have hszs : sz' = ti.size := Decidable.byContradiction hszs
    subst hszs
    have cut : ∀ l h m c ad, a.eval x = .slice ad len c → l ≤ h → h ≤ len → (∀ b o n k, ρ id = .lies b o ti.size n k → off + len ≤ n ∧ n - off ≤ m ∧ o + (off + m) * ti.size ≤ k ∧ (ad = some ⟨b, o + off * ti.size, none⟩ ∨ c = 0)) → m ≤ c → h ≤ m →
        ((∃ b o n k, ρ id = .lies b o ti.size n k) ∨ (ρ id = .virt ∧ off = 0 ∧ len = 0 ∧ c = 0)) →
        R ρ (Mut ρ X hp) w (.slice (if m = l then ad else ad.map (·.add (l * ti.size))) (h - l) (m - l)) (.vec id ti.size (off + l) (h - l)) := by
      intro l h m c ad hvv h1 h2 h3 h4 h5 h6
      rcases h6 with ⟨b, o, n, k, hρ⟩ | ⟨hρ, rfl, rfl, rfl⟩
      · obtain ⟨g1, g2, g3, g4⟩ := h3 b o n k hρ
        refine .vec (off + l) (h - l) (m - l) _ hρ (by omega) (by omega) (by rw [show off + l + (m - l) = off + m from by omega]; exact g3) ?_
        by_cases hml : m = l
        · right; omega
        · left
          rw [if_neg hml]
          rcases g4 with rfl | rfl
          · simp only [Option.map_some, add_none]; congr 2; rw [Nat.add_mul]; omega
          · omega
      · have hl0 : l = 0 := by omega
        have hh0 : h = 0 := by omega
        have hm0 : m = 0 := by omega
        subst hl0; subst hh0; subst hm0
        exact .vecv ti.size _ hρ
    have hslice : ∃ ad c, a.eval x = .slice ad len c ∧ len ≤ c ∧ ((∃ b o n k, ρ id = .lies b o ti.size n k ∧ off + len ≤ n ∧ n - off ≤ c ∧ o + (off + c) * ti.size ≤ k ∧ (ad = some ⟨b, o + off * ti.size, none⟩ ∨ c = 0)) ∨ (ρ id = .virt ∧ off = 0 ∧ len = 0 ∧ c = 0)) := by
      rcases hR.vec_inv with ⟨b, o, n, k, c, ad, hρ, h1, h2, h3, h4, hvv⟩ | ⟨hρ, h1, h2, ad, hvv⟩
      · exact ⟨ad, c, hvv, by omega, .inl ⟨b, o, n, k, hρ, h1, h2, h3, h4⟩⟩
      · subst h2; exact ⟨ad, 0, hvv, by omega, .inr ⟨hρ, h1, rfl, rfl⟩⟩
    obtain ⟨ad, c, hvv, hcap, hwhere⟩ := hslice
    split at hδ
    · have hm' := nomx rfl
      subst hm'
      cases hb : bounds e len lo hi with
      | none => rw [hb] at hδ; cases hδ
      | some q =>
      obtain ⟨l, h⟩ := q
      rw [hb] at hδ; simp only [Option.bind_some, pureD, Option.some.injEq] at hδ; subst hδ
      obtain ⟨b1, b2, b3, b4⟩ := bounds_spec hs hlo hhi hb
      refine good_pure hI (run_slice_sl ht hti hvv rfl b1 b2 b3 (by omega) (Nat.le_refl _) (by simp) (fun _ => hcap)) ?_ rfl rfl
      refine cut l h c c ad hvv b3 b4 (fun b o n k hρ => ?_) (Nat.le_refl _) (by omega) ?_
      · rcases hwhere with ⟨b', o', n', k', hρ', g⟩ | ⟨hρ', _⟩
        · rw [hρ] at hρ'; cases hρ'; exact g
        · rw [hρ] at hρ'; cases hρ'
      · rcases hwhere with ⟨b', o', n', k', hρ', g⟩ | g
        · exact .inl ⟨b', o', n', k', hρ'⟩
        · exact .inr g
    · rename_i m
      cases hn : asNat (m.val e) with
      | none => rw [hn] at hδ; cases hδ
      | some n =>
      rw [hn] at hδ; simp only [Option.bind_some] at hδ
      cases hb : bounds e len lo hi with
      | none => rw [hb] at hδ; cases hδ
      | some q =>
      obtain ⟨l, h⟩ := q
      rw [hb] at hδ; simp only [Option.bind_some] at hδ
      obtain ⟨b1, b2, b3, b4⟩ := bounds_spec hs hlo hhi hb
      split at hδ
      · rename_i h0
        obtain ⟨rfl, rfl⟩ := h0
        simp only [pureD, Option.some.injEq] at hδ; subst hδ
        have hl0 : l = 0 := by omega
        subst hl0
        refine good_pure hI (run_slice_sl ht hti hvv (somx m 0 rfl hn c) b1 b2 (Nat.le_refl _) (Nat.le_refl _) (Nat.zero_le _) hmh (fun _ => hcap)) ?_ rfl rfl
        exact .nil _
      · split at hδ
        case h_2 => contradiction
        rename_i sz'' es hob
        split at hδ
        case isFalse => contradiction
        rename_i hend
        simp only [Option.some.injEq] at hδ; subst hδ
        have hO := hI.obj id
        rw [hob] at hO
        obtain ⟨_, hO⟩ := hO.re
        have hmn : n ≤ c ∧ h ≤ n := by
          rcases hwhere with ⟨b', o', n', k', hρ', g1, g2, g3, g4⟩ | ⟨hρ', rfl, rfl, rfl⟩
          · rcases hO with ⟨rfl, hρ2⟩ | ⟨b2', o2, c2, hρ2, _⟩
            · rw [hρ'] at hρ2; cases hρ2
            · rw [hρ'] at hρ2; cases hρ2; omega
          · rcases hO with ⟨rfl, hρ2⟩ | ⟨b2', o2, c2, hρ2, _⟩
            · simp at hend; omega
            · rw [hρ'] at hρ2; cases hρ2
        refine good_pure hI (run_slice_sl ht hti hvv (somx m n rfl hn c) b1 b2 b3 hmn.2 hmn.1 hmh (fun _ => hcap)) ?_ rfl rfl
        refine cut l h n c ad hvv b3 b4 (fun b o n' k hρ => ?_) hmn.1 hmn.2 ?_
        · rcases hwhere with ⟨b', o', n'', k', hρ', g1, g2, g3, g4⟩ | ⟨hρ', _⟩
          · rw [hρ] at hρ'; cases hρ'
            refine ⟨g1, ?_, ?_, g4⟩
            · rcases hO with ⟨rfl, hρ2⟩ | ⟨b2', o2, c2, hρ2, _⟩
              · rw [hρ] at hρ2; cases hρ2
              · rw [hρ] at hρ2; cases hρ2; omega
            · have : (off + n) * ti.size ≤ (off + c) * ti.size := Nat.mul_le_mul_right _ (by omega)
              omega
          · rw [hρ] at hρ'; cases hρ'
        · rcases hwhere with ⟨b', o', n', k', hρ', g⟩ | g
          · exact .inl ⟨b', o', n', k', hρ'⟩
          · exact .inr g
  · contradiction
end Go.PG
end
section
/- Pure Go: each operation does in the machine what the evaluator says. Part 7: literals, makes, bytes, copies, strings' rounds, maps. -/
set_option linter.unusedSimpArgs false
set_option linter.unusedVariables false
namespace Go.PG
open Go
variable {P : Program} {w : World} {dst : Option Tmp} {ty : TypeId} {pos : String} {af : Array Edge} {g : Option (Nat × Bool)}
variable {ρ : Nat → Loc} {X : Nat → Prop} {hp : Nat → Ob} {G : Nat → Option Obj} {nid : Nat} {a : Act} {e : List (Nat × V)} {δ : Dl} {M : Nat → Prop} {call : CallT}

/-! ### a literal of a slice -/
theorem fillD_sub {sz : Nat} : ∀ (l : List (Nat × Go.PG.X)) (es es' : List (List D)) (ks ks' : List Nat), fillD e hp sz es ks l = some (es', ks') → (∀ k ∈ ks, k ∈ ks') ∧ es'.length = es.length
  | [], es, es', ks, ks', h => by simp [fillD] at h; obtain ⟨rfl, rfl⟩ := h; exact ⟨fun _ h => h, rfl⟩
  | (i, x) :: l, es, es', ks, ks', h => by
    simp only [fillD] at h
    cases h1 : (x.val e).cells with
    | none => rw [h1] at h; cases h
    | some c =>
    cases h2 : toDs hp c with
    | none => rw [h1] at h; simp [h2] at h
    | some q =>
    obtain ⟨ds, k⟩ := q
    rw [h1] at h; simp only [Option.bind_some, h2] at h
    split at h
    case isFalse => contradiction
    obtain ⟨r1, r2⟩ := fillD_sub l _ es' _ ks' h
    exact ⟨fun k' hk => r1 k' (by simp [hk]), by rw [r2, List.length_set]⟩
theorem RE.set {sz : Nat} {c d : List Value} {es : List (List D)} {ds : List D} {i : Nat} (h : RE M w sz c 0 es) (hc : c.length = es.length * sz) (hi : i < es.length) (hd : d.length = sz) (hds : ds.length = sz)
    (k : ∀ (j : Nat) v x, d[j]? = some v → ds[j]? = some x → RD M w v x) : RE M w sz (PG.splice c (i * sz) d) 0 (es.set i ds) := by
  have : es.set i ds = PG.splice es i [ds] := by
    apply List.ext_getElem?
    intro p
    rw [splice_get (by simp; omega)]
    by_cases hp : p = i
    · subst hp; rw [if_pos (by simp), List.getElem?_set_self hi]; simp
    · rw [if_neg (by simp; omega), List.getElem?_set_ne (fun h => hp h.symm)]
  rw [this]
  have hd1 : RE M w sz d 0 [ds] := by
    refine ⟨by simpa using hds, fun p j e x e1 e2 => ?_⟩
    have hp : p = 0 := by have := (List.getElem?_eq_some_iff.1 e1).1; simpa using this
    subst hp; simp at e1; subst e1
    have hj := (List.getElem?_eq_some_iff.1 e2).1
    exact ⟨d[j]'(by omega), by rw [Nat.zero_mul, Nat.add_zero, Nat.zero_add]; simp, k j _ x (by simp) e2⟩
  have := h.splice hd1 (by simp [hd]) i (by simp; omega) (by omega)
  rwa [Nat.zero_add] at this
theorem fillD_run (hI : Inv G ρ X w hp) (hs : SE ρ (Mut ρ X hp) w a e) {sz : Nat} (h0 : 0 < sz) {K : List Nat} : ∀ (l : List (Nat × Operand)) (l' : List (Nat × Go.PG.X)) (es es' : List (List D)) (ks ks' : List Nat) (c : Array Value), partsD l = some l' → fillD e hp sz es ks l' = some (es', ks') → (∀ k ∈ ks', k ∈ K) →
    RE (Mut ρ X (killF hp K)) w sz c.toList 0 es → c.size = es.length * sz → (∀ k ∈ ks, live (hp k) = true) →
    ∃ c' : Array Value, Instr.fill (fun i => some (i * sz, sz)) c (l.map fun p => (p.1, a.eval p.2)) = some c' ∧ RE (Mut ρ X (killF hp K)) w sz c'.toList 0 es' ∧ c'.size = es'.length * sz ∧ ∀ k ∈ ks', live (hp k) = true
  | [], l', es, es', ks, ks', c, hp', hf, hK, hr, hc, hl => by
    simp [partsD] at hp'; subst hp'
    simp [fillD] at hf; obtain ⟨rfl, rfl⟩ := hf
    exact ⟨c, rfl, hr, hc, hl⟩
  | (i, x) :: l, l', es, es', ks, ks', c, hp', hf, hK, hr, hc, hl => by
    simp only [partsD] at hp'
    cases h1 : toX x with
    | none => rw [h1] at hp'; cases hp'
    | some y =>
    cases h2 : partsD l with
    | none => rw [h1] at hp'; simp [h2] at hp'
    | some l1 =>
    rw [h1] at hp'; simp only [Option.bind_some, h2, Option.some.injEq] at hp'; subst hp'
    simp only [fillD] at hf
    cases h3 : (y.val e).cells with
    | none => rw [h3] at hf; cases hf
    | some cs =>
    cases h4 : toDs hp cs with
    | none => rw [h3] at hf; simp [h4] at hf
    | some q =>
    obtain ⟨ds, k⟩ := q
    rw [h3] at hf; simp only [Option.bind_some, h4] at hf
    split at hf
    case isFalse => contradiction
    rename_i hlen
    obtain ⟨s1, s2⟩ := fillD_sub l1 _ es' _ ks' hf
    obtain ⟨k1, k2, k3⟩ := (toX_R hs h1).cells h3
    obtain ⟨q1, q2, q3⟩ := toDs_R hI k1 h4 (ks' := K) (fun k' hk' => hK k' (s1 k' (by simp [hk'])))
    simp only [Array.length_toList] at q1
    have hmul : (i + 1) * sz ≤ es.length * sz := Nat.mul_le_mul_right _ hlen.2
    rw [Nat.add_mul] at hmul
    obtain ⟨c1, f1, f2⟩ := fill_one (place := fun i => some (i * sz, sz)) (cs := c) (i := i) (off := i * sz) (size := sz) (v := a.eval x) (rest := l.map fun p => (p.1, a.eval p.2)) rfl (by omega) (by omega)
    have hr1 := hr.set (by rw [Array.length_toList]; exact hc) hlen.2 (d := (a.eval x).cells.toList) (by rw [Array.length_toList]; omega) hlen.1 q2
    have hc1 : c1.size = (es.set i ds).length * sz := by
      have : c1.toList.length = c.toList.length := by rw [f2, splice_len (by rw [Array.length_toList, Array.length_toList]; omega)]
      rw [Array.length_toList, Array.length_toList] at this
      rw [this, hc, List.length_set]
    obtain ⟨c', g1, g2, g3, g4⟩ := fillD_run hI hs h0 l l1 _ es' _ ks' c1 h2 hf hK (by rw [f2]; exact hr1) hc1 (fun k' hk' => by
      rcases List.mem_append.1 hk' with hk' | hk'
      · exact hl k' hk'
      · exact q3 k' hk')
    exact ⟨c', by simp only [List.map_cons]; rw [f1]; exact g1, g2, g3, g4⟩
theorem zeroD_spec {t : TypeId} {z : List D} (h : zeroD P t = some z) : ∃ i zv, P.info? t = some i ∧ i.zero = some zv ∧ mapO constD zv.cells.toList = some z := by
  unfold zeroD zeroCells at h
  cases hi : P.info? t with
  | none => rw [hi] at h; cases h
  | some i =>
    cases hz : i.zero with
    | none => rw [hi] at h; simp [hz] at h
    | some zv => rw [hi] at h; simp [hz] at h; exact ⟨i, zv, rfl, hz, h⟩
/-- So many zero elements. -/
theorem zeros_RE {zv : Array Value} {z : List D} {sz : Nat} (hz : mapO constD zv.toList = some z) (hl : z.length = sz) (h0 : 0 < sz) {c : List Value} {n m : Nat} (hm : n ≤ m) (hc : c = (List.range (m * sz)).map fun k => zv[k % zv.size]!) :
    RE M w sz c 0 (List.replicate n z) := by
  obtain ⟨h1, h2⟩ := mapO_spec hz
  simp only [Array.length_toList] at h1
  refine ⟨fun e he => by rw [List.eq_of_mem_replicate he]; exact hl, fun i j e x e1 e2 => ?_⟩
  have hi : i < n := by have := (List.getElem?_eq_some_iff.1 e1).1; simpa using this
  have he : e = z := by
    have h := List.mem_of_getElem? e1
    exact List.eq_of_mem_replicate h
  subst he
  have hj : j < e.length := (List.getElem?_eq_some_iff.1 e2).1
  have hlt : i * sz + j < m * sz := by
    have : (i + 1) * sz ≤ m * sz := Nat.mul_le_mul_right _ (by omega)
    rw [Nat.add_mul] at this; omega
  have hzs : zv.size = sz := by omega
  obtain ⟨d1, d2⟩ := divmod (i := i) (j := j) (sz := sz) (by omega)
  have hjz : j < zv.size := by omega
  refine ⟨zv[j], ?_, constD_RD (h2 j _ x (by simp [hjz]) e2)⟩
  rw [hc, List.getElem?_map, Nat.zero_add, List.getElem?_range hlt]
  simp only [Option.map_some, hzs, d2]
  congr 1
  exact getElem!_pos zv j hjz
theorem alloc_idle (hI : Inv G ρ X w hp) (o : Obj) : Inv G ρ X (w.alloc o) hp ∧ Fr X ρ ρ hp hp nid w (w.alloc o) := by
  have hl : Later (Mut ρ X hp) w (w.alloc o) := ⟨by simp, fun b hb _ => pg_old w o b hb⟩
  exact ⟨⟨fun id => (hI.obj id).later hl (fun _ _ h => h) (fun _ _ => rfl) (fun b h1 _ => pg_old w o b (hI.lt id b h1)), hI.inj, fun i b h => by have := hI.lt i b h; simp; omega, fun b h => by have := hI.xlt b h; simp; omega, hI.dis,
    fun b ob h => ⟨by rw [pg_old w o b (Array.getElem?_eq_some_iff.1 (hI.glob b ob h).1).1]; exact (hI.glob b ob h).1, (hI.glob b ob h).2⟩⟩, ⟨rfl, rfl, rfl, by simp, fun b hb _ => pg_old w o b hb, fun _ _ => rfl, fun _ _ h => h⟩⟩
theorem run_lits {t el : TypeId} {n : Nat} {ps : Array (Nat × Operand)} {i : TypeInfo} {z : Value} {c : Array Value} (hu : P.underlying t = some (.slice el)) (hi : P.info? el = some i) (hz : i.zero = some z) (hsm : n * i.size ≤ 16777216) (hp0 : 0 < n * i.size)
    (h : Instr.fill (fun k => some (k * i.size, i.size)) ((Array.range (n * i.size)).map (z.cells[· % z.cells.size]!)) (ps.toList.map fun p => (p.1, a.eval p.2)) = some c) :
    (execOp a.eval ⟨dst, .buildSlice t n ps, ty, pos, af, g⟩).run P w = .ok (.value (.slice (some ⟨w.heap.size, 0, none⟩) n n)) (w.alloc (.cells c el)) := by
  refine run_value (s := Instr.buildSlice t n (ps.map fun (i, x) => (i, a.eval x))) (by simp only [execOp]) ?_
  have h1 : ¬ (n * i.size > 2 ^ 24) := by omega
  have h2 : ¬ (n * i.size = 0) := by omega
  have hps : (ps.map fun (i, x) => (i, a.eval x)).toList = ps.toList.map fun p => (p.1, a.eval p.2) := by rw [Array.toList_map]
  simp [Instr.buildSlice, Sem.run_bind', run_underlying hu, run_sizeOf hi, run_zeroValue hi hz, h1, h2, h, hps, Result.andThen, newRow, newObj, bind, pure, Sem.run, Sem.bind]
theorem run_lits0 {t el : TypeId} {i : TypeInfo} (hu : P.underlying t = some (.slice el)) (hi : P.info? el = some i) {ps : Array (Nat × Operand)} (hps : ps.toList = []) :
    (execOp a.eval ⟨dst, .buildSlice t 0 ps, ty, pos, af, g⟩).run P w = .ok (.value (.slice (some ⟨w.heap.size, 0, none⟩) 0 0)) (w.alloc (.cells #[] el)) := by
  refine run_value (s := Instr.buildSlice t 0 (ps.map fun (i, x) => (i, a.eval x))) (by simp only [execOp]) ?_
  have hps' : (ps.map fun (i, x) => (i, a.eval x)).toList = [] := by rw [Array.toList_map, hps]; rfl
  simp [Instr.buildSlice, Sem.run_bind', run_underlying hu, run_sizeOf hi, hps, Instr.fill, Result.andThen, newRow, newObj, bind, pure, Sem.run, Sem.bind]
  have hr : Array.range 0 = #[] := by apply Array.ext'; simp [Array.toList_range]
  rw [hr]; simp
theorem good_lits {t el : TypeId} {sz by' n : Nat} {z : List D} {ps : Array (Nat × Operand)} {l : List (Nat × Go.PG.X)} (hI : Inv G ρ X w hp) (hn : ρ nid = .no) (hs : SE ρ (Mut ρ X hp) w a e) (ht : elemT P t = some el) (hsz : sizeT P el = some sz) (hz : zeroD P el = some z)
    (hl : partsD ps.toList = some l) (h0 : 0 < sz) (hsm : n * sz ≤ 16777216) (hδ : evalOp call e hp nid (.lits el sz by' z n l) = some δ) : Good P G X ρ hp nid w a.eval ⟨dst, .buildSlice t n ps, ty, pos, af, g⟩ δ := by
  have hu := elemT_spec ht
  obtain ⟨ti, hti, rfl⟩ := sizeT_spec hsz
  obtain ⟨ti', zv, hti', hzz, hm⟩ := zeroD_spec hz
  rw [hti] at hti'; cases hti'
  simp only [evalOp] at hδ
  split at hδ
  · rename_i hn0; subst hn0
    split at hδ
    case h_2 => contradiction
    have hps : ps.toList = [] := by
      cases hq : ps.toList with
      | nil => rfl
      | cons p r =>
        obtain ⟨i, x⟩ := p
        rw [hq] at hl; simp only [partsD] at hl
        cases h1 : toX x with
        | none => rw [h1] at hl; cases hl
        | some y => cases h2 : partsD r <;> rw [h1] at hl <;> simp [h2] at hl
    simp only [pureD, Option.some.injEq] at hδ; subst hδ
    obtain ⟨i1, i2⟩ := alloc_idle (nid := nid) hI (.cells #[] el)
    exact ⟨_, _, ρ, .inl (run_lits0 hu hti hps), .nil _, i1, i2⟩
  · rename_i hn0
    split at hδ
    case isTrue => contradiction
    rename_i hzl
    have hzl : z.length = ti.size := Decidable.byContradiction hzl
    cases hf : fillD e hp ti.size (List.replicate n z) [] l with
    | none => rw [hf] at hδ; cases hδ
    | some q =>
    obtain ⟨es, ks⟩ := q
    rw [hf] at hδ; simp only [Option.bind_some, Option.some.injEq] at hδ; subst hδ
    have hzs := (mapO_spec hm).1
    have hpos : 0 < n * ti.size := Nat.mul_pos (by omega) h0
    obtain ⟨c, g1, g2, g3, g4⟩ := fillD_run hI hs h0 (K := ks) ps.toList l (List.replicate n z) es [] ks ((Array.range (n * ti.size)).map (zv.cells[· % zv.cells.size]!)) hl hf (fun _ h => h)
      (zeros_RE (m := n) hm hzl h0 (Nat.le_refl _) (by simp [Array.toList_range])) (by simp) (by simp)
    have hlen : es.length = n := by have := (fillD_sub l _ es _ ks hf).2; simpa using this
    have hnk : nid ∉ ks := fun h => (hI.not_live_fresh hn (g4 nid h)) rfl
    refine good_row (w1 := w) (.inl rfl) (t := el) (c := c) hI hn h0 g4 (cap := n) (es := es) ?_ (by omega) (by rw [g3, hlen]) g2 rfl (by rw [hlen]) ?_
    · rw [hlen]; exact run_lits hu hti hzz hsm hpos g1
    · show hup (upd1 hp nid _) (deads ks) = _
      rw [hup_deads, kill_upd hnk]
theorem good_mks {t el : TypeId} {sz by' : Nat} {z : List D} {lo co : Operand} {l c : Go.PG.X} (hI : Inv G ρ X w hp) (hn : ρ nid = .no) (hs : SE ρ (Mut ρ X hp) w a e) (ht : elemT P t = some el) (hsz : sizeT P el = some sz) (hby : bytesT P el = some by') (hz : zeroD P el = some z)
    (hl : toX lo = some l) (hc : toX co = some c) (h0 : 0 < sz) (hb0 : 0 < by') (hδ : evalOp call e hp nid (.mks el sz by' z l c) = some δ) : Good P G X ρ hp nid w a.eval ⟨dst, .makeSlice t lo co, ty, pos, af, g⟩ δ := by
  have hu := elemT_spec ht
  obtain ⟨ti, hti, rfl⟩ := sizeT_spec hsz
  obtain ⟨ti', zv, hti', hzz, hm⟩ := zeroD_spec hz
  rw [hti] at hti'; cases hti'
  have hbi : ti.bytes = by' := by unfold bytesT at hby; rw [hti] at hby; simpa using hby
  subst hbi
  simp only [evalOp] at hδ
  cases h1 : asNat (l.val e) with
  | none => rw [h1] at hδ; cases hδ
  | some n =>
  cases h2 : asNat (c.val e) with
  | none => rw [h1] at hδ; simp [h2] at hδ
  | some m =>
  rw [h1] at hδ; simp only [Option.bind_some, h2] at hδ
  split at hδ
  case isFalse => contradiction
  rename_i hcond
  obtain ⟨hnm, hroom, hzl⟩ := hcond
  simp only [Option.some.injEq] at hδ; subst hδ
  obtain ⟨k1, e1⟩ := (toX_R hs hl).nat_inv h1
  obtain ⟨k2, e2⟩ := (toX_R hs hc).nat_inv h2
  have hm63 : m ≤ room := Nat.le_trans (Nat.le_mul_of_pos_right _ hb0) hroom
  unfold room at hm63 hroom
  have hbi : (ti.bytes : Int) * (m : Int) ≤ 281474976710656 := by
    have : ((ti.bytes * m : Nat) : Int) ≤ 281474976710656 := by
      have : ti.bytes * m ≤ 140737488355328 := by rw [Nat.mul_comm]; exact hroom
      omega
    simpa using this
  have hrun : (execOp a.eval ⟨dst, .makeSlice t lo co, ty, pos, af, g⟩).run P w = .ok (.value (.slice (some ⟨w.heap.size, 0, none⟩) n m)) (w.alloc (.cells (madeCells zv.cells (m * ti.size)) el)) := by
    refine run_value (s := Instr.makeSlice t (.int k1 n) (.int k2 m)) (by simp only [execOp, e1, e2]) ?_
    have := run_make (P := P) w t el ti zv hu hti hzz k1 k2 n m (by omega) (by omega) hbi (by omega)
    simpa using this
  refine good_row (w1 := w) (.inl rfl) (t := el) (c := madeCells zv.cells (m * ti.size)) (ks := []) hI hn h0 (by simp) (cap := m) (es := List.replicate n z) ?_ (by simpa using hnm) (size_madeCells _ _) ?_ rfl (by simp) (by rw [kill_nil]; rfl)
  · rw [List.length_replicate]; exact hrun
  · refine zeros_RE hm hzl h0 hnm ?_
    unfold madeCells; simp [Array.toList_range]
end Go.PG
end
section
/- Pure Go: each operation does in the machine what the evaluator says. Part 8: bytes, copies, clears, strings' rounds, maps. -/
set_option linter.unusedSimpArgs false
set_option linter.unusedVariables false
namespace Go.PG
open Go
variable {P : Program} {w : World} {dst : Option Tmp} {ty : TypeId} {pos : String} {af : Array Edge} {g : Option (Nat × Bool)}
variable {ρ : Nat → Loc} {X : Nat → Prop} {hp : Nat → Ob} {G : Nat → Option Obj} {nid : Nat} {a : Act} {e : List (Nat × V)} {δ : Dl} {M : Nat → Prop} {call : CallT}

theorem bytesOf_spec : ∀ {es : List (List D)} {s : List UInt8}, bytesOf es = some s → es.length = s.length ∧ ∃ ns : List Int, es = ns.map (fun n => [.int .u8 n]) ∧ s = ns.map fun n => UInt8.ofNat n.toNat
  | [], s, h => by simp [bytesOf] at h; subst h; exact ⟨rfl, [], rfl, rfl⟩
  | x :: r, s, h => by
    cases x with
    | nil => simp [bytesOf] at h
    | cons y t =>
    cases t with
    | cons z t => simp [bytesOf] at h
    | nil =>
    cases y with
    | int k n =>
      cases k <;> first | (simp [bytesOf] at h; done) | skip
      cases hb : bytesOf r with
      | none => simp [bytesOf, hb] at h
      | some t =>
        simp [bytesOf, hb] at h; subst h
        obtain ⟨h1, ns, rfl, rfl⟩ := bytesOf_spec hb
        exact ⟨by simp, n :: ns, rfl, rfl⟩
    | _ => simp [bytesOf] at h
theorem good_b2s {src d el : TypeId} {x : Operand} {x' : Go.PG.X} (hI : Inv G ρ X w hp) (hs : SE ρ (Mut ρ X hp) w a e) (hsrc : P.underlying src = some (.slice el)) (hel : P.underlying el = some (.int .u8)) (hd : P.underlying d = some .string) (hx : toX x = some x')
    (hδ : evalOp call e hp nid (.b2s x') = some δ) : Good P G X ρ hp nid w a.eval ⟨dst, .convert src d x, ty, pos, af, g⟩ δ := by
  simp only [evalOp] at hδ
  have hns : ∀ s, x'.val e ≠ .d (.str s) := fun s hv => by rw [hv] at hδ; cases hδ
  have hδ : ((elems hp 1 (x'.val e)).bind fun (es, f) => (bytesOf es).bind fun s => some (⟨.d (.str s), [], f⟩ : Dl)) = some δ := by
    split at hδ
    · contradiction
    · exact hδ
  cases hE : elems hp 1 (x'.val e) with
  | none => rw [hE] at hδ; cases hδ
  | some q =>
  obtain ⟨es, f⟩ := q
  rw [hE] at hδ; simp only [Option.bind_some] at hδ
  cases hb : bytesOf es with
  | none => rw [hb] at hδ; cases hδ
  | some s =>
  rw [hb] at hδ; simp only [Option.bind_some, Option.some.injEq] at hδ; subst hδ
  obtain ⟨_, ns, rfl, rfl⟩ := bytesOf_spec hb
  have hR := toX_R hs hx
  have hstr : ∀ ns : List Int, RD (Mut ρ X hp) w (.string (strOfNums ns)) (.str (ns.map fun n => UInt8.ofNat n.toNat)) := fun ns => by rw [← strOfNums_data]; exact .str _
  have fin : (convert src d (a.eval x)).run P w = .ok (.string (strOfNums ns)) w → Good P G X ρ hp nid w a.eval ⟨dst, .convert src d x, ty, pos, af, g⟩ ⟨.d (.str (ns.map fun n => UInt8.ofNat n.toNat)), [], f⟩ := fun h =>
    good_pure hI (run_convBytes rfl h) (.d (hstr ns)) rfl rfl
  have empty : ∀ ad c, a.eval x = .slice ad 0 c → ns = [] → (convert src d (a.eval x)).run P w = .ok (.string (strOfNums ns)) w := by
    rintro ad c hv rfl
    rw [hv]
    unfold convert
    simp only [bind, Sem.run_bind', run_underlying hsrc, run_underlying hd, Result.andThen]
    cases ad with
    | none => simp only [bind, Sem.run_bind', run_underlying hel, Result.andThen]; rfl
    | some ad => simp only [bind, Sem.run_bind', run_underlying hel, Result.andThen]; rfl
  have at_ : ∀ b o n c, a.eval x = .slice (some ⟨b, o, none⟩) n c → n = ns.length → (∀ i, i < n → ∃ u, w.cell? ⟨b, o + i, none⟩ = some u ∧ RD (Mut ρ X hp) w u (.int .u8 (ns.getD i 0))) → (convert src d (a.eval x)).run P w = .ok (.string (strOfNums ns)) w := by
    rintro b o n c hv hn hcell
    rw [hv]
    exact run_convert_bytes_arg w src el hsrc hel b o n c ns hn.symm (fun i hi => by obtain ⟨u, h1, h2⟩ := hcell i hi; rw [h1, h2.int_inv]) d hd
  unfold elems at hE
  split at hE
  · rename_i es' hv
    split at hE
    case isFalse => contradiction
    simp only [Option.some.injEq, Prod.mk.injEq] at hE; obtain ⟨rfl, rfl⟩ := hE
    rw [hv] at hR
    rcases hR.d_inv.sl_inv with ⟨h0, ad, c, hvv⟩ | ⟨b, o, c, sz', u, hvv, hM, hb', hn0, hcap, hz', hc', hr'⟩
    · exact fin (empty ad c hvv (by simpa using h0))
    · have hsz : sz' = 1 := by have := hz' _ (List.getElem_mem hn0); simpa using this.symm
      subst hsz
      refine fin (at_ b o _ c hvv (by simp) fun i hi => ?_)
      have hi' : i < ns.length := by simpa using hi
      have e1 : (ns.map fun n => [D.int IntKind.u8 n])[i]? = some [D.int .u8 ns[i]] := by simp [hi']
      refine ⟨u i 0, by have := hc' i 0 _ _ e1 rfl; simpa using this, ?_⟩
      have := hr' i 0 _ _ e1 rfl
      simpa [List.getD_eq_getElem?_getD, hi'] using this
  · rename_i s hv; exact absurd hv (hns s)
  · simp only [Option.some.injEq, Prod.mk.injEq] at hE; obtain ⟨h0, rfl⟩ := hE
    rename_i hv
    rw [hv] at hR
    obtain ⟨ad, hvv⟩ := hR.nil_inv
    exact fin (empty ad 0 hvv (by simpa using h0.symm))
  · rename_i id sz' off len hv
    rw [hv] at hR
    split at hE
    case h_2 => contradiction
    rename_i sz'' es' hob
    split at hE
    case isFalse => contradiction
    rename_i hc
    obtain ⟨rfl, rfl, hlen⟩ := hc
    simp only [Option.some.injEq, Prod.mk.injEq] at hE; obtain ⟨hes, rfl⟩ := hE
    have hlT : ns.length = len := by have := congrArg List.length hes; simp at this; omega
    rcases hR.vec_inv with ⟨b, o, n, k, c, ad, hρ, h1, h2, h3, h4, hvv⟩ | ⟨hρ, rfl, rfl, ad, hvv⟩
    · by_cases hl0 : len = 0
      · subst hl0; exact fin (empty ad c hvv (List.eq_nil_of_length_eq_zero hlT))
      · have hO := hI.obj id
        rw [hob] at hO
        obtain ⟨_, hO⟩ := hO.re
        rcases hO with ⟨rfl, _⟩ | ⟨b', o', c', hρ', hb', hfit, hre⟩
        · simp at hlen; omega
        rw [hρ] at hρ'; cases hρ'
        rcases h4 with rfl | rfl
        case inr => omega
        refine fin (at_ b (o + off * 1) len c hvv hlT.symm fun i hi => ?_)
        have e1 : es'[off + i]? = some [D.int .u8 (ns.getD i 0)] := by
          have : ((es'.drop off).take len)[i]? = some [D.int .u8 (ns.getD i 0)] := by rw [hes]; simp [List.getD_eq_getElem?_getD, show i < ns.length from by omega]
          rw [List.getElem?_take_of_lt hi, List.getElem?_drop] at this
          exact this
        obtain ⟨u, hu, hr⟩ := hre.2 (off + i) 0 _ _ e1 rfl
        refine ⟨u, ?_, hr⟩
        rw [cell_block hb']
        rw [Array.getElem?_toList] at hu
        rw [← hu]; congr 1; omega
    · exact fin (empty ad 0 hvv (List.eq_nil_of_length_eq_zero hlT))
  · contradiction

/-! ### clear and copy -/
theorem write_vec (hI : Inv G ρ X w hp) {id sz b o : Nat} {es ys : List (List D)} {cur : Array Value} {te : TypeId} {news : List Value} {off : Nat} (h0 : 0 < sz) (hob : hp id = .vec te sz es) (hρ : ρ id = .lies b o sz es.length cur.size) (hb : w.heap[b]? = some (.cells cur te (0, 0)))
    (hfit : o + es.length * sz ≤ cur.size) (hre : RE (Mut ρ X hp) w sz cur.toList o es) (hn : RE (Mut ρ X hp) w sz news 0 ys) (hnl : news.length = ys.length * sz) (hin : off + ys.length ≤ es.length) :
    Inv G ρ X (w.setRow b (splice cur.toList (o + off * sz) news).toArray) (upd1 hp id (.vec te sz (splice es off ys))) ∧ Fr X ρ ρ hp (upd1 hp id (.vec te sz (splice es off ys))) nid w (w.setRow b (splice cur.toList (o + off * sz) news).toArray) := by
  have hlive : live (hp id) = true := by rw [hob]; rfl
  have hblk : (ρ id).blk = some b := by rw [hρ]; rfl
  have hmul : (off + ys.length) * sz ≤ es.length * sz := Nat.mul_le_mul_right _ hin
  rw [Nat.add_mul] at hmul
  have hcl : cur.toList.length = cur.size := Array.length_toList
  have hdl : cur.size = (splice cur.toList (o + off * sz) news).length := by rw [splice_len (by omega), hcl]
  have hsl : (splice es off ys).length = es.length := splice_len hin
  refine ⟨hI.write hlive hblk setRow_size (fun b'' hb' => setRow_other hb') (.vec te sz (splice es off ys)) rfl ?_, Fr.write X nid hlive hblk setRow_size (fun b'' hb' => setRow_other hb') rfl rfl rfl _⟩
  have hL : Later (Mut ρ X hp) w (w.setRow b (splice cur.toList (o + off * sz) news).toArray) :=
    ⟨by rw [setRow_size]; exact Nat.le_refl _, fun b'' _ hM => setRow_other fun e => hM (.inr ⟨id, hlive, e ▸ hblk⟩)⟩
  have hmu : ∀ b'', Mut ρ X (upd1 hp id (.vec te sz (splice es off ys))) b'' → Mut ρ X hp b'' := by
    rintro b'' (h | ⟨i, g1, g2⟩)
    · exact .inl h
    · by_cases hi : i = id
      · subst hi; exact .inr ⟨i, hlive, g2⟩
      · rw [upd1_other _ _ hi] at g1; exact .inr ⟨i, g1, g2⟩
  have hbh := (hre.splice hn hnl off hin (by omega)).later hL (fun b'' _ h => hmu b'' h)
  refine OI.of_re h0 ?_ (setRow_same hb) ?_ (by simpa using hbh)
  · rw [hρ, hsl]; congr 1
  · rw [hsl, List.size_toArray, ← hdl]; exact hfit
theorem run_storeAll {P : Program} {b o : Nat} {te : TypeId} {vs : List Value} {cur : Array Value} {w : World} (hb : w.heap[b]? = some (.cells cur te (0, 0))) (hl : o + vs.length ≤ cur.size) (h1 : ∀ v ∈ vs, v.oneCell' = true) :
    (storeCells ⟨b, o, none⟩ vs).run P w = .ok () (w.setRow b (splice cur.toList o vs).toArray) := by
  have := run_storeCells_at (P := P) b o te vs 0 cur w hb (by omega) h1
  simp only [Nat.add_zero] at this
  rw [this]; congr 2; simp [splice, List.append_assoc]
theorem run_copy0 {t u el : TypeId} {i : TypeInfo} (hu : P.underlying t = some (.slice el)) (hti : P.info? el = some i) {ad : Option Addr} {len c n : Nat} {xv : Value} (n1 : ∀ w', (Builtin.lenOf xv).run P w' = .ok n w') (hm : Nat.min n len = 0)
    (hc : (Builtin.firstCells i.size 0 xv).run P w = .ok #[] w) : (Builtin.copy_ #[t, u] ty #[.slice ad len c, xv]).run P w = .ok (.int .i64 (0 : Nat)) w := by
  cases ad <;> simp [Builtin.copy_, Sem.run_bind', run_underlying hu, run_sizeOf hti, n1, hm, hc, storeCells, goInt, Result.andThen, bind, pure, Sem.run, Sem.bind]
theorem good_cpy {t u el : TypeId} {sz : Nat} {d x : Operand} {d' x' : Go.PG.X} (hI : Inv G ρ X w hp) (hs : SE ρ (Mut ρ X hp) w a e) (ht : elemT P t = some el) (hsz : sizeT P el = some sz) (h0 : 0 < sz) (hd : toX d = some d') (hx : toX x = some x')
    (hδ : evalOp call e hp nid (.cpy sz d' x') = some δ) : Good P G X ρ hp nid w a.eval ⟨dst, .call { callee := .builtin .copy, args := #[d, x], argTypes := #[t, u] }, ty, pos, af, g⟩ δ := by
  have hu := elemT_spec ht
  obtain ⟨ti, hti, rfl⟩ := sizeT_spec hsz
  simp only [evalOp] at hδ
  cases hE : elems hp ti.size (x'.val e) with
  | none => rw [hE] at hδ; cases hδ
  | some q =>
  obtain ⟨ys, f⟩ := q
  rw [hE] at hδ; simp only [Option.bind_some] at hδ
  obtain ⟨news, n1, n2, n3, n4, n5⟩ := elems_R (P := P) hI h0 (toX_R hs hx) hE
  have hR := toX_R hs hd
  have runc : ∀ {v : Value} {w' : World}, (Builtin.copy_ #[t, u] ty #[a.eval d, a.eval x]).run P w = .ok v w' →
      (execOp a.eval ⟨dst, .call { callee := .builtin .copy, args := #[d, x], argTypes := #[t, u] }, ty, pos, af, g⟩).run P w = .ok (.value v) w' := fun h => by
    simp [execOp, resolve, invoke, builtin, bind, pure, Sem.run_bind', h, Result.andThen, Sem.run, Sem.bind]
  split at hδ
  · rename_i hv
    rw [hv] at hR
    obtain ⟨ad, hvv⟩ := hR.nil_inv
    simp only [Option.some.injEq] at hδ; subst hδ
    refine good_pure hI (v := .int .i64 0) (runc ?_) (.d (.int _ _)) rfl rfl
    rw [hvv]
    have := n2 w (fun _ => rfl) 0 (by omega)
    simp only [Nat.zero_mul, List.take_zero] at this
    exact run_copy0 hu hti n1 (Nat.min_zero _) this
  · rename_i id sz' off len hv
    rw [hv] at hR
    split at hδ
    case h_2 => contradiction
    rename_i te sz'' es hob
    split at hδ
    case isFalse => contradiction
    rename_i hc
    obtain ⟨rfl, rfl, hlen⟩ := hc
    simp only [Option.some.injEq] at hδ; subst hδ
    generalize hm : Nat.min ys.length len = m
    have hm1 : m ≤ ys.length := by rw [← hm]; exact Nat.min_le_left _ _
    have hm2 : m ≤ len := by rw [← hm]; exact Nat.min_le_right _ _
    have hcells := n2 w (fun _ => rfl) m hm1
    have hnt : (news.take (m * ti.size)).length = (ys.take m).length * ti.size := by
      have : m * ti.size ≤ ys.length * ti.size := Nat.mul_le_mul_right _ hm1
      rw [List.length_take, List.length_take, n3, Nat.min_eq_left this, Nat.min_eq_left hm1]
    have hnE : RE (Mut ρ X hp) w ti.size (news.take (m * ti.size)) 0 (ys.take m) := by
      refine ⟨fun e he => n5.1 e (List.mem_of_mem_take he), fun i j e x e1 e2 => ?_⟩
      have hi : i < m := by have := (List.getElem?_eq_some_iff.1 e1).1; rw [List.length_take] at this; omega
      rw [List.getElem?_take_of_lt hi] at e1
      obtain ⟨u, hu, hr⟩ := n5.2 i j e x e1 e2
      have hj : j < ti.size := by have := (List.getElem?_eq_some_iff.1 e2).1; rw [n5.1 e (List.mem_of_getElem? e1)] at this; exact this
      have : (i + 1) * ti.size ≤ m * ti.size := Nat.mul_le_mul_right _ hi
      rw [Nat.add_mul] at this
      exact ⟨u, by rw [List.getElem?_take_of_lt (by omega)]; exact hu, hr⟩
    have hO := hI.obj id
    rw [hob] at hO
    obtain ⟨_, hO⟩ := hO.re
    have hone : ∀ v ∈ news.take (m * ti.size), v.oneCell' = true := fun v hv => n4 v (List.mem_of_mem_take hv)
    rcases hR.vec_inv with ⟨b, o, n, k, c, ad, hρ, h1, h2, h3, h4, hvv⟩ | ⟨hρ, rfl, rfl, ad, hvv⟩
    · rcases hO with ⟨rfl, hρ2⟩ | ⟨b', o', cur, hρ', hb', hfit, hre⟩
      · rw [hρ] at hρ2; cases hρ2
      rw [hρ] at hρ'; cases hρ'
      rcases h4 with rfl | rfl
      · have hmul : (off + m) * ti.size ≤ es.length * ti.size := Nat.mul_le_mul_right _ (by omega)
        rw [Nat.add_mul] at hmul
        have hml : (ys.take m).length = m := by rw [List.length_take]; omega
        obtain ⟨w1, w2⟩ := write_vec (nid := nid) hI h0 hob hρ hb' hfit hre hnE hnt (off := off) (by omega)
        refine ⟨_, _, ρ, .inl (runc (v := .int .i64 m) ?_), .d (.int _ _), w1, w2⟩
        rw [hvv]
        have hst := run_storeAll (P := P) (o := o + off * ti.size) hb' (by rw [hnt, hml]; omega) hone
        simp [Builtin.copy_, Sem.run_bind', run_underlying hu, run_sizeOf hti, n1, hm, hcells, hst, goInt, Result.andThen, bind, pure, Sem.run, Sem.bind]
      · have hl0 : len = 0 := by omega
        have hm0 : m = 0 := by omega
        subst hm0
        have e1 : splice es off (ys.take 0) = es := by simp [splice]
        have e2 : upd1 hp id (Ob.vec te ti.size es) = hp := by funext i; unfold upd1; split <;> simp_all
        have e3 : hup hp [(id, Ob.vec te ti.size (splice es off (ys.take 0)))] = hp := by rw [e1]; exact e2
        refine ⟨_, w, ρ, .inl (runc (v := .int .i64 (0 : Nat)) ?_), .d (.int _ _), by rw [e3]; exact hI, by rw [e3]; exact Fr.refl X ρ hp nid w⟩
        rw [hvv]
        simp only [Nat.zero_mul, List.take_zero] at hcells
        exact run_copy0 hu hti n1 hm hcells
    · have hm0 : m = 0 := by omega
      subst hm0
      have e1 : splice es 0 (ys.take 0) = es := by simp [splice]
      have e2 : upd1 hp id (Ob.vec te ti.size es) = hp := by funext i; unfold upd1; split <;> simp_all
      have e3 : hup hp [(id, Ob.vec te ti.size (splice es 0 (ys.take 0)))] = hp := by rw [e1]; exact e2
      refine ⟨_, w, ρ, .inl (runc (v := .int .i64 (0 : Nat)) ?_), .d (.int _ _), by rw [e3]; exact hI, by rw [e3]; exact Fr.refl X ρ hp nid w⟩
      rw [hvv]
      simp only [Nat.zero_mul, List.take_zero] at hcells
      exact run_copy0 hu hti n1 hm hcells
  · contradiction
end Go.PG
end
