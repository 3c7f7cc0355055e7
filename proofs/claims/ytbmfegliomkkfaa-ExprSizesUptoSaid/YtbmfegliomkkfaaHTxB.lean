/- SX: the executor itself: closed data in, a tree of what is left to show out. -/
import Derived.Test.YtbmfegliomkkfaaHTxA
import Derived.OrdersHeld
set_option linter.unusedSimpArgs false
set_option linter.unusedVariables false
namespace Go.Sx
inductive Kd where
  | int (k : IntKind) | bool | val
  deriving DecidableEq, Inhabited
inductive Sh where
  | one (k : Kd) | agg (ks : List Kd)
  deriving Inhabited
inductive Ty where
  | int (k : IntKind) | bool | str | arr (n elem : Nat) | st (fs : List (Nat × Nat)) | slice (elem : Nat) | ptr (elem : Nat) | func | other
  deriving Inhabited
/-- What is told of a type: its form, cells, bytes, the cells of its zero value, and of what kinds its cells are. eq: whether '==' on it compares cell by cell. -/
structure TI where
  ty : Ty
  size : Nat
  bytes : Nat
  zero : List SV
  ks : List Kd
  eq : Bool
  deriving Inhabited
def TI.isAgg (i : TI) : Bool := match i.ty with | .arr .. | .st .. => true | _ => false
structure Ctx where
  tab : Nat → Option TI
  rets : Nat → List Nat
  fok : Nat → Bool
  nw : Bool
  stops : List (List Bool)
  /-- call sites (region's path, operation) at which to stop -/
  cstops : List (List Bool × Nat) := []
  /-- stop where the frame would end -/
  leaf : Bool := false
  /-- an append of one literal element makes room for it; it is stored behind -/
  hole : Bool := false
  /-- a literal slice is a row -/
  rowl : Bool := false
  /-- what these slots point to is laid among the objects that calls may turn -/
  amb : List Nat := []
  /-- what is appended to is laid among the objects that calls may turn -/
  live : Bool := false
  /-- no load is carried out ahead of its time -/
  nofl : Bool := false
  /-- objects made here are handed back as they are -/
  gen : Bool := false
  /-- result types of calls through a function value, by the value's slot -/
  vrets : List (Nat × List Nat) := []
inductive PI where
  | code (p : List Bool)
  | inBlock (id : Nat)
  | inLoop (p : List Bool)
  | inScope (p : List Bool)
  | reg (p : List Bool) (is : List Nat)
  | dreg (p : List Bool) (done : List Nat) (ks : List Nat)
  | begin
  deriving DecidableEq, Inhabited
inductive Blk where
  | cells (cs : List SV) (T : Nat) (shut : Bool)
  | row (n T size : Nat)
  deriving Inhabited
structure Cfg where
  todo : List PI
  sl : List SV
  H : List Blk
  ni : Nat
  nb : Nat
  nv : Nat
  nj : Nat := 0
  /-- the slots of the frames below -/
  fs : List (List SV) := []
  deriving Inhabited
inductive Src where
  | lit (es : List (List SV))
  | va (n : Nat)
  deriving Inhabited
inductive Out where
  | ret (gen : Bool) (v : SV) (H : List Blk)
  | ite (c : BE) (x y : Out)
  | need (c : BE) (k : Out)
  | load (fl : Bool) (a : SV) (cs : List SV) (di db dv : Nat) (k : Out)
  | app (dst : Option Nat) (src : Src) (size bytes : Nat) (k : Out)
  | cut (n : Nat) (lo hi : Option IE) (size : Nat) (k : Out)
  | hole (dst : Option Nat) (size bytes : Nat) (k : Out)
  | fill (n : Nat) (i : IE) (es : List SV) (size : Nat) (k : Out)
  | call (f : Nat) (args : List SV) (H : List Blk) (res : SV) (di db dv : Nat) (k : Out)
  | callv (n : Nat) (args : List SV) (res : SV) (di db dv : Nat) (k : Out)
  | newM (cs : List SV) (T : Nat) (k : Out)
  | mkM (n : IE) (zero : List SV) (T size bytes : Nat) (k : Out)
  | storeM (a : SV) (cs : List SV) (k : Out)
  | appM (d : SV) (src : Src) (size bytes T : Nat) (k : Out)
  | both (x y : Out)
  | stop (c : Cfg)
  | fail (why : String)
  deriving Inhabited
def child (d : Bool) : Code → Code
  | .seq a b => if d then b else a
  | .cond _ a b => if d then b else a
  | .block _ c | .loop c | .scope c => c
  | .rangeFunc _ _ a b => if d then b else a
  | c => c
def sub (body : Code) : List Bool → Code
  | [] => body
  | d :: p => child d (sub body p)
def ofV1 : Value → Option SV
  | .int k n => some (.int k (.l n))
  | .bool b => some (.bool (.t b))
  | .string s => some (.str s.data.toList)
  | .slice none 0 0 => some .nilS
  | .nilFunc => some .nilF
  | .nilIface => some .nilI
  | .pointer none => some .nilP
  | _ => none
def ofV : Value → Option SV
  | .agg cs => (cs.toList.mapM ofV1).map .agg
  | v => ofV1 v
def ev (sl : List SV) : Operand → Option SV
  | .tmp t => sl[t]?
  | .const v => ofV v
  | .func f => some (.fn f [])
  | .global _ => none
def evs (sl : List SV) : List Operand → Option (List SV)
  | [] => some []
  | x :: l => match ev sl x, evs sl l with
    | some v, some vs => some (v :: vs)
    | _, _ => none
def IE.add' : IE → IE → IE | .l x, .l y => .l (x + y) | .l 0, y => y | x, .l 0 => x | x, y => .add x y
def IE.sub' : IE → IE → IE | .l x, .l y => .l (x - y) | x, y => .sub x y
def IE.mul' : IE → IE → IE | .l x, .l y => .l (x * y) | x, y => .mul x y
def BE.lt' : IE → IE → BE | .l x, .l y => .t (decide (x < y)) | x, y => .lt x y
def BE.le' : IE → IE → BE | .l x, .l y => .t (decide (x ≤ y)) | x, y => .le x y
def BE.eq' : IE → IE → BE | .l x, .l y => .t (decide (x = y)) | x, y => .eq x y
def BE.not' : BE → BE | .t b => .t (!b) | .not x => x | x => .not x
def BE.and' : BE → BE → BE | .t true, y => y | .t false, _ => .t false | x, .t true => x | x, y => .and x y
def BE.or' : BE → BE → BE | .t true, _ => .t true | .t false, y => y | x, .t false => x | x, y => .or x y
def loI (k : IntKind) : Int := if k.signed then -(2 ^ (k.bits - 1)) else 0
def hiI (k : IntKind) : Int := if k.signed then 2 ^ (k.bits - 1) - 1 else 2 ^ k.bits - 1
def rng (k : IntKind) (e : IE) : BE := BE.and' (BE.le' (.l (loI k)) e) (BE.le' e (.l (hiI k)))
/-- The value of an operation whose result is wrapped: bare, with the need that it fits; or wrapped. -/
def fit (nw : Bool) (k : IntKind) (e : IE) : List BE × SV := if nw then ([rng k e], .int k e) else ([], .int k (.wr k e))
/-- '==' cell by cell; none: not known how. -/
def eqCells : List Kd → List SV → List SV → Option BE
  | [], [], [] => some (.t true)
  | .int k0 :: ks, .int k x :: l, .int k' y :: m => if k = k0 ∧ k' = k0 then (eqCells ks l m).map fun e => BE.and' (BE.eq' x y) e else none
  | _, _, _ => none
def intOp (nw : Bool) (op : BinOp) (k : IntKind) (x y : IE) : Option (List BE × SV) :=
  match op with
  | .add => some (fit nw k (IE.add' x y))
  | .sub => some (fit nw k (IE.sub' x y))
  | .mul => some (fit nw k (IE.mul' x y))
  | .quo => some (BE.not' (BE.eq' y (.l 0)) :: (fit nw k (.tdiv x y)).1, (fit nw k (.tdiv x y)).2)
  | .rem => some ([BE.not' (BE.eq' y (.l 0))], .int k (.tmod x y))
  | .eql => some ([], .bool (BE.eq' x y))
  | .neq => some ([], .bool (BE.not' (BE.eq' x y)))
  | .lss => some ([], .bool (BE.lt' x y))
  | .leq => some ([], .bool (BE.le' x y))
  | .gtr => some ([], .bool (BE.lt' y x))
  | .geq => some ([], .bool (BE.le' y x))
  | _ => none
def binV (c : Ctx) (op : BinOp) (t : Nat) (x y : SV) : Option (List BE × SV) :=
  match x, y with
  | .int k a, .int k' b => if k = k' then intOp c.nw op k a b else none
  | .agg l, .agg m =>
    match c.tab t with
    | some i => if i.eq then
        match op, eqCells i.ks l m with
        | .eql, some e => some ([], .bool e)
        | .neq, some e => some ([], .bool (BE.not' e))
        | _, _ => none
      else none
    | none => none
  | _, _ => none
def slenOf : SV → Option (List BE × IE)
  | .nilS => some ([], .l 0)
  | .va n => some ([.is 0 n], .slen n)
  | .sl _ n => some ([], .l n)
  | .slc _ n _ => some ([], .l n)
  | _ => none
def Ctx.ty (c : Ctx) (t : Nat) : Option Ty := (c.tab t).map fun i => i.ty
/-- What reads as nil, of a slice or a function value: against the constant nil. -/
def nilEq (ty : Option Ty) (x y : SV) : Option (List BE × BE) :=
  match ty with
  | some (.slice _) => match x, y with
    | .va n, .nilS => some ([.is 0 n], .nil n)
    | .nilS, .nilS => some ([], .t true)
    | .sl _ _, .nilS => some ([], .t false)
    | _, _ => none
  | some .func => match x, y with
    | .va n, .nilF => some ([.is 2 n], .nil n)
    | .fn _ _, .nilF => some ([], .t false)
    | .nilF, .nilF => some ([], .t true)
    | _, _ => none
  | some .bool => match x, y with
    | .bool a, .bool b => some ([], BE.or' (BE.and' a b) (BE.and' (BE.not' a) (BE.not' b)))
    | _, _ => none
  | _ => none
def selIE (i : IE) : Nat → List SV → Option IE
  | _, [] => some (.l 0)
  | k, .int .i64 e :: l => (selIE i (k + 1) l).map fun r => .ifeq i (.l k) e r
  | _, _ => none
def getBlk (H : List Blk) (k : Nat) : Option (List SV × Nat) :=
  match H[k]? with
  | some (.cells cs T _) => some (cs, T)
  | _ => none
def cellsOf : SV → List SV
  | .agg l => l
  | v => [v]
def SV.cok : SV → Bool
  | .junk _ => false
  | _ => true
/-- The part of type t at a place among cells. -/
def partSV (i : TI) (cs : List SV) (off : Nat) : Option SV :=
  if i.isAgg then (if off + i.size ≤ cs.length then some (.agg ((cs.drop off).take i.size)) else none) else cs[off]?
def SV.flat : SV → Bool
  | .agg _ | .tup _ | .undef | .junk _ => false
  | _ => true
def setCells (cs : List SV) (off : Nat) (new : List SV) : List SV := cs.take off ++ new ++ cs.drop (off + new.length)
/-- Parts laid into cells, each at a place of a given size. -/
def fillSV (place : Nat → Option (Nat × Nat)) : List SV → List (Nat × SV) → Option (List SV)
  | cs, [] => some cs
  | cs, (j, v) :: l => match place j with
    | some (off, size) => if v.cok && (cellsOf v).length = size && off + size ≤ cs.length then fillSV place (setCells cs off (cellsOf v)) l else none
    | none => none
def placeSt (c : Ctx) (fs : List (Nat × Nat)) (j : Nat) : Option (Nat × Nat) :=
  match fs[j]? with
  | some (off, ft) => (c.tab ft).map fun fi => (off, fi.size)
  | none => none
def placeArr (n : Nat) (j : Nat) : Option (Nat × Nat) := some (j * n, n)
def pvBuild (c : Ctx) (sl : List SV) (t : Nat) (parts : List (Nat × Operand)) : Option SV :=
  match c.tab t with
  | some i => match evs sl (parts.map (·.2)) with
    | some vs => match i.ty with
      | .st fs => if fs.all (fun p => (c.tab p.2).isSome) then (fillSV (placeSt c fs) i.zero ((parts.map (·.1)).zip vs)).map .agg else none
      | .arr _ e => match c.tab e with
        | some fi => (fillSV (placeArr fi.size) i.zero ((parts.map (·.1)).zip vs)).map .agg
        | none => none
      | _ => none
    | none => none
  | none => none
def pvLoad (c : Ctx) (H : List Blk) (t : Nat) : SV → Option SV
  | .ptr k off => match c.tab t, getBlk H k with
    | some i, some (cs, _) => partSV i cs off
    | _, _ => none
  | _ => none
def pvBin (c : Ctx) (op : BinOp) (t : Nat) (a b : SV) : Option (List BE × SV) :=
  match nilEq (c.ty t) a b with
  | some (ns, e) => match op with | .eql => some (ns, .bool e) | .neq => some (ns, .bool (BE.not' e)) | _ => none
  | none => binV c op t a b
def pvUn (c : Ctx) (op : UnOp) (v : SV) : Option (List BE × SV) :=
  match op, v with
  | .not, .bool b => some ([], .bool (BE.not' b))
  | .neg, .int k e => some (fit c.nw k (IE.sub' (.l 0) e))
  | _, _ => none
def pvConvert (c : Ctx) (dst : Nat) (v : SV) : Option (List BE × SV) :=
  match c.ty dst, v with
  | some (.int k), .int _ e => some (fit c.nw k e)
  | _, _ => none
def pvFieldAddr (c : Ctx) (s f : Nat) (v : SV) : Option SV :=
  match c.ty s with
  | some (.st fs) => match fs[f]? with
    | some (off, ft) => match c.tab ft with
      | some i => if i.size == 0 then none else
        match v with
        | .ptr k o => some (.ptr k (o + off))
        | .ea n i s o => some (.ea n i s (o + off))
        | .pa n o => some (.pa n (o + off))
        | _ => none
      | none => none
    | none => none
  | _ => none
def pvField (c : Ctx) (s f : Nat) (v : SV) : Option SV :=
  match c.ty s, v with
  | some (.st fs), .agg cs => match fs[f]? with
    | some (off, ft) => match c.tab ft with
      | some i => partSV i cs off
      | none => none
    | none => none
  | _, _ => none
def pvIndex (c : Ctx) (t : Nat) (x ix : SV) : Option (List BE × SV) :=
  match c.ty t with
  | some (.arr n e) => match c.tab e, x, ix with
    | some fi, .agg cs, .int _ (.l z) => if 0 ≤ z && z < n then (partSV fi cs (z.toNat * fi.size)).map fun v => ([], v) else none
    | some fi, .agg cs, .int _ i => if fi.size == 1 && n == cs.length && !fi.isAgg then (selIE i 0 cs).map fun v => ([BE.and' (BE.le' (.l 0) i) (BE.lt' i (.l n))], .int .i64 v) else none
    | _, _, _ => none
  | _ => none
def pvIndexAddr (c : Ctx) (t : Nat) (x ix : SV) : Option (List BE × SV) :=
  match c.ty t with
  | some (.arr n e) => match c.tab e, x, ix with
    | some fi, .ptr b off, .int _ (.l z) => if 0 ≤ z && z < n then some ([], .ptr b (off + z.toNat * fi.size)) else none
    | some fi, .ea m i s off, .int _ (.l z) => if 0 ≤ z && z < n then some ([], .ea m i s (off + z.toNat * fi.size)) else none
    | some fi, .pa m off, .int _ (.l z) => if 0 ≤ z && z < n then some ([], .pa m (off + z.toNat * fi.size)) else none
    | _, _, _ => none
  | some (.slice e) => match c.tab e, x, ix with
    | some fi, .va n, .int _ i => some ([BE.and' (BE.le' (.l 0) i) (BE.lt' i (.slen n))], .ea n i fi.size 0)
    | some fi, .sl b len, .int _ (.l z) => if 0 ≤ z && z < len then some ([], .ptr b (z.toNat * fi.size)) else none
    | _, _, _ => none
  | _ => none
/-- What an operation yields that only computes, or reads the call's own cells. -/
def pv (c : Ctx) (sl : List SV) (H : List Blk) (op : Op) : Option (List BE × SV) :=
  match op with
  | .move x | .assign x => (ev sl x).map fun v => ([], v)
  | .pick k a b =>
    match ev sl k, ev sl a, ev sl b with
    | some (.bool (.t k)), some x, some y => some ([], if k then x else y)
    | _, _, _ => none
  | .build t parts => (pvBuild c sl t parts.toList).map fun v => ([], v)
  | .load t a => match ev sl a with
    | some a => (pvLoad c H t a).map fun v => ([], v)
    | none => none
  | .binOp op t x y _ =>
    match ev sl x, ev sl y with
    | some a, some b => pvBin c op t a b
    | _, _ => none
  | .unOp op _ x => match ev sl x with
    | some v => pvUn c op v
    | none => none
  | .convert src dst x => match ev sl x, c.tab src with
    | some v, some _ => pvConvert c dst v
    | _, _ => none
  | .nilCheck x => match ev sl x with
    | some (.va n) => some ([.is 1 n], .pa n 0)
    | some (.ptr k o) => some ([], .ptr k o)
    | some (.pa k o) => some ([], .pa k o)
    | some (.ea n i s o) => some ([], .ea n i s o)
    | some (.fn f l) => some ([], .fn f l)
    | _ => none
  | .fieldAddr s x f => match ev sl x with
    | some v => (pvFieldAddr c s f v).map fun v => ([], v)
    | none => none
  | .field s x f => match ev sl x with
    | some v => (pvField c s f v).map fun v => ([], v)
    | none => none
  | .index t x ix => match ev sl x, ev sl ix with
    | some x, some i => pvIndex c t x i
    | _, _ => none
  | .indexAddr t x ix => match ev sl x, ev sl ix with
    | some x, some i => pvIndexAddr c t x i
    | _, _ => none
  | .extract x i => match ev sl x with
    | some (.tup vs) => (vs[i]?).map fun v => ([], v)
    | _ => none
  | .makeFunc (.func f) first cap => if first.size = 0 then (evs sl cap.toList).map fun vs => ([], .fn f vs) else none
  | .call { callee := .builtin b, args := a, argTypes := ts } =>
    match b, evs sl a.toList, ts.toList with
    | .len, some [x], [t] => match c.ty t, slenOf x with
      | some (.slice _), some (ns, e) => some (ns, .int .i64 e)
      | _, _ => none
    | .min, some [.int k x, .int _ y], _ => some ([], .int k (.mn x y))
    | .max, some [.int k x, .int _ y], _ => some ([], .int k (.mx x y))
    | _, _, _ => none
  | .slice t x none (some h) none =>
    match ev sl x, ev sl h, c.ty t with
    | some (.sl k n), some (.int _ (.l z)), some (.slice e) => if (c.tab e).isSome && 0 ≤ z && z ≤ n then some ([], .slc k z.toNat n) else none
    | _, _, _ => none
  | _ => none
/-- The cells and the type of a block that an operation makes, and the value that points to it. -/
def newBlk (c : Ctx) (sl : List SV) (k : Nat) (op : Op) : Option (List SV × Nat × SV) :=
  match op with
  | .alloc t => (c.tab t).map fun i => (i.zero, t, .ptr k 0)
  | .box t x => (ev sl x).bind fun v => if v.cok then some (cellsOf v, t, .ptr k 0) else none
  | .buildSlice t len parts =>
    match c.ty t with
    | some (.slice e) => match c.tab e, evs sl (parts.toList.map (·.2)) with
      | some i, some vs =>
        if len * i.size ≤ 1000000 && 0 < len && 0 < i.size then
          (fillSV (placeArr i.size) ((List.range (len * i.size)).map fun j => i.zero.getD (j % i.size) .undef) ((parts.toList.map (·.1)).zip vs)).map fun cs => (cs, e, .sl k len)
        else none
      | _, _ => none
    | _ => none
  | _ => none
/-- A store into the call's own cells: block, first cell, new cells. -/
def storeOf (c : Ctx) (sl : List SV) (H : List Blk) (op : Op) : Option (Nat × Nat × List SV) :=
  match op with
  | .store t a x =>
    match c.tab t, ev sl a, ev sl x with
    | some i, some (.ptr k off), some v =>
      match H[k]? with
      | some (.cells cs _ false) => if v.cok && (cellsOf v).length = i.size && off + i.size ≤ cs.length && (cellsOf v).all SV.flat then some (k, off, cellsOf v) else none
      | _ => none
    | _, _, _ => none
  | _ => none
def fillK : List Kd → (ni nb nv : Nat) → List SV × Nat × Nat × Nat
  | [], a, b, c => ([], a, b, c)
  | .int k :: l, a, b, c => let r := fillK l (a + 1) b c; (.int k (.a a) :: r.1, r.2)
  | .bool :: l, a, b, c => let r := fillK l a (b + 1) c; (.bool (.a b) :: r.1, r.2)
  | .val :: l, a, b, c => let r := fillK l a b (c + 1); (.va c :: r.1, r.2)
def fillSh : List Sh → (ni nb nv : Nat) → List SV × Nat × Nat × Nat
  | [], a, b, c => ([], a, b, c)
  | .one k :: l, a, b, c => let r := fillK [k] a b c; let q := fillSh l r.2.1 r.2.2.1 r.2.2.2; (r.1 ++ q.1, q.2)
  | .agg ks :: l, a, b, c => let r := fillK ks a b c; let q := fillSh l r.2.1 r.2.2.1 r.2.2.2; (.agg r.1 :: q.1, q.2)
def shOf (c : Ctx) (t : Nat) : Sh :=
  match c.tab t with
  | some i => if i.isAgg then .agg i.ks else .one (i.ks.headD .val)
  | none => .one .val
def putSV (sl : List SV) (dst : Option Nat) (v : SV) : List SV :=
  match dst with
  | some d => sl.set d v
  | none => sl
def exitPI (id : Nat) : List PI → Option (List PI)
  | .inBlock id' :: k => if id' == id then some k else exitPI id k
  | .begin :: _ => none
  | _ :: k => exitPI id k
  | [] => none
def resultSV (sl : List SV) (H : List Blk) (tab : Nat → Option TI) : List ResultVar → Option (List SV)
  | [] => some []
  | .tmp t :: l => match sl[t]?, resultSV sl H tab l with
    | some v, some vs => some (v :: vs)
    | _, _ => none
  | .cell a t :: l => match sl[a]?, tab t, resultSV sl H tab l with
    | some (.ptr k off), some i, some vs =>
      match getBlk H k with
      | some (cs, _) =>
        if i.isAgg then (if off + i.size ≤ cs.length then some (.agg ((cs.drop off).take i.size) :: vs) else none)
        else match cs[off]? with | some v => some (v :: vs) | none => none
      | none => none
    | _, _, _ => none
def tupOf : List SV → SV
  | [v] => v
  | vs => .tup vs
def needs (l : List BE) (k : Out) : Out := l.foldr (fun b k => match b with | .t true => k | b => .need b k) k
def isRow (H : List Blk) (n : Nat) : Option (Nat × Nat × Nat) :=
  let rec go : List Blk → Nat → Option (Nat × Nat × Nat)
    | [], _ => none
    | .row m T size :: l, k => if m = n then some (k, T, size) else go l (k + 1)
    | _ :: l, k => go l (k + 1)
  go H 0
mutual
def SV.ptrs : SV → List Nat
  | .ptr k _ => [k]
  | .sl k _ => [k]
  | .slc k _ _ => [k]
  | .agg l | .tup l | .fn _ l => SV.ptrss l
  | _ => []
def SV.ptrss : List SV → List Nat
  | [] => []
  | x :: l => x.ptrs ++ SV.ptrss l
end
def shutBlk (ks : List Nat) (H : List Blk) : List Blk :=
  H.zipIdx.map fun (b, i) => match b with | .cells cs T s => .cells cs T (s || ks.contains i) | b => b
structure FnC where
  body : Code
  res : List ResultVar
/-- Whether every order of a region that draws comes to what the text's order comes to: filled in by Draws. -/
def retOut (c : Ctx) (fn : FnC) (g : Cfg) : Out :=
  match resultSV g.sl g.H c.tab fn.res with
  | some vs => if (SV.ptrss vs).isEmpty then .ret c.gen (tupOf vs) [] else .ret c.gen (tupOf vs) (shutBlk (SV.ptrss vs) g.H)
  | none => .fail "results"
def chunk (size : Nat) : Nat → List SV → List (List SV)
  | 0, _ => []
  | n + 1, l => l.take size :: chunk size n (l.drop size)
def srcOf (H : List Blk) (size : Nat) : SV → Option Src
  | .sl k len => match getBlk H k with
    | some (cs, _) => if cs.all SV.flat && cs.length == len * size then some (.lit (chunk size len cs)) else none
    | none => none
  | .va n => some (.va n)
  | .nilS => some (.lit [])
  | _ => none
def IE.ok (ni nv : Nat) : IE → Bool
  | .a n => decide (n < ni)
  | .l _ => true
  | .add x y | .sub x y | .mul x y | .tdiv x y | .tmod x y | .mn x y | .mx x y => x.ok ni nv && y.ok ni nv
  | .ifeq p q x y => p.ok ni nv && q.ok ni nv && x.ok ni nv && y.ok ni nv
  | .wr _ x => x.ok ni nv
  | .slen n => decide (n < nv)
def BE.ok (ni nb nv : Nat) : BE → Bool
  | .t _ => true
  | .a n => decide (n < nb)
  | .lt x y | .le x y | .eq x y => x.ok ni nv && y.ok ni nv
  | .not x => x.ok ni nb nv
  | .and x y | .or x y => x.ok ni nb nv && y.ok ni nb nv
  | .nil n => decide (n < nv)
  | .is _ n => decide (n < nv)
mutual
def SV.ok (ni nb nv nj : Nat) (kf : Nat → Bool) : SV → Bool
  | .int _ e => e.ok ni nv
  | .bool b => b.ok ni nb nv
  | .va n => decide (n < nv)
  | .junk n => decide (n < nj)
  | .str _ | .undef | .nilS | .nilF | .nilP | .nilI => true
  | .ptr k _ => kf k
  | .sl k _ => kf k
  | .slc k _ _ => kf k
  | .ea n i _ _ => decide (n < nv) && i.ok ni nv
  | .pa n _ => decide (n < nv)
  | .agg cs => SV.oks ni nb nv nj kf cs
  | .tup cs => SV.oks ni nb nv nj kf cs
  | .fn _ cs => SV.oks ni nb nv nj kf cs
def SV.oks (ni nb nv nj : Nat) (kf : Nat → Bool) : List SV → Bool
  | [] => true
  | x :: l => x.ok ni nb nv nj kf && SV.oks ni nb nv nj kf l
end
def Cfg.kf (g : Cfg) (k : Nat) : Bool := (getBlk g.H k).isSome
def okBlk (g : Cfg) : Blk → Bool
  | .cells cs _ _ => SV.oks g.ni g.nb g.nv g.nj g.kf cs
  | .row n _ _ => decide (n < g.nv)
/-- Every atom and every block that is named is there. -/
def Cfg.okB (g : Cfg) : Bool := SV.oks g.ni g.nb g.nv g.nj g.kf g.sl && g.H.all (okBlk g) && g.fs.all (SV.oks g.ni g.nb g.nv g.nj g.kf)
def kindsOf (c : Ctx) (t : Nat) : List Kd := match c.tab t with | some i => i.ks | none => []
def loadRun (c : Ctx) (fl : Bool) (g : Cfg) (dst : Option Tmp) (t : Nat) (x : SV) (kont : Cfg → Out) : Out :=
  match c.tab t with
  | some i =>
    if g.okB then
      match x with
      | .ea .. | .pa .. =>
        let r := fillK i.ks g.ni g.nb g.nv
        if r.1.length = i.size && SV.oks r.2.1 r.2.2.1 r.2.2.2 0 (fun _ => false) r.1 then
          .load fl x r.1 (r.2.1 - g.ni) (r.2.2.1 - g.nb) (r.2.2.2 - g.nv)
            (kont { g with sl := putSV g.sl dst (if i.isAgg then .agg r.1 else r.1.headD .undef), ni := r.2.1, nb := r.2.2.1, nv := r.2.2.2 })
        else .fail "load kinds"
      | _ => .fail "load"
    else .fail "load atoms"
  | none => .fail "load type"
def srcOk (g : Cfg) : Src → Bool
  | .lit l => SV.oks g.ni g.nb g.nv g.nj (fun _ => false) l.flatten
  | .va _ => true
mutual
def SV.uses (n : Nat) : SV → Bool
  | .va m => m == n
  | .ea m _ _ _ => m == n
  | .pa m _ => m == n
  | .agg l | .tup l | .fn _ l => SV.usess n l
  | _ => false
def SV.usess (n : Nat) : List SV → Bool
  | [] => false
  | x :: l => x.uses n || SV.usess n l
end
/-- A row that nobody names any more: its place may be taken. -/
def deadRow (g : Cfg) (T size : Nat) : Blk → Bool
  | .row n T' size' => T' == T && size' == size && !(SV.usess n g.sl || g.H.any (fun b => match b with | .cells cs _ _ => SV.usess n cs | _ => false) || g.fs.any (SV.usess n))
  | _ => false
def appRun (c : Ctx) (g : Cfg) (dst : Option Tmp) (t : Nat) (x y : SV) (kont : Cfg → Out) : Out :=
  match c.ty t with
  | some (.slice e) =>
    match c.tab e with
    | some i =>
      if 0 < i.size && g.okB then
        match srcOf g.H i.size y with
        | some s =>
          if srcOk g s then
          match x with
          | .nilS => match g.H.findIdx? (deadRow g e i.size) with
            | some b => .app none s i.size i.bytes (kont { g with sl := putSV g.sl dst (.va g.nv), nv := g.nv + 1, H := g.H.set b (.row g.nv e i.size) })
            | none => .app none s i.size i.bytes (kont { g with sl := putSV g.sl dst (.va g.nv), nv := g.nv + 1, H := g.H ++ [.row g.nv e i.size] })
          | .va m =>
            match isRow g.H m with
            | some (b, T, size) =>
              if T == e && size == i.size then .app (some m) s i.size i.bytes (kont { g with sl := putSV g.sl dst (.va g.nv), nv := g.nv + 1, H := g.H.set b (.row g.nv e i.size) })
              else .fail "append type"
            | none => .fail "append not a row of the call s own"
          | _ => .fail "append onto what"
          else .fail "append an address among what is appended"
        | none => .fail "append of what"
      else .fail "append atoms"
    | none => .fail "append type"
  | _ => .fail "append type"
/-- An append onto an object. -/
def appMRun (c : Ctx) (g : Cfg) (dst : Option Tmp) (t : Nat) (x y : SV) (kont : Cfg → Out) : Out :=
  match c.ty t with
  | some (.slice e) =>
    match c.tab e with
    | some i =>
      if 0 < i.size && g.okB then
        match srcOf g.H i.size y with
        | some s =>
          if srcOk g s then
            match x with
            | .nilS => .appM .nilS s i.size i.bytes e (kont { g with sl := putSV g.sl dst (.va g.nv), nv := g.nv + 1 })
            | .va m => if decide (m < g.nv) then .appM (.va m) s i.size i.bytes e (kont { g with sl := putSV g.sl dst (.va g.nv), nv := g.nv + 1 }) else .fail "append atoms"
            | _ => .fail "append onto what"
          else .fail "append an address among what is appended"
        | none => .fail "append of what"
      else .fail "append atoms"
    | none => .fail "append type"
  | _ => .fail "append type"
/-- An append of one element that is stored behind it. -/
def holeRun (c : Ctx) (g : Cfg) (dst : Option Tmp) (t : Nat) (x y : SV) (kont : Cfg → Out) : Out :=
  match c.ty t with
  | some (.slice e) =>
    match c.tab e with
    | some i =>
      if 0 < i.size && g.okB then
        match srcOf g.H i.size y with
        | some (.lit [z]) =>
          if srcOk g (.lit [z]) then
          match x with
          | .nilS =>
            if ({ g with nv := g.nv + 1, H := g.H ++ [.row g.nv e i.size] } : Cfg).okB then
              .hole none i.size i.bytes (kont { g with sl := putSV g.sl dst (.va (g.nv + 1)), nv := g.nv + 2, H := g.H ++ [.row g.nv e i.size] })
            else .fail "hole atoms"
          | .va m =>
            match isRow g.H m with
            | some (b, T, size) =>
              if T == e && size == i.size && ({ g with nv := g.nv + 1, H := g.H.set b (.row g.nv e i.size) } : Cfg).okB then
                .hole (some m) i.size i.bytes (kont { g with sl := putSV g.sl dst (.va (g.nv + 1)), nv := g.nv + 2, H := g.H.set b (.row g.nv e i.size) })
              else .fail "hole type"
            | none => .fail "hole in what is no row of the call s own"
          | _ => .fail "hole in what"
          else .fail "hole address"
        | _ => .fail "hole of what"
      else .fail "hole atoms"
    | none => .fail "hole type"
  | _ => .fail "hole type"
/-- The element that was left open is stored. -/
def fillRun (c : Ctx) (g : Cfg) (dst : Option Tmp) (t : Nat) (x y : SV) (kont : Cfg → Out) : Out :=
  match x, c.tab t with
  | .ea n i sz 0, some ti =>
    match isRow g.H (n - 1) with
    | some (b, T, size) =>
      if T == t && size == sz && sz == ti.size && 0 < sz && g.okB && y.cok && (cellsOf y).length == sz && (cellsOf y).all SV.flat && SV.oks g.ni g.nb g.nv g.nj (fun _ => false) (cellsOf y) && SV.ok g.ni g.nb g.nv g.nj g.kf x then
        .fill n i (cellsOf y) sz (kont { g with sl := putSV g.sl dst .undef, nv := g.nv + 1, H := g.H.set b (.row n t sz) })
      else .fail "fill"
    | none => .fail "fill of what"
  | _, _ => .fail "fill address"
/-- A literal slice, as a row. -/
def litRun (c : Ctx) (g : Cfg) (dst : Option Tmp) (cs : List SV) (e : Nat) (v : SV) (kont : Cfg → Out) : Out :=
  match v, c.tab e with
  | .sl _ len, some i =>
    if 0 < i.size && g.okB && cs.all SV.flat && cs.length == len * i.size && SV.oks g.ni g.nb g.nv g.nj (fun _ => false) cs && decide (len ≤ 1000000) then
      .app none (.lit (chunk i.size len cs)) i.size i.bytes (kont { g with sl := putSV g.sl dst (.va g.nv), nv := g.nv + 1, H := g.H ++ [.row g.nv e i.size] })
    else .fail "literal"
  | _, _ => .fail "literal"
def SV.isSl : SV → Bool
  | .sl _ _ => true
  | _ => false
def optInt (sl : List SV) : Option Operand → Option (Option IE)
  | none => some none
  | some l => match ev sl l with
    | some (.int _ e) => some (some e)
    | _ => none
def cutRun (c : Ctx) (g : Cfg) (dst : Option Tmp) (t : Nat) (x : SV) (lo hi : Option Operand) (kont : Cfg → Out) : Out :=
  match c.ty t, x with
  | some (.slice e), .va m =>
    match c.tab e, optInt g.sl lo, optInt g.sl hi with
    | some i, some lo, some hi =>
      if g.okB then .cut m lo hi i.size (kont { g with sl := putSV g.sl dst (.va g.nv), nv := g.nv + 1 }) else .fail "slice atoms"
    | _, _, _ => .fail "slice"
  | _, _ => .fail "slice"
def callRun (c : Ctx) (g : Cfg) (dst : Option Tmp) (f : Nat) (args : List SV) (kont : Cfg → Out) : Out :=
  if c.fok f && g.okB then
    let r := fillSh ((c.rets f).map (shOf c)) g.ni g.nb g.nv
    let ps := SV.ptrss args
    if SV.ok r.2.1 r.2.2.1 r.2.2.2 0 (fun _ => false) (tupOf r.1) then
    let H' := if ps.isEmpty then g.H else shutBlk ps g.H
    .call f args (if ps.isEmpty then [] else H') (tupOf r.1) (r.2.1 - g.ni) (r.2.2.1 - g.nb) (r.2.2.2 - g.nv)
      (kont { g with sl := putSV g.sl dst (tupOf r.1), ni := r.2.1, nb := r.2.2.1, nv := r.2.2.2, H := H' })
    else .fail "call result"
  else .fail "call"
def callvRun (c : Ctx) (g : Cfg) (dst : Option Tmp) (slot n : Nat) (args : List SV) (kont : Cfg → Out) : Out :=
  match c.vrets.lookup slot with
  | some rs =>
    let r := fillSh (rs.map (shOf c)) g.ni g.nb g.nv
    if g.okB && SV.oks g.ni g.nb g.nv g.nj (fun _ => false) args && SV.ok r.2.1 r.2.2.1 r.2.2.2 0 (fun _ => false) (tupOf r.1) then
      .callv n args (tupOf r.1) (r.2.1 - g.ni) (r.2.2.1 - g.nb) (r.2.2.2 - g.nv)
        (kont { g with sl := putSV g.sl dst (tupOf r.1), ni := r.2.1, nb := r.2.2.1, nv := r.2.2.2 })
    else .fail "call through a value"
  | none => .fail "call through a value of what type"
def newMRun (g : Cfg) (dst : Option Tmp) (cs : List SV) (t : Nat) (v : SV) (kont : Cfg → Out) : Out :=
  match v with
  | .ptr _ 0 => if g.okB && cs.all SV.flat && SV.oks g.ni g.nb g.nv g.nj (fun _ => false) cs then
      .newM cs t (kont { g with sl := putSV g.sl dst (.pa g.nv 0), nv := g.nv + 1 })
    else .fail "new object"
  | _ => .fail "new object"
def mkMRun (c : Ctx) (g : Cfg) (dst : Option Tmp) (t : Nat) (l n : SV) (kont : Cfg → Out) : Out :=
  match l, n, c.ty t with
  | .int _ l, .int _ n, some (.slice e) =>
    match c.tab e with
    | some i => if g.okB && decide (l = n) && i.zero.all SV.flat && SV.oks g.ni g.nb g.nv g.nj (fun _ => false) i.zero then
        .mkM l i.zero e i.size i.bytes (kont { g with sl := putSV g.sl dst (.va g.nv), nv := g.nv + 1 })
      else .fail "make"
    | none => .fail "make"
  | _, _, _ => .fail "make"
def storeMRun (c : Ctx) (g : Cfg) (dst : Option Tmp) (t : Nat) (x y : SV) (kont : Cfg → Out) : Out :=
  match c.tab t with
  | some ti =>
    if g.okB && y.cok && (cellsOf y).length == ti.size && (cellsOf y).all SV.flat && SV.oks g.ni g.nb g.nv g.nj (fun _ => false) (cellsOf y) && SV.ok g.ni g.nb g.nv g.nj (fun _ => false) x then
      match x with
      | .ea .. | .pa .. => .storeM x (cellsOf y) (kont { g with sl := putSV g.sl dst .undef })
      | _ => .fail "store where"
    else .fail "store what"
  | none => .fail "store type"
def tmpOf : Operand → Nat
  | .tmp t => t
  | _ => 99999
/-- One operation, and what comes behind it. -/
def opRun (c : Ctx) (g : Cfg) (o : Oper) (kont : Cfg → Out) : Out :=
  match pv c g.sl g.H o.op with
  | some (ns, v) => needs ns (kont { g with sl := putSV g.sl o.dst v })
  | none =>
    match newBlk c g.sl g.H.length o.op with
    | some (cs, t, v) => if (o.dst.elim false c.amb.contains) then newMRun g o.dst cs t v kont else if c.rowl && v.isSl then litRun c g o.dst cs t v kont else if g.okB && SV.oks g.ni g.nb g.nv g.nj g.kf cs then kont { g with sl := putSV g.sl o.dst v, H := g.H ++ [.cells cs t false] } else .fail "new atoms"
    | none =>
      match storeOf c g.sl g.H o.op with
      | some (b, off, new) =>
        match g.H[b]? with
        | some (.cells cs t false) => kont { g with sl := putSV g.sl o.dst .undef, H := g.H.set b (.cells (setCells cs off new) t false) }
        | _ => .fail "store"
      | none =>
        match o.op with
        | .load t a => match ev g.sl a with
          | some x => loadRun c false g o.dst t x kont
          | none => .fail "load"
        | .slice t x lo hi none => match ev g.sl x with
          | some x => cutRun c g o.dst t x lo hi kont
          | none => .fail "slice"
        | .store t a v => match ev g.sl a, ev g.sl v with
          | some x, some y => if c.hole then fillRun c g o.dst t x y kont else storeMRun c g o.dst t x y kont
          | _, _ => .fail "store"
        | .makeSlice t l n => match ev g.sl l, ev g.sl n with
          | some x, some y => mkMRun c g o.dst t x y kont
          | _, _ => .fail "make"
        | .call { callee := .builtin .append, args := a, argTypes := ts } =>
          match evs g.sl a.toList, ts.toList with
          | some [x, y], [t, t'] => if t == t' then (if c.live then appMRun c g o.dst t x y kont else if c.hole then holeRun c g o.dst t x y kont else appRun c g o.dst t x y kont) else .fail "append"
          | _, _ => .fail "append"
        | .call { callee := .value f, args := a, argTypes := _ } =>
          match ev g.sl f, evs g.sl a.toList with
          | some (.fn f cap), some args => callRun c g o.dst f (args ++ cap) kont
          | some (.va n), some args => callvRun c g o.dst (tmpOf f) n args kont
          | _, _ => .fail "call of what"
        | _ => .fail "operation"
def opsAt : Code → Array Oper
  | .region _ ops _ => ops
  | _ => #[]
/-- The guard of an operation: known to let it run (true), known not to (false); or the slot and the condition on which it hangs. -/
inductive Gd where
  | known (b : Bool)
  | on (d : Nat) (c : BE)
  | bad
def guardOf (ops : Array Oper) (sl : List SV) (o : Oper) : Gd :=
  match o.guard with
  | none => .known true
  | some (j, want) =>
    match ((ops[j]?).bind (·.dst)) with
    | none => .bad
    | some d =>
      match sl[d]? with
      | some (.bool (.t b)) => .known (b == want)
      | some (.bool b) => .on d b
      | some .undef => .known false
      | _ => .bad
def maskH (ks : List Nat) (H : List Blk) : List Blk := H.zipIdx.map fun (b, i) => if ks.contains i then b else .row 0 0 0
/-- The blocks into which a region's stores go, as far as can be told: none: not told. -/
def rootOf (ops : Array Oper) (sl : List SV) : Nat → Operand → Option Nat
  | 0, _ => none
  | n + 1, .tmp d =>
    match (ops.toList.find? fun o => o.dst == some d) with
    | some o => match o.op with
      | .indexAddr _ x _ | .fieldAddr _ x _ | .move x | .assign x | .nilCheck x => rootOf ops sl n x
      | _ => none
    | none => match sl[d]? with
      | some (.ptr k _) => some k
      | _ => none
  | _, _ => none
def stableBlks (ops : Array Oper) (sl : List SV) (n : Nat) : List Nat :=
  let roots := ops.toList.filterMap fun o => match o.op with
    | .store _ a _ => some (rootOf ops sl 10 a)
    | _ => none
  if roots.any (·.isNone) then [] else (List.range n).filter fun k => !roots.contains (some k)
def maskOf (done : List Nat) : Nat := done.foldl (fun m i => m ||| (1 <<< i)) 0
/-- Which have been carried out (looked up quickly). -/
def listedOf (n : Nat) (done : List Nat) : Array Bool := ((List.range n).map fun j => (maskOf done).testBit j).toArray
def rmask (ops : Array Oper) (o : Oper) : Nat := (o.looksAt ops).foldl (fun m t => m ||| (1 <<< t)) 0
def apartF (ops : Array Oper) (x y : Oper) : Bool :=
  (match x.dst with
   | some d => !(rmask ops y).testBit d && (match y.dst with | some e => !Nat.beq e d | none => true)
   | none => true) &&
  (match y.dst with
   | some d => !(rmask ops x).testBit d
   | none => true)
def freeF (ops : Array Oper) (done : List Nat) (i : Nat) : Bool :=
  match ops[i]? with
  | none => false
  | some oi => ops.toList.zipIdx.all fun x => Nat.beq x.2 i || (maskOf done).testBit x.2 || x.1.after.toList.any (fun e => Region.binds .any e && Nat.beq e.on i) || apartF ops oi x.1
def readyF (ops : Array Oper) (done : List Nat) : List Nat :=
  (List.range ops.size).filter fun i => !(maskOf done).testBit i && match ops[i]? with
    | some o => o.after.toList.all fun e => !Region.binds .any e || (Nat.blt e.on ops.size && (maskOf done).testBit e.on)
    | none => false
def noSelectF (ops : Array Oper) : Bool := ops.toList.all fun o => match o.op with | .select .. => false | _ => true
/-- An operation of a region that draws which may be carried out as soon as it may come up. -/
def floats (c : Ctx) (g : Cfg) (ops : Array Oper) (done : List Nat) (ks : List Nat) (i : Nat) : Bool :=
  match ops[i]? with
  | none => false
  | some o => freeF ops done i &&
    match guardOf ops g.sl o with
    | .known false => true
    | .known true => (pv c g.sl (maskH ks g.H) o.op).isSome
    | _ => false
/-- A load from known cells, which may be carried out as soon as it may come up. -/
def floatsL (c : Ctx) (g : Cfg) (ops : Array Oper) (done : List Nat) (i : Nat) : Bool :=
  match ops[i]? with
  | none => false
  | some o => freeF ops done i &&
    match guardOf ops g.sl o, o.op with
    | .known true, .load _ a => match ev g.sl a with
      | some (.ea ..) => true
      | some (.pa ..) => true
      | _ => false
    | _, _ => false
def hangs (g : Cfg) (ops : Array Oper) (i : Nat) : Option (Nat × BE) :=
  match ops[i]? with
  | none => none
  | some o => match guardOf ops g.sl o with
    | .on d b => some (d, b)
    | _ => none
/-- An index into an array that is not told: which one it is, is asked. -/
def splitOf (c : Ctx) (sl : List SV) (o : Oper) : Option (Nat × IntKind × IE × Nat) :=
  match o.op with
  | .indexAddr t _ (.tmp d) | .index t _ (.tmp d) =>
    match sl[d]? with
    | some (.int _ (.l _)) => none
    | some (.int k e) => match c.ty t with
      | some (.arr n _) => if n ≤ 16 then some (d, k, e, n) else none
      | _ => none
    | _ => none
  | _ => none
def splitOut (g : Cfg) (d : Nat) (k : IntKind) (e : IE) (r : Cfg → Out) : Nat → Out
  | 0 => .fail "index"
  | n + 1 => .ite (.eq e (.l n)) (r { g with sl := g.sl.map fun v => if SV.beq v (.int k e) then .int k (.l n) else v }) (splitOut g d k e r n)
def splitsAt (c : Ctx) (g : Cfg) (ops : Array Oper) (i : Nat) : Option (Nat × IntKind × IE × Nat) :=
  match ops[i]? with
  | none => none
  | some o => match guardOf ops g.sl o with
    | .known true => splitOf c g.sl o
    | _ => none
def storeBad (c : Ctx) (g : Cfg) (ks : List Nat) (o : Oper) : Bool :=
  match storeOf c g.sl g.H o.op with
  | some (b, _, _) => ks.contains b
  | none => false
def PI.isD : PI → Bool
  | .dreg _ _ _ => true
  | _ => false
/-- Whichever of them comes. -/
def bothAll : List Out → Out
  | [] => .fail "nothing comes"
  | [x] => x
  | x :: l => .both x (bothAll l)
def run (c : Ctx) (fn : FnC) : Nat → Cfg → Out
  | 0, _ => .fail "fuel"
  | n + 1, g =>
    if (g.todo.drop 1).any PI.isD then .fail "order" else
    match g.todo with
    | [] => if c.leaf then .stop g else retOut c fn g
    | .begin :: _ => .stop g
    | .inBlock _ :: k => run c fn n { g with todo := k }
    | .inScope _ :: k => run c fn n { g with todo := k }
    | .reg _ [] :: k => run c fn n { g with todo := k }
    | .inLoop p :: k =>
      if c.stops.contains p then .stop { g with todo := .code p :: .inLoop p :: k }
      else run c fn n { g with todo := .code p :: .inLoop p :: k }
    | .code p :: k =>
      match sub fn.body p with
      | .skip => run c fn n { g with todo := k }
      | .label _ => run c fn n { g with todo := k }
      | .seq _ _ => run c fn n { g with todo := .code (false :: p) :: .code (true :: p) :: k }
      | .cond x _ _ =>
        match ev g.sl x with
        | some (.bool (.t b)) => run c fn n { g with todo := .code ((!b) :: p) :: k }
        | some (.bool b) => .ite b (run c fn n { g with todo := .code (false :: p) :: k }) (run c fn n { g with todo := .code (true :: p) :: k })
        | _ => .fail "cond"
      | .block id _ => run c fn n { g with todo := .code (false :: p) :: .inBlock id :: k }
      | .loop _ =>
        if c.stops.contains (false :: p) then .stop { g with todo := .code (false :: p) :: .inLoop (false :: p) :: k }
        else run c fn n { g with todo := .code (false :: p) :: .inLoop (false :: p) :: k }
      | .scope _ => run c fn n { g with todo := .code (false :: p) :: .inScope (false :: p) :: k }
      | .exit id => match exitPI id k with
        | some k' => run c fn n { g with todo := k' }
        | none => if c.leaf then .stop g else .fail "exit"
      | .ret => if c.leaf then .stop g else retOut c fn g
      | .region _ ops draw =>
        if draw then (if c.cstops.contains (p, 9999) then .stop g else if noSelectF ops then run c fn n { g with todo := .dreg p [] (stableBlks ops g.sl g.H.length) :: k } else .fail "select")
        else run c fn n { g with todo := .reg p (List.range ops.size) :: k }
      | .rangeFunc .. => .stop g
      | _ => .fail "code"
    | .reg p (i :: is) :: k =>
      match (opsAt (sub fn.body p))[i]? with
      | none => .fail "op"
      | some o =>
        match guardOf (opsAt (sub fn.body p)) g.sl o with
        | .known true => if c.cstops.contains (p, i) then .stop g else
          match splitOf c g.sl o with
          | some (d, kd, e, m) => splitOut g d kd e (run c fn n) m
          | none => opRun c { g with todo := .reg p is :: k } o (run c fn n)
        | .known false => run c fn n { g with todo := .reg p is :: k, sl := putSV g.sl o.dst .undef }
        | .on d b => .ite b (run c fn n { g with sl := g.sl.set d (.bool (.t true)) }) (run c fn n { g with sl := g.sl.set d (.bool (.t false)) })
        | .bad => .fail "guard"
    | .dreg p done ks :: k =>
      match readyF (opsAt (sub fn.body p)) done with
      | [] => run c fn n { g with todo := k }
      | rs =>
        if !(decide (done.length < (opsAt (sub fn.body p)).size) && ks.all (fun k => decide (k < g.H.length)) && noSelectF (opsAt (sub fn.body p))) then .fail "region" else
        match rs.find? (floats c g (opsAt (sub fn.body p)) done ks) with
        | some i =>
          match (opsAt (sub fn.body p))[i]? with
          | none => .fail "op"
          | some o =>
            match guardOf (opsAt (sub fn.body p)) g.sl o with
            | .known true =>
              match pv c g.sl (maskH ks g.H) o.op with
              | some (ns, v) => needs ns (run c fn n { g with todo := .dreg p (done ++ [i]) ks :: k, sl := putSV g.sl o.dst v })
              | none => .fail "op"
            | _ => run c fn n { g with todo := .dreg p (done ++ [i]) ks :: k, sl := putSV g.sl o.dst .undef }
        | none =>
          match if c.nofl then none else rs.find? (floatsL c g (opsAt (sub fn.body p)) done) with
          | some i =>
            match (opsAt (sub fn.body p))[i]? with
            | none => .fail "op"
            | some o =>
              match o.op with
              | .load t a => match ev g.sl a with
                | some x => loadRun c true { g with todo := .dreg p (done ++ [i]) ks :: k } o.dst t x (run c fn n)
                | none => .fail "load"
              | _ => .fail "load"
          | none =>
          match rs.findSome? (splitsAt c g (opsAt (sub fn.body p))) with
          | some (d, kd, e, m) => splitOut g d kd e (run c fn n) m
          | none =>
          match rs.findSome? (hangs g (opsAt (sub fn.body p))) with
          | some (d, b) => .ite b (run c fn n { g with sl := g.sl.set d (.bool (.t true)) }) (run c fn n { g with sl := g.sl.set d (.bool (.t false)) })
          | none =>
            bothAll (rs.map fun i =>
              match (opsAt (sub fn.body p))[i]? with
              | none => .fail "op"
              | some o =>
                match guardOf (opsAt (sub fn.body p)) g.sl o with
                | .known true =>
                  if storeBad c g ks o then .fail "a store into what the region reads" else
                  opRun c { g with todo := .dreg p (done ++ [i]) ks :: k } o (run c fn n)
                | _ => .fail "guard")
end Go.Sx
