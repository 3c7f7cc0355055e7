/- SX: a symbolic executor over the model's code, and what its data mean. -/
import Derived.Calls
import Derived.Tactics
import Derived.Below
import Derived.Orders
import Derived.KernelRfl
import Derived.OrdersHeld
import Derived.Laws.World
import Derived.Laws.Sem
import Derived.Laws.AppendOwn
import Derived.AtR
import Derived.Laws.StructEq
import Derived.Laws.Cells
import Derived.Laws.MakeOwn
set_option linter.unusedSimpArgs false
set_option linter.unusedVariables false
namespace Go.Sx
/-- What is known of memory cell by cell: cells that nobody writes any more. -/
abbrev Hp := Nat → Nat → Option Value
def Hp.le (s t : Hp) : Prop := ∀ b o u, s b o = some u → t b o = some u
theorem Hp.le_refl (s : Hp) : s.le s := fun _ _ _ h => h
theorem Hp.le_trans {s t u : Hp} (h : s.le t) (k : t.le u) : s.le u := fun b o v x => k b o v (h b o v x)
/-- The known cells are cells of the world. -/
def Sub (s : Hp) (w : World) : Prop := ∀ b o u, s b o = some u → w.cell? ⟨b, o, none⟩ = some u
/-- Newly known cells lie in blocks from B on. -/
def New (B : Nat) (s t : Hp) : Prop := ∀ b o u, t b o = some u → s b o = none → B ≤ b
def sliceLen : Value → Int
  | .slice _ n _ => n
  | _ => 0
/-- The slice value v reads, in the known cells, as the elements xs, each of `size` cells. -/
def SliceIn (s : Hp) (size : Nat) (v : Value) (xs : List (List Value)) : Prop :=
  (∀ x ∈ xs, x.length = size) ∧ ∃ a cap, v = .slice a xs.length cap ∧ xs.length ≤ cap ∧
    (xs ≠ [] → ∃ b o, a = some ⟨b, o, none⟩ ∧ ∀ i x, xs[i]? = some x → ∀ j u, x[j]? = some u → s b (o + i * size + j) = some u)
theorem SliceIn.mono {s t : Hp} (h : s.le t) {size v xs} (k : SliceIn s size v xs) : SliceIn t size v xs := by
  obtain ⟨h1, a, cap, h2, hc, h3⟩ := k
  refine ⟨h1, a, cap, h2, hc, fun hx => ?_⟩
  obtain ⟨b, o, ha, h4⟩ := h3 hx
  exact ⟨b, o, ha, fun i x hi j u hj => h _ _ _ (h4 i x hi j u hj)⟩
/-- What an atom stands for that is not told. -/
abbrev vd : Value := .bool false
/-- i, b, v, j: what the atoms stand for. m: objects that nobody else touches, and what they hold; the first k of them were handed in. -/
structure Env where
  i : List Int
  b : List Bool
  v : List Value
  j : List Value
  m : List (Nat × Obj) := []
  k : Nat := 0
inductive IE where
  | a (n : Nat)
  | l (z : Int)
  | add (x y : IE)
  | sub (x y : IE)
  | mul (x y : IE)
  | tdiv (x y : IE)
  | tmod (x y : IE)
  | mn (x y : IE)
  | mx (x y : IE)
  | ifeq (a b x y : IE)
  | wr (k : IntKind) (x : IE)
  | slen (n : Nat)
  | stl (n : Nat)
  | sat (n : Nat) (i : IE)
  deriving DecidableEq, Inhabited
def ifEq (a b x y : Int) : Int := if a = b then x else y
def mnI (x y : Int) : Int := if y < x then y else x
def mxI (x y : Int) : Int := if y > x then y else x
def ltB (x y : Int) : Bool := decide (x < y)
def leB (x y : Int) : Bool := decide (x ≤ y)
def eqB (x y : Int) : Bool := decide (x = y)
theorem ltB_true {x y : Int} : ltB x y = true ↔ x < y := by simp [ltB]
theorem leB_true {x y : Int} : leB x y = true ↔ x ≤ y := by simp [leB]
theorem eqB_true {x y : Int} : eqB x y = true ↔ x = y := by simp [eqB]
theorem ltB_false {x y : Int} : ltB x y = false ↔ ¬ x < y := by simp [ltB]
theorem leB_false {x y : Int} : leB x y = false ↔ ¬ x ≤ y := by simp [leB]
theorem eqB_false {x y : Int} : eqB x y = false ↔ ¬ x = y := by simp [eqB]
/-- A string's length, its bytes; whether strings are the same. -/
def strLen : Value → Int
  | .string b => b.data.toList.length
  | _ => 0
def strAt : Value → Int → Int
  | .string b, i => (((b.data.toList[i.toNat]?).getD 0).toNat : Int)
  | _, _ => 0
def strEq : Value → Value → Bool
  | .string a, .string b => decide (a.data.toList = b.data.toList)
  | _, _ => false
def strIs (l : List UInt8) : Value → Bool
  | .string a => decide (a.data.toList = l)
  | _ => false
def IE.den (ρ : Env) : IE → Int
  | .a n => ρ.i.getD n 0
  | .l z => z
  | .add x y => x.den ρ + y.den ρ
  | .sub x y => x.den ρ - y.den ρ
  | .mul x y => x.den ρ * y.den ρ
  | .tdiv x y => (x.den ρ).tdiv (y.den ρ)
  | .tmod x y => (x.den ρ).tmod (y.den ρ)
  | .mn x y => mnI (x.den ρ) (y.den ρ)
  | .mx x y => mxI (x.den ρ) (y.den ρ)
  | .ifeq p q x y => ifEq (p.den ρ) (q.den ρ) (x.den ρ) (y.den ρ)
  | .wr k x => k.wrap (x.den ρ)
  | .slen n => sliceLen (ρ.v.getD n vd)
  | .stl n => strLen (ρ.v.getD n vd)
  | .sat n i => strAt (ρ.v.getD n vd) (i.den ρ)
inductive BE where
  | t (b : Bool)
  | a (n : Nat)
  | lt (x y : IE)
  | le (x y : IE)
  | eq (x y : IE)
  | not (x : BE)
  | and (x y : BE)
  | or (x y : BE)
  | nil (n : Nat)
  | is (k n : Nat)
  | seq (n m : Nat)
  | sis (n : Nat) (l : List UInt8)
  deriving DecidableEq, Inhabited
def isNilV : Value → Bool
  | .slice none _ _ => true
  | .nilFunc => true
  | .pointer none => true
  | _ => false
/-- 0: a slice; 1: a pointer that is not nil; 2: a function value; 3: a string -/
def isKindV : Nat → Value → Bool
  | 0, .slice _ _ _ => true
  | 1, .pointer (some _) => true
  | 2, .func _ _ _ => true
  | 2, .nilFunc => true
  | 3, .string _ => true
  | _, _ => false
def BE.den (ρ : Env) : BE → Bool
  | .t b => b
  | .a n => ρ.b.getD n false
  | .lt x y => ltB (x.den ρ) (y.den ρ)
  | .le x y => leB (x.den ρ) (y.den ρ)
  | .eq x y => eqB (x.den ρ) (y.den ρ)
  | .not x => !x.den ρ
  | .and x y => x.den ρ && y.den ρ
  | .or x y => x.den ρ || y.den ρ
  | .nil n => isNilV (ρ.v.getD n vd)
  | .is k n => isKindV k (ρ.v.getD n vd)
  | .seq n m => strEq (ρ.v.getD n vd) (ρ.v.getD m vd)
  | .sis n l => strIs l (ρ.v.getD n vd)
/-- A symbolic value. ptr: into an own block; sl: a slice over the whole of an own block; ea: the address of a cell of an element of the slice that is value number n; pa: a pointer that is value number n, some cells on. -/
inductive SV where
  | int (k : IntKind) (e : IE)
  | bool (b : BE)
  | va (n : Nat)
  | junk (n : Nat)
  | str (s : List UInt8)
  | undef
  | nilS | nilF | nilP | nilI
  | ptr (k off : Nat)
  | sl (k len : Nat)
  | slc (k len cap : Nat)
  | ea (n : Nat) (i : IE) (size off : Nat)
  | pa (n off : Nat)
  | agg (cs : List SV)
  | tup (cs : List SV)
  | fn (f n : Nat) (cap : List SV)
  | fs (n : Nat)
  deriving Inhabited
/-- A slice without room behind it. -/
def fullV : Value → Value
  | .slice a n _ => .slice a n n
  | v => v
def addrOf : Value → Option Addr
  | .slice a _ _ => a
  | .pointer a => a
  | _ => none
mutual
def SV.den (ρ : Env) (β : Nat → Nat) : SV → Value
  | .int k e => .int k (e.den ρ)
  | .bool b => .bool (b.den ρ)
  | .va n => ρ.v.getD n vd
  | .junk n => ρ.j.getD n Go.undef
  | .str s => .string ⟨s.toArray⟩
  | .undef => Go.undef
  | .nilS => .slice none 0 0
  | .nilF => .nilFunc
  | .nilP => .pointer none
  | .nilI => .nilIface
  | .ptr k off => .pointer (some ⟨β k, off, none⟩)
  | .sl k len => .slice (some ⟨β k, 0, none⟩) len len
  | .slc k len cap => .slice (some ⟨β k, 0, none⟩) len cap
  | .ea n i size off => .pointer (some ((((addrOf (ρ.v.getD n vd)).getD ⟨0, 0, none⟩).add ((i.den ρ).toNat * size)).add off))
  | .pa n off => .pointer (some (((addrOf (ρ.v.getD n vd)).getD ⟨0, 0, none⟩).add off))
  | .agg cs => .agg (SV.dens ρ β cs).toArray
  | .tup cs => .tuple (SV.dens ρ β cs).toArray
  | .fn f n cap => .func (.func f) ((SV.dens ρ β cap).take n).toArray ((SV.dens ρ β cap).drop n).toArray
  | .fs n => fullV (ρ.v.getD n vd)
def SV.dens (ρ : Env) (β : Nat → Nat) : List SV → List Value
  | [] => []
  | x :: l => x.den ρ β :: SV.dens ρ β l
end
mutual
def SV.beq : SV → SV → Bool
  | .int k e, .int k' e' => decide (k = k') && decide (e = e')
  | .bool b, .bool b' => decide (b = b')
  | .va n, .va n' => decide (n = n')
  | .junk n, .junk n' => decide (n = n')
  | .str s, .str s' => decide (s = s')
  | .undef, .undef | .nilS, .nilS | .nilF, .nilF | .nilP, .nilP | .nilI, .nilI => true
  | .ptr k o, .ptr k' o' => decide (k = k') && decide (o = o')
  | .sl k o, .sl k' o' => decide (k = k') && decide (o = o')
  | .slc k o q, .slc k' o' q' => decide (k = k') && decide (o = o') && decide (q = q')
  | .ea n i s o, .ea n' i' s' o' => decide (n = n') && decide (i = i') && decide (s = s') && decide (o = o')
  | .pa k o, .pa k' o' => decide (k = k') && decide (o = o')
  | .agg c, .agg c' => SV.beqs c c'
  | .tup c, .tup c' => SV.beqs c c'
  | .fn f n c, .fn f' n' c' => decide (f = f') && decide (n = n') && SV.beqs c c'
  | .fs n, .fs n' => decide (n = n')
  | _, _ => false
def SV.beqs : List SV → List SV → Bool
  | [], [] => true
  | x :: l, y :: m => SV.beq x y && SV.beqs l m
  | _, _ => false
end
theorem SV.dens_map (ρ : Env) (β : Nat → Nat) (l : List SV) : SV.dens ρ β l = l.map (SV.den ρ β) := by
  induction l with
  | nil => rfl
  | cons x l ih => simp [SV.dens, ih]
mutual
theorem SV.eq_of_beq : ∀ x y : SV, SV.beq x y = true → x = y
  | .int .., y, h => by cases y <;> simp [SV.beq] at h; obtain ⟨rfl, rfl⟩ := h; rfl
  | .bool .., y, h => by cases y <;> simp [SV.beq] at h; subst h; rfl
  | .va .., y, h => by cases y <;> simp [SV.beq] at h; subst h; rfl
  | .junk .., y, h => by cases y <;> simp [SV.beq] at h; subst h; rfl
  | .str .., y, h => by cases y <;> simp [SV.beq] at h; subst h; rfl
  | .undef, y, h => by cases y <;> simp [SV.beq] at h; rfl
  | .nilS, y, h => by cases y <;> simp [SV.beq] at h; rfl
  | .nilF, y, h => by cases y <;> simp [SV.beq] at h; rfl
  | .nilP, y, h => by cases y <;> simp [SV.beq] at h; rfl
  | .nilI, y, h => by cases y <;> simp [SV.beq] at h; rfl
  | .ptr .., y, h => by cases y <;> simp [SV.beq] at h; obtain ⟨rfl, rfl⟩ := h; rfl
  | .sl .., y, h => by cases y <;> simp [SV.beq] at h; obtain ⟨rfl, rfl⟩ := h; rfl
  | .slc .., y, h => by cases y <;> simp [SV.beq] at h; obtain ⟨⟨rfl, rfl⟩, rfl⟩ := h; rfl
  | .ea .., y, h => by cases y <;> simp [SV.beq] at h; obtain ⟨⟨⟨rfl, rfl⟩, rfl⟩, rfl⟩ := h; rfl
  | .pa .., y, h => by cases y <;> simp [SV.beq] at h; obtain ⟨rfl, rfl⟩ := h; rfl
  | .agg c, y, h => by cases y <;> simp [SV.beq] at h; rw [SV.eq_of_beqs _ _ h]
  | .tup c, y, h => by cases y <;> simp [SV.beq] at h; rw [SV.eq_of_beqs _ _ h]
  | .fn f n c, y, h => by cases y <;> simp [SV.beq] at h; obtain ⟨⟨rfl, rfl⟩, h⟩ := h; rw [SV.eq_of_beqs _ _ h]
  | .fs .., y, h => by cases y <;> simp [SV.beq] at h; subst h; rfl
theorem SV.eq_of_beqs : ∀ x y : List SV, SV.beqs x y = true → x = y
  | [], y, h => by cases y <;> simp [SV.beqs] at h; rfl
  | x :: l, y, h => by
    cases y with
    | nil => simp [SV.beqs] at h
    | cons y m =>
      simp [SV.beqs] at h
      rw [SV.eq_of_beq _ _ h.1, SV.eq_of_beqs _ _ h.2]
end
theorem IE.den_m (ρ : Env) (m : List (Nat × Obj)) (k : Nat) (e : IE) : e.den { ρ with m := m, k := k } = e.den ρ := by
  induction e <;> simp_all [IE.den]
theorem BE.den_m (ρ : Env) (m : List (Nat × Obj)) (k : Nat) (e : BE) : e.den { ρ with m := m, k := k } = e.den ρ := by
  induction e <;> simp_all [BE.den, IE.den_m]
mutual
theorem SV.den_m (ρ : Env) (m : List (Nat × Obj)) (k : Nat) (β : Nat → Nat) : ∀ v : SV, v.den { ρ with m := m, k := k } β = v.den ρ β
  | .int _ e => by simp only [SV.den, IE.den_m]
  | .bool b => by simp only [SV.den, BE.den_m]
  | .va _ => rfl
  | .junk _ => rfl
  | .str _ => rfl
  | .undef => rfl
  | .nilS => rfl
  | .nilF => rfl
  | .nilP => rfl
  | .nilI => rfl
  | .ptr .. => rfl
  | .sl .. => rfl
  | .slc .. => rfl
  | .ea _ i _ _ => by simp only [SV.den, IE.den_m]
  | .pa .. => rfl
  | .agg cs => by simp only [SV.den, SV.dens_m ρ m k β cs]
  | .tup cs => by simp only [SV.den, SV.dens_m ρ m k β cs]
  | .fn _ _ cs => by simp only [SV.den, SV.dens_m ρ m k β cs]
  | .fs _ => rfl
theorem SV.dens_m (ρ : Env) (m : List (Nat × Obj)) (k : Nat) (β : Nat → Nat) : ∀ l : List SV, SV.dens { ρ with m := m, k := k } β l = SV.dens ρ β l
  | [] => rfl
  | x :: l => by simp only [SV.dens, SV.den_m ρ m k β x, SV.dens_m ρ m k β l]
end
end Go.Sx
namespace Go.Sx
inductive Kd where
  | int (k : IntKind) | bool | val
  deriving DecidableEq, Inhabited
inductive Sh where
  | one (k : Kd) | agg (ks : List Kd)
  deriving Inhabited
inductive Ty where
  | int (k : IntKind) | bool | str | arr (n elem : Nat) | st (fs : List (Nat × Nat)) | slice (elem : Nat) | ptr (elem : Nat) | func | other
  deriving Inhabited
/-- What is told of a type: its form, cells, bytes, the cells of its zero value, and of what kinds its cells are. eq: whether '==' on it compares cell by cell. -/
structure TI where
  ty : Ty
  size : Nat
  bytes : Nat
  zero : List SV
  ks : List Kd
  eq : Bool
  deriving Inhabited
/-- What is told of a map type: its keys' kind and type; its elements' type, the zero value and its shape. -/
structure MT where
  k : IntKind
  kt : Nat
  e : Nat
  dflt : SV
  sh : Sh
  deriving Inhabited
def TI.isAgg (i : TI) : Bool := match i.ty with | .arr .. | .st .. => true | _ => false
structure Ctx where
  tab : Nat → Option TI
  rets : Nat → List Nat
  fok : Nat → Bool
  nw : Bool
  stops : List (List Bool)
  /-- call sites (region's path, operation) at which to stop -/
  cstops : List (List Bool × Nat) := []
  /-- stop where the frame would end -/
  leaf : Bool := false
  /-- an append of one literal element makes room for it; it is stored behind -/
  hole : Bool := false
  /-- a literal slice is a row -/
  rowl : Bool := false
  /-- what these slots point to is laid among the objects that calls may turn -/
  amb : List Nat := []
  /-- what is appended to is laid among the objects that calls may turn -/
  live : Bool := false
  /-- no load is carried out ahead of its time -/
  nofl : Bool := false
  /-- objects made here are handed back as they are -/
  gen : Bool := false
  /-- result types of calls through a function value, by the value's slot -/
  vrets : List (Nat × List Nat) := []
  /-- map types -/
  mtab : Nat → Option MT := fun _ => none
  /-- places in the code (of two parts) at which to stop -/
  joins : List (List Bool) := []
inductive PI where
  | code (p : List Bool)
  | inBlock (id : Nat)
  | inLoop (p : List Bool)
  | inScope (p : List Bool)
  | reg (p : List Bool) (is : List Nat)
  | dreg (p : List Bool) (done : List Nat) (ks : List Nat)
  | begin
  deriving DecidableEq, Inhabited
inductive Blk where
  | cells (cs : List SV) (T : Nat) (shut : Bool)
  | row (n T size : Nat)
  deriving Inhabited
structure Cfg where
  todo : List PI
  sl : List SV
  H : List Blk
  ni : Nat
  nb : Nat
  nv : Nat
  nj : Nat := 0
  /-- the slots of the frames below -/
  fs : List (List SV) := []
  deriving Inhabited
inductive Src where
  | lit (es : List (List SV))
  | va (n : Nat)
  deriving Inhabited
inductive Out where
  | ret (gen : Bool) (v : SV) (H : List Blk)
  | ite (c : BE) (x y : Out)
  | need (c : BE) (k : Out)
  | load (fl : Bool) (a : SV) (cs : List SV) (di db dv : Nat) (k : Out)
  | app (dst : Option Nat) (src : Src) (size bytes : Nat) (k : Out)
  | cut (n : Nat) (lo hi : Option IE) (size : Nat) (k : Out)
  | chk (n size : Nat) (k : Out)
  | appF (n : Nat) (src : Src) (size bytes : Nat) (k : Out)
  | hole (dst : Option Nat) (size bytes : Nat) (k : Out)
  | fill (n : Nat) (i : IE) (es : List SV) (size : Nat) (k : Out)
  | call (f : Nat) (args : List SV) (H : List Blk) (res : SV) (di db dv : Nat) (k : Out)
  | callv (n : Nat) (args : List SV) (res : SV) (di db dv : Nat) (k : Out)
  | newM (cs : List SV) (T : Nat) (k : Out)
  | mkM (n : IE) (zero : List SV) (T size bytes : Nat) (k : Out)
  | storeM (a : SV) (cs : List SV) (k : Out)
  | appM (d : SV) (src : Src) (size bytes T : Nat) (k : Out)
  | mkMap (K : IntKind) (k : Out)
  | mapGet (n : Nat) (K : IntKind) (key : IE) (dflt : SV) (ok : Bool) (res : SV) (di db dv : Nat) (k : Out)
  | mapSet (n : Nat) (K : IntKind) (key : IE) (val : SV) (k : Out)
  | mapClr (n : Nat) (k : Out)
  | both (x y : Out)
  | stop (c : Cfg)
  | fail (why : String)
  deriving Inhabited
def child (d : Bool) : Code → Code
  | .seq a b => if d then b else a
  | .cond _ a b => if d then b else a
  | .block _ c | .loop c | .scope c => c
  | .rangeFunc _ _ a b => if d then b else a
  | c => c
def sub (body : Code) : List Bool → Code
  | [] => body
  | d :: p => child d (sub body p)
def ofV1 : Value → Option SV
  | .int k n => some (.int k (.l n))
  | .bool b => some (.bool (.t b))
  | .string s => some (.str s.data.toList)
  | .slice none 0 0 => some .nilS
  | .nilFunc => some .nilF
  | .nilIface => some .nilI
  | .pointer none => some .nilP
  | _ => none
def ofV : Value → Option SV
  | .agg cs => (cs.toList.mapM ofV1).map .agg
  | v => ofV1 v
def ev (sl : List SV) : Operand → Option SV
  | .tmp t => sl[t]?
  | .const v => ofV v
  | .func f => some (.fn f 0 [])
  | .global _ => none
def evs (sl : List SV) : List Operand → Option (List SV)
  | [] => some []
  | x :: l => match ev sl x, evs sl l with
    | some v, some vs => some (v :: vs)
    | _, _ => none
def IE.add' : IE → IE → IE | .l x, .l y => .l (x + y) | .l 0, y => y | x, .l 0 => x | x, y => .add x y
def IE.sub' : IE → IE → IE | .l x, .l y => .l (x - y) | x, y => .sub x y
def IE.mul' : IE → IE → IE | .l x, .l y => .l (x * y) | x, y => .mul x y
def BE.lt' : IE → IE → BE | .l x, .l y => .t (decide (x < y)) | x, y => .lt x y
def BE.le' : IE → IE → BE | .l x, .l y => .t (decide (x ≤ y)) | x, y => .le x y
def BE.eq' : IE → IE → BE | .l x, .l y => .t (decide (x = y)) | x, y => .eq x y
def BE.not' : BE → BE | .t b => .t (!b) | .not x => x | x => .not x
def BE.and' : BE → BE → BE | .t true, y => y | .t false, _ => .t false | x, .t true => x | x, y => .and x y
def BE.or' : BE → BE → BE | .t true, _ => .t true | .t false, y => y | x, .t false => x | x, y => .or x y
def loI (k : IntKind) : Int := if k.signed then -(2 ^ (k.bits - 1)) else 0
def hiI (k : IntKind) : Int := if k.signed then 2 ^ (k.bits - 1) - 1 else 2 ^ k.bits - 1
def rng (k : IntKind) (e : IE) : BE := BE.and' (BE.le' (.l (loI k)) e) (BE.le' e (.l (hiI k)))
/-- The value of an operation whose result is wrapped: bare, with the need that it fits; or wrapped. -/
def fit (nw : Bool) (k : IntKind) (e : IE) : List BE × SV := if nw then ([rng k e], .int k e) else ([], .int k (.wr k e))
/-- '==' cell by cell; none: not known how. -/
def eqCells : List Kd → List SV → List SV → Option BE
  | [], [], [] => some (.t true)
  | .int k0 :: ks, .int k x :: l, .int k' y :: m => if k = k0 ∧ k' = k0 then (eqCells ks l m).map fun e => BE.and' (BE.eq' x y) e else none
  | _, _, _ => none
def intOp (nw : Bool) (op : BinOp) (k : IntKind) (x y : IE) : Option (List BE × SV) :=
  match op with
  | .add => some (fit nw k (IE.add' x y))
  | .sub => some (fit nw k (IE.sub' x y))
  | .mul => some (fit nw k (IE.mul' x y))
  | .quo => some (BE.not' (BE.eq' y (.l 0)) :: (fit nw k (.tdiv x y)).1, (fit nw k (.tdiv x y)).2)
  | .rem => some ([BE.not' (BE.eq' y (.l 0))], .int k (.tmod x y))
  | .eql => some ([], .bool (BE.eq' x y))
  | .neq => some ([], .bool (BE.not' (BE.eq' x y)))
  | .lss => some ([], .bool (BE.lt' x y))
  | .leq => some ([], .bool (BE.le' x y))
  | .gtr => some ([], .bool (BE.lt' y x))
  | .geq => some ([], .bool (BE.le' y x))
  | _ => none
def binV (c : Ctx) (op : BinOp) (t : Nat) (x y : SV) : Option (List BE × SV) :=
  match x, y with
  | .int k a, .int k' b => if k = k' then intOp c.nw op k a b else none
  | .agg l, .agg m =>
    match c.tab t with
    | some i => if i.eq then
        match op, eqCells i.ks l m with
        | .eql, some e => some ([], .bool e)
        | .neq, some e => some ([], .bool (BE.not' e))
        | _, _ => none
      else none
    | none => none
  | _, _ => none
def slenOf : SV → Option (List BE × IE)
  | .nilS => some ([], .l 0)
  | .va n => some ([.is 0 n], .slen n)
  | .sl _ n => some ([], .l n)
  | .slc _ n _ => some ([], .l n)
  | _ => none
def Ctx.ty (c : Ctx) (t : Nat) : Option Ty := (c.tab t).map fun i => i.ty
/-- What reads as nil, of a slice or a function value: against the constant nil. -/
def nilEq (ty : Option Ty) (x y : SV) : Option (List BE × BE) :=
  match ty with
  | some (.slice _) => match x, y with
    | .va n, .nilS => some ([.is 0 n], .nil n)
    | .nilS, .nilS => some ([], .t true)
    | .sl _ _, .nilS => some ([], .t false)
    | _, _ => none
  | some .func => match x, y with
    | .va n, .nilF => some ([.is 2 n], .nil n)
    | .fn _ _ _, .nilF => some ([], .t false)
    | .nilF, .nilF => some ([], .t true)
    | _, _ => none
  | some .bool => match x, y with
    | .bool a, .bool b => some ([], BE.or' (BE.and' a b) (BE.and' (BE.not' a) (BE.not' b)))
    | _, _ => none
  | _ => none
/-- '==' on strings. -/
def strBin (x y : SV) : Option (List BE × BE) :=
  match x, y with
  | .va n, .va m => some ([.is 3 n, .is 3 m], .seq n m)
  | .va n, .str l => some ([.is 3 n], .sis n l)
  | .str a, .str b => some ([], .t (decide (a = b)))
  | _, _ => none
def selIE (i : IE) : Nat → List SV → Option IE
  | _, [] => some (.l 0)
  | k, .int .i64 e :: l => (selIE i (k + 1) l).map fun r => .ifeq i (.l k) e r
  | _, _ => none
def getBlk (H : List Blk) (k : Nat) : Option (List SV × Nat) :=
  match H[k]? with
  | some (.cells cs T _) => some (cs, T)
  | _ => none
def cellsOf : SV → List SV
  | .agg l => l
  | v => [v]
def SV.cok : SV → Bool
  | .junk _ => false
  | _ => true
/-- The part of type t at a place among cells. -/
def partSV (i : TI) (cs : List SV) (off : Nat) : Option SV :=
  if i.isAgg then (if off + i.size ≤ cs.length then some (.agg ((cs.drop off).take i.size)) else none) else cs[off]?
def SV.flat : SV → Bool
  | .agg _ | .tup _ | .undef | .junk _ | .fs _ => false
  | _ => true
def setCells (cs : List SV) (off : Nat) (new : List SV) : List SV := cs.take off ++ new ++ cs.drop (off + new.length)
/-- Parts laid into cells, each at a place of a given size. -/
def fillSV (place : Nat → Option (Nat × Nat)) : List SV → List (Nat × SV) → Option (List SV)
  | cs, [] => some cs
  | cs, (j, v) :: l => match place j with
    | some (off, size) => if v.cok && (cellsOf v).length = size && off + size ≤ cs.length then fillSV place (setCells cs off (cellsOf v)) l else none
    | none => none
def placeSt (c : Ctx) (fs : List (Nat × Nat)) (j : Nat) : Option (Nat × Nat) :=
  match fs[j]? with
  | some (off, ft) => (c.tab ft).map fun fi => (off, fi.size)
  | none => none
def placeArr (n : Nat) (j : Nat) : Option (Nat × Nat) := some (j * n, n)
def pvBuild (c : Ctx) (sl : List SV) (t : Nat) (parts : List (Nat × Operand)) : Option SV :=
  match c.tab t with
  | some i => match evs sl (parts.map (·.2)) with
    | some vs => match i.ty with
      | .st fs => if fs.all (fun p => (c.tab p.2).isSome) then (fillSV (placeSt c fs) i.zero ((parts.map (·.1)).zip vs)).map .agg else none
      | .arr _ e => match c.tab e with
        | some fi => (fillSV (placeArr fi.size) i.zero ((parts.map (·.1)).zip vs)).map .agg
        | none => none
      | _ => none
    | none => none
  | none => none
def pvLoad (c : Ctx) (H : List Blk) (t : Nat) : SV → Option SV
  | .ptr k off => match c.tab t, getBlk H k with
    | some i, some (cs, _) => partSV i cs off
    | _, _ => none
  | _ => none
def pvBin (c : Ctx) (op : BinOp) (t : Nat) (a b : SV) : Option (List BE × SV) :=
  match strBin a b with
  | some (ns, e) => match op with | .eql => some (ns, .bool e) | .neq => some (ns, .bool (BE.not' e)) | _ => none
  | none =>
  match nilEq (c.ty t) a b with
  | some (ns, e) => match op with | .eql => some (ns, .bool e) | .neq => some (ns, .bool (BE.not' e)) | _ => none
  | none => binV c op t a b
def pvUn (c : Ctx) (op : UnOp) (v : SV) : Option (List BE × SV) :=
  match op, v with
  | .not, .bool b => some ([], .bool (BE.not' b))
  | .neg, .int k e => some (fit c.nw k (IE.sub' (.l 0) e))
  | _, _ => none
def pvConvert (c : Ctx) (dst : Nat) (v : SV) : Option (List BE × SV) :=
  match c.ty dst, v with
  | some (.int k), .int _ e => some (fit c.nw k e)
  | _, _ => none
def pvFieldAddr (c : Ctx) (s f : Nat) (v : SV) : Option SV :=
  match c.ty s with
  | some (.st fs) => match fs[f]? with
    | some (off, ft) => match c.tab ft with
      | some i => if i.size == 0 then none else
        match v with
        | .ptr k o => some (.ptr k (o + off))
        | .ea n i s o => some (.ea n i s (o + off))
        | .pa n o => some (.pa n (o + off))
        | _ => none
      | none => none
    | none => none
  | _ => none
def pvField (c : Ctx) (s f : Nat) (v : SV) : Option SV :=
  match c.ty s, v with
  | some (.st fs), .agg cs => match fs[f]? with
    | some (off, ft) => match c.tab ft with
      | some i => partSV i cs off
      | none => none
    | none => none
  | _, _ => none
/-- A byte of a string that is told. -/
def selB (i : IE) : Nat → List UInt8 → IE
  | _, [] => .l 0
  | k, b :: l => .ifeq i (.l k) (.l b.toNat) (selB i (k + 1) l)
def pvIndex (c : Ctx) (t : Nat) (x ix : SV) : Option (List BE × SV) :=
  match c.ty t with
  | some (.arr n e) => match c.tab e, x, ix with
    | some fi, .agg cs, .int _ (.l z) => if 0 ≤ z && z < n then (partSV fi cs (z.toNat * fi.size)).map fun v => ([], v) else none
    | some fi, .agg cs, .int _ i => if fi.size == 1 && n == cs.length && !fi.isAgg then (selIE i 0 cs).map fun v => ([BE.and' (BE.le' (.l 0) i) (BE.lt' i (.l n))], .int .i64 v) else none
    | _, _, _ => none
  | some .str => match x, ix with
    | .str bs, .int _ i => some ([BE.and' (BE.le' (.l 0) i) (BE.lt' i (.l bs.length))], .int .u8 (selB i 0 bs))
    | .va n, .int _ i => some ([.is 3 n, BE.and' (BE.le' (.l 0) i) (BE.lt' i (.stl n))], .int .u8 (.sat n i))
    | _, _ => none
  | _ => none
def pvIndexAddr (c : Ctx) (t : Nat) (x ix : SV) : Option (List BE × SV) :=
  match c.ty t with
  | some (.arr n e) => match c.tab e, x, ix with
    | some fi, .ptr b off, .int _ (.l z) => if 0 ≤ z && z < n then some ([], .ptr b (off + z.toNat * fi.size)) else none
    | some fi, .ea m i s off, .int _ (.l z) => if 0 ≤ z && z < n then some ([], .ea m i s (off + z.toNat * fi.size)) else none
    | some fi, .pa m off, .int _ (.l z) => if 0 ≤ z && z < n then some ([], .pa m (off + z.toNat * fi.size)) else none
    | _, _, _ => none
  | some (.slice e) => match c.tab e, x, ix with
    | some fi, .va n, .int _ i => some ([BE.and' (BE.le' (.l 0) i) (BE.lt' i (.slen n))], .ea n i fi.size 0)
    | some fi, .sl b len, .int _ (.l z) => if 0 ≤ z && z < len then some ([], .ptr b (z.toNat * fi.size)) else none
    | _, _, _ => none
  | _ => none
/-- What an operation yields that only computes, or reads the call's own cells. -/
def pv (c : Ctx) (sl : List SV) (H : List Blk) (op : Op) : Option (List BE × SV) :=
  match op with
  | .move x | .assign x => (ev sl x).map fun v => ([], v)
  | .pick k a b =>
    match ev sl k, ev sl a, ev sl b with
    | some (.bool (.t k)), some x, some y => some ([], if k then x else y)
    | _, _, _ => none
  | .build t parts => (pvBuild c sl t parts.toList).map fun v => ([], v)
  | .load t a => match ev sl a with
    | some a => (pvLoad c H t a).map fun v => ([], v)
    | none => none
  | .binOp op t x y _ =>
    match ev sl x, ev sl y with
    | some a, some b => pvBin c op t a b
    | _, _ => none
  | .unOp op _ x => match ev sl x with
    | some v => pvUn c op v
    | none => none
  | .convert src dst x => match ev sl x, c.tab src with
    | some v, some _ => pvConvert c dst v
    | _, _ => none
  | .nilCheck x => match ev sl x with
    | some (.va n) => some ([.is 1 n], .pa n 0)
    | some (.ptr k o) => some ([], .ptr k o)
    | some (.pa k o) => some ([], .pa k o)
    | some (.ea n i s o) => some ([], .ea n i s o)
    | some (.fn f n l) => some ([], .fn f n l)
    | _ => none
  | .fieldAddr s x f => match ev sl x with
    | some v => (pvFieldAddr c s f v).map fun v => ([], v)
    | none => none
  | .field s x f => match ev sl x with
    | some v => (pvField c s f v).map fun v => ([], v)
    | none => none
  | .index t x ix => match ev sl x, ev sl ix with
    | some x, some i => pvIndex c t x i
    | _, _ => none
  | .indexAddr t x ix => match ev sl x, ev sl ix with
    | some x, some i => pvIndexAddr c t x i
    | _, _ => none
  | .extract x i => match ev sl x with
    | some (.tup vs) => (vs[i]?).map fun v => ([], v)
    | _ => none
  | .makeFunc (.func f) first cap => match evs sl first.toList, evs sl cap.toList with
    | some us, some vs => some ([], .fn f us.length (us ++ vs))
    | _, _ => none
  | .call { callee := .builtin b, args := a, argTypes := ts } =>
    match b, evs sl a.toList, ts.toList with
    | .len, some [x], [t] => match c.ty t, slenOf x with
      | some (.slice _), some (ns, e) => some (ns, .int .i64 e)
      | some .str, _ => match x with
        | .va n => some ([.is 3 n], .int .i64 (.stl n))
        | _ => none
      | _, _ => none
    | .min, some [.int k x, .int _ y], _ => some ([], .int k (.mn x y))
    | .max, some [.int k x, .int _ y], _ => some ([], .int k (.mx x y))
    | _, _, _ => none
  | .slice t x none (some h) none =>
    match ev sl x, ev sl h, c.ty t with
    | some (.sl k n), some (.int _ (.l z)), some (.slice e) => if (c.tab e).isSome && 0 ≤ z && z ≤ n then some ([], .slc k z.toNat n) else none
    | _, _, _ => none
  | _ => none
/-- The cells and the type of a block that an operation makes, and the value that points to it. -/
def newBlk (c : Ctx) (sl : List SV) (k : Nat) (op : Op) : Option (List SV × Nat × SV) :=
  match op with
  | .alloc t => (c.tab t).map fun i => (i.zero, t, .ptr k 0)
  | .box t x => (ev sl x).bind fun v => if v.cok then some (cellsOf v, t, .ptr k 0) else none
  | .buildSlice t len parts =>
    match c.ty t with
    | some (.slice e) => match c.tab e, evs sl (parts.toList.map (·.2)) with
      | some i, some vs =>
        if len * i.size ≤ 1000000 && 0 < i.size then
          (fillSV (placeArr i.size) ((List.range (len * i.size)).map fun j => i.zero.getD (j % i.size) .undef) ((parts.toList.map (·.1)).zip vs)).map fun cs => (cs, e, .sl k len)
        else none
      | _, _ => none
    | _ => none
  | _ => none
/-- A store into the call's own cells: block, first cell, new cells. -/
def storeOf (c : Ctx) (sl : List SV) (H : List Blk) (op : Op) : Option (Nat × Nat × List SV) :=
  match op with
  | .store t a x =>
    match c.tab t, ev sl a, ev sl x with
    | some i, some (.ptr k off), some v =>
      match H[k]? with
      | some (.cells cs _ false) => if v.cok && (cellsOf v).length = i.size && off + i.size ≤ cs.length && (cellsOf v).all SV.flat then some (k, off, cellsOf v) else none
      | _ => none
    | _, _, _ => none
  | _ => none
def fillK : List Kd → (ni nb nv : Nat) → List SV × Nat × Nat × Nat
  | [], a, b, c => ([], a, b, c)
  | .int k :: l, a, b, c => let r := fillK l (a + 1) b c; (.int k (.a a) :: r.1, r.2)
  | .bool :: l, a, b, c => let r := fillK l a (b + 1) c; (.bool (.a b) :: r.1, r.2)
  | .val :: l, a, b, c => let r := fillK l a b (c + 1); (.va c :: r.1, r.2)
def fillSh : List Sh → (ni nb nv : Nat) → List SV × Nat × Nat × Nat
  | [], a, b, c => ([], a, b, c)
  | .one k :: l, a, b, c => let r := fillK [k] a b c; let q := fillSh l r.2.1 r.2.2.1 r.2.2.2; (r.1 ++ q.1, q.2)
  | .agg ks :: l, a, b, c => let r := fillK ks a b c; let q := fillSh l r.2.1 r.2.2.1 r.2.2.2; (.agg r.1 :: q.1, q.2)
def shOf (c : Ctx) (t : Nat) : Sh :=
  match c.tab t with
  | some i => if i.isAgg then .agg i.ks else .one (i.ks.headD .val)
  | none => .one .val
def putSV (sl : List SV) (dst : Option Nat) (v : SV) : List SV :=
  match dst with
  | some d => sl.set d v
  | none => sl
def exitPI (id : Nat) : List PI → Option (List PI)
  | .inBlock id' :: k => if id' == id then some k else exitPI id k
  | .begin :: _ => none
  | _ :: k => exitPI id k
  | [] => none
def resultSV (sl : List SV) (H : List Blk) (tab : Nat → Option TI) : List ResultVar → Option (List SV)
  | [] => some []
  | .tmp t :: l => match sl[t]?, resultSV sl H tab l with
    | some v, some vs => some (v :: vs)
    | _, _ => none
  | .cell a t :: l => match sl[a]?, tab t, resultSV sl H tab l with
    | some (.ptr k off), some i, some vs =>
      match getBlk H k with
      | some (cs, _) =>
        if i.isAgg then (if off + i.size ≤ cs.length then some (.agg ((cs.drop off).take i.size) :: vs) else none)
        else match cs[off]? with | some v => some (v :: vs) | none => none
      | none => none
    | _, _, _ => none
def tupOf : List SV → SV
  | [v] => v
  | vs => .tup vs
def needs (l : List BE) (k : Out) : Out := l.foldr (fun b k => match b with | .t true => k | b => .need b k) k
def isRow (H : List Blk) (n : Nat) : Option (Nat × Nat × Nat) :=
  let rec go : List Blk → Nat → Option (Nat × Nat × Nat)
    | [], _ => none
    | .row m T size :: l, k => if m = n then some (k, T, size) else go l (k + 1)
    | _ :: l, k => go l (k + 1)
  go H 0
mutual
def SV.ptrs : SV → List Nat
  | .ptr k _ => [k]
  | .sl k _ => [k]
  | .slc k _ _ => [k]
  | .agg l | .tup l | .fn _ _ l => SV.ptrss l
  | _ => []
def SV.ptrss : List SV → List Nat
  | [] => []
  | x :: l => x.ptrs ++ SV.ptrss l
end
def shutBlk (ks : List Nat) (H : List Blk) : List Blk :=
  H.zipIdx.map fun (b, i) => match b with | .cells cs T s => .cells cs T (s || ks.contains i) | b => b
structure FnC where
  body : Code
  res : List ResultVar
/-- Whether every order of a region that draws comes to what the text's order comes to: filled in by Draws. -/
def retOut (c : Ctx) (fn : FnC) (g : Cfg) : Out :=
  match resultSV g.sl g.H c.tab fn.res with
  | some vs => if (SV.ptrss vs).isEmpty then .ret c.gen (tupOf vs) [] else .ret c.gen (tupOf vs) (shutBlk (SV.ptrss vs) g.H)
  | none => .fail "results"
def chunk (size : Nat) : Nat → List SV → List (List SV)
  | 0, _ => []
  | n + 1, l => l.take size :: chunk size n (l.drop size)
def srcOf (H : List Blk) (size : Nat) : SV → Option Src
  | .sl k len => match getBlk H k with
    | some (cs, _) => if cs.all SV.flat && cs.length == len * size then some (.lit (chunk size len cs)) else none
    | none => none
  | .va n => some (.va n)
  | .nilS => some (.lit [])
  | _ => none
def IE.ok (ni nv : Nat) : IE → Bool
  | .a n => decide (n < ni)
  | .l _ => true
  | .add x y | .sub x y | .mul x y | .tdiv x y | .tmod x y | .mn x y | .mx x y => x.ok ni nv && y.ok ni nv
  | .ifeq p q x y => p.ok ni nv && q.ok ni nv && x.ok ni nv && y.ok ni nv
  | .wr _ x => x.ok ni nv
  | .slen n => decide (n < nv)
  | .stl n => decide (n < nv)
  | .sat n i => decide (n < nv) && i.ok ni nv
def BE.ok (ni nb nv : Nat) : BE → Bool
  | .t _ => true
  | .a n => decide (n < nb)
  | .lt x y | .le x y | .eq x y => x.ok ni nv && y.ok ni nv
  | .not x => x.ok ni nb nv
  | .and x y | .or x y => x.ok ni nb nv && y.ok ni nb nv
  | .nil n => decide (n < nv)
  | .is _ n => decide (n < nv)
  | .seq n m => decide (n < nv) && decide (m < nv)
  | .sis n _ => decide (n < nv)
mutual
def SV.ok (ni nb nv nj : Nat) (kf : Nat → Bool) : SV → Bool
  | .int _ e => e.ok ni nv
  | .bool b => b.ok ni nb nv
  | .va n => decide (n < nv)
  | .junk n => decide (n < nj)
  | .str _ | .undef | .nilS | .nilF | .nilP | .nilI => true
  | .ptr k _ => kf k
  | .sl k _ => kf k
  | .slc k _ _ => kf k
  | .ea n i _ _ => decide (n < nv) && i.ok ni nv
  | .pa n _ => decide (n < nv)
  | .agg cs => SV.oks ni nb nv nj kf cs
  | .tup cs => SV.oks ni nb nv nj kf cs
  | .fn _ _ cs => SV.oks ni nb nv nj kf cs
  | .fs n => decide (n < nv)
def SV.oks (ni nb nv nj : Nat) (kf : Nat → Bool) : List SV → Bool
  | [] => true
  | x :: l => x.ok ni nb nv nj kf && SV.oks ni nb nv nj kf l
end
def Cfg.kf (g : Cfg) (k : Nat) : Bool := (getBlk g.H k).isSome
def okBlk (g : Cfg) : Blk → Bool
  | .cells cs _ _ => SV.oks g.ni g.nb g.nv g.nj g.kf cs
  | .row n _ _ => decide (n < g.nv)
/-- Every atom and every block that is named is there. -/
def Cfg.okB (g : Cfg) : Bool := SV.oks g.ni g.nb g.nv g.nj g.kf g.sl && g.H.all (okBlk g) && g.fs.all (SV.oks g.ni g.nb g.nv g.nj g.kf)
def kindsOf (c : Ctx) (t : Nat) : List Kd := match c.tab t with | some i => i.ks | none => []
def loadRun (c : Ctx) (fl : Bool) (g : Cfg) (dst : Option Tmp) (t : Nat) (x : SV) (kont : Cfg → Out) : Out :=
  match c.tab t with
  | some i =>
    if g.okB then
      match x with
      | .ea .. | .pa .. =>
        let r := fillK i.ks g.ni g.nb g.nv
        if r.1.length = i.size && SV.oks r.2.1 r.2.2.1 r.2.2.2 0 (fun _ => false) r.1 then
          .load fl x r.1 (r.2.1 - g.ni) (r.2.2.1 - g.nb) (r.2.2.2 - g.nv)
            (kont { g with sl := putSV g.sl dst (if i.isAgg then .agg r.1 else r.1.headD .undef), ni := r.2.1, nb := r.2.2.1, nv := r.2.2.2 })
        else .fail "load kinds"
      | _ => .fail "load"
    else .fail "load atoms"
  | none => .fail "load type"
def srcOk (g : Cfg) : Src → Bool
  | .lit l => SV.oks g.ni g.nb g.nv g.nj (fun _ => false) l.flatten
  | .va _ => true
mutual
def SV.uses (n : Nat) : SV → Bool
  | .va m => m == n
  | .ea m _ _ _ => m == n
  | .pa m _ => m == n
  | .fs m => m == n
  | .agg l | .tup l | .fn _ _ l => SV.usess n l
  | _ => false
def SV.usess (n : Nat) : List SV → Bool
  | [] => false
  | x :: l => x.uses n || SV.usess n l
end
/-- A row that nobody names any more: its place may be taken. -/
def deadRow (g : Cfg) (T size : Nat) : Blk → Bool
  | .row n T' size' => T' == T && size' == size && !(SV.usess n g.sl || g.H.any (fun b => match b with | .cells cs _ _ => SV.usess n cs | _ => false) || g.fs.any (SV.usess n))
  | _ => false
def appRun (c : Ctx) (g : Cfg) (dst : Option Tmp) (t : Nat) (x y : SV) (kont : Cfg → Out) : Out :=
  match c.ty t with
  | some (.slice e) =>
    match c.tab e with
    | some i =>
      if 0 < i.size && g.okB then
        match srcOf g.H i.size y with
        | some s =>
          if srcOk g s then
          match x with
          | .nilS => match g.H.findIdx? (deadRow g e i.size) with
            | some b => .app none s i.size i.bytes (kont { g with sl := putSV g.sl dst (.va g.nv), nv := g.nv + 1, H := g.H.set b (.row g.nv e i.size) })
            | none => .app none s i.size i.bytes (kont { g with sl := putSV g.sl dst (.va g.nv), nv := g.nv + 1, H := g.H ++ [.row g.nv e i.size] })
          | .fs m => .appF m s i.size i.bytes (kont { g with sl := putSV g.sl dst (.va g.nv), nv := g.nv + 1, H := g.H ++ [.row g.nv e i.size] })
          | .va m =>
            match isRow g.H m with
            | some (b, T, size) =>
              if T == e && size == i.size then .app (some m) s i.size i.bytes (kont { g with sl := putSV g.sl dst (.va g.nv), nv := g.nv + 1, H := g.H.set b (.row g.nv e i.size) })
              else .fail "append type"
            | none => .fail "append not a row of the call s own"
          | _ => .fail "append onto what"
          else .fail "append an address among what is appended"
        | none => .fail "append of what"
      else .fail "append atoms"
    | none => .fail "append type"
  | _ => .fail "append type"
/-- An append onto an object. -/
def appMRun (c : Ctx) (g : Cfg) (dst : Option Tmp) (t : Nat) (x y : SV) (kont : Cfg → Out) : Out :=
  match c.ty t with
  | some (.slice e) =>
    match c.tab e with
    | some i =>
      if 0 < i.size && g.okB then
        match srcOf g.H i.size y with
        | some s =>
          if srcOk g s then
            match x with
            | .nilS => .appM .nilS s i.size i.bytes e (kont { g with sl := putSV g.sl dst (.va g.nv), nv := g.nv + 1 })
            | .va m => if decide (m < g.nv) then .appM (.va m) s i.size i.bytes e (kont { g with sl := putSV g.sl dst (.va g.nv), nv := g.nv + 1 }) else .fail "append atoms"
            | _ => .fail "append onto what"
          else .fail "append an address among what is appended"
        | none => .fail "append of what"
      else .fail "append atoms"
    | none => .fail "append type"
  | _ => .fail "append type"
/-- An append of one element that is stored behind it. -/
def holeRun (c : Ctx) (g : Cfg) (dst : Option Tmp) (t : Nat) (x y : SV) (kont : Cfg → Out) : Out :=
  match c.ty t with
  | some (.slice e) =>
    match c.tab e with
    | some i =>
      if 0 < i.size && g.okB then
        match srcOf g.H i.size y with
        | some (.lit [z]) =>
          if srcOk g (.lit [z]) then
          match x with
          | .nilS =>
            if ({ g with nv := g.nv + 1, H := g.H ++ [.row g.nv e i.size] } : Cfg).okB then
              .hole none i.size i.bytes (kont { g with sl := putSV g.sl dst (.va (g.nv + 1)), nv := g.nv + 2, H := g.H ++ [.row g.nv e i.size] })
            else .fail "hole atoms"
          | .va m =>
            match isRow g.H m with
            | some (b, T, size) =>
              if T == e && size == i.size && ({ g with nv := g.nv + 1, H := g.H.set b (.row g.nv e i.size) } : Cfg).okB then
                .hole (some m) i.size i.bytes (kont { g with sl := putSV g.sl dst (.va (g.nv + 1)), nv := g.nv + 2, H := g.H.set b (.row g.nv e i.size) })
              else .fail "hole type"
            | none => .fail "hole in what is no row of the call s own"
          | _ => .fail "hole in what"
          else .fail "hole address"
        | _ => .fail "hole of what"
      else .fail "hole atoms"
    | none => .fail "hole type"
  | _ => .fail "hole type"
/-- The element that was left open is stored. -/
def fillRun (c : Ctx) (g : Cfg) (dst : Option Tmp) (t : Nat) (x y : SV) (kont : Cfg → Out) : Out :=
  match x, c.tab t with
  | .ea n i sz 0, some ti =>
    match isRow g.H (n - 1) with
    | some (b, T, size) =>
      if T == t && size == sz && sz == ti.size && 0 < sz && g.okB && y.cok && (cellsOf y).length == sz && (cellsOf y).all SV.flat && SV.oks g.ni g.nb g.nv g.nj (fun _ => false) (cellsOf y) && SV.ok g.ni g.nb g.nv g.nj g.kf x then
        .fill n i (cellsOf y) sz (kont { g with sl := putSV g.sl dst .undef, nv := g.nv + 1, H := g.H.set b (.row n t sz) })
      else .fail "fill"
    | none => .fail "fill of what"
  | _, _ => .fail "fill address"
/-- A literal slice, as a row. -/
def litRun (c : Ctx) (g : Cfg) (dst : Option Tmp) (cs : List SV) (e : Nat) (v : SV) (kont : Cfg → Out) : Out :=
  match v, c.tab e with
  | .sl _ len, some i =>
    if 0 < i.size && g.okB && cs.all SV.flat && cs.length == len * i.size && SV.oks g.ni g.nb g.nv g.nj (fun _ => false) cs && decide (len ≤ 1000000) then
      .app none (.lit (chunk i.size len cs)) i.size i.bytes (kont { g with sl := putSV g.sl dst (.va g.nv), nv := g.nv + 1, H := g.H ++ [.row g.nv e i.size] })
    else .fail "literal"
  | _, _ => .fail "literal"
def SV.isSl : SV → Bool
  | .sl _ _ => true
  | _ => false
def optInt (sl : List SV) : Option Operand → Option (Option IE)
  | none => some none
  | some l => match ev sl l with
    | some (.int _ e) => some (some e)
    | _ => none
def cutRun (c : Ctx) (g : Cfg) (dst : Option Tmp) (t : Nat) (x : SV) (lo hi : Option Operand) (kont : Cfg → Out) : Out :=
  match c.ty t, x with
  | some (.slice e), .va m =>
    match c.tab e, optInt g.sl lo, optInt g.sl hi with
    | some i, some lo, some hi =>
      if g.okB then .cut m lo hi i.size (kont { g with sl := putSV g.sl dst (.va g.nv), nv := g.nv + 1 }) else .fail "slice atoms"
    | _, _, _ => .fail "slice"
  | _, _ => .fail "slice"
/-- A slice without room behind it. -/
def chkRun (c : Ctx) (g : Cfg) (dst : Option Tmp) (t : Nat) (x h m : Operand) (kont : Cfg → Out) : Out :=
  match ev g.sl x, ev g.sl h, ev g.sl m, c.ty t with
  | some (.va n), some (.int _ e), some (.int _ e'), some (.slice el) => match c.tab el with
    | some i => if decide (e = .slen n) && decide (e' = .slen n) && g.okB then .chk n i.size (kont { g with sl := putSV g.sl dst (.fs n) }) else .fail "slice"
    | none => .fail "slice"
  | _, _, _, _ => .fail "slice"
def callRun (c : Ctx) (g : Cfg) (dst : Option Tmp) (f : Nat) (args : List SV) (kont : Cfg → Out) : Out :=
  if c.fok f && g.okB then
    let r := fillSh ((c.rets f).map (shOf c)) g.ni g.nb g.nv
    let ps := SV.ptrss args
    if SV.ok r.2.1 r.2.2.1 r.2.2.2 0 (fun _ => false) (tupOf r.1) then
    let H' := if ps.isEmpty then g.H else shutBlk ps g.H
    .call f args (if ps.isEmpty then [] else H') (tupOf r.1) (r.2.1 - g.ni) (r.2.2.1 - g.nb) (r.2.2.2 - g.nv)
      (kont { g with sl := putSV g.sl dst (tupOf r.1), ni := r.2.1, nb := r.2.2.1, nv := r.2.2.2, H := H' })
    else .fail "call result"
  else .fail "call"
def callvRun (c : Ctx) (g : Cfg) (dst : Option Tmp) (slot n : Nat) (args : List SV) (kont : Cfg → Out) : Out :=
  match c.vrets.lookup slot with
  | some rs =>
    let r := fillSh (rs.map (shOf c)) g.ni g.nb g.nv
    if g.okB && SV.oks g.ni g.nb g.nv g.nj (fun _ => false) args && SV.ok r.2.1 r.2.2.1 r.2.2.2 0 (fun _ => false) (tupOf r.1) then
      .callv n args (tupOf r.1) (r.2.1 - g.ni) (r.2.2.1 - g.nb) (r.2.2.2 - g.nv)
        (kont { g with sl := putSV g.sl dst (tupOf r.1), ni := r.2.1, nb := r.2.2.1, nv := r.2.2.2 })
    else .fail "call through a value"
  | none => .fail "call through a value of what type"
def newMRun (g : Cfg) (dst : Option Tmp) (cs : List SV) (t : Nat) (v : SV) (kont : Cfg → Out) : Out :=
  match v with
  | .ptr _ 0 => if g.okB && cs.all SV.flat && SV.oks g.ni g.nb g.nv g.nj (fun _ => false) cs then
      .newM cs t (kont { g with sl := putSV g.sl dst (.pa g.nv 0), nv := g.nv + 1 })
    else .fail "new object"
  | _ => .fail "new object"
def mkMRun (c : Ctx) (g : Cfg) (dst : Option Tmp) (t : Nat) (l n : SV) (kont : Cfg → Out) : Out :=
  match l, n, c.ty t with
  | .int _ l, .int _ n, some (.slice e) =>
    match c.tab e with
    | some i => if g.okB && decide (l = n) && i.zero.all SV.flat && SV.oks g.ni g.nb g.nv g.nj (fun _ => false) i.zero then
        .mkM l i.zero e i.size i.bytes (kont { g with sl := putSV g.sl dst (.va g.nv), nv := g.nv + 1 })
      else .fail "make"
    | none => .fail "make"
  | _, _, _ => .fail "make"
def storeMRun (c : Ctx) (g : Cfg) (dst : Option Tmp) (t : Nat) (x y : SV) (kont : Cfg → Out) : Out :=
  match c.tab t with
  | some ti =>
    if g.okB && y.cok && (cellsOf y).length == ti.size && (cellsOf y).all SV.flat && SV.oks g.ni g.nb g.nv g.nj (fun _ => false) (cellsOf y) && SV.ok g.ni g.nb g.nv g.nj (fun _ => false) x then
      match x with
      | .ea .. | .pa .. => .storeM x (cellsOf y) (kont { g with sl := putSV g.sl dst .undef })
      | _ => .fail "store where"
    else .fail "store what"
  | none => .fail "store type"
def tmpOf : Operand → Nat
  | .tmp t => t
  | _ => 99999
/-- The operations on maps. -/
def mapRun (c : Ctx) (g : Cfg) (o : Oper) (kont : Cfg → Out) : Out :=
  match o.op with
  | .makeMap t none => match c.mtab t with
    | some i => if g.okB then .mkMap i.k (kont { g with sl := putSV g.sl o.dst (.va g.nv), nv := g.nv + 1 }) else .fail "map"
    | none => .fail "map type"
  | .lookup t x ix ok => match c.mtab t, ev g.sl x, ev g.sl ix with
    | some i, some (.va n), some (.int kk key) =>
      if kk = i.k && g.okB && SV.ok 0 0 0 0 (fun _ => false) i.dflt then
        let r := fillSh (if ok then [i.sh, .one .bool] else [i.sh]) g.ni g.nb g.nv
        if SV.ok r.2.1 r.2.2.1 r.2.2.2 0 (fun _ => false) (tupOf r.1) then
          .mapGet n i.k key i.dflt ok (tupOf r.1) (r.2.1 - g.ni) (r.2.2.1 - g.nb) (r.2.2.2 - g.nv)
            (kont { g with sl := putSV g.sl o.dst (tupOf r.1), ni := r.2.1, nb := r.2.2.1, nv := r.2.2.2 })
        else .fail "map result"
      else .fail "map lookup"
    | _, _, _ => .fail "map lookup of what"
  | .mapUpdate t x ix y => match c.mtab t, ev g.sl x, ev g.sl ix, ev g.sl y with
    | some i, some (.va n), some (.int kk key), some v =>
      if kk = i.k && g.okB && SV.ok g.ni g.nb g.nv g.nj (fun _ => false) v then .mapSet n i.k key v (kont { g with sl := putSV g.sl o.dst .undef }) else .fail "map update"
    | _, _, _, _ => .fail "map update of what"
  | .call { callee := .builtin .clear, args := a, argTypes := ts } => match evs g.sl a.toList, ts.toList with
    | some [.va n], [t] => match c.mtab t with
      | some _ => if g.okB then .mapClr n (kont { g with sl := putSV g.sl o.dst (.tup []) }) else .fail "clear"
      | none => .fail "clear of what"
    | _, _ => .fail "clear of what"
  | _ => .fail "operation"
/-- One operation, and what comes behind it. -/
def opRun (c : Ctx) (g : Cfg) (o : Oper) (kont : Cfg → Out) : Out :=
  match pv c g.sl g.H o.op with
  | some (ns, v) => needs ns (kont { g with sl := putSV g.sl o.dst v })
  | none =>
    match newBlk c g.sl g.H.length o.op with
    | some (cs, t, v) => if (o.dst.elim false c.amb.contains) then newMRun g o.dst cs t v kont else if c.rowl && v.isSl then litRun c g o.dst cs t v kont else if g.okB && SV.oks g.ni g.nb g.nv g.nj g.kf cs then kont { g with sl := putSV g.sl o.dst v, H := g.H ++ [.cells cs t false] } else .fail "new atoms"
    | none =>
      match storeOf c g.sl g.H o.op with
      | some (b, off, new) =>
        match g.H[b]? with
        | some (.cells cs t false) => kont { g with sl := putSV g.sl o.dst .undef, H := g.H.set b (.cells (setCells cs off new) t false) }
        | _ => .fail "store"
      | none =>
        match o.op with
        | .load t a => match ev g.sl a with
          | some x => loadRun c false g o.dst t x kont
          | none => .fail "load"
        | .slice t x lo hi none => match ev g.sl x with
          | some x => cutRun c g o.dst t x lo hi kont
          | none => .fail "slice"
        | .slice t x none (some h) (some m) => chkRun c g o.dst t x h m kont
        | .store t a v => match ev g.sl a, ev g.sl v with
          | some x, some y => if c.hole then fillRun c g o.dst t x y kont else storeMRun c g o.dst t x y kont
          | _, _ => .fail "store"
        | .makeSlice t l n => match ev g.sl l, ev g.sl n with
          | some x, some y => mkMRun c g o.dst t x y kont
          | _, _ => .fail "make"
        | .call { callee := .builtin .append, args := a, argTypes := ts } =>
          match evs g.sl a.toList, ts.toList with
          | some [x, y], [t, t'] => if t == t' then (if c.live then appMRun c g o.dst t x y kont else if c.hole then holeRun c g o.dst t x y kont else appRun c g o.dst t x y kont) else .fail "append"
          | _, _ => .fail "append"
        | .call { callee := .value f, args := a, argTypes := _ } =>
          match ev g.sl f, evs g.sl a.toList with
          | some (.fn f n cap), some args => callRun c g o.dst f (cap.take n ++ args ++ cap.drop n) kont
          | some (.va n), some args => callvRun c g o.dst (tmpOf f) n args kont
          | _, _ => .fail "call of what"
        | _ => mapRun c g o kont
def opsAt : Code → Array Oper
  | .region _ ops _ => ops
  | _ => #[]
/-- The guard of an operation: known to let it run (true), known not to (false); or the slot and the condition on which it hangs. -/
inductive Gd where
  | known (b : Bool)
  | on (d : Nat) (c : BE)
  | bad
def guardOf (ops : Array Oper) (sl : List SV) (o : Oper) : Gd :=
  match o.guard with
  | none => .known true
  | some (j, want) =>
    match ((ops[j]?).bind (·.dst)) with
    | none => .bad
    | some d =>
      match sl[d]? with
      | some (.bool (.t b)) => .known (b == want)
      | some (.bool b) => .on d b
      | some .undef => .known false
      | _ => .bad
def maskH (ks : List Nat) (H : List Blk) : List Blk := H.zipIdx.map fun (b, i) => if ks.contains i then b else .row 0 0 0
/-- The blocks into which a region's stores go, as far as can be told: none: not told. -/
def rootOf (ops : Array Oper) (sl : List SV) : Nat → Operand → Option Nat
  | 0, _ => none
  | n + 1, .tmp d =>
    match (ops.toList.find? fun o => o.dst == some d) with
    | some o => match o.op with
      | .indexAddr _ x _ | .fieldAddr _ x _ | .move x | .assign x | .nilCheck x => rootOf ops sl n x
      | .alloc _ | .box _ _ => some 999999
      | _ => none
    | none => match sl[d]? with
      | some (.ptr k _) => some k
      | _ => none
  | _, _ => none
def stableBlks (ops : Array Oper) (sl : List SV) (n : Nat) : List Nat :=
  let roots := ops.toList.filterMap fun o => match o.op with
    | .store _ a _ => some (rootOf ops sl 10 a)
    | _ => none
  if roots.any (·.isNone) then [] else (List.range n).filter fun k => !roots.contains (some k)
def maskOf (done : List Nat) : Nat := done.foldl (fun m i => m ||| (1 <<< i)) 0
/-- Which have been carried out (looked up quickly). -/
def listedOf (n : Nat) (done : List Nat) : Array Bool := ((List.range n).map fun j => (maskOf done).testBit j).toArray
def rmask (ops : Array Oper) (o : Oper) : Nat := (o.looksAt ops).foldl (fun m t => m ||| (1 <<< t)) 0
def apartF (ops : Array Oper) (x y : Oper) : Bool :=
  (match x.dst with
   | some d => !(rmask ops y).testBit d && (match y.dst with | some e => !Nat.beq e d | none => true)
   | none => true) &&
  (match y.dst with
   | some d => !(rmask ops x).testBit d
   | none => true)
def freeF (ops : Array Oper) (done : List Nat) (i : Nat) : Bool :=
  match ops[i]? with
  | none => false
  | some oi => ops.toList.zipIdx.all fun x => Nat.beq x.2 i || (maskOf done).testBit x.2 || x.1.after.toList.any (fun e => Region.binds .any e && Nat.beq e.on i) || apartF ops oi x.1
def readyF (ops : Array Oper) (done : List Nat) : List Nat :=
  (List.range ops.size).filter fun i => !(maskOf done).testBit i && match ops[i]? with
    | some o => o.after.toList.all fun e => !Region.binds .any e || (Nat.blt e.on ops.size && (maskOf done).testBit e.on)
    | none => false
def noSelectF (ops : Array Oper) : Bool := ops.toList.all fun o => match o.op with | .select .. => false | _ => true
/-- An operation of a region that draws which may be carried out as soon as it may come up. -/
def floats (c : Ctx) (g : Cfg) (ops : Array Oper) (done : List Nat) (ks : List Nat) (i : Nat) : Bool :=
  match ops[i]? with
  | none => false
  | some o => freeF ops done i &&
    match guardOf ops g.sl o with
    | .known false => true
    | .known true => (pv c g.sl (maskH ks g.H) o.op).isSome
    | _ => false
/-- A load from known cells, which may be carried out as soon as it may come up. -/
def floatsL (c : Ctx) (g : Cfg) (ops : Array Oper) (done : List Nat) (i : Nat) : Bool :=
  match ops[i]? with
  | none => false
  | some o => freeF ops done i &&
    match guardOf ops g.sl o, o.op with
    | .known true, .load _ a => match ev g.sl a with
      | some (.ea ..) => true
      | some (.pa ..) => true
      | _ => false
    | _, _ => false
/-- A slice cut, likewise. -/
def floatsC (c : Ctx) (g : Cfg) (ops : Array Oper) (done : List Nat) (i : Nat) : Bool :=
  match ops[i]? with
  | none => false
  | some o => freeF ops done i &&
    match guardOf ops g.sl o, o.op with
    | .known true, .slice _ x _ _ none => match ev g.sl x with
      | some (.va _) => true
      | _ => false
    | .known true, .slice _ _ none (some _) (some _) => true
    | _, _ => false
def hangs (g : Cfg) (ops : Array Oper) (i : Nat) : Option (Nat × BE) :=
  match ops[i]? with
  | none => none
  | some o => match guardOf ops g.sl o with
    | .on d b => some (d, b)
    | _ => none
/-- An index into an array that is not told: which one it is, is asked. -/
def splitOf (c : Ctx) (sl : List SV) (o : Oper) : Option (Nat × IntKind × IE × Nat) :=
  match o.op with
  | .indexAddr t _ (.tmp d) | .index t _ (.tmp d) =>
    match sl[d]? with
    | some (.int _ (.l _)) => none
    | some (.int k e) => match c.ty t with
      | some (.arr n _) => if n ≤ 16 then some (d, k, e, n) else none
      | _ => none
    | _ => none
  | _ => none
def splitOut (g : Cfg) (d : Nat) (k : IntKind) (e : IE) (r : Cfg → Out) : Nat → Out
  | 0 => .fail "index"
  | n + 1 => .ite (.eq e (.l n)) (r { g with sl := g.sl.map fun v => if SV.beq v (.int k e) then .int k (.l n) else v }) (splitOut g d k e r n)
def splitsAt (c : Ctx) (g : Cfg) (ops : Array Oper) (i : Nat) : Option (Nat × IntKind × IE × Nat) :=
  match ops[i]? with
  | none => none
  | some o => match guardOf ops g.sl o with
    | .known true => splitOf c g.sl o
    | _ => none
def storeBad (c : Ctx) (g : Cfg) (ks : List Nat) (o : Oper) : Bool :=
  match storeOf c g.sl g.H o.op with
  | some (b, _, _) => ks.contains b
  | none => false
def PI.isD : PI → Bool
  | .dreg _ _ _ => true
  | _ => false
/-- Whichever of them comes. -/
def bothAll : List Out → Out
  | [] => .fail "nothing comes"
  | [x] => x
  | x :: l => .both x (bothAll l)
def run (c : Ctx) (fn : FnC) : Nat → Cfg → Out
  | 0, _ => .fail "fuel"
  | n + 1, g =>
    if (g.todo.drop 1).any PI.isD then .fail "order" else
    match g.todo with
    | [] => if c.leaf then .stop g else retOut c fn g
    | .begin :: _ => .stop g
    | .inBlock _ :: k => run c fn n { g with todo := k }
    | .inScope _ :: k => run c fn n { g with todo := k }
    | .reg _ [] :: k => run c fn n { g with todo := k }
    | .inLoop p :: k =>
      if c.stops.contains p then .stop { g with todo := .code p :: .inLoop p :: k }
      else run c fn n { g with todo := .code p :: .inLoop p :: k }
    | .code p :: k =>
      match sub fn.body p with
      | .skip => run c fn n { g with todo := k }
      | .label _ => run c fn n { g with todo := k }
      | .seq _ _ => if c.joins.contains p then .stop { g with todo := .code (false :: p) :: .code (true :: p) :: k } else run c fn n { g with todo := .code (false :: p) :: .code (true :: p) :: k }
      | .cond x _ _ =>
        match ev g.sl x with
        | some (.bool (.t b)) => run c fn n { g with todo := .code ((!b) :: p) :: k }
        | some (.bool b) => .ite b (run c fn n { g with todo := .code (false :: p) :: k }) (run c fn n { g with todo := .code (true :: p) :: k })
        | _ => .fail "cond"
      | .block id _ => run c fn n { g with todo := .code (false :: p) :: .inBlock id :: k }
      | .loop _ =>
        if c.stops.contains (false :: p) then .stop { g with todo := .code (false :: p) :: .inLoop (false :: p) :: k }
        else run c fn n { g with todo := .code (false :: p) :: .inLoop (false :: p) :: k }
      | .scope _ => run c fn n { g with todo := .code (false :: p) :: .inScope (false :: p) :: k }
      | .exit id => match exitPI id k with
        | some k' => run c fn n { g with todo := k' }
        | none => if c.leaf then .stop g else .fail "exit"
      | .ret => if c.leaf then .stop g else retOut c fn g
      | .region _ ops draw =>
        if draw then (if c.cstops.contains (p, 9999) then .stop g else if noSelectF ops then run c fn n { g with todo := .dreg p [] (stableBlks ops g.sl g.H.length) :: k } else .fail "select")
        else run c fn n { g with todo := .reg p (List.range ops.size) :: k }
      | .rangeFunc .. => .stop g
      | _ => .fail "code"
    | .reg p (i :: is) :: k =>
      match (opsAt (sub fn.body p))[i]? with
      | none => .fail "op"
      | some o =>
        match guardOf (opsAt (sub fn.body p)) g.sl o with
        | .known true => if c.cstops.contains (p, i) then .stop g else
          match splitOf c g.sl o with
          | some (d, kd, e, m) => splitOut g d kd e (run c fn n) m
          | none => opRun c { g with todo := .reg p is :: k } o (run c fn n)
        | .known false => run c fn n { g with todo := .reg p is :: k, sl := putSV g.sl o.dst .undef }
        | .on d b => .ite b (run c fn n { g with sl := g.sl.set d (.bool (.t true)) }) (run c fn n { g with sl := g.sl.set d (.bool (.t false)) })
        | .bad => .fail "guard"
    | .dreg p done ks :: k =>
      match readyF (opsAt (sub fn.body p)) done with
      | [] => run c fn n { g with todo := k }
      | rs =>
        if !(decide (done.length < (opsAt (sub fn.body p)).size) && ks.all (fun k => decide (k < g.H.length)) && noSelectF (opsAt (sub fn.body p))) then .fail "region" else
        match rs.find? (floats c g (opsAt (sub fn.body p)) done ks) with
        | some i =>
          match (opsAt (sub fn.body p))[i]? with
          | none => .fail "op"
          | some o =>
            match guardOf (opsAt (sub fn.body p)) g.sl o with
            | .known true =>
              match pv c g.sl (maskH ks g.H) o.op with
              | some (ns, v) => needs ns (run c fn n { g with todo := .dreg p (done ++ [i]) ks :: k, sl := putSV g.sl o.dst v })
              | none => .fail "op"
            | _ => run c fn n { g with todo := .dreg p (done ++ [i]) ks :: k, sl := putSV g.sl o.dst .undef }
        | none =>
          match if c.nofl then none else rs.find? (floatsL c g (opsAt (sub fn.body p)) done) with
          | some i =>
            match (opsAt (sub fn.body p))[i]? with
            | none => .fail "op"
            | some o =>
              match o.op with
              | .load t a => match ev g.sl a with
                | some x => loadRun c true { g with todo := .dreg p (done ++ [i]) ks :: k } o.dst t x (run c fn n)
                | none => .fail "load"
              | _ => .fail "load"
          | none =>
          match rs.find? (floatsC c g (opsAt (sub fn.body p)) done) with
          | some i =>
            match (opsAt (sub fn.body p))[i]? with
            | none => .fail "op"
            | some o =>
              match o.op with
              | .slice t x lo hi none => match ev g.sl x with
                | some x => cutRun c { g with todo := .dreg p (done ++ [i]) ks :: k } o.dst t x lo hi (run c fn n)
                | none => .fail "slice"
              | .slice t x none (some h) (some m) => chkRun c { g with todo := .dreg p (done ++ [i]) ks :: k } o.dst t x h m (run c fn n)
              | _ => .fail "slice"
          | none =>
          match rs.findSome? (splitsAt c g (opsAt (sub fn.body p))) with
          | some (d, kd, e, m) => splitOut g d kd e (run c fn n) m
          | none =>
          match rs.findSome? (hangs g (opsAt (sub fn.body p))) with
          | some (d, b) => .ite b (run c fn n { g with sl := g.sl.set d (.bool (.t true)) }) (run c fn n { g with sl := g.sl.set d (.bool (.t false)) })
          | none =>
            bothAll (rs.map fun i =>
              match (opsAt (sub fn.body p))[i]? with
              | none => .fail "op"
              | some o =>
                match guardOf (opsAt (sub fn.body p)) g.sl o with
                | .known true =>
                  if storeBad c g ks o then .fail "a store into what the region reads" else
                  opRun c { g with todo := .dreg p (done ++ [i]) ks :: k } o (run c fn n)
                | _ => .fail "guard")
end Go.Sx
namespace Go.Sx
def Env.push (ρ : Env) (is : List Int) (bs : List Bool) (vs : List Value) : Env := { ρ with i := ρ.i ++ is, b := ρ.b ++ bs, v := ρ.v ++ vs }
/-- ρ' says what ρ says of the first atoms. -/
structure Env.Le (ni nb nv nj : Nat) (ρ ρ' : Env) : Prop where
  i : ∀ n, n < ni → ρ'.i.getD n 0 = ρ.i.getD n 0
  b : ∀ n, n < nb → ρ'.b.getD n false = ρ.b.getD n false
  v : ∀ n, n < nv → ρ'.v.getD n vd = ρ.v.getD n vd
  j : ∀ n, n < nj → ρ'.j.getD n Go.undef = ρ.j.getD n Go.undef
theorem Env.le_push (ρ : Env) (is bs vs) : Env.Le ρ.i.length ρ.b.length ρ.v.length ρ.j.length ρ (ρ.push is bs vs) where
  i n h := by simp [Env.push, List.getElem?_append_left h]
  b n h := by simp [Env.push, List.getElem?_append_left h]
  v n h := by simp [Env.push, List.getElem?_append_left h]
  j n _ := rfl
theorem IE.den_le {ni nb nv nj : Nat} {ρ ρ' : Env} (h : Env.Le ni nb nv nj ρ ρ') : ∀ e : IE, e.ok ni nv = true → e.den ρ' = e.den ρ := by
  intro e
  induction e with
  | a n => intro k; exact h.i n (by simpa [IE.ok] using k)
  | l z => intro _; rfl
  | slen n => intro k; simp only [IE.den]; rw [h.v n (by simpa [IE.ok] using k)]
  | stl n => intro k; simp only [IE.den]; rw [h.v n (by simpa [IE.ok] using k)]
  | sat n i ih => intro k; simp only [IE.ok, Bool.and_eq_true, decide_eq_true_eq] at k; simp only [IE.den]; rw [h.v n k.1, ih k.2]
  | wr k x ih => intro hk; simp only [IE.den]; rw [ih (by simpa [IE.ok] using hk)]
  | ifeq p q x y i1 i2 i3 i4 =>
    intro hk; simp only [IE.ok, Bool.and_eq_true] at hk
    simp only [IE.den]; rw [i1 hk.1.1.1, i2 hk.1.1.2, i3 hk.1.2, i4 hk.2]
  | _ x y i1 i2 =>
    intro hk; simp only [IE.ok, Bool.and_eq_true] at hk
    simp only [IE.den]; rw [i1 hk.1, i2 hk.2]
theorem BE.den_le {ni nb nv nj : Nat} {ρ ρ' : Env} (h : Env.Le ni nb nv nj ρ ρ') : ∀ e : BE, e.ok ni nb nv = true → e.den ρ' = e.den ρ := by
  intro e
  induction e with
  | t b => intro _; rfl
  | a n => intro k; exact h.b n (by simpa [BE.ok] using k)
  | nil n => intro k; simp only [BE.den]; rw [h.v n (by simpa [BE.ok] using k)]
  | is q n => intro k; simp only [BE.den]; rw [h.v n (by simpa [BE.ok] using k)]
  | seq n m => intro k; simp only [BE.ok, Bool.and_eq_true, decide_eq_true_eq] at k; simp only [BE.den]; rw [h.v n k.1, h.v m k.2]
  | sis n l => intro k; simp only [BE.den]; rw [h.v n (by simpa [BE.ok] using k)]
  | not x ih => intro k; simp only [BE.den]; rw [ih (by simpa [BE.ok] using k)]
  | lt x y => intro hk; simp only [BE.ok, Bool.and_eq_true] at hk; simp only [BE.den]; rw [IE.den_le h x hk.1, IE.den_le h y hk.2]
  | le x y => intro hk; simp only [BE.ok, Bool.and_eq_true] at hk; simp only [BE.den]; rw [IE.den_le h x hk.1, IE.den_le h y hk.2]
  | eq x y => intro hk; simp only [BE.ok, Bool.and_eq_true] at hk; simp only [BE.den]; rw [IE.den_le h x hk.1, IE.den_le h y hk.2]
  | and x y i1 i2 => intro hk; simp only [BE.ok, Bool.and_eq_true] at hk; simp only [BE.den]; rw [i1 hk.1, i2 hk.2]
  | or x y i1 i2 => intro hk; simp only [BE.ok, Bool.and_eq_true] at hk; simp only [BE.den]; rw [i1 hk.1, i2 hk.2]
mutual
theorem SV.den_le {ni nb nv nj : Nat} {kf : Nat → Bool} {ρ ρ' : Env} {β β' : Nat → Nat} (h : Env.Le ni nb nv nj ρ ρ') (hb : ∀ k, kf k = true → β' k = β k) : ∀ s : SV, s.ok ni nb nv nj kf = true → s.den ρ' β' = s.den ρ β
  | .int k e, hk => by simp only [SV.den]; rw [IE.den_le h e (by simpa [SV.ok] using hk)]
  | .bool b, hk => by simp only [SV.den]; rw [BE.den_le h b (by simpa [SV.ok] using hk)]
  | .va n, hk => by simp only [SV.den]; rw [h.v n (by simpa [SV.ok] using hk)]
  | .junk n, hk => by simp only [SV.den]; rw [h.j n (by simpa [SV.ok] using hk)]
  | .str _, _ => rfl
  | .undef, _ => rfl
  | .nilS, _ => rfl
  | .nilF, _ => rfl
  | .nilP, _ => rfl
  | .nilI, _ => rfl
  | .ptr k _, hk => by simp only [SV.den]; rw [hb k (by simpa [SV.ok] using hk)]
  | .sl k _, hk => by simp only [SV.den]; rw [hb k (by simpa [SV.ok] using hk)]
  | .slc k _ _, hk => by simp only [SV.den]; rw [hb k (by simpa [SV.ok] using hk)]
  | .ea n i _ _, hk => by simp only [SV.ok, Bool.and_eq_true] at hk; simp only [SV.den]; rw [h.v n (by simpa using hk.1), IE.den_le h i hk.2]
  | .pa n _, hk => by simp only [SV.den]; rw [h.v n (by simpa [SV.ok] using hk)]
  | .agg cs, hk => by simp only [SV.den]; rw [SV.dens_le h hb cs (by simpa [SV.ok] using hk)]
  | .tup cs, hk => by simp only [SV.den]; rw [SV.dens_le h hb cs (by simpa [SV.ok] using hk)]
  | .fn _ _ cs, hk => by simp only [SV.den]; rw [SV.dens_le h hb cs (by simpa [SV.ok] using hk)]
  | .fs n, hk => by simp only [SV.den]; rw [h.v n (by simpa [SV.ok] using hk)]
theorem SV.dens_le {ni nb nv nj : Nat} {kf : Nat → Bool} {ρ ρ' : Env} {β β' : Nat → Nat} (h : Env.Le ni nb nv nj ρ ρ') (hb : ∀ k, kf k = true → β' k = β k) : ∀ l : List SV, SV.oks ni nb nv nj kf l = true → SV.dens ρ' β' l = SV.dens ρ β l
  | [], _ => rfl
  | x :: l, hk => by simp only [SV.oks, Bool.and_eq_true] at hk; simp only [SV.dens]; rw [SV.den_le h hb x hk.1, SV.dens_le h hb l hk.2]
end
/-- A value of one cell; a slice without memory has no elements. -/
def fineV : Value → Bool
  | .agg _ | .tuple _ => false
  | .slice none n _ => n == 0
  | _ => true
theorem oneCell_of_fine {v : Value} (h : fineV v = true) : v.oneCell' = true := by cases v <;> simp_all [fineV, Value.oneCell']
def Env.Ok (ρ : Env) : Prop := ∀ x ∈ ρ.v, fineV x = true
theorem Env.Ok.getD {ρ : Env} (h : ρ.Ok) (n : Nat) : ∀ l, ρ.v.getD n vd ≠ .agg l := by
  intro l e
  simp only [List.getD] at e
  cases hn : ρ.v[n]? with
  | none => simp [hn] at e
  | some x =>
    have := h x (List.mem_of_getElem? hn)
    simp [hn] at e
    subst e
    simp [fineV] at this
theorem Env.Ok.fine {ρ : Env} (h : ρ.Ok) (n : Nat) : fineV (ρ.v.getD n vd) = true := by
  simp only [List.getD]
  cases hn : ρ.v[n]? with
  | none => rfl
  | some x => simpa [hn] using h x (List.mem_of_getElem? hn)
theorem Env.Ok.nil {ρ : Env} (h : ρ.Ok) (n : Nat) : ∀ l c, ρ.v.getD n vd = .slice none l c → l = 0 := by
  intro l c e
  simp only [List.getD] at e
  cases hn : ρ.v[n]? with
  | none => simp [hn] at e
  | some x =>
    have := h x (List.mem_of_getElem? hn)
    simp [hn] at e
    subst e
    simpa [fineV] using this
theorem SliceIn.fine {s : Hp} {size v xs} (h : SliceIn s size v xs) : fineV v = true := by
  obtain ⟨_, a, cap, rfl, _, h⟩ := h
  cases a with
  | some a => rfl
  | none =>
    cases xs with
    | nil => rfl
    | cons x xs => obtain ⟨b, o, e, _⟩ := h (by simp); simp at e
theorem SliceIn.len {s : Hp} {size v xs} (h : SliceIn s size v xs) : sliceLen v = xs.length := by
  obtain ⟨_, a, cap, rfl, _⟩ := h; rfl
def isDefer (o : Oper) : Bool := match o.op with | .defer _ => true | _ => false
theorem isDefer_false {o : Oper} (h : isDefer o = false) : ∀ c, o.op ≠ .defer c := by
  intro c hc
  simp [isDefer, hc] at h
/-- An operation that can end only in the ordinary way. -/
theorem wp_noexit {P : Program} {o : Oper} {a : Act} {w : World} {K Z : Act → World → Prop} (h : o.wp P a w K (fun e a w => e = .normal ∧ Z a w)) : o.wp P a w K (fun _ _ _ => False) := by
  simp only [Oper.wp, Oper.upon] at h ⊢
  split at h
  · exact h
  · exact h
  · exact h
  · refine Calls.mono h fun e w'' hq => ?_
    cases e with
    | returned v => exact hq
    | panicked chain => exact absurd hq.1 (by simp)
    | outgrown => obtain ⟨a₀, w₀, hq⟩ := hq; exact absurd hq.1 (by simp)
  · exact h
  · exact absurd h.1 (by simp)
  · exact h.elim
/-- One operation of a region, in a frame that may be a round's. -/
theorem opR {P : Program} {b : Frame} {ops : Array Oper} {Z : Act → World → Prop} {i : Nat} {rest : List Nat} {o : Oper} (ho : ops[i]? = some o) (hnd : b.roundOf = none ∨ isDefer o = false) {a : Act} {w : World}
    (h : if Region.wanted o (yielded ops a.tmps) = true then o.wp P a w Z (fun _ _ _ => False) else Z (a.put o.dst undef) w) (k : List Item) (cs : List Frame) :
    ∃ a' w', Z a' w' ∧ Steps P (lone (b.atR a (.inRegion ops (i :: rest) :: k)) cs w) (lone (b.atR a' (.inRegion ops rest :: k)) cs w') := by
  by_cases hw : Region.wanted o (yielded ops a.tmps) = true
  · simp only [hw, if_true] at h
    simp only [Oper.wp, Oper.upon] at h
    have hg := stepGR_op (P := P) (b := b) (k := k) (cs := cs) (w := w) (rest := rest) ho hw
    have hsem : o.semAt b.roundOf a.eval = execOp a.eval o := by
      rcases hnd with h0 | h0
      · rw [h0]; exact Oper.semAt_none _ _
      · exact Oper.semAt_eq _ _ _ (isDefer_false h0)
    rw [hsem] at hg
    have hfin : ∀ v, (b.atR a (.inRegion ops (i :: rest) :: k)).finish v = b.atR (a.put o.dst v) (.inRegion ops rest :: k) := by
      intro v; rw [Frame.finish_atR, ho]; rfl
    split at h
    · rename_i v w' hr
      refine ⟨_, w', h, .one (step_lone_go ?_)⟩
      rw [hg, ← hfin]; simp [stepG.apply, hr]
    · rename_i w' hr
      refine ⟨_, w', h, .one (step_lone_go ?_)⟩
      rw [hg, ← hfin]; simp [stepG.apply, hr]
    · rename_i d w' hr
      refine ⟨_, w', h, .one (step_lone_go ?_)⟩
      have : ({ b.atR a (.inRegion ops (i :: rest) :: k) with defers := d :: a.defers } : Frame).finish undef =
          b.atR ({ a with defers := d :: a.defers }.put o.dst undef) (.inRegion ops rest :: k) := by
        have := Frame.finish_atR b { a with defers := d :: a.defers } ops i rest k undef
        rw [ho] at this; exact this
      rw [hg]; simp only [stepG.apply, Sem.runT_eq, hr, GStep.bare_after]
      exact congrArg (fun fr => GStep.go { frame := fr, callers := cs, status := .running, dying := none } w') this
    · rename_i f args w' hr
      obtain ⟨e, w'', fr, hR, hsteps, _, hleave⟩ := h (b.atR a (.inRegion ops (i :: rest) :: k) :: cs)
      have henter : step P (lone (b.atR a (.inRegion ops (i :: rest) :: k)) cs w) =
          .next (lone (Frame.enter P f args .normal) (b.atR a (.inRegion ops (i :: rest) :: k) :: cs) w') :=
        step_lone_go (by rw [hg]; simp [stepG.apply, hr, Frame.atR])
      cases e with
      | returned v =>
        refine ⟨_, w'', hR, .head henter (Steps.trans hsteps (.one ?_))⟩
        rw [← hfin]; exact step_leave_returned hleave
      | panicked chain => exact hR.elim
      | outgrown =>
        obtain ⟨a₀, w₀, hq⟩ := hR
        exact hq.elim
    · rename_i row args w' hr
      obtain ⟨v, w'', hR, hsteps⟩ := h (b.atR a (.inRegion ops (i :: rest) :: k)) cs
      have henter : step P (lone (b.atR a (.inRegion ops (i :: rest) :: k)) cs w) =
          .next (lone (Frame.ofRow P row args .normal) (b.atR a (.inRegion ops (i :: rest) :: k) :: cs) w') :=
        step_lone_go (by rw [hg]; simp [stepG.apply, hr, Frame.atR])
      refine ⟨_, w'', hR, .head henter ?_⟩
      rw [← hfin]; exact hsteps
    · exact h.elim
    · exact h.elim
  · simp only [hw, if_false, Bool.false_eq_true] at h
    have hs := stepR_op_skip (P := P) (b := b) (a := a) (k := k) (cs := cs) (w := w) (ops := ops) (i := i) (rest := rest)
      (by simp [ho]; simpa using hw)
    simp only [ho, Option.bind_some] at hs
    exact ⟨_, w, h, .one hs⟩
/-- A region's operations, in a frame that may be a round's. -/
theorem wp_opsR {P : Program} {b : Frame} {ops : Array Oper} {Z : Act → World → Prop} (hnd : b.roundOf = none ∨ ∀ (i : Nat) (o : Oper), ops[i]? = some o → isDefer o = false) (l : List Nat) :
    ∀ (a : Act) (w : World), wpOps P ops (fun e a w => e = .normal ∧ Z a w) l a w → ∀ (k : List Item) (cs : List Frame),
      ∃ a' w', Z a' w' ∧ Steps P (lone (b.atR a (.inRegion ops l :: k)) cs w) (lone (b.atR a' k) cs w') := by
  induction l with
  | nil => exact fun a w h k cs => ⟨a, w, h.2, .one stepR_region_end⟩
  | cons i rest ih =>
    intro a w h k cs
    simp only [wpOps] at h
    cases ho : ops[i]? with
    | none =>
      simp only [ho] at h
      obtain ⟨a', w', hz, hs'⟩ := ih a w h k cs
      have hs := stepR_op_skip (P := P) (b := b) (a := a) (k := k) (cs := cs) (w := w) (ops := ops) (i := i) (rest := rest) (by simp [ho])
      simp only [ho, Option.bind_none, Act.put] at hs
      exact ⟨a', w', hz, .head hs hs'⟩
    | some o =>
      simp only [ho] at h
      have h1 : if Region.wanted o (yielded ops a.tmps) = true then o.wp P a w (wpOps P ops (fun e a w => e = .normal ∧ Z a w) rest) (fun _ _ _ => False) else wpOps P ops (fun e a w => e = .normal ∧ Z a w) rest (a.put o.dst undef) w := by
        split at h
        · rename_i hw
          rw [if_pos hw]
          rcases h with h | ⟨_, a₀, w₀, hq⟩
          · exact wp_noexit h
          · exact absurd hq.1 (by simp)
        · rename_i hw
          rw [if_neg hw]; exact h
      obtain ⟨a1, w1, h2, s1⟩ := opR (b := b) (rest := rest) ho (hnd.imp (fun h => h) (fun h => h i o ho)) h1 k cs
      obtain ⟨a', w', hz, hs'⟩ := ih _ _ h2 k cs
      exact ⟨a', w', hz, s1.trans hs'⟩
/-- A frame: its function; if it is a round's: the record's place. -/
abbrev Fr := FuncId × Option Nat
def atF (f : Fr) : Frame := { (default : Frame) with fn := f.1, kind := .normal, roundOf := f.2 }
/-- How a frame ends: a function's leaves; a round's has handed its answer to the frame below. -/
def Fin (P : Program) (f : Fr) (cs : List Frame) (e : Ending) (w' : World) (m' : Machine) : Prop :=
  match f.2 with
  | none => ∃ fr, m' = lone fr cs w' ∧ fr.fn = f.1 ∧ fr.leaving P w' e
  | some _ => ∃ c cs', cs = c :: cs' ∧ m' = match e with
    | .returned v => lone (c.finish v) cs' w'
    | .panicked chain => lone (c.raise chain) cs' w'
    | .outgrown => lone c cs' w'
def Goes (P : Program) (f : Fr) (R : Ending → World → Prop) (todo : List Item) (a : Act) (w : World) : Prop :=
  ∀ cs, (f.2 = none ∨ cs ≠ []) → ∃ e w' m', R e w' ∧ Comes P (lone ((atF f).atR a todo) cs w) m' e ∧ Fin P f cs e w' m'
theorem Goes.step {P : Program} {f : Fr} {R : Ending → World → Prop} {todo todo' : List Item} {a a' : Act} {w w' : World}
    (h : ∀ cs, Steps P (lone ((atF f).atR a todo) cs w) (lone ((atF f).atR a' todo') cs w')) (g : Goes P f R todo' a' w') : Goes P f R todo a w :=
  fun cs hcs => let ⟨e, w1, m, r, c, hl⟩ := g cs hcs; ⟨e, w1, m, r, .of_steps (h cs) c, hl⟩
theorem Goes.ops {P : Program} {f : Fr} {R : Ending → World → Prop} {ops : Array Oper} {is : List Nat} {k : List Item} {a : Act} {w : World}
    (hnd : f.2 = none ∨ ∀ (i : Nat) (o : Oper), ops[i]? = some o → isDefer o = false)
    (h : wpOps P ops (fun e a w => e = .normal ∧ Goes P f R k a w) is a w) : Goes P f R (.inRegion ops is :: k) a w := by
  intro cs hcs
  obtain ⟨a', w', hg, harr⟩ := wp_opsR (b := atF f) hnd is a w h k cs
  obtain ⟨e, w1, m, r, c, hl⟩ := hg cs hcs
  exact ⟨e, w1, m, r, .of_steps harr c, hl⟩
theorem goes_op {P : Program} {f : Fr} {R : Ending → World → Prop} {ops : Array Oper} {i : Nat} {rest : List Nat} {o : Oper} {k : List Item} {a : Act} {w : World} (ho : ops[i]? = some o) (hnd : f.2 = none ∨ isDefer o = false)
    (h : if Region.wanted o (yielded ops a.tmps) = true then o.wp P a w (fun a w => Goes P f R (.inRegion ops rest :: k) a w) (fun _ _ _ => False) else Goes P f R (.inRegion ops rest :: k) (a.put o.dst undef) w) :
    Goes P f R (.inRegion ops (i :: rest) :: k) a w := fun cs hcs => by
  obtain ⟨a', w', hg, hs⟩ := opR (b := atF f) ho hnd h k cs
  obtain ⟨e, w1, m, r, c, hl⟩ := hg cs hcs
  exact ⟨e, w1, m, r, .of_steps hs c, hl⟩
theorem calls_of_goes {P : Program} {f : FuncId} {fn : Func} {c : Code} {args : Array Value} {w : World} {R : Ending → World → Prop}
    (hf : P.funcs[f]? = some fn) (hb : fn.body = some c)
    (h : Goes P (f, none) R [.code c] { tmps := args ++ Array.replicate (fn.ntmps - args.size) undef, defers := [] } w) : Calls P f args w R := by
  intro cs
  obtain ⟨e, w', m, r, hc, fr, rfl, hl⟩ := h cs (.inl rfl)
  refine ⟨e, w', fr, r, ?_, hl⟩
  have henter : Frame.enter P f args .normal = (atF (f, none)).atR { tmps := args ++ Array.replicate (fn.ntmps - args.size) undef, defers := [] } [.code c] := by
    simp [Frame.enter, Frame.atR, hf, hb, atF]
  rw [henter]; exact hc
/-- The frame's end. -/
theorem goes_ret {P : Program} {f : FuncId} {fn : Func} {R : Ending → World → Prop} {todo : List Item} {a : Act} {w : World} {v : Value}
    (ht : todo = [] ∨ ∃ k, todo = .code .ret :: k) (hf : P.funcs[f]? = some fn) (hd : a.defers = []) (hr : (results fn a.tmps).run P w = .ok v w) (hR : R (.returned v) w) : Goes P (f, none) R todo a w := by
  intro cs _
  rcases ht with rfl | ⟨k, rfl⟩
  · exact ⟨.returned v, w, _, hR, .one (stepR_end rfl), _, rfl, rfl, rfl, hd, rfl, fn, hf, hr⟩
  · exact ⟨.returned v, w, _, hR, .one (stepR_ret rfl), _, rfl, rfl, rfl, hd, rfl, fn, hf, hr⟩
/-- One operation that hands back a value and leaves the world alone or turns it. -/
theorem wpOps_value {P : Program} {ops : Array Oper} {Q : Exit → Act → World → Prop} {i : Nat} {is : List Nat} {o : Oper} {a : Act} {w w' : World} {v : Value}
    (ho : ops[i]? = some o) (hw : Region.wanted o (yielded ops a.tmps) = true) (hr : (execOp a.eval o).run P w = .ok (.value v) w')
    (h : wpOps P ops Q is (a.put o.dst v) w') : wpOps P ops Q (i :: is) a w := by
  simp only [wpOps, ho, hw, if_true, Oper.wp, hr, Oper.upon]
  exact .inl h
theorem wpOps_skip {P : Program} {ops : Array Oper} {Q : Exit → Act → World → Prop} {i : Nat} {is : List Nat} {o : Oper} {a : Act} {w w' : World}
    (ho : ops[i]? = some o) (hw : Region.wanted o (yielded ops a.tmps) = true) (hr : (execOp a.eval o).run P w = .ok .skip w')
    (h : wpOps P ops Q is (a.put o.dst undef) w') : wpOps P ops Q (i :: is) a w := by
  simp only [wpOps, ho, hw, if_true, Oper.wp, hr, Oper.upon]
  exact .inl h
theorem wpOps_off {P : Program} {ops : Array Oper} {Q : Exit → Act → World → Prop} {i : Nat} {is : List Nat} {o : Oper} {a : Act} {w : World}
    (ho : ops[i]? = some o) (hw : Region.wanted o (yielded ops a.tmps) = false) (h : wpOps P ops Q is (a.put o.dst undef) w) : wpOps P ops Q (i :: is) a w := by
  simp only [wpOps, ho, hw]; exact h
theorem wpOps_enter {P : Program} {ops : Array Oper} {Q : Exit → Act → World → Prop} {i : Nat} {is : List Nat} {o : Oper} {a : Act} {w w' : World} {f : FuncId} {args : Array Value}
    (ho : ops[i]? = some o) (hw : Region.wanted o (yielded ops a.tmps) = true) (hr : (execOp a.eval o).run P w = .ok (.enter f args) w')
    (h : Calls P f args w' fun e w'' => ∃ v, e = .returned v ∧ wpOps P ops Q is (a.put o.dst v) w'') : wpOps P ops Q (i :: is) a w := by
  simp only [wpOps, ho, hw, if_true, Oper.wp, hr, Oper.upon]
  exact .inl (h.mono fun e w'' ⟨v, he, hv⟩ => by subst he; exact hv)
theorem ofV1_den {v : Value} {s : SV} (h : ofV1 v = some s) (ρ : Env) (β : Nat → Nat) : s.den ρ β = v := by
  unfold ofV1 at h
  split at h <;> simp at h <;> subst h <;> simp [SV.den, IE.den, BE.den]
theorem ofV1s_den (ρ : Env) (β : Nat → Nat) : ∀ (l : List Value) {ss : List SV}, l.mapM ofV1 = some ss → SV.dens ρ β ss = l
  | [], ss, h => by simp at h; subst h; rfl
  | v :: l, ss, h => by
    simp only [List.mapM_cons, Option.bind_eq_bind, Option.bind_eq_some_iff, Option.pure_def, Option.some.injEq] at h
    obtain ⟨x, h1, xs, h2, rfl⟩ := h
    simp only [SV.dens, ofV1_den h1, ofV1s_den ρ β l h2]
theorem ofV_den {v : Value} {s : SV} (h : ofV v = some s) (ρ : Env) (β : Nat → Nat) : s.den ρ β = v := by
  unfold ofV at h
  split at h
  · simp only [Option.map_eq_some_iff] at h
    obtain ⟨ss, h1, rfl⟩ := h
    simp only [SV.den, ofV1s_den ρ β _ h1]
  · exact ofV1_den h ρ β
theorem ev_den {sl : List SV} {x : Operand} {s : SV} (h : ev sl x = some s) {ρ : Env} {β : Nat → Nat} {a : Act} (ha : a.tmps = (SV.dens ρ β sl).toArray) : a.eval x = s.den ρ β := by
  cases x with
  | tmp t =>
    simp only [ev] at h
    simp [Act.eval, ha, SV.dens_map, h]
  | const v => simp only [ev] at h; rw [ofV_den h]; rfl
  | func f => simp only [ev, Option.some.injEq] at h; subst h; simp [Act.eval, SV.den, SV.dens]
  | global g => simp [ev] at h
theorem evs_den {sl : List SV} {ρ : Env} {β : Nat → Nat} {a : Act} (ha : a.tmps = (SV.dens ρ β sl).toArray) : ∀ (xs : List Operand) (ss : List SV), evs sl xs = some ss → xs.map a.eval = SV.dens ρ β ss
  | [], ss, h => by simp only [evs, Option.some.injEq] at h; subst h; rfl
  | x :: xs, ss, h => by
    simp only [evs] at h
    split at h
    · rename_i v vs h1 h2
      simp only [Option.some.injEq] at h; subst h
      simp only [List.map_cons, SV.dens, ev_den h1 ha, evs_den ha xs vs h2]
    · simp at h
theorem evs_length {sl : List SV} : ∀ (xs : List Operand) (ss : List SV), evs sl xs = some ss → ss.length = xs.length
  | [], ss, h => by simp only [evs, Option.some.injEq] at h; subst h; rfl
  | x :: xs, ss, h => by
    simp only [evs] at h
    split at h
    · rename_i v vs h1 h2
      simp only [Option.some.injEq] at h; subst h
      simp [evs_length xs vs h2]
    · simp at h
theorem put_den {sl : List SV} {ρ : Env} {β : Nat → Nat} {a : Act} (ha : a.tmps = (SV.dens ρ β sl).toArray) (dst : Option Tmp) (v : SV) :
    (a.put dst (v.den ρ β)).tmps = (SV.dens ρ β (putSV sl dst v)).toArray := by
  cases dst with
  | none => simpa [Act.put, putSV] using ha
  | some d =>
    simp only [Act.put, putSV, ha, SV.dens_map, List.map_set, List.setIfInBounds_toArray]
section
variable (ρ : Env)
theorem add'_den (x y : IE) : (IE.add' x y).den ρ = x.den ρ + y.den ρ := by unfold IE.add'; split <;> simp [IE.den]
theorem sub'_den (x y : IE) : (IE.sub' x y).den ρ = x.den ρ - y.den ρ := by unfold IE.sub'; split <;> rfl
theorem mul'_den (x y : IE) : (IE.mul' x y).den ρ = x.den ρ * y.den ρ := by unfold IE.mul'; split <;> rfl
theorem lt'_den (x y : IE) : (BE.lt' x y).den ρ = ltB (x.den ρ) (y.den ρ) := by unfold BE.lt'; split <;> rfl
theorem le'_den (x y : IE) : (BE.le' x y).den ρ = leB (x.den ρ) (y.den ρ) := by unfold BE.le'; split <;> rfl
theorem eq'_den (x y : IE) : (BE.eq' x y).den ρ = eqB (x.den ρ) (y.den ρ) := by unfold BE.eq'; split <;> rfl
theorem not'_den (x : BE) : (BE.not' x).den ρ = !x.den ρ := by unfold BE.not'; split <;> simp [BE.den]
theorem and'_den (x y : BE) : (BE.and' x y).den ρ = (x.den ρ && y.den ρ) := by unfold BE.and'; split <;> simp [BE.den]
theorem or'_den (x y : BE) : (BE.or' x y).den ρ = (x.den ρ || y.den ρ) := by unfold BE.or'; split <;> simp [BE.den]
end
theorem wrap_of_rng (k : IntKind) (n : Int) (h1 : loI k ≤ n) (h2 : n ≤ hiI k) : k.wrap n = n := by
  cases k <;> simp [loI, hiI, IntKind.signed, IntKind.bits] at h1 h2 <;> simp [IntKind.wrap, IntKind.signed, IntKind.bits] <;> omega
theorem fit_den {nw : Bool} {k : IntKind} {e : IE} {ns : List BE} {v : SV} (h : fit nw k e = (ns, v)) (ρ : Env) (β : Nat → Nat) (hn : ∀ b ∈ ns, b.den ρ = true) : v.den ρ β = .int k (k.wrap (e.den ρ)) := by
  unfold fit at h
  split at h
  · simp only [Prod.mk.injEq] at h
    obtain ⟨rfl, rfl⟩ := h
    have := hn _ (List.mem_singleton.2 rfl)
    simp only [rng, and'_den, le'_den, IE.den, Bool.and_eq_true] at this
    simp only [SV.den]
    rw [wrap_of_rng k _ (leB_true.1 this.1) (leB_true.1 this.2)]
  · simp only [Prod.mk.injEq] at h
    obtain ⟨rfl, rfl⟩ := h
    rfl
end Go.Sx
namespace Go.Sx
def cellI : Kd → Int → Value
  | .int k, z => .int k z
  | _, _ => undef
def cellsI : List Kd → List Int → List Value
  | kd :: ks, z :: zs => cellI kd z :: cellsI ks zs
  | _, _ => []
/-- A type's row of the table is true of the program. -/
structure TI.Ok (P : Program) (t : Nat) (i : TI) : Prop where
  inf : ∃ inf z, P.info? t = some inf ∧ inf.size = i.size ∧ inf.bytes = i.bytes ∧ inf.zero = some z ∧ ∀ ρ β, z.cells = (SV.dens ρ β i.zero).toArray
  zlen : i.zero.length = i.size
  ty : match i.ty with
    | .int k => P.underlying t = some (.int k)
    | .bool => P.underlying t = some .bool
    | .str => P.underlying t = some .string
    | .arr n e => P.underlying t = some (.array n e)
    | .st fs => ∃ fields : Array Field, P.underlying t = some (.struct fields) ∧ fields.toList.map (fun f => (f.offset, f.type)) = fs
    | .slice e => P.underlying t = some (.slice e)
    | .ptr e => P.underlying t = some (.pointer e)
    | .func => ∃ p r v, P.underlying t = some (.func p r v)
    | .other => ∃ d, P.underlying t = some d ∧ (match d with | .struct _ | .array _ _ => False | _ => True)
  one : i.isAgg = false → i.size = 1
  eq : i.eq = true → P.eqGuardType P.depth t = false ∧ ∀ (w : World) (zs us : List Int), zs.length = i.ks.length → us.length = i.ks.length →
    (Op.equal t (.agg (cellsI i.ks zs).toArray) (.agg (cellsI i.ks us).toArray)).run P w = .ok (decide (zs = us)) w
/-- A map type's row is true of the program. -/
structure MT.Ok (P : Program) (t : Nat) (i : MT) : Prop where
  ty : P.underlying t = some (.map i.kt i.e)
  key : P.underlying i.kt = some (.int i.k)
  zero : ∃ inf z, P.info? i.e = some inf ∧ inf.zero = some z ∧ ∀ ρ β, z = i.dflt.den ρ β
structure ProgOk (P : Program) (c : Ctx) : Prop where
  tab : ∀ t i, c.tab t = some i → i.Ok P t
  mixed : P.follows .mixedOrders = true
  call : ∀ f, c.fok f = true → ∀ args w, (callFunc f args).run P w = .ok (.enter f args) w
  mtab : ∀ t i, c.mtab t = some i → i.Ok P t
section
variable {P : Program} {c : Ctx}
theorem run_isAgg {t : Nat} {i : TI} (h : i.Ok P t) (w : World) : (isAgg t).run P w = .ok i.isAgg w := by
  have ht := h.ty
  unfold TI.isAgg
  cases hi : i.ty <;> simp only [hi] at ht ⊢
  case st fs => obtain ⟨fields, h1, _⟩ := ht; simp [isAgg, run_underlying h1]
  case func => obtain ⟨p, r, v, h1⟩ := ht; simp [isAgg, run_underlying h1]
  case other =>
    obtain ⟨d, h1, h2⟩ := ht
    cases d <;> simp at h2 <;> simp [isAgg, run_underlying h1]
  all_goals simp [isAgg, run_underlying ht]
theorem run_sizeOf {t : Nat} {i : TI} (h : i.Ok P t) (w : World) : (sizeOf t).run P w = .ok i.size w := by
  obtain ⟨inf, z, h1, h2, _⟩ := h.inf
  simp [sizeOf, typeInfo, h1, h2]
theorem run_zero {t : Nat} {i : TI} (h : i.Ok P t) (w : World) : ∃ z, (zeroValue t).run P w = .ok z w ∧ ∀ ρ β, z.cells = (SV.dens ρ β i.zero).toArray := by
  obtain ⟨inf, z, h1, _, _, h4, h5⟩ := h.inf
  exact ⟨z, by simp [zeroValue, typeInfo, h1, h4], h5⟩
theorem run_part {t : Nat} {i : TI} (h : i.Ok P t) {ρ : Env} {β : Nat → Nat} {cs : List SV} {off : Nat} {v : SV} (hv : partSV i cs off = some v) (w : World) :
    (part t (SV.dens ρ β cs).toArray off).run P w = .ok (v.den ρ β) w := by
  unfold partSV at hv
  unfold part
  simp only [Sem.run_bind, run_isAgg h, Result.andThen_ok]
  split at hv
  · rename_i hagg
    split at hv
    · simp only [Option.some.injEq] at hv; subst hv
      simp only [hagg, if_true, Sem.run_bind, run_sizeOf h, Result.andThen_ok, Sem.run_pure, SV.den, SV.dens_map, List.map_take, List.map_drop, List.extract_toArray, List.extract_eq_take_drop, Nat.add_sub_cancel_left]
    · simp at hv
  · rename_i hagg
    simp only [hagg]
    have : (SV.dens ρ β cs).toArray[off]? = some (v.den ρ β) := by simp [SV.dens_map, hv]
    simp [this]
/-- The own cells, as the world has them. -/
def HOk (ρ : Env) (β : Nat → Nat) (H : List Blk) (w : World) : Prop :=
  ∀ k cs T, getBlk H k = some (cs, T) → w.heap[β k]? = some (.cells (SV.dens ρ β cs).toArray T (0, 0))
theorem run_own {t : Nat} {i : TI} (h : i.Ok P t) {ρ : Env} {β : Nat → Nat} {cs : List SV} {off b T : Nat} {v : SV} (hv : partSV i cs off = some v) (w : World)
    (hb : w.heap[b]? = some (.cells (SV.dens ρ β cs).toArray T (0, 0))) : (loadVar t ⟨b, off, none⟩).run P w = .ok (v.den ρ β) w := by
  have hcell : ∀ o u, (SV.dens ρ β cs)[o]? = some u → w.cell? ⟨b, o, none⟩ = some u := by
    intro o u hu
    simp only [World.cell?, hb]
    simpa using hu
  unfold partSV at hv
  unfold loadVar
  simp only [Sem.run_bind, run_isAgg h, Result.andThen_ok]
  split at hv
  · rename_i hagg
    split at hv
    · rename_i hle
      simp only [Option.some.injEq] at hv; subst hv
      simp only [hagg, if_true, Sem.run_bind, run_sizeOf h, Result.andThen_ok]
      have hlen : ((SV.dens ρ β cs).drop off |>.take i.size).length = i.size := by simp [SV.dens_map]; omega
      have := run_loadCells_list (P := P) w ⟨b, off, none⟩ ((SV.dens ρ β cs).drop off |>.take i.size) (fun j u hj => by
        rw [List.getElem?_take] at hj
        split at hj
        · rw [List.getElem?_drop] at hj
          have : (⟨b, off, none⟩ : Addr).add j = ⟨b, off + j, none⟩ := by unfold Addr.add; split <;> simp_all
          rw [this]; exact hcell _ _ hj
        · cases hj)
      rw [hlen] at this
      simp only [this, Result.andThen_ok, Sem.run_pure, SV.den, SV.dens_map, List.map_take, List.map_drop]
    · simp at hv
  · rename_i hagg
    simp only [hagg]
    have := hcell off (v.den ρ β) (by simp [SV.dens_map, hv])
    simp [this]
theorem eqCells_den (ρ : Env) (β : Nat → Nat) : ∀ (ks : List Kd) (l m : List SV) (e : BE), eqCells ks l m = some e →
    ∃ zs us : List Int, zs.length = ks.length ∧ us.length = ks.length ∧ SV.dens ρ β l = cellsI ks zs ∧ SV.dens ρ β m = cellsI ks us ∧ e.den ρ = decide (zs = us)
  | [], l, m, e, h => by
    cases l <;> cases m <;> simp [eqCells] at h
    subst h; exact ⟨[], [], rfl, rfl, rfl, rfl, rfl⟩
  | kd :: ks, l, m, e, h => by
    cases l with
    | nil => simp [eqCells] at h
    | cons x l =>
    cases m with
    | nil => simp [eqCells] at h
    | cons y m =>
    cases kd <;> cases x <;> first | (simp [eqCells] at h; done) | skip
    cases y <;> first | (simp [eqCells] at h; done) | skip
    rename_i k0 k x k' y
    simp only [eqCells] at h
    split at h
    case isFalse => simp at h
    rename_i hk
    obtain ⟨rfl, rfl⟩ := hk
    simp only [Option.map_eq_some_iff] at h
    obtain ⟨e', h1, rfl⟩ := h
    obtain ⟨zs, us, a, b, d, f, g⟩ := eqCells_den ρ β ks l m e' h1
    refine ⟨x.den ρ :: zs, y.den ρ :: us, by simp [a], by simp [b], by simp [SV.dens, SV.den, cellsI, cellI, d], by simp [SV.dens, SV.den, cellsI, cellI, f], ?_⟩
    rw [and'_den, eq'_den, g, eqB]
    simp only [List.cons.injEq]
    by_cases h1 : x.den ρ = y.den ρ <;> by_cases h2 : zs = us <;> simp [h1, h2]
theorem run_intOp {nw : Bool} {op : BinOp} {k : IntKind} {x y : IE} {ns : List BE} {v : SV} (h : intOp nw op k x y = some (ns, v)) (ρ : Env) (β : Nat → Nat)
    (hn : ∀ b ∈ ns, b.den ρ = true) (t : Nat) (w : World) : (binOp op t (.int k (x.den ρ)) (.int k (y.den ρ))).run P w = .ok (v.den ρ β) w := by
  unfold intOp at h
  cases op <;> simp only [Option.some.injEq, reduceCtorEq] at h
  case add => have := fit_den h ρ β hn; simp [binOp, Op.intArith, this, add'_den]
  case sub => have := fit_den h ρ β hn; simp [binOp, Op.intArith, this, sub'_den]
  case mul => have := fit_den h ρ β hn; simp [binOp, Op.intArith, this, mul'_den]
  case quo =>
    obtain ⟨e1, e2⟩ := Prod.mk.inj h
    have h0 := hn (BE.not' (BE.eq' y (.l 0))) (by rw [← e1]; simp)
    have := fit_den (nw := nw) (k := k) (e := .tdiv x y) (ns := (fit nw k (.tdiv x y)).1) (v := (fit nw k (.tdiv x y)).2) rfl ρ β (fun b hb => hn b (by rw [← e1]; simp [hb]))
    rw [not'_den, eq'_den, Bool.not_eq_true'] at h0
    have h0' : ¬ y.den ρ = 0 := eqB_false.1 h0
    rw [e2] at this
    simp [binOp, Op.intDiv, h0', this, IE.den]
  case rem =>
    obtain ⟨e1, e2⟩ := Prod.mk.inj h
    have h0 := hn (BE.not' (BE.eq' y (.l 0))) (by rw [← e1]; simp)
    rw [not'_den, eq'_den, Bool.not_eq_true'] at h0
    have h0' : ¬ y.den ρ = 0 := eqB_false.1 h0
    subst e2
    simp [binOp, Op.intDiv, h0', SV.den, IE.den]
  all_goals
    obtain ⟨_, rfl⟩ := Prod.mk.inj h
    simp only [binOp, Op.intCmp, SV.den, ne_eq, not_true_eq_false, if_false, Sem.run_pure, not'_den, eq'_den, lt'_den, le'_den, ltB, leB, eqB]
  case eql => simp [BEq.beq]
  case neq => simp [bne, BEq.beq]
end
end Go.Sx
namespace Go.Sx
section
variable {P : Program} {c : Ctx} {ρ : Env} {β : Nat → Nat}
theorem Ctx.ty_some {t : Nat} {y : Ty} (h : c.ty t = some y) : ∃ i, c.tab t = some i ∧ i.ty = y := by
  simpa [Ctx.ty] using h
theorem isStr {v : Value} (h : isKindV 3 v = true) : ∃ s, v = .string s := by
  cases v <;> simp only [isKindV, Bool.false_eq_true] at h
  exact ⟨_, rfl⟩
theorem cells_den' (hρ : ρ.Ok) (v : SV) (hv : v.cok = true) : (v.den ρ β).cells = (SV.dens ρ β (cellsOf v)).toArray := by
  cases v
  case junk => simp [SV.cok] at hv
  case va n =>
    simp only [SV.den, cellsOf, SV.dens]
    have := hρ.getD n
    generalize ρ.v.getD n vd = x at *
    cases x <;> first | rfl | exact absurd rfl (this _)
  case fs n =>
    simp only [SV.den, cellsOf, SV.dens]
    have := hρ.getD n
    generalize ρ.v.getD n vd = x at *
    cases x <;> first | rfl | exact absurd rfl (this _)
  all_goals simp [SV.den, cellsOf, SV.dens, Value.cells]
  case undef => rfl
theorem setCells_den (cs new : List SV) (off : Nat) :
    SV.dens ρ β (setCells cs off new) = (SV.dens ρ β cs).take off ++ SV.dens ρ β new ++ (SV.dens ρ β cs).drop (off + new.length) := by
  simp [setCells, SV.dens_map]
theorem foldl_set (off : Nat) : ∀ (new : List Value) (k : Nat) (cs : Array Value), off + k + new.length ≤ cs.size →
    (new.zipIdx k).foldl (fun cs (x : Value × Nat) => cs.setIfInBounds (off + x.2) x.1) cs = (cs.toList.take (off + k) ++ new ++ cs.toList.drop (off + k + new.length)).toArray
  | [], k, cs, _ => by simp
  | v :: new, k, cs, h => by
    simp only [List.length_cons] at h
    simp only [List.zipIdx_cons, List.foldl_cons]
    rw [foldl_set off new (k + 1) (cs.setIfInBounds (off + k) v) (by simp; omega)]
    apply congrArg List.toArray
    simp only [Array.toList_setIfInBounds, List.length_cons]
    apply List.ext_getElem?
    intro j
    simp only [List.getElem?_append, List.length_take, List.length_append, List.length_set, Array.length_toList, List.getElem?_take, List.getElem?_drop, List.getElem?_set, List.length_cons, List.getElem?_cons]
    by_cases h1 : j < off + k
    · have a : j < min (off + (k + 1)) cs.size := by omega
      have b : j < min (off + k) cs.size := by omega
      have d : ¬ off + k = j := by omega
      have e : j < off + (k + 1) := by omega
      have f : j < min (off + (k + 1)) cs.size + new.length := by omega
      have g : j < min (off + k) cs.size + (new.length + 1) := by omega
      simp [a, b, d, e, f, g, h1]
    · by_cases h2 : j = off + k
      · subst h2
        have a : off + k < min (off + (k + 1)) cs.size := by omega
        have b : ¬ off + k < min (off + k) cs.size := by omega
        have f : off + k < min (off + (k + 1)) cs.size + new.length := by omega
        have g : off + k < min (off + k) cs.size + (new.length + 1) := by omega
        have e : off + k < off + (k + 1) := by omega
        have m : off + k - min (off + k) cs.size = 0 := by omega
        have q : off + k < cs.size := by omega
        simp [a, b, e, f, g, m, q]
      · by_cases h3 : j < off + k + 1 + new.length
        · have a : ¬ j < min (off + (k + 1)) cs.size := by omega
          have b : ¬ j < min (off + k) cs.size := by omega
          have f : j < min (off + (k + 1)) cs.size + new.length := by omega
          have g : j < min (off + k) cs.size + (new.length + 1) := by omega
          have m : ¬ j - min (off + k) cs.size = 0 := by omega
          have q : j - min (off + (k + 1)) cs.size = j - min (off + k) cs.size - 1 := by omega
          simp [a, b, f, g, m, q]
        · have f : ¬ j < min (off + (k + 1)) cs.size + new.length := by omega
          have g : ¬ j < min (off + k) cs.size + (new.length + 1) := by omega
          have q : off + (k + 1) + new.length + (j - (min (off + (k + 1)) cs.size + new.length)) = j := by omega
          have q' : off + k + (new.length + 1) + (j - (min (off + k) cs.size + (new.length + 1))) = j := by omega
          have d : ¬ off + k = j := by omega
          simp only [f, g, if_false, q, q', d]
theorem fill_den (hρ : ρ.Ok) (place : Nat → Option (Nat × Nat)) : ∀ (parts : List (Nat × SV)) (cs out : List SV), fillSV place cs parts = some out →
    Instr.fill place (SV.dens ρ β cs).toArray (parts.map fun p => (p.1, p.2.den ρ β)) = some (SV.dens ρ β out).toArray
  | [], cs, out, h => by simp only [fillSV, Option.some.injEq] at h; subst h; rfl
  | (j, v) :: l, cs, out, h => by
    simp only [fillSV] at h
    split at h
    · rename_i off size hp
      split at h
      · rename_i hc
        simp only [Bool.and_eq_true, decide_eq_true_eq] at hc
        have ih := fill_den hρ place l _ _ h
        simp only [List.map_cons, Instr.fill, hp]
        have e1 : (v.den ρ β).cells = (SV.dens ρ β (cellsOf v)).toArray := cells_den' hρ v hc.1.1
        have hs : (SV.dens ρ β (cellsOf v)).length = size := by simp [SV.dens_map, hc.1.2]
        have hcl : (SV.dens ρ β cs).length = cs.length := by simp [SV.dens_map]
        have hle : off + (SV.dens ρ β (cellsOf v)).length ≤ (SV.dens ρ β cs).length := by rw [hs, hcl]; exact hc.2
        have hcond : ¬ ((decide ((v.den ρ β).cells.size ≠ size) || decide (off + (v.den ρ β).cells.size > (SV.dens ρ β cs).toArray.size)) = true) := by
          rw [e1]
          simp only [List.size_toArray, Bool.or_eq_true, decide_eq_true_eq]
          omega
        have hfold : (v.den ρ β).cells.zipIdx.foldl (fun cs (x : Value × Nat) => cs.setIfInBounds (off + x.2) x.1) (SV.dens ρ β cs).toArray = (SV.dens ρ β (setCells cs off (cellsOf v))).toArray := by
          rw [e1, setCells_den, ← Array.foldl_toList, Array.toList_zipIdx]
          have := foldl_set off (SV.dens ρ β (cellsOf v)) 0 (SV.dens ρ β cs).toArray (by simpa using hle)
          simp only [Nat.add_zero] at this
          rw [show (cellsOf v).length = (SV.dens ρ β (cellsOf v)).length by simp [SV.dens_map]]
          exact this
        rw [if_neg hcond]
        rw [← ih]
        exact congrArg (fun x => Instr.fill place x (l.map fun p => (p.1, p.2.den ρ β))) hfold
      · simp at h
    · simp at h
theorem zip_den {sl : List SV} {a : Act} (ha : a.tmps = (SV.dens ρ β sl).toArray) : ∀ (ps : List (Nat × Operand)) (vs : List SV), evs sl (ps.map (·.2)) = some vs →
    ps.map (fun p => (p.1, a.eval p.2)) = ((ps.map (·.1)).zip vs).map fun p => (p.1, p.2.den ρ β)
  | [], vs, h => by simp
  | p :: ps, vs, h => by
    simp only [List.map_cons, evs] at h
    split at h
    · rename_i v vs' h1 h2
      simp only [Option.some.injEq] at h; subst h
      simp only [List.map_cons, List.zip_cons_cons, ev_den h1 ha, zip_den ha ps vs' h2]
    · simp at h
theorem mapM_places (hP : ProgOk P c) : ∀ (fields : List Field) (w : World), (∀ f ∈ fields, ∃ i, c.tab f.type = some i) →
    (fields.mapM fun f => (do pure (f.offset, ← sizeOf f.type) : Sem (Nat × Nat))).run P w = .ok (fields.map fun f => (f.offset, ((c.tab f.type).map (·.size)).getD 0)) w
  | [], w, _ => by simp
  | f :: fs, w, h => by
    obtain ⟨i, hi⟩ := h f (by simp)
    have ih := mapM_places hP fs w (fun g hg => h g (by simp [hg]))
    simp only [Sem.run_bind, List.mapM_cons, run_sizeOf (hP.tab _ _ hi), Result.andThen_ok, Sem.run_pure, ih, List.map_cons, hi, Option.map_some, Option.getD_some]
theorem run_build (hP : ProgOk P c) (hρ : ρ.Ok) {sl : List SV} {t : Nat} {parts : Array (Nat × Operand)} {v : SV} (h : pvBuild c sl t parts.toList = some v) {a : Act} (ha : a.tmps = (SV.dens ρ β sl).toArray) (w : World) :
    (Instr.build t (parts.map fun (i, x) => (i, a.eval x))).run P w = .ok (v.den ρ β) w := by
  unfold pvBuild at h
  split at h
  case h_2 => simp at h
  rename_i i hi
  split at h
  case h_2 => simp at h
  rename_i vs hvs
  have hI := hP.tab t i hi
  obtain ⟨z, hz, hzc⟩ := run_zero hI w
  have hparts : (parts.map fun (p : Nat × Operand) => (p.1, a.eval p.2)).toList = ((parts.toList.map (·.1)).zip vs).map fun p => (p.1, p.2.den ρ β) := by
    rw [← zip_den ha _ _ hvs]; simp
  have hty := hI.ty
  split at h
  · rename_i fs hfs
    simp only [hfs] at hty
    obtain ⟨fields, hu, hf⟩ := hty
    split at h
    case isFalse => simp at h
    rename_i hall
    have hall := List.all_eq_true.1 hall
    simp only [Option.map_eq_some_iff] at h
    obtain ⟨cs, hfill, rfl⟩ := h
    have hfill' := fill_den (ρ := ρ) (β := β) hρ _ _ _ _ hfill
    have hpl := mapM_places hP fields.toList w (by
      intro f hfm
      have := hall (f.offset, f.type) (by rw [← hf]; exact List.mem_map.2 ⟨f, hfm, rfl⟩)
      exact Option.isSome_iff_exists.1 this)
    have hplA : (fields.mapM fun f => (do pure (f.offset, ← sizeOf f.type) : Sem (Nat × Nat))).run P w = .ok (fields.toList.map fun f => (f.offset, ((c.tab f.type).map (·.size)).getD 0)).toArray w := by
      rw [Array.mapM_eq_mapM_toList]
      simp only [Sem.run_map, hpl, Result.andThen_ok]
    have hplace : (fun (j : Nat) => (fields.toList.map fun f => (f.offset, ((c.tab f.type).map (·.size)).getD 0)).toArray[j]?) =
        placeSt c fs := by
      funext j
      unfold placeSt
      subst hf
      simp only [List.getElem?_toArray, List.getElem?_map]
      cases hj : fields.toList[j]? with
      | none => rfl
      | some f =>
        have := hall (f.offset, f.type) (List.mem_map.2 ⟨f, List.mem_of_getElem? hj, rfl⟩)
        obtain ⟨fi, hfi⟩ := Option.isSome_iff_exists.1 this
        simp only [Option.map_some, hfi, Option.getD_some]
    simp only [Instr.build, Sem.run_bind, hz, Result.andThen_ok, run_underlying hu, hplA, hzc ρ β]
    rw [hplace]
    have : (parts.map fun (x : Nat × Operand) => (x.1, a.eval x.2)).toList = _ := hparts
    simp only [this, hfill', Sem.run_pure, SV.den]
  · rename_i n e he
    simp only [he] at hty
    split at h
    case h_2 => simp at h
    rename_i fi hfi
    simp only [Option.map_eq_some_iff] at h
    obtain ⟨cs, hfill, rfl⟩ := h
    have hfill' := fill_den (ρ := ρ) (β := β) hρ _ _ _ _ hfill
    unfold placeArr at hfill'
    simp only [Instr.build, Sem.run_bind, hz, Result.andThen_ok, run_underlying hty, run_sizeOf (hP.tab _ _ hfi), hzc ρ β]
    have : (parts.map fun (x : Nat × Operand) => (x.1, a.eval x.2)).toList = _ := hparts
    simp only [this, hfill', Sem.run_pure, SV.den]
  · simp at h
theorem run_pvLoad (hP : ProgOk P c) {H : List Blk} {t : Nat} {x v : SV} (h : pvLoad c H t x = some v) {w : World} (hH : HOk ρ β H w) :
    (Instr.loadAt t (x.den ρ β)).run P w = .ok (v.den ρ β) w := by
  unfold pvLoad at h
  split at h
  case h_2 => simp at h
  rename_i k off
  split at h
  case h_2 => simp at h
  rename_i i cs T h1 h2
  have := run_own (hP.tab t i h1) h w (hH _ _ _ h2)
  simp [Instr.loadAt, Instr.sureAddr, SV.den, this]
theorem run_pvConvert (hP : ProgOk P c) {src dst : Nat} {x v : SV} {ns : List BE} (h : pvConvert c dst x = some (ns, v)) (hn : ∀ b ∈ ns, b.den ρ = true) {w : World}
    (hs : ∃ d, P.underlying src = some d) : (convert src dst (x.den ρ β)).run P w = .ok (v.den ρ β) w := by
  unfold pvConvert at h
  split at h
  case h_2 => simp at h
  rename_i k k' e hty
  obtain ⟨i, hi, hi'⟩ := Ctx.ty_some hty
  have hty := (hP.tab dst i hi).ty
  simp only [hi'] at hty
  obtain ⟨d, hd⟩ := hs
  simp only [Option.some.injEq] at h
  have := fit_den h ρ β hn
  rw [this]
  simp only [convert, Sem.run_bind, run_underlying hd, run_underlying hty, Result.andThen_ok, SV.den, Conv.intToInt]
  cases d <;> rfl
theorem run_pvUn {op : UnOp} {x v : SV} {ns : List BE} (h : pvUn c op x = some (ns, v)) (hn : ∀ b ∈ ns, b.den ρ = true) {w : World} :
    (Op.unary op (x.den ρ β)).run P w = .ok (v.den ρ β) w := by
  unfold pvUn at h
  split at h
  · simp only [Option.some.injEq, Prod.mk.injEq] at h
    obtain ⟨_, rfl⟩ := h
    simp [Op.unary, SV.den, not'_den]
  · simp only [Option.some.injEq] at h
    have := fit_den h ρ β hn
    rw [this, sub'_den]
    simp [Op.unary, SV.den, Op.intArith, IE.den]
  · simp at h
theorem Addr.add_add0 (x : Addr) (a b : Nat) : (x.add a).add b = x.add (a + b) := by
  unfold Addr.add
  by_cases h1 : a = 0 <;> by_cases h2 : b = 0 <;> simp [h1, h2, Nat.add_assoc]
theorem run_pvFieldAddr (hP : ProgOk P c) {s f : Nat} {x v : SV} (h : pvFieldAddr c s f x = some v) {w : World} :
    (Instr.fieldAt s (x.den ρ β) f).run P w = .ok (v.den ρ β) w := by
  unfold pvFieldAddr at h
  split at h
  case h_2 => simp at h
  rename_i fs hty
  obtain ⟨i, hi, hi'⟩ := Ctx.ty_some hty
  have hty := (hP.tab s i hi).ty
  simp only [hi'] at hty
  obtain ⟨fields, hu, hf⟩ := hty
  split at h
  case h_2 => simp at h
  rename_i off ft hft
  split at h
  case h_2 => simp at h
  rename_i fi hfi
  split at h
  case isTrue => simp at h
  rename_i hsz
  have hsz : ¬ fi.size = 0 := by simpa using hsz
  have hfield : ∃ fd, fields[f]? = some fd ∧ fd.offset = off ∧ fd.type = ft := by
    rw [← hf] at hft
    simp only [List.getElem?_map, Option.map_eq_some_iff, Array.getElem?_toList] at hft
    obtain ⟨fd, h1, h2⟩ := hft
    exact ⟨fd, h1, (Prod.mk.inj h2).1, (Prod.mk.inj h2).2⟩
  obtain ⟨fd, hfd, rfl, rfl⟩ := hfield
  have main : ∀ ad, (Instr.fieldAt s (.pointer (some ad)) f).run P w = .ok (.pointer (some (ad.add fd.offset))) w := by
    intro ad
    simp [Instr.fieldAt, run_underlying hu, hfd, Instr.sureAddr, fieldPlace, run_sizeOf (hP.tab _ _ hfi), hsz]
  split at h <;> simp only [Option.some.injEq, reduceCtorEq] at h <;> subst h <;> simp only [SV.den, main]
  · simp only [Addr.add]
    split <;> simp_all
  · simp only [Addr.add_add0, Nat.add_assoc]
  · simp only [Addr.add_add0]
theorem run_pvField (hP : ProgOk P c) {s f : Nat} {x v : SV} (h : pvField c s f x = some v) {w : World} :
    (Instr.field s (x.den ρ β) f).run P w = .ok (v.den ρ β) w := by
  unfold pvField at h
  split at h
  case h_2 => simp at h
  rename_i fs cs hty
  obtain ⟨i, hi, hi'⟩ := Ctx.ty_some hty
  have hty := (hP.tab s i hi).ty
  simp only [hi'] at hty
  obtain ⟨fields, hu, hf⟩ := hty
  split at h
  case h_2 => simp at h
  rename_i off ft hft
  split at h
  case h_2 => simp at h
  rename_i fi hfi
  rw [← hf] at hft
  simp only [List.getElem?_map, Option.map_eq_some_iff, Array.getElem?_toList] at hft
  obtain ⟨fd, h1, h2⟩ := hft
  obtain ⟨rfl, rfl⟩ := Prod.mk.inj h2
  have := run_part (hP.tab _ _ hfi) (ρ := ρ) (β := β) h w
  simp [Instr.field, run_underlying hu, h1, asAgg, SV.den, this]
theorem selIE_den : ∀ (i : IE) (cs : List SV) (k : Nat) (r : IE), selIE i k cs = some r → ∀ j : Nat, j < cs.length → i.den ρ = k + j → ∃ v, cs[j]? = some v ∧ v.den ρ β = .int .i64 (r.den ρ)
  | i, [], k, r, _, j, hj, _ => by simp at hj
  | i, x :: cs, k, r, h, j, hj, hi => by
    cases x <;> first | (simp [selIE] at h; done) | skip
    rename_i kd e
    cases kd <;> first | (simp [selIE] at h; done) | skip
    simp only [selIE, Option.map_eq_some_iff] at h
    obtain ⟨r', h', rfl⟩ := h
    simp only [IE.den]
    cases j with
    | zero => refine ⟨.int .i64 e, by simp, ?_⟩; rw [ifEq, if_pos (by simpa using hi)]; rfl
    | succ j =>
      obtain ⟨v, h1, h2⟩ := selIE_den i cs (k + 1) r' h' j (by simpa using hj) (by rw [hi]; push_cast; omega)
      refine ⟨v, by simpa using h1, ?_⟩
      rw [ifEq, if_neg (by rw [hi]; push_cast; omega)]
      exact h2
theorem selB_den : ∀ (i : IE) (bs : List UInt8) (k j : Nat) (b : UInt8), bs[j]? = some b → i.den ρ = k + j → (selB i k bs).den ρ = (b.toNat : Int)
  | i, [], k, j, b, hj, _ => by simp at hj
  | i, x :: bs, k, j, b, hj, hi => by
    simp only [selB, IE.den]
    cases j with
    | zero => rw [ifEq, if_pos (by simpa using hi)]; simp only [List.getElem?_cons_zero, Option.some.injEq] at hj; rw [hj]
    | succ j =>
      rw [ifEq, if_neg (by rw [hi]; push_cast; omega)]
      exact selB_den i bs (k + 1) j b (by simpa using hj) (by rw [hi]; push_cast; omega)
theorem run_pvIndex (hP : ProgOk P c) {t : Nat} {x ix v : SV} {ns : List BE} (h : pvIndex c t x ix = some (ns, v)) (hn : ∀ b ∈ ns, b.den ρ = true) {w : World} :
    (Instr.index t (x.den ρ β) (ix.den ρ β)).run P w = .ok (v.den ρ β) w := by
  unfold pvIndex at h
  split at h
  case h_3 => simp at h
  case h_2 =>
    rename_i hty
    obtain ⟨i, hi, hi'⟩ := Ctx.ty_some hty
    have hty := (hP.tab t i hi).ty
    simp only [hi'] at hty
    split at h
    · rename_i bs k e
      simp only [Option.some.injEq, Prod.mk.injEq] at h
      obtain ⟨rfl, rfl⟩ := h
      have h0 := hn _ (List.mem_singleton.2 rfl)
      rw [and'_den, le'_den, lt'_den, Bool.and_eq_true] at h0
      have h1 : (0 : Int) ≤ e.den ρ := leB_true.1 h0.1
      have h2 : e.den ρ < (bs.length : Int) := ltB_true.1 h0.2
      have hlt : (e.den ρ).toNat < bs.length := by omega
      have hb := selB_den (ρ := ρ) e bs 0 (e.den ρ).toNat bs[(e.den ρ).toNat] (List.getElem?_eq_getElem hlt) (by omega)
      have hg : (⟨bs.toArray⟩ : ByteArray)[(e.den ρ).toNat]? = some bs[(e.den ρ).toNat] := by
        rw [getElem?_pos (⟨bs.toArray⟩ : ByteArray) (e.den ρ).toNat (by simpa [ByteArray.size] using hlt)]
        rfl
      simp [Instr.index, asIntOf, SV.den, run_underlying hty, h1, hlt, hb, hg]
    · rename_i n k e
      simp only [Option.some.injEq, Prod.mk.injEq] at h
      obtain ⟨rfl, rfl⟩ := h
      obtain ⟨s1, hs1⟩ := isStr (v := ρ.v.getD n vd) (hn (.is 3 n) (by simp))
      have h0 := hn (BE.and' (BE.le' (.l 0) e) (BE.lt' e (.stl n))) (by simp)
      rw [and'_den, le'_den, lt'_den, Bool.and_eq_true] at h0
      have h1 : (0 : Int) ≤ e.den ρ := leB_true.1 h0.1
      have h2 : e.den ρ < (s1.data.toList.length : Int) := by have := ltB_true.1 h0.2; simp only [IE.den, hs1, strLen] at this; exact this
      have hlt : (e.den ρ).toNat < s1.data.toList.length := by omega
      have hg : s1[(e.den ρ).toNat]? = some s1.data.toList[(e.den ρ).toNat] := by
        rw [getElem?_pos s1 (e.den ρ).toNat hlt]
        rfl
      simp only [SV.den, IE.den, hs1, strAt]
      have hlt' : (e.den ρ).toNat < s1.data.size := hlt
      simp [Instr.index, asIntOf, run_underlying hty, h1, hg, hlt']
      rw [Array.getElem?_eq_getElem hlt']
      rfl
    · simp at h
  rename_i n e hty
  obtain ⟨i, hi, hi'⟩ := Ctx.ty_some hty
  have hty := (hP.tab t i hi).ty
  simp only [hi'] at hty
  split at h
  · rename_i fi cs k z hfi
    split at h
    · rename_i hc
      simp only [Bool.and_eq_true, decide_eq_true_eq] at hc
      simp only [Option.map_eq_some_iff, Prod.mk.injEq] at h
      obtain ⟨v', hv, rfl, rfl⟩ := h
      have := run_part (hP.tab _ _ hfi) (ρ := ρ) (β := β) hv w
      simp [Instr.index, asIntOf, SV.den, IE.den, run_underlying hty, hc, run_sizeOf (hP.tab _ _ hfi), this]
    · simp at h
  · rename_i fi cs k i' hne hfi
    split at h
    · rename_i hc
      simp only [Bool.and_eq_true, beq_iff_eq, Bool.not_eq_true'] at hc
      simp only [Option.map_eq_some_iff, Prod.mk.injEq] at h
      obtain ⟨r, hr, rfl, rfl⟩ := h
      have h0 := hn _ (List.mem_singleton.2 rfl)
      rw [and'_den, le'_den, lt'_den, Bool.and_eq_true] at h0
      have h1 : (0 : Int) ≤ i'.den ρ := leB_true.1 h0.1
      have h2 : i'.den ρ < (n : Int) := ltB_true.1 h0.2
      obtain ⟨v', hv1, hv2⟩ := selIE_den (ρ := ρ) (β := β) i' cs 0 r hr (i'.den ρ).toNat (by omega) (by omega)
      have hpart := run_part (hP.tab _ _ hfi) (ρ := ρ) (β := β) (cs := cs) (off := (i'.den ρ).toNat) (v := v') (by simp [partSV, hc.2, hv1]) w
      rw [hv2] at hpart
      simp [Instr.index, asIntOf, SV.den, run_underlying hty, h1, h2, run_sizeOf (hP.tab _ _ hfi), hc.1.1, hpart]
    · simp at h
  · simp at h
theorem run_pvIndexAddr (hP : ProgOk P c) (hρ : ρ.Ok) {t : Nat} {x ix v : SV} {ns : List BE} (h : pvIndexAddr c t x ix = some (ns, v)) (hn : ∀ b ∈ ns, b.den ρ = true) {w : World} :
    (Instr.indexAt t (x.den ρ β) (ix.den ρ β)).run P w = .ok (v.den ρ β) w := by
  unfold pvIndexAddr at h
  split at h
  · rename_i n e hty
    obtain ⟨i, hi, hi'⟩ := Ctx.ty_some hty
    have hty := (hP.tab t i hi).ty
    simp only [hi'] at hty
    split at h
    · rename_i fi b off k z hfi
      split at h
      · rename_i hc
        simp only [Bool.and_eq_true, decide_eq_true_eq] at hc
        simp only [Option.some.injEq, Prod.mk.injEq] at h
        obtain ⟨rfl, rfl⟩ := h
        simp only [Instr.indexAt, asIntOf, SV.den, IE.den, Sem.run_bind, Sem.run_pure, Result.andThen_ok, run_underlying hty, Instr.sureAddr, run_sizeOf (hP.tab _ _ hfi), hc, and_self, if_true]
        simp only [Addr.add]
        split <;> simp_all
      · simp at h
    · rename_i fi m i' s off k z hfi
      split at h
      · rename_i hc
        simp only [Bool.and_eq_true, decide_eq_true_eq] at hc
        simp only [Option.some.injEq, Prod.mk.injEq] at h
        obtain ⟨rfl, rfl⟩ := h
        simp only [Instr.indexAt, asIntOf, SV.den, IE.den, Sem.run_bind, Sem.run_pure, Result.andThen_ok, run_underlying hty, Instr.sureAddr, run_sizeOf (hP.tab _ _ hfi), hc, and_self, if_true, Addr.add_add0, Nat.add_assoc]
      · simp at h
    · rename_i fi m off k z hfi
      split at h
      · rename_i hc
        simp only [Bool.and_eq_true, decide_eq_true_eq] at hc
        simp only [Option.some.injEq, Prod.mk.injEq] at h
        obtain ⟨rfl, rfl⟩ := h
        simp only [Instr.indexAt, asIntOf, SV.den, IE.den, Sem.run_bind, Sem.run_pure, Result.andThen_ok, run_underlying hty, Instr.sureAddr, run_sizeOf (hP.tab _ _ hfi), hc, and_self, if_true, Addr.add_add0, Nat.add_assoc]
      · simp at h
    · simp at h
  · rename_i e hty
    obtain ⟨i, hi, hi'⟩ := Ctx.ty_some hty
    have hty := (hP.tab t i hi).ty
    simp only [hi'] at hty
    split at h
    · rename_i fi n k i' hfi
      simp only [Option.some.injEq, Prod.mk.injEq] at h
      obtain ⟨rfl, rfl⟩ := h
      have h0 := hn _ (List.mem_singleton.2 rfl)
      rw [and'_den, le'_den, lt'_den, Bool.and_eq_true] at h0
      have h1 : (0 : Int) ≤ i'.den ρ := leB_true.1 h0.1
      have h2 : i'.den ρ < sliceLen (ρ.v.getD n vd) := ltB_true.1 h0.2
      have h5 := hρ.nil n
      simp only [SV.den]
      generalize ρ.v.getD n vd = x at *
      cases x <;> simp only [sliceLen] at h2 <;> first | omega | skip
      rename_i a len cap
      have h3 : 0 ≤ i'.den ρ ∧ i'.den ρ < (len : Int) := ⟨h1, h2⟩
      simp only [Instr.indexAt, asIntOf, Sem.run_bind, Sem.run_pure, Result.andThen_ok, run_underlying hty]
      cases a with
      | none => have := h5 _ _ rfl; omega
      | some a => simp [h3, run_sizeOf (hP.tab _ _ hfi), addrOf, Addr.add]
    · rename_i fi b len k z hfi
      split at h
      · rename_i hc
        simp only [Bool.and_eq_true, decide_eq_true_eq] at hc
        simp only [Option.some.injEq, Prod.mk.injEq] at h
        obtain ⟨rfl, rfl⟩ := h
        simp only [Instr.indexAt, asIntOf, SV.den, IE.den, Sem.run_bind, Sem.run_pure, Result.andThen_ok, run_underlying hty, run_sizeOf (hP.tab _ _ hfi), hc, and_self, if_true]
        simp only [Addr.add]
        split <;> simp_all
      · simp at h
    · simp at h
  · simp at h
theorem run_eqGuard_plain (op : BinOp) (t : TypeId) (x y : Operand) {a b : Value} (h1 : ∀ l, a ≠ .agg l) (h2 : a ≠ .nilIface) (w : World) : (eqGuard op t x y a b).run P w = .ok () w := by
  cases op <;> simp only [eqGuard, Bool.not_true, Bool.not_false, if_true, Sem.run_pure, Bool.false_eq_true, if_false]
  all_goals (cases a <;> first | exact absurd rfl h2 | exact absurd rfl (h1 _) | rfl | (cases b <;> rfl))
theorem equal_succ (t : TypeId) (a b : Value) : Op.equal t a b = Op.equalIn (9999 + 1) t a b := rfl
theorem equal_slice_nil {t el : TypeId} (h : P.underlying t = some (.slice el)) (a : Option Addr) (n m : Nat) (w : World) : (Op.equal t (.slice a n m) (.slice none 0 0)).run P w = .ok a.isNone w := by
  rw [equal_succ]; generalize 9999 = d
  cases a <;> simp [Op.equalIn, run_underlying h]
theorem equal_func_nil {t : TypeId} {p r : Array TypeId} {v : Bool} (h : P.underlying t = some (.func p r v)) (f : Fn) (a b : Array Value) (w : World) : (Op.equal t (.func f a b) .nilFunc).run P w = .ok false w := by
  rw [equal_succ]; generalize 9999 = d
  simp [Op.equalIn, run_underlying h]
theorem equal_nil_nil {t : TypeId} {p r : Array TypeId} {v : Bool} (h : P.underlying t = some (.func p r v)) (w : World) : (Op.equal t .nilFunc .nilFunc).run P w = .ok true w := by
  rw [equal_succ]; generalize 9999 = d
  simp [Op.equalIn, run_underlying h]
theorem equal_bool {t : TypeId} (h : P.underlying t = some .bool) (a b : Bool) (w : World) : (Op.equal t (.bool a) (.bool b)).run P w = .ok (a == b) w := by
  rw [equal_succ]; generalize 9999 = d
  simp [Op.equalIn, run_underlying h]
theorem run_binV_eq {op : BinOp} {t : TypeId} {a b : Value} {e : Bool} {w : World} (ha : ∀ k n, a ≠ .int k n) (ha2 : ∀ k n, a ≠ .float k n) (ha3 : ∀ k n m, a ≠ .complex k n m) (ha4 : ∀ s, a ≠ .string s)
    (he : (Op.equal t a b).run P w = .ok e w) : (op = .eql → (binOp op t a b).run P w = .ok (.bool e) w) ∧ (op = .neq → (binOp op t a b).run P w = .ok (.bool (!e)) w) := by
  constructor <;> intro h <;> subst h
  · cases a <;> first | exact absurd rfl (ha _ _) | exact absurd rfl (ha2 _ _) | exact absurd rfl (ha3 _ _ _) | exact absurd rfl (ha4 _) | simp [binOp, he]
  · cases a <;> first | exact absurd rfl (ha _ _) | exact absurd rfl (ha2 _ _) | exact absurd rfl (ha3 _ _ _) | exact absurd rfl (ha4 _) | simp [binOp, he]
theorem run_nilEq (hP : ProgOk P c) {t : Nat} {a b : SV} {ns : List BE} {e : BE} (h : nilEq (c.ty t) a b = some (ns, e)) (hn : ∀ b ∈ ns, b.den ρ = true) (w : World) :
    (Op.equal t (a.den ρ β) (b.den ρ β)).run P w = .ok (e.den ρ) w ∧ (∀ l, a.den ρ β ≠ .agg l) ∧ (a.den ρ β ≠ .nilIface) ∧ (∀ k n, a.den ρ β ≠ .int k n) ∧ (∀ k n, a.den ρ β ≠ .float k n) ∧ (∀ k n m, a.den ρ β ≠ .complex k n m) ∧ (∀ s, a.den ρ β ≠ .string s) := by
  unfold nilEq at h
  split at h
  · rename_i el hty
    obtain ⟨i, hi, hi'⟩ := Ctx.ty_some hty
    have hty := (hP.tab t i hi).ty
    simp only [hi'] at hty
    split at h <;> simp only [Option.some.injEq, Prod.mk.injEq, reduceCtorEq] at h <;> obtain ⟨rfl, rfl⟩ := h
    · have h0 := hn _ (List.mem_singleton.2 rfl)
      simp only [BE.den, SV.den] at h0 ⊢
      generalize ρ.v.getD _ vd = x at *
      cases x <;> simp only [isKindV, Bool.false_eq_true] at h0
      rename_i ad n cap
      cases ad <;> simp [equal_slice_nil hty, isNilV]
    · simp [SV.den, BE.den, equal_slice_nil hty]
    · simp [SV.den, BE.den, equal_slice_nil hty]
  · rename_i hty
    obtain ⟨i, hi, hi'⟩ := Ctx.ty_some hty
    have hty := (hP.tab t i hi).ty
    simp only [hi'] at hty
    obtain ⟨p, r, vr, hty⟩ := hty
    split at h <;> simp only [Option.some.injEq, Prod.mk.injEq, reduceCtorEq] at h <;> obtain ⟨rfl, rfl⟩ := h
    · have h0 := hn _ (List.mem_singleton.2 rfl)
      simp only [BE.den, SV.den] at h0 ⊢
      generalize ρ.v.getD _ vd = x at *
      cases x <;> simp only [isKindV, Bool.false_eq_true] at h0
      · simp [equal_func_nil hty, isNilV]
      · simp [equal_nil_nil hty, isNilV]
    · simp [SV.den, BE.den, equal_func_nil hty]
    · simp [SV.den, BE.den, equal_nil_nil hty]
  · rename_i hty
    obtain ⟨i, hi, hi'⟩ := Ctx.ty_some hty
    have hty := (hP.tab t i hi).ty
    simp only [hi'] at hty
    split at h <;> simp only [Option.some.injEq, Prod.mk.injEq, reduceCtorEq] at h
    obtain ⟨rfl, rfl⟩ := h
    rename_i a b
    simp only [SV.den, or'_den, and'_den, not'_den]
    cases a.den ρ <;> cases b.den ρ <;> simp [equal_bool hty]
  · simp at h
theorem bl_loop (b : ByteArray) : ∀ (n i : Nat) (r : List UInt8), b.size - i = n → ByteArray.toList.loop b i r = r.reverse ++ b.data.toList.drop i := by
  intro n
  induction n with
  | zero =>
    intro i r h
    unfold ByteArray.toList.loop
    rw [if_neg (by omega), List.drop_eq_nil_of_le (by have : b.data.toList.length = b.size := rfl; omega), List.append_nil]
  | succ n ih =>
    intro i r h
    have hi : i < b.size := by omega
    unfold ByteArray.toList.loop
    rw [if_pos hi, ih (i + 1) _ (by omega)]
    have hlt : i < b.data.toList.length := hi
    have hg : b.get! i = b.data.toList[i] := by
      unfold ByteArray.get!
      simp [hi]
    rw [hg, List.reverse_cons, List.append_assoc, List.drop_eq_getElem_cons hlt]
    rfl
theorem bl_eq (b : ByteArray) : b.toList = b.data.toList := by
  unfold ByteArray.toList
  rw [bl_loop b _ 0 [] rfl]
  simp
theorem strBin_den {a b : SV} {ns : List BE} {e : BE} (h : strBin a b = some (ns, e)) (hn : ∀ b ∈ ns, b.den ρ = true) :
    ∃ s1 s2, a.den ρ β = .string s1 ∧ b.den ρ β = .string s2 ∧ e.den ρ = (s1.toList == s2.toList) := by
  unfold strBin at h
  split at h <;> simp only [Option.some.injEq, Prod.mk.injEq, reduceCtorEq] at h <;> obtain ⟨rfl, rfl⟩ := h
  · rename_i n m
    obtain ⟨s1, h1⟩ := isStr (v := ρ.v.getD n vd) (hn (.is 3 n) (by simp))
    obtain ⟨s2, h2⟩ := isStr (v := ρ.v.getD m vd) (hn (.is 3 m) (by simp))
    refine ⟨s1, s2, h1, h2, ?_⟩
    simp only [BE.den, h1, h2, strEq, bl_eq]
    rw [Bool.eq_iff_iff, decide_eq_true_iff, beq_iff_eq]
  · rename_i n l
    obtain ⟨s1, h1⟩ := isStr (v := ρ.v.getD n vd) (hn (.is 3 n) (by simp))
    refine ⟨s1, ⟨l.toArray⟩, h1, rfl, ?_⟩
    simp only [BE.den, h1, strIs, bl_eq]
    rw [Bool.eq_iff_iff, decide_eq_true_iff, beq_iff_eq]
  · rename_i a b
    refine ⟨⟨a.toArray⟩, ⟨b.toArray⟩, rfl, rfl, ?_⟩
    simp only [BE.den, bl_eq]
    rw [Bool.eq_iff_iff, decide_eq_true_iff, beq_iff_eq]
theorem run_pvBin (hP : ProgOk P c) {op : BinOp} {t : Nat} {a b v : SV} {ns : List BE} (h : pvBin c op t a b = some (ns, v)) (hn : ∀ b ∈ ns, b.den ρ = true) (x y : Operand) (w : World) :
    ((eqGuard op t x y (a.den ρ β) (b.den ρ β) >>= fun _ => binOp op t (a.den ρ β) (b.den ρ β)) : Sem Value).run P w = .ok (v.den ρ β) w := by
  unfold pvBin at h
  split at h
  · rename_i ns' e hse
    split at h <;> simp only [Option.some.injEq, Prod.mk.injEq, reduceCtorEq] at h <;> obtain ⟨rfl, rfl⟩ := h
    all_goals
      obtain ⟨s1, s2, e1, e2, e3⟩ := strBin_den (ρ := ρ) (β := β) hse hn
      simp only [e1, e2, Sem.run_bind, run_eqGuard_plain _ t x y (a := .string _) (by simp) (by simp) w, Result.andThen_ok, SV.den, not'_den, e3]
      simp [binOp, Op.stringOp]
  split at h
  · rename_i ns' e hne
    split at h <;> simp only [Option.some.injEq, Prod.mk.injEq, reduceCtorEq] at h <;> obtain ⟨rfl, rfl⟩ := h
    all_goals
      obtain ⟨h1, h2, h3, h4, h5, h6, h7⟩ := run_nilEq (β := β) hP hne hn w
      simp only [Sem.run_bind, run_eqGuard_plain _ t x y h2 h3 w, Result.andThen_ok, SV.den, not'_den]
    · exact (run_binV_eq h4 h5 h6 h7 h1).1 rfl
    · exact (run_binV_eq h4 h5 h6 h7 h1).2 rfl
  · unfold binV at h
    split at h
    · rename_i k x1 k' y1
      split at h
      · rename_i hk
        subst hk
        have := run_intOp (P := P) h ρ β hn t w
        simp only [SV.den] at this ⊢
        simp only [Sem.run_bind, run_eqGuard_plain op t x y (a := .int _ _) (by simp) (by simp) w, Result.andThen_ok, this]
      · simp at h
    · rename_i l m
      split at h
      case h_2 => simp at h
      rename_i i hi
      split at h
      case isFalse => simp at h
      rename_i hieq
      obtain ⟨hg, heq⟩ := (hP.tab t i hi).eq hieq
      split at h <;> simp only [Option.some.injEq, Prod.mk.injEq, reduceCtorEq] at h <;> obtain ⟨rfl, rfl⟩ := h
      all_goals
        rename_i e he
        obtain ⟨zs, us, a1, a2, a3, a4, a5⟩ := eqCells_den ρ β _ _ _ _ he
        have h1 := heq w zs us a1 a2
        simp only [SV.den, a3, a4, Sem.run_bind, run_eqGuard_agg w _ t x y _ _ hg, Result.andThen_ok, not'_den, a5]
      · exact (run_binV_eq (by simp) (by simp) (by simp) (by simp) h1).1 rfl
      · exact (run_binV_eq (by simp) (by simp) (by simp) (by simp) h1).2 rfl
    · simp at h
/-- What an operation that only computes, or reads own cells, does: the executor's value, the world as it was. -/
theorem run_bound (v : Value) (n : Int) (y : Nat) (code : BoundsCode) (w : World) (hv : ∃ k, v = .int k n) (h : 0 ≤ n ∧ n ≤ (y : Int)) : (Instr.sliceBound v y code).run P w = .ok n.toNat w := by
  obtain ⟨k, rfl⟩ := hv
  simp [Instr.sliceBound, asIntOf, h]
theorem run_pv (hP : ProgOk P c) (hρ : ρ.Ok) {sl : List SV} {H : List Blk} {o : Oper} {v : SV} {ns : List BE} (h : pv c sl H o.op = some (ns, v)) (hn : ∀ b ∈ ns, b.den ρ = true)
    {a : Act} (ha : a.tmps = (SV.dens ρ β sl).toArray) {w : World} (hH : HOk ρ β H w) : (execOp a.eval o).run P w = .ok (.value (v.den ρ β)) w := by
  obtain ⟨dst, op, type, pos, after, guard⟩ := o
  simp only at h
  unfold pv at h
  split at h <;> simp only [execOp]
  · simp only [Option.map_eq_some_iff, Prod.mk.injEq] at h
    obtain ⟨s, h1, _, rfl⟩ := h
    simp [ev_den h1 ha]
  · simp only [Option.map_eq_some_iff, Prod.mk.injEq] at h
    obtain ⟨s, h1, _, rfl⟩ := h
    simp [ev_den h1 ha]
  · split at h
    case h_2 => simp at h
    rename_i k x y h1 h2 h3
    simp only [Option.some.injEq, Prod.mk.injEq] at h
    obtain ⟨_, rfl⟩ := h
    simp only [ev_den h1 ha, ev_den h2 ha, ev_den h3 ha, SV.den, BE.den]
    cases k <;> simp [asBool]
  · simp only [Option.map_eq_some_iff, Prod.mk.injEq] at h
    obtain ⟨s, h1, _, rfl⟩ := h
    have := run_build hP hρ h1 ha w
    simp [this]
  · split at h
    case h_2 => simp at h
    rename_i x h1
    simp only [Option.map_eq_some_iff, Prod.mk.injEq] at h
    obtain ⟨s, h2, _, rfl⟩ := h
    have := run_pvLoad hP h2 hH
    simp [ev_den h1 ha, this]
  · rename_i bop t x y yt
    split at h
    case h_2 => simp at h
    rename_i x' y' h1 h2
    have := run_pvBin (β := β) hP h hn x y w
    simp only [ev_den h1 ha, ev_den h2 ha]
    rw [Sem.run_bind, this]; rfl
  · split at h
    case h_2 => simp at h
    rename_i x h1
    have := run_pvUn (P := P) (β := β) (w := w) h hn
    simp [ev_den h1 ha, this]
  · split at h
    case h_2 => simp at h
    rename_i src _ _ _ _ x i h1 h2
    have hd : ∃ d, P.underlying src = some d := by
      have := (hP.tab _ _ h2).ty
      cases hi : i.ty <;> simp only [hi] at this
      case st => obtain ⟨f, h, _⟩ := this; exact ⟨_, h⟩
      case func => obtain ⟨p, r, v, h⟩ := this; exact ⟨_, h⟩
      case other => obtain ⟨d, h, _⟩ := this; exact ⟨_, h⟩
      all_goals exact ⟨_, this⟩
    have := run_pvConvert (β := β) (w := w) hP h hn hd
    simp [ev_den h1 ha, this]
  · split at h <;> simp only [Option.some.injEq, Prod.mk.injEq, reduceCtorEq] at h <;> obtain ⟨rfl, rfl⟩ := h
    all_goals rename_i h1; simp only [ev_den h1 ha]
    · have h0 := hn _ (List.mem_singleton.2 rfl)
      simp only [BE.den, SV.den] at h0 ⊢
      generalize ρ.v.getD _ vd = x at *
      cases x <;> simp only [isKindV, Bool.false_eq_true] at h0
      rename_i ad
      cases ad with
      | none => exact absurd h0 (by simp [isKindV])
      | some ad => simp [addrOf, Addr.add]
    all_goals simp [SV.den]
  · split at h
    case h_2 => simp at h
    rename_i x h1
    simp only [Option.map_eq_some_iff, Prod.mk.injEq] at h
    obtain ⟨s, h2, _, rfl⟩ := h
    have := run_pvFieldAddr (ρ := ρ) (β := β) (w := w) hP h2
    simp [ev_den h1 ha, this]
  · split at h
    case h_2 => simp at h
    rename_i x h1
    simp only [Option.map_eq_some_iff, Prod.mk.injEq] at h
    obtain ⟨s, h2, _, rfl⟩ := h
    have := run_pvField (ρ := ρ) (β := β) (w := w) hP h2
    simp [ev_den h1 ha, this]
  · split at h
    case h_2 => simp at h
    rename_i x i h1 h2
    have := run_pvIndex (β := β) (w := w) hP h hn
    simp [ev_den h1 ha, ev_den h2 ha, this]
  · split at h
    case h_2 => simp at h
    rename_i x i h1 h2
    have := run_pvIndexAddr (β := β) (w := w) hP hρ h hn
    simp [ev_den h1 ha, ev_den h2 ha, this]
  · split at h
    case h_2 => simp at h
    rename_i vs h1
    simp only [Option.map_eq_some_iff, Prod.mk.injEq] at h
    obtain ⟨s, h2, _, rfl⟩ := h
    simp [ev_den h1 ha, SV.den, Instr.extract, SV.dens_map, h2]
  · rename_i f first cap
    split at h
    case h_2 => simp at h
    rename_i us vs h1 h2
    simp only [Option.some.injEq, Prod.mk.injEq] at h
    obtain ⟨_, rfl⟩ := h
    have h1' : first.map a.eval = (SV.dens ρ β us).toArray := by rw [← evs_den ha _ _ h1]; exact Array.ext' (by simp)
    have h2' : cap.map a.eval = (SV.dens ρ β vs).toArray := by rw [← evs_den ha _ _ h2]; exact Array.ext' (by simp)
    have hl : (SV.dens ρ β us).length = us.length := by simp [SV.dens_map]
    have hd : SV.dens ρ β (us ++ vs) = SV.dens ρ β us ++ SV.dens ρ β vs := by simp [SV.dens_map]
    simp only [Instr.makeFunc, h1', h2', SV.den, hd, Sem.run_bind, Sem.run_pure, Result.andThen_ok]
    rw [List.take_left' hl, List.drop_left' hl]
  · rename_i b args ts
    have main : ∀ vs, evs sl args.toList = some vs → args.map a.eval = (SV.dens ρ β vs).toArray := by
      intro vs hvs
      rw [← evs_den ha _ _ hvs]; exact Array.ext' (by simp)
    split at h
    · rename_i x t h1 h2
      split at h
      case h_3 => simp at h
      case h_2 =>
        rename_i hty
        split at h <;> simp only [Option.some.injEq, Prod.mk.injEq, reduceCtorEq] at h
        obtain ⟨rfl, rfl⟩ := h
        rename_i n
        obtain ⟨i, hi, hi'⟩ := Ctx.ty_some hty
        have hty := (hP.tab _ i hi).ty
        simp only [hi'] at hty
        have h2' : ts = #[t] := by rw [← Array.toList_inj]; simpa using h2
        have hm := main _ h1
        obtain ⟨s1, hs1⟩ := isStr (v := ρ.v.getD n vd) (hn (.is 3 n) (by simp))
        simp only [resolve, hm, Sem.run_bind, Sem.run_pure, Result.andThen_ok, invoke, builtin, h2', Builtin.len_, SV.dens, SV.den, hs1]
        simp only [IE.den, hs1, strLen]
        simp [run_underlying hty, goInt]
      simp only [Option.some.injEq, Prod.mk.injEq] at h
      obtain ⟨rfl, rfl⟩ := h
      rename_i el ns e hty hs
      obtain ⟨i, hi, hi'⟩ := Ctx.ty_some hty
      have hty := (hP.tab _ i hi).ty
      simp only [hi'] at hty
      have h2' : ts = #[t] := by rw [← Array.toList_inj]; simpa using h2
      have hm := main _ h1
      simp only [resolve, hm, Sem.run_bind, Sem.run_pure, Result.andThen_ok, invoke, builtin, h2', Builtin.len_, SV.dens]
      cases x <;> simp only [slenOf, Option.some.injEq, reduceCtorEq, Prod.mk.injEq] at hs <;> obtain ⟨rfl, rfl⟩ := hs
      · have h0 := hn _ (List.mem_singleton.2 rfl)
        simp only [BE.den, SV.den, IE.den] at h0 ⊢
        generalize ρ.v.getD _ vd = x at *
        cases x <;> simp only [isKindV, Bool.false_eq_true] at h0
        simp [run_underlying hty, goInt, sliceLen]
      all_goals simp [run_underlying hty, SV.den, IE.den, goInt]
    · rename_i k x k' y h1
      simp only [Option.some.injEq, Prod.mk.injEq] at h
      obtain ⟨_, rfl⟩ := h
      have hm := main _ h1
      simp [resolve, hm, invoke, builtin, Builtin.min_, SV.dens, SV.den, Builtin.min2, IE.den, mnI]
    · rename_i k x k' y h1
      simp only [Option.some.injEq, Prod.mk.injEq] at h
      obtain ⟨_, rfl⟩ := h
      have hm := main _ h1
      simp [resolve, hm, invoke, builtin, Builtin.max_, SV.dens, SV.den, Builtin.max2, IE.den, mxI]
    · simp at h
  · rename_i t x hh
    split at h
    case h_2 => simp at h
    rename_i k n kd z e h1 h2 h3
    split at h
    case isFalse => simp at h
    rename_i hc
    simp only [Bool.and_eq_true, decide_eq_true_eq, Option.isSome_iff_exists] at hc
    obtain ⟨⟨⟨ie, hie⟩, hz0⟩, hzn⟩ := hc
    simp only [Option.some.injEq, Prod.mk.injEq] at h
    obtain ⟨_, rfl⟩ := h
    obtain ⟨ti, hti, hti'⟩ := Ctx.ty_some h3
    have hty := (hP.tab t ti hti).ty
    simp only [hti'] at hty
    have hb : (Instr.sliceBounds true n n none (some ((SV.int kd (.l z)).den ρ β)) none).run P w = .ok (0, z.toNat, n) w := by
      unfold Instr.sliceBounds
      simp [run_bound (P := P) ((SV.int kd (.l z)).den ρ β) z n _ w ⟨kd, rfl⟩ ⟨hz0, hzn⟩]
    have e2 : a.eval hh = (SV.int kd (.l z)).den ρ β := ev_den h2 ha
    simp only [ev_den h1 ha, Option.map_none, Option.map_some, e2]
    simp [SV.den, Instr.sliceAt, run_underlying hty, Instr.slice, run_sizeOf (hP.tab _ _ hie)]
    simp only [SV.den] at hb
    simp [hb, Addr.add]
  · simp at h
end
end Go.Sx
namespace Go.Sx
open Go.RowKit
/-- From w to w' nothing has turned that was there, but what lies in E. -/
structure Grows (E : Nat → Prop) (w w' : World) : Prop where
  os : w'.os = w.os
  tape : w'.tape = w.tape
  output : w'.output = w.output
  size : w.heap.size ≤ w'.heap.size
  block : ∀ k, k < w.heap.size → ¬ E k → w'.heap[k]? = w.heap[k]?
theorem Grows.of_below {E : Nat → Prop} {w w' : World} (h : Below w.heap.size w w') : Grows E w w' := ⟨h.os, h.tape, h.output, h.size, fun k hk _ => h.block k hk⟩
theorem Grows.refl (E : Nat → Prop) (w : World) : Grows E w w := ⟨rfl, rfl, rfl, Nat.le_refl _, fun _ _ _ => rfl⟩
theorem Grows.trans {E F G : Nat → Prop} {a b c : World} (h : Grows E a b) (k : Grows F b c) (hE : ∀ i, E i → G i) (hF : ∀ i, F i → G i ∨ a.heap.size ≤ i) : Grows G a c :=
  ⟨k.os.trans h.os, k.tape.trans h.tape, k.output.trans h.output, Nat.le_trans h.size k.size, fun i hi hn =>
    (k.block i (Nat.lt_of_lt_of_le hi h.size) (fun hf => (hF i hf).elim hn (fun h => by omega))).trans (h.block i hi (fun he => hn (hE i he)))⟩
theorem Grows.below {E : Nat → Prop} {a b c : World} (h : Grows E a b) (k : Below a.heap.size b c) : Grows E a c :=
  ⟨k.os.trans h.os, k.tape.trans h.tape, k.output.trans h.output, Nat.le_trans h.size k.size, fun i hi hn => (k.block i hi).trans (h.block i hi hn)⟩
abbrev MS := List (Nat × Obj)
def blks (m : MS) : List Nat := m.map Prod.fst
/-- The objects lie as told, and nothing is known of them elsewhere. -/
structure MOk (s : Hp) (m : MS) (w : World) : Prop where
  nd : (blks m).Nodup
  is : ∀ x ∈ m, w.heap[x.1]? = some x.2
  un : ∀ x ∈ m, ∀ o, s x.1 o = none
/-- The objects keep their numbers: each is where it was, or in a new place. -/
def PosB (m m' : MS) (w : World) : Prop := m.length ≤ m'.length ∧ ∀ (i : Nat) (x' : Nat × Obj), m'[i]? = some x' → (∃ x, m[i]? = some x ∧ x.1 = x'.1) ∨ w.heap.size ≤ x'.1
/-- The end of a call: it hands back a value; what was there is as it was, but the objects handed in; of the known cells none is lost, and new ones lie in new blocks; the value meets Q. -/
def Ret (Q : Value → Hp → MS → Prop) (s : Hp) (m : MS) (w : World) : Ending → World → Prop := fun e w' =>
  ∃ v s' m', e = .returned v ∧ Grows (· ∈ blks m) w w' ∧ s.le s' ∧ Sub s' w' ∧ New w.heap.size s s' ∧ PosB m m' w ∧ MOk s' m' w' ∧ Q v s' m'
/-- A contract. -/
def Ct (P : Program) (f : FuncId) (args : List Value) (s : Hp) (m : MS) (Q : Value → Hp → MS → Prop) : Prop :=
  ∀ w, Sub s w → MOk s m w → Calls P f args.toArray w (Ret Q s m w)
/-- The address v leads to known cells that hold the values, or to such of an object. -/
def Reads (s : Hp) (m : MS) (v : Value) (vals : List Value) : Prop :=
  ∃ b o, addrOf v = some ⟨b, o, none⟩ ∧ ((∀ j u, vals[j]? = some u → s b (o + j) = some u) ∨ ∃ cur T fr, (b, Obj.cells cur T fr) ∈ m ∧ ∀ j u, vals[j]? = some u → cur[o + j]? = some u)
/-- The cells of objects are told. -/
def Told (m : MS) (s : Hp) : Prop := ∀ x ∈ m, ∀ cur T fr, x.2 = .cells cur T fr → ∀ o u, cur[o]? = some u → s x.1 o = some u
def setC (l : List Value) (o : Nat) (new : List Value) : List Value := l.take o ++ new ++ l.drop (o + new.length)
def HShut (ρ : Env) (β : Nat → Nat) (H : List Blk) (s : Hp) : Prop :=
  ∀ k cs T, H[k]? = some (.cells cs T true) → ∀ o u, (SV.dens ρ β cs)[o]? = some u → s (β k) o = some u
def SrcIs (ρ : Env) (s : Hp) (size : Nat) (es : List (List Value)) : Src → Prop
  | .lit l => es = l.map (SV.dens ρ id)
  | .va n => SliceIn s size (ρ.v.getD n vd) es ∧ ∀ e ∈ es, ∀ u ∈ e, u.oneCell' = true
def DstIs (ρ : Env) (s : Hp) (size : Nat) (xs : List (List Value)) : Option Nat → Prop
  | none => xs = []
  | some n => SliceIn s size (ρ.v.getD n vd) xs
def loOf (ρ : Env) : Option IE → Int
  | some e => e.den ρ
  | none => 0
def hiOf (ρ : Env) : Option IE → Nat → Int
  | some e, _ => e.den ρ
  | none, n => n
/-- v'' is v' and one element more, in the same place. -/
def Ext (v' v'' : Value) (n : Nat) : Prop := ∃ b cap, v' = .slice (some ⟨b, 0, none⟩) n cap ∧ v'' = .slice (some ⟨b, 0, none⟩) (n + 1) cap ∧ n + 1 ≤ cap
def lookL {α : Type} : List Int → List α → Int → Option α
  | k :: ks, v :: vs, z => if k = z then some v else lookL ks vs z
  | _, _, _ => none
def putL {α : Type} : List Int → List α → Int → α → List Int × List α
  | k :: ks, v :: vs, z, x => if k = z then (k :: ks, x :: vs) else (k :: (putL ks vs z x).1, v :: (putL ks vs z x).2)
  | _, _, z, x => ([z], [x])
def MapIs (K : IntKind) (es : Array MapEntry) (ks : List Int) (vs : List Value) : Prop := es.toList.map (·.key) = ks.map (Value.int K) ∧ es.toList.map (·.val) = vs
def mapRes (ok : Bool) (o : Option Value) (d : Value) : Value := if ok then .tuple #[o.getD d, .bool o.isSome] else o.getD d
section
variable (P : Program) (Q : Value → Hp → MS → Prop) (T : Cfg → Env → Hp → Prop)
/-- What a tree asks. -/
def VC : Out → Env → Hp → Prop
  | .ret gen v H, ρ, s => ∀ β s', s.le s' → HShut ρ β H s' → (gen = false → Told (ρ.m.drop ρ.k) s') → Q (v.den ρ β) s' (if gen then ρ.m else ρ.m.take ρ.k)
  | .ite c x y, ρ, s => (c.den ρ = true → VC x ρ s) ∧ (c.den ρ = false → VC y ρ s)
  | .need c k, ρ, s => c.den ρ = true ∧ (c.den ρ = true → VC k ρ s)
  | .load fl a cs di db dv k, ρ, s => ∃ is bs vs, is.length = di ∧ bs.length = db ∧ vs.length = dv ∧ vs.all fineV = true ∧
      Reads s (if fl then [] else ρ.m) (a.den ρ id) (SV.dens (ρ.push is bs vs) id cs) ∧ VC k (ρ.push is bs vs) s
  | .app d src size bytes k, ρ, s => ∃ xs es, DstIs ρ s size xs d ∧ SrcIs ρ s size es src ∧ (xs.length + es.length) * bytes ≤ 140737488355328 ∧ xs.length + es.length ≤ maxLen ∧
      ∀ v s', s.le s' → SliceIn s' size v (xs ++ es) → VC k (ρ.push [] [] [v]) s'
  | .cut n lo hi size k, ρ, s => ∃ xs, SliceIn s size (ρ.v.getD n vd) xs ∧ 0 ≤ loOf ρ lo ∧ loOf ρ lo ≤ hiOf ρ hi xs.length ∧ hiOf ρ hi xs.length ≤ xs.length ∧
      ∀ v, SliceIn s size v ((xs.take (hiOf ρ hi xs.length).toNat).drop (loOf ρ lo).toNat) → VC k (ρ.push [] [] [v]) s
  | .chk n size k, ρ, s => (∃ xs, SliceIn s size (ρ.v.getD n vd) xs) ∧ VC k ρ s
  | .appF n src size bytes k, ρ, s => ∃ xs es, SliceIn s size (ρ.v.getD n vd) xs ∧ es ≠ [] ∧ SrcIs ρ s size es src ∧ (xs.length + es.length) * bytes ≤ 140737488355328 ∧ xs.length + es.length ≤ maxLen ∧
      ∀ v s', s.le s' → SliceIn s' size v (xs ++ es) → VC k (ρ.push [] [] [v]) s'
  | .hole d size bytes k, ρ, s => ∃ xs, DstIs ρ s size xs d ∧ (xs.length + 1) * bytes ≤ 140737488355328 ∧ xs.length + 1 ≤ maxLen ∧
      ∀ v' v'' s', s.le s' → SliceIn s' size v' xs → Ext v' v'' xs.length → VC k (ρ.push [] [] [v', v'']) s'
  | .fill n i es size k, ρ, s => ∃ xs, SliceIn s size (ρ.v.getD (n - 1) vd) xs ∧ Ext (ρ.v.getD (n - 1) vd) (ρ.v.getD n vd) xs.length ∧ i.den ρ = xs.length ∧
      ∀ s', s.le s' → SliceIn s' size (ρ.v.getD n vd) (xs ++ [SV.dens ρ id es]) → VC k (ρ.push [] [] [ρ.v.getD n vd]) s'
  | .call f args H res di db dv k, ρ, s => ∀ β s1, s.le s1 → HShut ρ β H s1 → ∃ Qc, Ct P f (SV.dens ρ β args) s1 ρ.m Qc ∧
      ∀ v s' m', s1.le s' → Qc v s' m' → ∃ is bs vs, is.length = di ∧ bs.length = db ∧ vs.length = dv ∧ vs.all fineV = true ∧ v = res.den (ρ.push is bs vs) id ∧ VC k { ρ.push is bs vs with m := m' } s'
  | .callv n args res di db dv k, ρ, s => ∃ F caps Qc, ρ.v.getD n vd = .func (.func F) #[] caps ∧ (∀ args w, (callFunc F args).run P w = .ok (.enter F args) w) ∧ Ct P F (SV.dens ρ id args ++ caps.toList) s ρ.m Qc ∧
      ∀ v s' m', s.le s' → Qc v s' m' → ∃ is bs vs, is.length = di ∧ bs.length = db ∧ vs.length = dv ∧ vs.all fineV = true ∧ v = res.den (ρ.push is bs vs) id ∧ VC k { ρ.push is bs vs with m := m' } s'
  | .newM cs T k, ρ, s => ∀ b, b ∉ blks ρ.m → VC k { ρ.push [] [] [.pointer (some ⟨b, 0, none⟩)] with m := ρ.m ++ [(b, .cells (SV.dens ρ id cs).toArray T (0, 0))] } s
  | .mkM n zero T size bytes k, ρ, s => 0 ≤ n.den ρ ∧ n.den ρ * bytes ≤ 140737488355328 ∧ n.den ρ ≤ 9223372036854775807 ∧ ∀ b, b ∉ blks ρ.m →
      VC k { ρ.push [] [] [.slice (some ⟨b, 0, none⟩) (n.den ρ).toNat (n.den ρ).toNat] with m := ρ.m ++ [(b, .cells (madeCells (SV.dens ρ id zero).toArray ((n.den ρ).toNat * size)) T (0, 0))] } s
  | .storeM a cs k, ρ, s => ∃ (i b o : Nat) (cur : Array Value) (T : TypeId), ρ.m[i]? = some (b, .cells cur T (0, 0)) ∧ addrOf (a.den ρ id) = some ⟨b, o, none⟩ ∧ o + cs.length ≤ cur.size ∧
      VC k { ρ with m := ρ.m.set i (b, .cells (setC cur.toList o (SV.dens ρ id cs)).toArray T (0, 0)) } s
  | .appM d src size bytes T k, ρ, s => ∃ (i : Nat) (xs es : List (List Value)), (∀ x ∈ xs, x.length = size) ∧
      ((xs = [] ∧ i = ρ.m.length ∧ d.den ρ id = .slice none 0 0) ∨ ∃ (b cap : Nat) (cur : Array Value), d.den ρ id = .slice (some ⟨b, 0, none⟩) xs.length cap ∧ ρ.m[i]? = some (b, .cells cur T (0, 0)) ∧ xs.length ≤ cap ∧ cap ≤ maxLen ∧ cur.size = cap * size ∧
        ∀ (j : Nat) (u : Value), xs.flatten[j]? = some u → cur[j]? = some u) ∧
      SrcIs ρ s size es src ∧ (xs.length + es.length) * bytes ≤ 140737488355328 ∧ xs.length + es.length ≤ maxLen ∧ (es = [] → VC k (ρ.push [] [] [d.den ρ id]) s) ∧
      (es ≠ [] → ∀ (b' cap' : Nat) (cur' : Array Value), (b' ∈ blks ρ.m → ∃ o, ρ.m[i]? = some (b', o)) → xs.length + es.length ≤ cap' → cap' ≤ maxLen → cur'.size = cap' * size → (∀ (j : Nat) (u : Value), (xs ++ es).flatten[j]? = some u → cur'[j]? = some u) →
        VC k { ρ.push [] [] [.slice (some ⟨b', 0, none⟩) (xs.length + es.length) cap'] with m := if i < ρ.m.length then ρ.m.set i (b', .cells cur' T (0, 0)) else ρ.m ++ [(b', .cells cur' T (0, 0))] } s)
  | .mkMap _ k, ρ, s => ∀ b, b ∉ blks ρ.m → VC k { ρ.push [] [] [.map (some b)] with m := ρ.m ++ [(b, .map #[] 0)] } s
  | .mapGet n K key dflt ok res di db dv k, ρ, s => ∃ (i b : Nat) (es : Array MapEntry) (clock : Nat) (ks : List Int) (l : List Value), ρ.m[i]? = some (b, .map es clock) ∧ ρ.v.getD n vd = .map (some b) ∧ MapIs K es ks l ∧
      ∃ is bs vs, is.length = di ∧ bs.length = db ∧ vs.length = dv ∧ vs.all fineV = true ∧ mapRes ok (lookL ks l (key.den ρ)) (dflt.den ρ id) = res.den (ρ.push is bs vs) id ∧ VC k (ρ.push is bs vs) s
  | .mapSet n K key v k, ρ, s => ∃ (i b : Nat) (es : Array MapEntry) (clock : Nat) (ks : List Int) (l : List Value), ρ.m[i]? = some (b, .map es clock) ∧ ρ.v.getD n vd = .map (some b) ∧ MapIs K es ks l ∧
      ∀ es' clock', MapIs K es' (putL ks l (key.den ρ) (v.den ρ id)).1 (putL ks l (key.den ρ) (v.den ρ id)).2 → VC k { ρ with m := ρ.m.set i (b, .map es' clock') } s
  | .mapClr n k, ρ, s => ∃ (i b : Nat) (es : Array MapEntry) (clock : Nat), ρ.m[i]? = some (b, .map es clock) ∧ ρ.v.getD n vd = .map (some b) ∧ VC k { ρ with m := ρ.m.set i (b, .map #[] clock) } s
  | .both x y, ρ, s => VC x ρ s ∧ VC y ρ s
  | .stop c, ρ, s => T c ρ s
  | .fail _, _, _ => False
theorem VC_bothAll : ∀ (l : List Out) (ρ : Env) (s : Hp), VC P Q T (bothAll l) ρ s → l ≠ [] ∧ ∀ x ∈ l, VC P Q T x ρ s
  | [], ρ, s, h => h.elim
  | [x], ρ, s, h => ⟨by simp, fun y hy => by rw [List.mem_singleton.1 hy]; exact h⟩
  | x :: y :: l, ρ, s, h => by
    have h : VC P Q T x ρ s ∧ VC P Q T (bothAll (y :: l)) ρ s := h
    have ih := (VC_bothAll (y :: l) ρ s h.2).2
    exact ⟨by simp, fun z hz => by
      rcases List.mem_cons.1 hz with rfl | hz
      · exact h.1
      · exact ih z hz⟩
theorem VC_needs : ∀ (l : List BE) (k : Out) (ρ : Env) (s : Hp), VC P Q T (needs l k) ρ s → (∀ b ∈ l, b.den ρ = true) ∧ VC P Q T k ρ s
  | [], k, ρ, s, h => ⟨by simp, h⟩
  | b :: l, k, ρ, s, h => by
    have hh : (b.den ρ = true) ∧ VC P Q T (needs l k) ρ s := by
      unfold needs at h
      simp only [List.foldr_cons] at h
      split at h
      · exact ⟨rfl, h⟩
      · exact ⟨h.1, h.2 h.1⟩
    have ih := VC_needs l k ρ s hh.2
    exact ⟨fun x hx => by rcases List.mem_cons.1 hx with rfl | hx; exact hh.1; exact ih.1 x hx, ih.2⟩
end
/-- An own block, as the world has it. -/
def BOk (B : Nat) (s : Hp) (ρ : Env) (β : Nat → Nat) (w : World) (k : Nat) : Blk → Prop
  | .cells cs T shut => B ≤ β k ∧ w.heap[β k]? = some (.cells (SV.dens ρ β cs).toArray T (0, 0)) ∧
      (shut = false → ∀ o, s (β k) o = none) ∧ (shut = true → ∀ o u, (SV.dens ρ β cs)[o]? = some u → s (β k) o = some u)
  | .row n T size => 0 < size ∧ (ρ.v.getD n vd = .slice none 0 0 ∨ ∃ m cap cur, ρ.v.getD n vd = .slice (some ⟨β k, 0, none⟩) m cap ∧ B ≤ β k ∧
      w.heap[β k]? = some (.cells cur T (0, 0)) ∧ m ≤ cap ∧ cap ≤ maxLen ∧ cur.size = cap * size ∧ ∀ o u, s (β k) o = some u → o < m * size)
def act (ρ : Env) : Blk → Prop
  | .cells .. => True
  | .row n _ _ => ρ.v.getD n vd ≠ .slice none 0 0
/-- What stands around a frame: objects that lie as they lay; the slots of the frames below; the calls it has deferred. -/
def objNC : Obj → Bool
  | .cells .. => false
  | _ => true
structure Fx where
  K : Nat × Obj → Prop := fun _ => False
  /-- the objects handed in -/
  E : List Nat := []
  zs : List (Array Value) := []
  ds : List Deferred := []
  sz : Nat := 0
def markOf (D : Nat) : Deferred := { target := .collected D, args := #[] }
/-- Of a plain function that has gone through loops over functions: their marks. -/
def Xm (E : List Nat) (Ds : List Nat) : Fx := { K := fun x => x.1 ∈ Ds ∧ x.2 = .deferred (some []), ds := Ds.map markOf, E }
/-- The objects, as they stand to those handed in. -/
structure MRel (w0 : World) (X : Fx) (ρ : Env) : Prop where
  ek : X.E.length = ρ.k
  ck : ∀ (i : Nat) (x : Nat × Obj), i < ρ.k → ρ.m[i]? = some x → X.E[i]? = some x.1 ∨ w0.heap.size ≤ x.1
  kl : ρ.k ≤ ρ.m.length
  nd : (blks ρ.m).Nodup
  dk : ∀ x, X.K x → x.1 ∉ blks ρ.m
  nw : ∀ (i : Nat) (x : Nat × Obj), ρ.k ≤ i → ρ.m[i]? = some x → w0.heap.size ≤ x.1
theorem MRel.to {w0 : World} {X X' : Fx} {ρ ρ' : Env} (h : MRel w0 X ρ) (hm : ρ'.m = ρ.m) (hk : ρ'.k = ρ.k) (hE : X'.E = X.E) (hK : ∀ x, X'.K x → X.K x ∨ x.1 ∉ blks ρ.m) : MRel w0 X' ρ' :=
  ⟨by rw [hE, hk]; exact h.ek, by rw [hE, hm, hk]; exact h.ck, by rw [hm, hk]; exact h.kl, by rw [hm]; exact h.nd, fun x hx => by rw [hm]; exact (hK x hx).elim (h.dk x) id, by rw [hm, hk]; exact h.nw⟩
theorem MRel.env {w0 : World} {X : Fx} {ρ ρ' : Env} (h : MRel w0 X ρ) (hm : ρ'.m = ρ.m) (hk : ρ'.k = ρ.k) : MRel w0 X ρ' := h.to hm hk rfl (fun _ => .inl)
/-- An object that lies as it lay, and is none of the frame's own blocks nor known. -/
structure Kept (s : Hp) (ρ : Env) (β : Nat → Nat) (H : List Blk) (w : World) (x : Nat × Obj) : Prop where
  is : w.heap[x.1]? = some x.2
  own : ∀ (k : Nat) (b : Blk), H[k]? = some b → act ρ b → β k ≠ x.1
  un : ∀ o, s x.1 o = none
structure Rel (w0 : World) (s0 : Hp) (X : Fx) (ρ : Env) (s : Hp) (β : Nat → Nat) (g : Cfg) (a : Act) (w : World) : Prop where
  tm : a.tmps = (SV.dens ρ β g.sl).toArray
  df : a.defers = X.ds
  sz : X.sz ≤ w.heap.size
  kp : ∀ x, X.K x ∨ x ∈ ρ.m → Kept s ρ β g.H w x
  ms : MRel w0 X ρ
  fs : X.zs = g.fs.map fun l => (SV.dens ρ β l).toArray
  ci : ρ.i.length = g.ni
  cb : ρ.b.length = g.nb
  cv : ρ.v.length = g.nv
  cj : ρ.j.length = g.nj
  ok : ρ.Ok
  bel : Grows (· ∈ X.E) w0 w
  sb : Sub s w
  nw : New w0.heap.size s0 s
  le : s0.le s
  bl : ∀ k b, g.H[k]? = some b → BOk w0.heap.size s ρ β w k b
  sp : ∀ j k bj bk, j ≠ k → g.H[j]? = some bj → g.H[k]? = some bk → act ρ bj → act ρ bk → β j ≠ β k
theorem Rel.hok {w0 s0 X ρ s β g a w} (h : Rel w0 s0 X ρ s β g a w) : HOk ρ β g.H w := by
  intro k cs T hk
  unfold getBlk at hk
  split at hk
  · rename_i cs' T' sh hk'
    simp only [Option.some.injEq, Prod.mk.injEq] at hk
    obtain ⟨rfl, rfl⟩ := hk
    exact (h.bl _ _ hk').2.1
  · simp at hk
theorem Rel.lt {w0 s0 X ρ s β g a w} (h : Rel w0 s0 X ρ s β g a w) {k : Nat} {b : Blk} (hk : g.H[k]? = some b) (ha : act ρ b) : β k < w.heap.size := by
  have := h.bl k b hk
  have key : ∀ o, w.heap[β k]? = some o → β k < w.heap.size := fun o ho => by
    rcases Nat.lt_or_ge (β k) w.heap.size with h' | h'
    · exact h'
    · rw [Array.getElem?_eq_none h'] at ho; cases ho
  cases b with
  | cells cs T sh => exact key _ this.2.1
  | row n T size =>
    rcases this.2 with h1 | ⟨m, cap, cur, _, _, h3, _⟩
    · exact absurd h1 ha
    · exact key _ h3
theorem Sub.lt {s : Hp} {w : World} (h : Sub s w) {b o : Nat} {u : Value} (hb : s b o = some u) : b < w.heap.size := World.block_lt_of_cell? w ⟨b, o, none⟩ (h b o u hb)
end Go.Sx
namespace Go.Sx
open Go.RowKit
section
variable {P : Program} {c : Ctx} {ρ : Env} {β : Nat → Nat}
theorem dens_length (l : List SV) : (SV.dens ρ β l).length = l.length := by simp [SV.dens_map]
/-- An allocation. -/
theorem run_newBlk (hP : ProgOk P c) (hρ : ρ.Ok) {sl : List SV} {k : Nat} {o : Oper} {cs : List SV} {t : Nat} {v : SV} (h : newBlk c sl k o.op = some (cs, t, v))
    {a : Act} (ha : a.tmps = (SV.dens ρ β sl).toArray) (w : World) :
    ∃ v', (execOp a.eval o).run P w = .ok (.value v') (w.alloc (.cells (SV.dens ρ β cs).toArray t)) ∧ ∀ ρ' β', β' k = w.heap.size → v.den ρ' β' = v' := by
  obtain ⟨dst, op, type, pos, after, guard⟩ := o
  simp only at h
  unfold newBlk at h
  split at h
  · simp only [Option.map_eq_some_iff, Prod.mk.injEq] at h
    obtain ⟨i, hi, rfl, rfl, rfl⟩ := h
    obtain ⟨z, hz, hzc⟩ := run_zero (hP.tab _ _ hi) w
    refine ⟨.pointer (some ⟨w.heap.size, 0, none⟩), ?_, fun ρ' β' hb => by simp [SV.den, hb]⟩
    simp [execOp, Instr.alloc, hz, newVar, newRow, hzc ρ β]
  · simp only [Option.bind_eq_some_iff] at h
    obtain ⟨x, hx, h⟩ := h
    split at h
    case isFalse => simp at h
    rename_i hcok
    simp only [Option.some.injEq, Prod.mk.injEq] at h
    obtain ⟨rfl, rfl, rfl⟩ := h
    refine ⟨.pointer (some ⟨w.heap.size, 0, none⟩), ?_, fun ρ' β' hb => by simp [SV.den, hb]⟩
    simp [execOp, Instr.box, newVar, newRow, ev_den hx ha, cells_den' hρ x hcok]
  · rename_i st len parts
    split at h
    case h_2 => simp at h
    rename_i e hty
    obtain ⟨si, hsi, hsi'⟩ := Ctx.ty_some hty
    have hty := (hP.tab _ si hsi).ty
    simp only [hsi'] at hty
    split at h
    case h_2 => simp at h
    rename_i i vs hi hvs
    split at h
    case isFalse => simp at h
    rename_i hc
    simp only [Bool.and_eq_true, decide_eq_true_eq] at hc
    simp only [Option.map_eq_some_iff, Prod.mk.injEq] at h
    obtain ⟨cs', hfill, rfl, rfl, rfl⟩ := h
    have hI := hP.tab _ _ hi
    obtain ⟨z, hz, hzc⟩ := run_zero hI w
    have hfill' := fill_den (ρ := ρ) (β := β) hρ _ _ _ _ hfill
    unfold placeArr at hfill'
    have hparts : (parts.map fun (p : Nat × Operand) => (p.1, a.eval p.2)).toList = ((parts.toList.map (·.1)).zip vs).map fun p => (p.1, p.2.den ρ β) := by
      rw [← zip_den ha _ _ hvs]; simp
    by_cases hl0 : len = 0
    · subst hl0
      have hcs : (SV.dens ρ β ((List.range (0 * i.size)).map fun j => i.zero.getD (j % i.size) .undef)).toArray = #[] := by simp [SV.dens]
      rw [hcs] at hfill'
      have hpm : (parts.map fun (x : Nat × Operand) => (x.1, a.eval x.2)).toList = _ := hparts
      have hr0 : ∀ f : Nat → Value, Array.map f (Array.range 0) = #[] := fun f => by simp
      have hno : ¬ ((0 : Nat) > 2 ^ 24) := by omega
      have hno0 : 0 * i.size = 0 := by omega
      refine ⟨.slice (some ⟨w.heap.size, 0, none⟩) 0 0, ?_, fun ρ' β' hb => by simp [SV.den, hb]⟩
      simp only [execOp, Instr.buildSlice, Sem.run_bind, run_underlying hty, Result.andThen_ok, run_sizeOf hI, hno, if_false, hno0, if_true, Sem.run_pure, hr0, hpm, hfill', newRow, run_newObj, World.alloc]
    have hcp : 0 < len := by omega
    have hzero : (Array.range (len * i.size)).map (fun j => z.cells[j % z.cells.size]!) = (SV.dens ρ β ((List.range (len * i.size)).map fun j => i.zero.getD (j % i.size) .undef)).toArray := by
      apply Array.ext'
      have hsz : z.cells.size = i.size := by rw [hzc ρ β]; simp [dens_length, hI.zlen]
      simp only [Array.toList_map, Array.toList_range, SV.dens_map, List.map_map]
      apply List.map_congr_left
      intro j _
      have hlt : j % i.size < i.size := Nat.mod_lt _ hc.2
      simp only [Function.comp, hsz]
      have h1 : (j % i.size) < i.zero.length := by rw [hI.zlen]; exact hlt
      have h2 : z.cells[j % i.size]! = (SV.dens ρ β i.zero)[j % i.size]'(by rw [dens_length]; exact h1) := by
        have : z.cells = (SV.dens ρ β i.zero).toArray := hzc ρ β
        rw [this]
        simp [SV.dens_map, h1]
      rw [h2]
      simp [SV.dens_map, h1]
    refine ⟨.slice (some ⟨w.heap.size, 0, none⟩) len len, ?_, fun ρ' β' hb => by simp [SV.den, hb]⟩
    have hno : ¬ (len * i.size > 2 ^ 24) := by have := hc.1; omega
    have hno0 : ¬ (len * i.size = 0) := by
      have h1 := hcp; have h2 := hc.2
      exact Nat.ne_of_gt (Nat.mul_pos h1 h2)
    have hpm : (parts.map fun (x : Nat × Operand) => (x.1, a.eval x.2)).toList = _ := hparts
    simp only [execOp, Instr.buildSlice, Sem.run_bind, run_underlying hty, Result.andThen_ok, run_sizeOf hI, hno, if_false, hno0, hz, Sem.run_pure, hzero, hpm, hfill', newRow, run_newObj, World.alloc]
  · simp at h
/-- A store into own cells. -/
theorem run_storeOf (hP : ProgOk P c) (hρ : ρ.Ok) {sl : List SV} {H : List Blk} {o : Oper} {k off : Nat} {new cs : List SV} {T : Nat} (h : storeOf c sl H o.op = some (k, off, new))
    (hk : H[k]? = some (.cells cs T false)) {a : Act} (ha : a.tmps = (SV.dens ρ β sl).toArray) (w : World) (hw : w.heap[β k]? = some (.cells (SV.dens ρ β cs).toArray T (0, 0))) :
    (execOp a.eval o).run P w = .ok .skip (w.setRow (β k) (SV.dens ρ β (setCells cs off new)).toArray) := by
  obtain ⟨dst, op, type, pos, after, guard⟩ := o
  simp only at h
  unfold storeOf at h
  split at h
  case h_2 => simp at h
  split at h
  case h_2 => simp at h
  rename_i i k' off' v hi hp hv
  split at h
  case h_2 => simp at h
  rename_i cs' T' hk'
  split at h
  case isFalse => simp at h
  rename_i hc
  simp only [Option.some.injEq, Prod.mk.injEq] at h
  obtain ⟨rfl, rfl, rfl⟩ := h
  rw [hk] at hk'
  simp only [Option.some.injEq, Blk.cells.injEq] at hk'
  obtain ⟨rfl, rfl, _⟩ := hk'
  simp only [Bool.and_eq_true, decide_eq_true_eq] at hc
  obtain ⟨⟨⟨hcok, hlen⟩, hle⟩, hflat⟩ := hc
  have hI := hP.tab _ _ hi
  have hcells := cells_den' (β := β) hρ v hcok
  have hone : ∀ u ∈ SV.dens ρ β (cellsOf v), u.oneCell' = true := by
    intro u hu
    rw [SV.dens_map] at hu
    obtain ⟨s, hs, rfl⟩ := List.mem_map.1 hu
    have := List.all_eq_true.1 hflat s hs
    cases s <;> simp [SV.flat] at this
    case va n => exact oneCell_of_fine (hρ.fine n)
    all_goals rfl
  have hst := run_storeCells_at P (β k') off' T (SV.dens ρ β (cellsOf v)) 0 (SV.dens ρ β cs).toArray w hw (by simp only [List.size_toArray, dens_length]; omega) hone
  simp only [Nat.add_zero, dens_length] at hst
  simp only [execOp, ev_den hp ha, ev_den hv ha, SV.den, Instr.storeAt, Instr.sureAddr, Sem.run_bind, Sem.run_pure, Result.andThen_ok, storeVar, hcells, run_sizeOf hI, List.size_toArray, dens_length, hlen, ne_eq, not_true_eq_false, if_false, hst]
  rw [setCells_den, hlen]
/-- A load through an address that is no own block's. -/
theorem run_loadFar (hP : ProgOk P c) {sl : List SV} {o : Oper} {t : Nat} {x : Operand} (ho : o.op = .load t x) {i : TI} (hi : c.tab t = some i) {xs : SV} (hx : ev sl x = some xs)
    {a : Act} (ha : a.tmps = (SV.dens ρ β sl).toArray) {w : World} {vals : List Value} (hr : ∃ b o, addrOf (xs.den ρ β) = some ⟨b, o, none⟩ ∧ ∀ j u, vals[j]? = some u → w.cell? ⟨b, o + j, none⟩ = some u) (hlen : vals.length = i.size)
    (hxp : ∃ ad, xs.den ρ β = .pointer (some ad)) :
    (execOp a.eval o).run P w = .ok (.value (if i.isAgg then .agg vals.toArray else vals.headD undef)) w := by
  obtain ⟨dst, op, type, pos, after, guard⟩ := o
  simp only at ho; subst ho
  obtain ⟨b, off, hab, hcells⟩ := hr
  obtain ⟨ad, had⟩ := hxp
  rw [had] at hab
  simp only [addrOf, Option.some.injEq] at hab
  subst hab
  have hI := hP.tab _ _ hi
  simp only [execOp, ev_den hx ha, had, Instr.loadAt, Instr.sureAddr, Sem.run_bind, Sem.run_pure, Result.andThen_ok, loadVar, run_isAgg hI]
  have hc : ∀ j u, vals[j]? = some u → w.cell? ((⟨b, off, none⟩ : Addr).add j) = some u := by
    intro j u hj
    have : (⟨b, off, none⟩ : Addr).add j = ⟨b, off + j, none⟩ := by unfold Addr.add; split <;> simp_all
    rw [this]; exact hcells j u hj
  cases hagg : i.isAgg with
  | true =>
    have := run_loadCells_list (P := P) w ⟨b, off, none⟩ vals hc
    rw [hlen] at this
    simp [run_sizeOf hI, this]
  | false =>
    have h1 := hI.one hagg
    rw [h1] at hlen
    match vals, hlen with
    | [u], _ =>
      have h0 := hc 0 u (by simp)
      simp only [Addr.add, if_true] at h0
      simp [h0]
end
end Go.Sx
