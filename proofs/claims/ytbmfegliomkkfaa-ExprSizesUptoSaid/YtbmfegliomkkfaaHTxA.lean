/- SX: a symbolic executor over the model's code, and what its data mean. -/
import Derived.Calls
import Derived.Tactics
import Derived.Below
import Derived.Orders
import Derived.KernelRfl
set_option linter.unusedSimpArgs false
set_option linter.unusedVariables false
namespace Go.Sx
/-- What is known of memory cell by cell: cells that nobody writes any more. -/
abbrev Hp := Nat → Nat → Option Value
def Hp.le (s t : Hp) : Prop := ∀ b o u, s b o = some u → t b o = some u
theorem Hp.le_refl (s : Hp) : s.le s := fun _ _ _ h => h
theorem Hp.le_trans {s t u : Hp} (h : s.le t) (k : t.le u) : s.le u := fun b o v x => k b o v (h b o v x)
/-- The known cells are cells of the world. -/
def Sub (s : Hp) (w : World) : Prop := ∀ b o u, s b o = some u → w.cell? ⟨b, o, none⟩ = some u
/-- Newly known cells lie in blocks from B on. -/
def New (B : Nat) (s t : Hp) : Prop := ∀ b o u, t b o = some u → s b o = none → B ≤ b
def sliceLen : Value → Int
  | .slice _ n _ => n
  | _ => 0
/-- The slice value v reads, in the known cells, as the elements xs, each of `size` cells. -/
def SliceIn (s : Hp) (size : Nat) (v : Value) (xs : List (List Value)) : Prop :=
  (∀ x ∈ xs, x.length = size) ∧ ∃ a cap, v = .slice a xs.length cap ∧ xs.length ≤ cap ∧
    (xs ≠ [] → ∃ b o, a = some ⟨b, o, none⟩ ∧ ∀ i x, xs[i]? = some x → ∀ j u, x[j]? = some u → s b (o + i * size + j) = some u)
theorem SliceIn.mono {s t : Hp} (h : s.le t) {size v xs} (k : SliceIn s size v xs) : SliceIn t size v xs := by
  obtain ⟨h1, a, cap, h2, hc, h3⟩ := k
  refine ⟨h1, a, cap, h2, hc, fun hx => ?_⟩
  obtain ⟨b, o, ha, h4⟩ := h3 hx
  exact ⟨b, o, ha, fun i x hi j u hj => h _ _ _ (h4 i x hi j u hj)⟩
/-- What an atom stands for that is not told. -/
abbrev vd : Value := .bool false
/-- i, b, v, j: what the atoms stand for. m: objects that nobody else touches, and what they hold; the first k of them were handed in. -/
structure Env where
  i : List Int
  b : List Bool
  v : List Value
  j : List Value
  m : List (Nat × Obj) := []
  k : Nat := 0
inductive IE where
  | a (n : Nat)
  | l (z : Int)
  | add (x y : IE)
  | sub (x y : IE)
  | mul (x y : IE)
  | tdiv (x y : IE)
  | tmod (x y : IE)
  | mn (x y : IE)
  | mx (x y : IE)
  | ifeq (a b x y : IE)
  | wr (k : IntKind) (x : IE)
  | slen (n : Nat)
  deriving DecidableEq, Inhabited
def ifEq (a b x y : Int) : Int := if a = b then x else y
def mnI (x y : Int) : Int := if y < x then y else x
def mxI (x y : Int) : Int := if y > x then y else x
def ltB (x y : Int) : Bool := decide (x < y)
def leB (x y : Int) : Bool := decide (x ≤ y)
def eqB (x y : Int) : Bool := decide (x = y)
theorem ltB_true {x y : Int} : ltB x y = true ↔ x < y := by simp [ltB]
theorem leB_true {x y : Int} : leB x y = true ↔ x ≤ y := by simp [leB]
theorem eqB_true {x y : Int} : eqB x y = true ↔ x = y := by simp [eqB]
theorem ltB_false {x y : Int} : ltB x y = false ↔ ¬ x < y := by simp [ltB]
theorem leB_false {x y : Int} : leB x y = false ↔ ¬ x ≤ y := by simp [leB]
theorem eqB_false {x y : Int} : eqB x y = false ↔ ¬ x = y := by simp [eqB]
def IE.den (ρ : Env) : IE → Int
  | .a n => ρ.i.getD n 0
  | .l z => z
  | .add x y => x.den ρ + y.den ρ
  | .sub x y => x.den ρ - y.den ρ
  | .mul x y => x.den ρ * y.den ρ
  | .tdiv x y => (x.den ρ).tdiv (y.den ρ)
  | .tmod x y => (x.den ρ).tmod (y.den ρ)
  | .mn x y => mnI (x.den ρ) (y.den ρ)
  | .mx x y => mxI (x.den ρ) (y.den ρ)
  | .ifeq p q x y => ifEq (p.den ρ) (q.den ρ) (x.den ρ) (y.den ρ)
  | .wr k x => k.wrap (x.den ρ)
  | .slen n => sliceLen (ρ.v.getD n vd)
inductive BE where
  | t (b : Bool)
  | a (n : Nat)
  | lt (x y : IE)
  | le (x y : IE)
  | eq (x y : IE)
  | not (x : BE)
  | and (x y : BE)
  | or (x y : BE)
  | nil (n : Nat)
  | is (k n : Nat)
  deriving DecidableEq, Inhabited
def isNilV : Value → Bool
  | .slice none _ _ => true
  | .nilFunc => true
  | .pointer none => true
  | _ => false
/-- 0: a slice; 1: a pointer that is not nil; 2: a function value; 3: a string -/
def isKindV : Nat → Value → Bool
  | 0, .slice _ _ _ => true
  | 1, .pointer (some _) => true
  | 2, .func _ _ _ => true
  | 2, .nilFunc => true
  | 3, .string _ => true
  | _, _ => false
def BE.den (ρ : Env) : BE → Bool
  | .t b => b
  | .a n => ρ.b.getD n false
  | .lt x y => ltB (x.den ρ) (y.den ρ)
  | .le x y => leB (x.den ρ) (y.den ρ)
  | .eq x y => eqB (x.den ρ) (y.den ρ)
  | .not x => !x.den ρ
  | .and x y => x.den ρ && y.den ρ
  | .or x y => x.den ρ || y.den ρ
  | .nil n => isNilV (ρ.v.getD n vd)
  | .is k n => isKindV k (ρ.v.getD n vd)
/-- A symbolic value. ptr: into an own block; sl: a slice over the whole of an own block; ea: the address of a cell of an element of the slice that is value number n; pa: a pointer that is value number n, some cells on. -/
inductive SV where
  | int (k : IntKind) (e : IE)
  | bool (b : BE)
  | va (n : Nat)
  | junk (n : Nat)
  | str (s : List UInt8)
  | undef
  | nilS | nilF | nilP | nilI
  | ptr (k off : Nat)
  | sl (k len : Nat)
  | slc (k len cap : Nat)
  | ea (n : Nat) (i : IE) (size off : Nat)
  | pa (n off : Nat)
  | agg (cs : List SV)
  | tup (cs : List SV)
  | fn (f : Nat) (cap : List SV)
  deriving Inhabited
def addrOf : Value → Option Addr
  | .slice a _ _ => a
  | .pointer a => a
  | _ => none
mutual
def SV.den (ρ : Env) (β : Nat → Nat) : SV → Value
  | .int k e => .int k (e.den ρ)
  | .bool b => .bool (b.den ρ)
  | .va n => ρ.v.getD n vd
  | .junk n => ρ.j.getD n Go.undef
  | .str s => .string ⟨s.toArray⟩
  | .undef => Go.undef
  | .nilS => .slice none 0 0
  | .nilF => .nilFunc
  | .nilP => .pointer none
  | .nilI => .nilIface
  | .ptr k off => .pointer (some ⟨β k, off, none⟩)
  | .sl k len => .slice (some ⟨β k, 0, none⟩) len len
  | .slc k len cap => .slice (some ⟨β k, 0, none⟩) len cap
  | .ea n i size off => .pointer (some ((((addrOf (ρ.v.getD n vd)).getD ⟨0, 0, none⟩).add ((i.den ρ).toNat * size)).add off))
  | .pa n off => .pointer (some (((addrOf (ρ.v.getD n vd)).getD ⟨0, 0, none⟩).add off))
  | .agg cs => .agg (SV.dens ρ β cs).toArray
  | .tup cs => .tuple (SV.dens ρ β cs).toArray
  | .fn f cap => .func (.func f) #[] (SV.dens ρ β cap).toArray
def SV.dens (ρ : Env) (β : Nat → Nat) : List SV → List Value
  | [] => []
  | x :: l => x.den ρ β :: SV.dens ρ β l
end
mutual
def SV.beq : SV → SV → Bool
  | .int k e, .int k' e' => decide (k = k') && decide (e = e')
  | .bool b, .bool b' => decide (b = b')
  | .va n, .va n' => decide (n = n')
  | .junk n, .junk n' => decide (n = n')
  | .str s, .str s' => decide (s = s')
  | .undef, .undef | .nilS, .nilS | .nilF, .nilF | .nilP, .nilP | .nilI, .nilI => true
  | .ptr k o, .ptr k' o' => decide (k = k') && decide (o = o')
  | .sl k o, .sl k' o' => decide (k = k') && decide (o = o')
  | .slc k o q, .slc k' o' q' => decide (k = k') && decide (o = o') && decide (q = q')
  | .ea n i s o, .ea n' i' s' o' => decide (n = n') && decide (i = i') && decide (s = s') && decide (o = o')
  | .pa k o, .pa k' o' => decide (k = k') && decide (o = o')
  | .agg c, .agg c' => SV.beqs c c'
  | .tup c, .tup c' => SV.beqs c c'
  | .fn f c, .fn f' c' => decide (f = f') && SV.beqs c c'
  | _, _ => false
def SV.beqs : List SV → List SV → Bool
  | [], [] => true
  | x :: l, y :: m => SV.beq x y && SV.beqs l m
  | _, _ => false
end
theorem SV.dens_map (ρ : Env) (β : Nat → Nat) (l : List SV) : SV.dens ρ β l = l.map (SV.den ρ β) := by
  induction l with
  | nil => rfl
  | cons x l ih => simp [SV.dens, ih]
mutual
theorem SV.eq_of_beq : ∀ x y : SV, SV.beq x y = true → x = y
  | .int .., y, h => by cases y <;> simp [SV.beq] at h; obtain ⟨rfl, rfl⟩ := h; rfl
  | .bool .., y, h => by cases y <;> simp [SV.beq] at h; subst h; rfl
  | .va .., y, h => by cases y <;> simp [SV.beq] at h; subst h; rfl
  | .junk .., y, h => by cases y <;> simp [SV.beq] at h; subst h; rfl
  | .str .., y, h => by cases y <;> simp [SV.beq] at h; subst h; rfl
  | .undef, y, h => by cases y <;> simp [SV.beq] at h; rfl
  | .nilS, y, h => by cases y <;> simp [SV.beq] at h; rfl
  | .nilF, y, h => by cases y <;> simp [SV.beq] at h; rfl
  | .nilP, y, h => by cases y <;> simp [SV.beq] at h; rfl
  | .nilI, y, h => by cases y <;> simp [SV.beq] at h; rfl
  | .ptr .., y, h => by cases y <;> simp [SV.beq] at h; obtain ⟨rfl, rfl⟩ := h; rfl
  | .sl .., y, h => by cases y <;> simp [SV.beq] at h; obtain ⟨rfl, rfl⟩ := h; rfl
  | .slc .., y, h => by cases y <;> simp [SV.beq] at h; obtain ⟨⟨rfl, rfl⟩, rfl⟩ := h; rfl
  | .ea .., y, h => by cases y <;> simp [SV.beq] at h; obtain ⟨⟨⟨rfl, rfl⟩, rfl⟩, rfl⟩ := h; rfl
  | .pa .., y, h => by cases y <;> simp [SV.beq] at h; obtain ⟨rfl, rfl⟩ := h; rfl
  | .agg c, y, h => by cases y <;> simp [SV.beq] at h; rw [SV.eq_of_beqs _ _ h]
  | .tup c, y, h => by cases y <;> simp [SV.beq] at h; rw [SV.eq_of_beqs _ _ h]
  | .fn f c, y, h => by cases y <;> simp [SV.beq] at h; obtain ⟨rfl, h⟩ := h; rw [SV.eq_of_beqs _ _ h]
theorem SV.eq_of_beqs : ∀ x y : List SV, SV.beqs x y = true → x = y
  | [], y, h => by cases y <;> simp [SV.beqs] at h; rfl
  | x :: l, y, h => by
    cases y with
    | nil => simp [SV.beqs] at h
    | cons y m =>
      simp [SV.beqs] at h
      rw [SV.eq_of_beq _ _ h.1, SV.eq_of_beqs _ _ h.2]
end
theorem IE.den_m (ρ : Env) (m : List (Nat × Obj)) (k : Nat) (e : IE) : e.den { ρ with m := m, k := k } = e.den ρ := by
  induction e <;> simp_all [IE.den]
theorem BE.den_m (ρ : Env) (m : List (Nat × Obj)) (k : Nat) (e : BE) : e.den { ρ with m := m, k := k } = e.den ρ := by
  induction e <;> simp_all [BE.den, IE.den_m]
mutual
theorem SV.den_m (ρ : Env) (m : List (Nat × Obj)) (k : Nat) (β : Nat → Nat) : ∀ v : SV, v.den { ρ with m := m, k := k } β = v.den ρ β
  | .int _ e => by simp only [SV.den, IE.den_m]
  | .bool b => by simp only [SV.den, BE.den_m]
  | .va _ => rfl
  | .junk _ => rfl
  | .str _ => rfl
  | .undef => rfl
  | .nilS => rfl
  | .nilF => rfl
  | .nilP => rfl
  | .nilI => rfl
  | .ptr .. => rfl
  | .sl .. => rfl
  | .slc .. => rfl
  | .ea _ i _ _ => by simp only [SV.den, IE.den_m]
  | .pa .. => rfl
  | .agg cs => by simp only [SV.den, SV.dens_m ρ m k β cs]
  | .tup cs => by simp only [SV.den, SV.dens_m ρ m k β cs]
  | .fn _ cs => by simp only [SV.den, SV.dens_m ρ m k β cs]
theorem SV.dens_m (ρ : Env) (m : List (Nat × Obj)) (k : Nat) (β : Nat → Nat) : ∀ l : List SV, SV.dens { ρ with m := m, k := k } β l = SV.dens ρ β l
  | [] => rfl
  | x :: l => by simp only [SV.dens, SV.den_m ρ m k β x, SV.dens_m ρ m k β l]
end
end Go.Sx
