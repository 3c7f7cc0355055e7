/- SX: what is left to show, and that it is enough. -/
import Derived.Test.YtbmfegliomkkfaaHSxE
namespace Go.Sx
open Go.RowKit

/-- The end of a call: it hands back a value; what was there is as it was; of the known cells none is lost, and new ones lie in new blocks; the value meets Q. -/
def Ret (Q : Value → Hp → Prop) (s : Hp) (w : World) : Ending → World → Prop := fun e w' =>
  ∃ v s', e = .returned v ∧ Below w.heap.size w w' ∧ s.le s' ∧ Sub s' w' ∧ New w.heap.size s s' ∧ Q v s'

/-- A contract. -/
def Ct (P : Program) (f : FuncId) (args : List Value) (s : Hp) (Q : Value → Hp → Prop) : Prop :=
  ∀ w, Sub s w → Calls P f args.toArray w (Ret Q s w)

/-- The address v leads to known cells that hold the values. -/
def Reads (s : Hp) (v : Value) (vals : List Value) : Prop :=
  ∃ b o, addrOf v = some ⟨b, o, none⟩ ∧ ∀ j u, vals[j]? = some u → s b (o + j) = some u

def HShut (ρ : Env) (β : Nat → Nat) (H : List Blk) (s : Hp) : Prop :=
  ∀ k cs T, H[k]? = some (.cells cs T true) → ∀ o u, (SV.dens ρ β cs)[o]? = some u → s (β k) o = some u

def SrcIs (ρ : Env) (s : Hp) (size : Nat) (es : List (List Value)) : Src → Prop
  | .lit l => es = l.map (SV.dens ρ id)
  | .va n => SliceIn s size (ρ.v.getD n vd) es ∧ ∀ e ∈ es, ∀ u ∈ e, u.oneCell' = true

def DstIs (ρ : Env) (s : Hp) (size : Nat) (xs : List (List Value)) : Option Nat → Prop
  | none => xs = []
  | some n => SliceIn s size (ρ.v.getD n vd) xs

def loOf (ρ : Env) : Option IE → Int
  | some e => e.den ρ
  | none => 0
def hiOf (ρ : Env) : Option IE → Nat → Int
  | some e, _ => e.den ρ
  | none, n => n

section
variable (P : Program) (Q : Value → Hp → Prop) (T : Cfg → Env → Hp → Prop)
/-- What a tree asks. -/
def VC : Out → Env → Hp → Prop
  | .ret v H, ρ, s => ∀ β s', s.le s' → HShut ρ β H s' → Q (v.den ρ β) s'
  | .ite c x y, ρ, s => (c.den ρ = true → VC x ρ s) ∧ (c.den ρ = false → VC y ρ s)
  | .need c k, ρ, s => c.den ρ = true ∧ (c.den ρ = true → VC k ρ s)
  | .load a cs di db dv k, ρ, s => ∃ is bs vs, is.length = di ∧ bs.length = db ∧ vs.length = dv ∧ vs.all fineV = true ∧
      Reads s (a.den ρ id) (SV.dens (ρ.push is bs vs) id cs) ∧ VC k (ρ.push is bs vs) s
  | .app d src size bytes k, ρ, s => ∃ xs es, DstIs ρ s size xs d ∧ SrcIs ρ s size es src ∧ (xs.length + es.length) * bytes ≤ 140737488355328 ∧ xs.length + es.length ≤ maxLen ∧
      ∀ v s', s.le s' → SliceIn s' size v (xs ++ es) → VC k (ρ.push [] [] [v]) s'
  | .cut n lo hi size k, ρ, s => ∃ xs, SliceIn s size (ρ.v.getD n vd) xs ∧ 0 ≤ loOf ρ lo ∧ loOf ρ lo ≤ hiOf ρ hi xs.length ∧ hiOf ρ hi xs.length ≤ xs.length ∧
      ∀ v, SliceIn s size v ((xs.take (hiOf ρ hi xs.length).toNat).drop (loOf ρ lo).toNat) → VC k (ρ.push [] [] [v]) s
  | .call f args H res di db dv k, ρ, s => ∀ β s1, s.le s1 → HShut ρ β H s1 → ∃ Qc, Ct P f (SV.dens ρ β args) s1 Qc ∧
      ∀ v s', s1.le s' → Qc v s' → ∃ is bs vs, is.length = di ∧ bs.length = db ∧ vs.length = dv ∧ vs.all fineV = true ∧ v = res.den (ρ.push is bs vs) id ∧ VC k (ρ.push is bs vs) s'
  | .both x y, ρ, s => VC x ρ s ∧ VC y ρ s
  | .stop c, ρ, s => T c ρ s
  | .fail _, _, _ => False

theorem VC_bothAll : ∀ (l : List Out) (ρ : Env) (s : Hp), VC P Q T (bothAll l) ρ s → l ≠ [] ∧ ∀ x ∈ l, VC P Q T x ρ s
  | [], ρ, s, h => h.elim
  | [x], ρ, s, h => ⟨by simp, fun y hy => by rw [List.mem_singleton.1 hy]; exact h⟩
  | x :: y :: l, ρ, s, h => by
    have h : VC P Q T x ρ s ∧ VC P Q T (bothAll (y :: l)) ρ s := h
    have ih := (VC_bothAll (y :: l) ρ s h.2).2
    exact ⟨by simp, fun z hz => by
      rcases List.mem_cons.1 hz with rfl | hz
      · exact h.1
      · exact ih z hz⟩

theorem VC_needs : ∀ (l : List BE) (k : Out) (ρ : Env) (s : Hp), VC P Q T (needs l k) ρ s → (∀ b ∈ l, b.den ρ = true) ∧ VC P Q T k ρ s
  | [], k, ρ, s, h => ⟨by simp, h⟩
  | b :: l, k, ρ, s, h => by
    have hh : (b.den ρ = true) ∧ VC P Q T (needs l k) ρ s := by
      unfold needs at h
      simp only [List.foldr_cons] at h
      split at h
      · exact ⟨rfl, h⟩
      · exact ⟨h.1, h.2 h.1⟩
    have ih := VC_needs l k ρ s hh.2
    exact ⟨fun x hx => by rcases List.mem_cons.1 hx with rfl | hx; exact hh.1; exact ih.1 x hx, ih.2⟩
end

/-- An own block, as the world has it. -/
def BOk (B : Nat) (s : Hp) (ρ : Env) (β : Nat → Nat) (w : World) (k : Nat) : Blk → Prop
  | .cells cs T shut => B ≤ β k ∧ w.heap[β k]? = some (.cells (SV.dens ρ β cs).toArray T (0, 0)) ∧
      (shut = false → ∀ o, s (β k) o = none) ∧ (shut = true → ∀ o u, (SV.dens ρ β cs)[o]? = some u → s (β k) o = some u)
  | .row n T size => 0 < size ∧ (ρ.v.getD n vd = .slice none 0 0 ∨ ∃ m cap cur, ρ.v.getD n vd = .slice (some ⟨β k, 0, none⟩) m cap ∧ B ≤ β k ∧
      w.heap[β k]? = some (.cells cur T (0, 0)) ∧ m ≤ cap ∧ cap ≤ maxLen ∧ cur.size = cap * size ∧ ∀ o u, s (β k) o = some u → o < m * size)

def act (ρ : Env) : Blk → Prop
  | .cells .. => True
  | .row n _ _ => ρ.v.getD n vd ≠ .slice none 0 0

/-- What stands around a frame: objects that lie as they lay; the slots of the frames below; the calls it has deferred. -/
def objNC : Obj → Bool
  | .cells .. => false
  | _ => true
structure Fx where
  K : Nat × Obj → Prop := fun _ => False
  zs : List (Array Value) := []
  ds : List Deferred := []
  sz : Nat := 0

def markOf (D : Nat) : Deferred := { target := .collected D, args := #[] }
/-- Of a plain function that has gone through loops over functions: their marks. -/
def Xm (Ds : List Nat) : Fx := { K := fun x => x.1 ∈ Ds ∧ x.2 = .deferred (some []), ds := Ds.map markOf }

/-- An object that lies as it lay, and is none of the frame's own blocks nor known. -/
structure Kept (s : Hp) (ρ : Env) (β : Nat → Nat) (H : List Blk) (w : World) (x : Nat × Obj) : Prop where
  is : w.heap[x.1]? = some x.2
  own : ∀ (k : Nat) (b : Blk), H[k]? = some b → act ρ b → β k ≠ x.1
  un : ∀ o, s x.1 o = none

structure Rel (w0 : World) (s0 : Hp) (X : Fx) (ρ : Env) (s : Hp) (β : Nat → Nat) (g : Cfg) (a : Act) (w : World) : Prop where
  tm : a.tmps = (SV.dens ρ β g.sl).toArray
  df : a.defers = X.ds
  sz : X.sz ≤ w.heap.size
  kp : ∀ x, X.K x → Kept s ρ β g.H w x
  fs : X.zs = g.fs.map fun l => (SV.dens ρ β l).toArray
  ci : ρ.i.length = g.ni
  cb : ρ.b.length = g.nb
  cv : ρ.v.length = g.nv
  cj : ρ.j.length = g.nj
  ok : ρ.Ok
  bel : Below w0.heap.size w0 w
  sb : Sub s w
  nw : New w0.heap.size s0 s
  le : s0.le s
  bl : ∀ k b, g.H[k]? = some b → BOk w0.heap.size s ρ β w k b
  sp : ∀ j k bj bk, j ≠ k → g.H[j]? = some bj → g.H[k]? = some bk → act ρ bj → act ρ bk → β j ≠ β k

theorem Rel.hok {w0 s0 X ρ s β g a w} (h : Rel w0 s0 X ρ s β g a w) : HOk ρ β g.H w := by
  intro k cs T hk
  unfold getBlk at hk
  split at hk
  · rename_i cs' T' sh hk'
    simp only [Option.some.injEq, Prod.mk.injEq] at hk
    obtain ⟨rfl, rfl⟩ := hk
    exact (h.bl _ _ hk').2.1
  · simp at hk

theorem Rel.lt {w0 s0 X ρ s β g a w} (h : Rel w0 s0 X ρ s β g a w) {k : Nat} {b : Blk} (hk : g.H[k]? = some b) (ha : act ρ b) : β k < w.heap.size := by
  have := h.bl k b hk
  have key : ∀ o, w.heap[β k]? = some o → β k < w.heap.size := fun o ho => by
    rcases Nat.lt_or_ge (β k) w.heap.size with h' | h'
    · exact h'
    · rw [Array.getElem?_eq_none h'] at ho; cases ho
  cases b with
  | cells cs T sh => exact key _ this.2.1
  | row n T size =>
    rcases this.2 with h1 | ⟨m, cap, cur, _, _, h3, _⟩
    · exact absurd h1 ha
    · exact key _ h3

theorem Sub.lt {s : Hp} {w : World} (h : Sub s w) {b o : Nat} {u : Value} (hb : s b o = some u) : b < w.heap.size := World.block_lt_of_cell? w ⟨b, o, none⟩ (h b o u hb)
end Go.Sx
