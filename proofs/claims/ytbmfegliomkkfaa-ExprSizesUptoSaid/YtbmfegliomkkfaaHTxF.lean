/- SX: what is left to show, and that it is enough. -/
import Derived.Test.YtbmfegliomkkfaaHTxE
import Derived.Laws.MakeOwn
set_option linter.unusedSimpArgs false
set_option linter.unusedVariables false
namespace Go.Sx
open Go.RowKit
/-- From w to w' nothing has turned that was there, but what lies in E. -/
structure Grows (E : Nat → Prop) (w w' : World) : Prop where
  os : w'.os = w.os
  tape : w'.tape = w.tape
  output : w'.output = w.output
  size : w.heap.size ≤ w'.heap.size
  block : ∀ k, k < w.heap.size → ¬ E k → w'.heap[k]? = w.heap[k]?
theorem Grows.of_below {E : Nat → Prop} {w w' : World} (h : Below w.heap.size w w') : Grows E w w' := ⟨h.os, h.tape, h.output, h.size, fun k hk _ => h.block k hk⟩
theorem Grows.refl (E : Nat → Prop) (w : World) : Grows E w w := ⟨rfl, rfl, rfl, Nat.le_refl _, fun _ _ _ => rfl⟩
theorem Grows.trans {E F G : Nat → Prop} {a b c : World} (h : Grows E a b) (k : Grows F b c) (hE : ∀ i, E i → G i) (hF : ∀ i, F i → G i ∨ a.heap.size ≤ i) : Grows G a c :=
  ⟨k.os.trans h.os, k.tape.trans h.tape, k.output.trans h.output, Nat.le_trans h.size k.size, fun i hi hn =>
    (k.block i (Nat.lt_of_lt_of_le hi h.size) (fun hf => (hF i hf).elim hn (fun h => by omega))).trans (h.block i hi (fun he => hn (hE i he)))⟩
theorem Grows.below {E : Nat → Prop} {a b c : World} (h : Grows E a b) (k : Below a.heap.size b c) : Grows E a c :=
  ⟨k.os.trans h.os, k.tape.trans h.tape, k.output.trans h.output, Nat.le_trans h.size k.size, fun i hi hn => (k.block i hi).trans (h.block i hi hn)⟩
abbrev MS := List (Nat × Obj)
def blks (m : MS) : List Nat := m.map Prod.fst
/-- The objects lie as told, and nothing is known of them elsewhere. -/
structure MOk (s : Hp) (m : MS) (w : World) : Prop where
  nd : (blks m).Nodup
  is : ∀ x ∈ m, w.heap[x.1]? = some x.2
  un : ∀ x ∈ m, ∀ o, s x.1 o = none
/-- The objects keep their numbers: each is where it was, or in a new place. -/
def PosB (m m' : MS) (w : World) : Prop := m.length ≤ m'.length ∧ ∀ (i : Nat) (x' : Nat × Obj), m'[i]? = some x' → (∃ x, m[i]? = some x ∧ x.1 = x'.1) ∨ w.heap.size ≤ x'.1
/-- The end of a call: it hands back a value; what was there is as it was, but the objects handed in; of the known cells none is lost, and new ones lie in new blocks; the value meets Q. -/
def Ret (Q : Value → Hp → MS → Prop) (s : Hp) (m : MS) (w : World) : Ending → World → Prop := fun e w' =>
  ∃ v s' m', e = .returned v ∧ Grows (· ∈ blks m) w w' ∧ s.le s' ∧ Sub s' w' ∧ New w.heap.size s s' ∧ PosB m m' w ∧ MOk s' m' w' ∧ Q v s' m'
/-- A contract. -/
def Ct (P : Program) (f : FuncId) (args : List Value) (s : Hp) (m : MS) (Q : Value → Hp → MS → Prop) : Prop :=
  ∀ w, Sub s w → MOk s m w → Calls P f args.toArray w (Ret Q s m w)
/-- The address v leads to known cells that hold the values, or to such of an object. -/
def Reads (s : Hp) (m : MS) (v : Value) (vals : List Value) : Prop :=
  ∃ b o, addrOf v = some ⟨b, o, none⟩ ∧ ((∀ j u, vals[j]? = some u → s b (o + j) = some u) ∨ ∃ cur T fr, (b, Obj.cells cur T fr) ∈ m ∧ ∀ j u, vals[j]? = some u → cur[o + j]? = some u)
/-- The cells of objects are told. -/
def Told (m : MS) (s : Hp) : Prop := ∀ x ∈ m, ∀ cur T fr, x.2 = .cells cur T fr → ∀ o u, cur[o]? = some u → s x.1 o = some u
def setC (l : List Value) (o : Nat) (new : List Value) : List Value := l.take o ++ new ++ l.drop (o + new.length)
def HShut (ρ : Env) (β : Nat → Nat) (H : List Blk) (s : Hp) : Prop :=
  ∀ k cs T, H[k]? = some (.cells cs T true) → ∀ o u, (SV.dens ρ β cs)[o]? = some u → s (β k) o = some u
def SrcIs (ρ : Env) (s : Hp) (size : Nat) (es : List (List Value)) : Src → Prop
  | .lit l => es = l.map (SV.dens ρ id)
  | .va n => SliceIn s size (ρ.v.getD n vd) es ∧ ∀ e ∈ es, ∀ u ∈ e, u.oneCell' = true
def DstIs (ρ : Env) (s : Hp) (size : Nat) (xs : List (List Value)) : Option Nat → Prop
  | none => xs = []
  | some n => SliceIn s size (ρ.v.getD n vd) xs
def loOf (ρ : Env) : Option IE → Int
  | some e => e.den ρ
  | none => 0
def hiOf (ρ : Env) : Option IE → Nat → Int
  | some e, _ => e.den ρ
  | none, n => n
/-- v'' is v' and one element more, in the same place. -/
def Ext (v' v'' : Value) (n : Nat) : Prop := ∃ b cap, v' = .slice (some ⟨b, 0, none⟩) n cap ∧ v'' = .slice (some ⟨b, 0, none⟩) (n + 1) cap ∧ n + 1 ≤ cap
section
variable (P : Program) (Q : Value → Hp → MS → Prop) (T : Cfg → Env → Hp → Prop)
/-- What a tree asks. -/
def VC : Out → Env → Hp → Prop
  | .ret gen v H, ρ, s => ∀ β s', s.le s' → HShut ρ β H s' → (gen = false → Told (ρ.m.drop ρ.k) s') → Q (v.den ρ β) s' (if gen then ρ.m else ρ.m.take ρ.k)
  | .ite c x y, ρ, s => (c.den ρ = true → VC x ρ s) ∧ (c.den ρ = false → VC y ρ s)
  | .need c k, ρ, s => c.den ρ = true ∧ (c.den ρ = true → VC k ρ s)
  | .load fl a cs di db dv k, ρ, s => ∃ is bs vs, is.length = di ∧ bs.length = db ∧ vs.length = dv ∧ vs.all fineV = true ∧
      Reads s (if fl then [] else ρ.m) (a.den ρ id) (SV.dens (ρ.push is bs vs) id cs) ∧ VC k (ρ.push is bs vs) s
  | .app d src size bytes k, ρ, s => ∃ xs es, DstIs ρ s size xs d ∧ SrcIs ρ s size es src ∧ (xs.length + es.length) * bytes ≤ 140737488355328 ∧ xs.length + es.length ≤ maxLen ∧
      ∀ v s', s.le s' → SliceIn s' size v (xs ++ es) → VC k (ρ.push [] [] [v]) s'
  | .cut n lo hi size k, ρ, s => ∃ xs, SliceIn s size (ρ.v.getD n vd) xs ∧ 0 ≤ loOf ρ lo ∧ loOf ρ lo ≤ hiOf ρ hi xs.length ∧ hiOf ρ hi xs.length ≤ xs.length ∧
      ∀ v, SliceIn s size v ((xs.take (hiOf ρ hi xs.length).toNat).drop (loOf ρ lo).toNat) → VC k (ρ.push [] [] [v]) s
  | .hole d size bytes k, ρ, s => ∃ xs, DstIs ρ s size xs d ∧ (xs.length + 1) * bytes ≤ 140737488355328 ∧ xs.length + 1 ≤ maxLen ∧
      ∀ v' v'' s', s.le s' → SliceIn s' size v' xs → Ext v' v'' xs.length → VC k (ρ.push [] [] [v', v'']) s'
  | .fill n i es size k, ρ, s => ∃ xs, SliceIn s size (ρ.v.getD (n - 1) vd) xs ∧ Ext (ρ.v.getD (n - 1) vd) (ρ.v.getD n vd) xs.length ∧ i.den ρ = xs.length ∧
      ∀ s', s.le s' → SliceIn s' size (ρ.v.getD n vd) (xs ++ [SV.dens ρ id es]) → VC k (ρ.push [] [] [ρ.v.getD n vd]) s'
  | .call f args H res di db dv k, ρ, s => ∀ β s1, s.le s1 → HShut ρ β H s1 → ∃ Qc, Ct P f (SV.dens ρ β args) s1 ρ.m Qc ∧
      ∀ v s' m', s1.le s' → Qc v s' m' → ∃ is bs vs, is.length = di ∧ bs.length = db ∧ vs.length = dv ∧ vs.all fineV = true ∧ v = res.den (ρ.push is bs vs) id ∧ VC k { ρ.push is bs vs with m := m' } s'
  | .callv n args res di db dv k, ρ, s => ∃ F caps Qc, ρ.v.getD n vd = .func (.func F) #[] caps ∧ (∀ args w, (callFunc F args).run P w = .ok (.enter F args) w) ∧ Ct P F (SV.dens ρ id args ++ caps.toList) s ρ.m Qc ∧
      ∀ v s' m', s.le s' → Qc v s' m' → ∃ is bs vs, is.length = di ∧ bs.length = db ∧ vs.length = dv ∧ vs.all fineV = true ∧ v = res.den (ρ.push is bs vs) id ∧ VC k { ρ.push is bs vs with m := m' } s'
  | .newM cs T k, ρ, s => ∀ b, b ∉ blks ρ.m → VC k { ρ.push [] [] [.pointer (some ⟨b, 0, none⟩)] with m := ρ.m ++ [(b, .cells (SV.dens ρ id cs).toArray T (0, 0))] } s
  | .mkM n zero T size bytes k, ρ, s => 0 ≤ n.den ρ ∧ n.den ρ * bytes ≤ 140737488355328 ∧ n.den ρ ≤ 9223372036854775807 ∧ ∀ b, b ∉ blks ρ.m →
      VC k { ρ.push [] [] [.slice (some ⟨b, 0, none⟩) (n.den ρ).toNat (n.den ρ).toNat] with m := ρ.m ++ [(b, .cells (madeCells (SV.dens ρ id zero).toArray ((n.den ρ).toNat * size)) T (0, 0))] } s
  | .storeM a cs k, ρ, s => ∃ (i b o : Nat) (cur : Array Value) (T : TypeId), ρ.m[i]? = some (b, .cells cur T (0, 0)) ∧ addrOf (a.den ρ id) = some ⟨b, o, none⟩ ∧ o + cs.length ≤ cur.size ∧
      VC k { ρ with m := ρ.m.set i (b, .cells (setC cur.toList o (SV.dens ρ id cs)).toArray T (0, 0)) } s
  | .appM d src size bytes T k, ρ, s => ∃ (i : Nat) (xs es : List (List Value)), (∀ x ∈ xs, x.length = size) ∧
      ((xs = [] ∧ i = ρ.m.length ∧ d.den ρ id = .slice none 0 0) ∨ ∃ (b cap : Nat) (cur : Array Value), d.den ρ id = .slice (some ⟨b, 0, none⟩) xs.length cap ∧ ρ.m[i]? = some (b, .cells cur T (0, 0)) ∧ xs.length ≤ cap ∧ cap ≤ maxLen ∧ cur.size = cap * size ∧
        ∀ (j : Nat) (u : Value), xs.flatten[j]? = some u → cur[j]? = some u) ∧
      SrcIs ρ s size es src ∧ (xs.length + es.length) * bytes ≤ 140737488355328 ∧ xs.length + es.length ≤ maxLen ∧ (es = [] → VC k (ρ.push [] [] [d.den ρ id]) s) ∧
      (es ≠ [] → ∀ (b' cap' : Nat) (cur' : Array Value), (b' ∈ blks ρ.m → ∃ o, ρ.m[i]? = some (b', o)) → xs.length + es.length ≤ cap' → cap' ≤ maxLen → cur'.size = cap' * size → (∀ (j : Nat) (u : Value), (xs ++ es).flatten[j]? = some u → cur'[j]? = some u) →
        VC k { ρ.push [] [] [.slice (some ⟨b', 0, none⟩) (xs.length + es.length) cap'] with m := if i < ρ.m.length then ρ.m.set i (b', .cells cur' T (0, 0)) else ρ.m ++ [(b', .cells cur' T (0, 0))] } s)
  | .both x y, ρ, s => VC x ρ s ∧ VC y ρ s
  | .stop c, ρ, s => T c ρ s
  | .fail _, _, _ => False
theorem VC_bothAll : ∀ (l : List Out) (ρ : Env) (s : Hp), VC P Q T (bothAll l) ρ s → l ≠ [] ∧ ∀ x ∈ l, VC P Q T x ρ s
  | [], ρ, s, h => h.elim
  | [x], ρ, s, h => ⟨by simp, fun y hy => by rw [List.mem_singleton.1 hy]; exact h⟩
  | x :: y :: l, ρ, s, h => by
    have h : VC P Q T x ρ s ∧ VC P Q T (bothAll (y :: l)) ρ s := h
    have ih := (VC_bothAll (y :: l) ρ s h.2).2
    exact ⟨by simp, fun z hz => by
      rcases List.mem_cons.1 hz with rfl | hz
      · exact h.1
      · exact ih z hz⟩
theorem VC_needs : ∀ (l : List BE) (k : Out) (ρ : Env) (s : Hp), VC P Q T (needs l k) ρ s → (∀ b ∈ l, b.den ρ = true) ∧ VC P Q T k ρ s
  | [], k, ρ, s, h => ⟨by simp, h⟩
  | b :: l, k, ρ, s, h => by
    have hh : (b.den ρ = true) ∧ VC P Q T (needs l k) ρ s := by
      unfold needs at h
      simp only [List.foldr_cons] at h
      split at h
      · exact ⟨rfl, h⟩
      · exact ⟨h.1, h.2 h.1⟩
    have ih := VC_needs l k ρ s hh.2
    exact ⟨fun x hx => by rcases List.mem_cons.1 hx with rfl | hx; exact hh.1; exact ih.1 x hx, ih.2⟩
end
/-- An own block, as the world has it. -/
def BOk (B : Nat) (s : Hp) (ρ : Env) (β : Nat → Nat) (w : World) (k : Nat) : Blk → Prop
  | .cells cs T shut => B ≤ β k ∧ w.heap[β k]? = some (.cells (SV.dens ρ β cs).toArray T (0, 0)) ∧
      (shut = false → ∀ o, s (β k) o = none) ∧ (shut = true → ∀ o u, (SV.dens ρ β cs)[o]? = some u → s (β k) o = some u)
  | .row n T size => 0 < size ∧ (ρ.v.getD n vd = .slice none 0 0 ∨ ∃ m cap cur, ρ.v.getD n vd = .slice (some ⟨β k, 0, none⟩) m cap ∧ B ≤ β k ∧
      w.heap[β k]? = some (.cells cur T (0, 0)) ∧ m ≤ cap ∧ cap ≤ maxLen ∧ cur.size = cap * size ∧ ∀ o u, s (β k) o = some u → o < m * size)
def act (ρ : Env) : Blk → Prop
  | .cells .. => True
  | .row n _ _ => ρ.v.getD n vd ≠ .slice none 0 0
/-- What stands around a frame: objects that lie as they lay; the slots of the frames below; the calls it has deferred. -/
def objNC : Obj → Bool
  | .cells .. => false
  | _ => true
structure Fx where
  K : Nat × Obj → Prop := fun _ => False
  /-- the objects handed in -/
  E : List Nat := []
  zs : List (Array Value) := []
  ds : List Deferred := []
  sz : Nat := 0
def markOf (D : Nat) : Deferred := { target := .collected D, args := #[] }
/-- Of a plain function that has gone through loops over functions: their marks. -/
def Xm (E : List Nat) (Ds : List Nat) : Fx := { K := fun x => x.1 ∈ Ds ∧ x.2 = .deferred (some []), ds := Ds.map markOf, E }
/-- The objects, as they stand to those handed in. -/
structure MRel (w0 : World) (X : Fx) (ρ : Env) : Prop where
  ek : X.E.length = ρ.k
  ck : ∀ (i : Nat) (x : Nat × Obj), i < ρ.k → ρ.m[i]? = some x → X.E[i]? = some x.1 ∨ w0.heap.size ≤ x.1
  kl : ρ.k ≤ ρ.m.length
  nd : (blks ρ.m).Nodup
  dk : ∀ x, X.K x → x.1 ∉ blks ρ.m
  nw : ∀ (i : Nat) (x : Nat × Obj), ρ.k ≤ i → ρ.m[i]? = some x → w0.heap.size ≤ x.1
theorem MRel.to {w0 : World} {X X' : Fx} {ρ ρ' : Env} (h : MRel w0 X ρ) (hm : ρ'.m = ρ.m) (hk : ρ'.k = ρ.k) (hE : X'.E = X.E) (hK : ∀ x, X'.K x → X.K x ∨ x.1 ∉ blks ρ.m) : MRel w0 X' ρ' :=
  ⟨by rw [hE, hk]; exact h.ek, by rw [hE, hm, hk]; exact h.ck, by rw [hm, hk]; exact h.kl, by rw [hm]; exact h.nd, fun x hx => by rw [hm]; exact (hK x hx).elim (h.dk x) id, by rw [hm, hk]; exact h.nw⟩
theorem MRel.env {w0 : World} {X : Fx} {ρ ρ' : Env} (h : MRel w0 X ρ) (hm : ρ'.m = ρ.m) (hk : ρ'.k = ρ.k) : MRel w0 X ρ' := h.to hm hk rfl (fun _ => .inl)
/-- An object that lies as it lay, and is none of the frame's own blocks nor known. -/
structure Kept (s : Hp) (ρ : Env) (β : Nat → Nat) (H : List Blk) (w : World) (x : Nat × Obj) : Prop where
  is : w.heap[x.1]? = some x.2
  own : ∀ (k : Nat) (b : Blk), H[k]? = some b → act ρ b → β k ≠ x.1
  un : ∀ o, s x.1 o = none
structure Rel (w0 : World) (s0 : Hp) (X : Fx) (ρ : Env) (s : Hp) (β : Nat → Nat) (g : Cfg) (a : Act) (w : World) : Prop where
  tm : a.tmps = (SV.dens ρ β g.sl).toArray
  df : a.defers = X.ds
  sz : X.sz ≤ w.heap.size
  kp : ∀ x, X.K x ∨ x ∈ ρ.m → Kept s ρ β g.H w x
  ms : MRel w0 X ρ
  fs : X.zs = g.fs.map fun l => (SV.dens ρ β l).toArray
  ci : ρ.i.length = g.ni
  cb : ρ.b.length = g.nb
  cv : ρ.v.length = g.nv
  cj : ρ.j.length = g.nj
  ok : ρ.Ok
  bel : Grows (· ∈ X.E) w0 w
  sb : Sub s w
  nw : New w0.heap.size s0 s
  le : s0.le s
  bl : ∀ k b, g.H[k]? = some b → BOk w0.heap.size s ρ β w k b
  sp : ∀ j k bj bk, j ≠ k → g.H[j]? = some bj → g.H[k]? = some bk → act ρ bj → act ρ bk → β j ≠ β k
theorem Rel.hok {w0 s0 X ρ s β g a w} (h : Rel w0 s0 X ρ s β g a w) : HOk ρ β g.H w := by
  intro k cs T hk
  unfold getBlk at hk
  split at hk
  · rename_i cs' T' sh hk'
    simp only [Option.some.injEq, Prod.mk.injEq] at hk
    obtain ⟨rfl, rfl⟩ := hk
    exact (h.bl _ _ hk').2.1
  · simp at hk
theorem Rel.lt {w0 s0 X ρ s β g a w} (h : Rel w0 s0 X ρ s β g a w) {k : Nat} {b : Blk} (hk : g.H[k]? = some b) (ha : act ρ b) : β k < w.heap.size := by
  have := h.bl k b hk
  have key : ∀ o, w.heap[β k]? = some o → β k < w.heap.size := fun o ho => by
    rcases Nat.lt_or_ge (β k) w.heap.size with h' | h'
    · exact h'
    · rw [Array.getElem?_eq_none h'] at ho; cases ho
  cases b with
  | cells cs T sh => exact key _ this.2.1
  | row n T size =>
    rcases this.2 with h1 | ⟨m, cap, cur, _, _, h3, _⟩
    · exact absurd h1 ha
    · exact key _ h3
theorem Sub.lt {s : Hp} {w : World} (h : Sub s w) {b o : Nat} {u : Value} (hb : s b o = some u) : b < w.heap.size := World.block_lt_of_cell? w ⟨b, o, none⟩ (h b o u hb)
end Go.Sx
