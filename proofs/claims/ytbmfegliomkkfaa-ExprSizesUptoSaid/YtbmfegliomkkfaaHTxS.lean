/- TX: plain values, and what they mean of the machine's. -/
import Derived.Test.YtbmfegliomkkfaaHTxR
import Derived.Test.YtbmfegliomkkfaaHTxO
set_option linter.unusedSimpArgs false
set_option linter.unusedVariables false
namespace Go.Sx
open Go.RowKit
/-- Plain values. sl: a slice that nobody writes any more, its elements each of n cells; cell: a pointer into such cells; ref, msl: a pointer, a slice into object number h. -/
inductive PV where
  | int (k : IntKind) (z : Int)
  | bool (b : Bool)
  | str (s : List UInt8)
  | undef
  | nilS | nilF | nilP | nilI
  | sl (n : Nat) (rows : List (List PV))
  | cell (l : List PV) (off : Nat)
  | ref (h off : Nat)
  | msl (h off len cap sz : Nat)
  | rsl (h len sz : Nat)
  | fn (f : Nat) (cap : List PV)
  | agg (l : List PV)
  | tup (l : List PV)
  deriving Inhabited
inductive MO where
  | cells (l : List PV) (T : Nat)
  | row (rows : List (List PV)) (sz T : Nat)
  deriving Inhabited
def PV.one : PV → Bool
  | .undef | .agg _ | .tup _ => false
  | _ => true
def PV.len : PV → Int
  | .sl _ rows => rows.length
  | .msl _ _ len _ _ => len
  | .rsl _ len _ => len
  | _ => 0
def PV.isNil : PV → Bool
  | .nilS | .nilF | .nilP => true
  | _ => false
/-- Whether it is known if it is nil. -/
def PV.nilOk : PV → Bool
  | .sl _ [] => false
  | _ => true
def PV.isKind : Nat → PV → Bool
  | 0, .nilS | 0, .sl .. | 0, .msl .. | 0, .rsl .. => true
  | 1, .cell .. | 1, .ref .. => true
  | 2, .fn .. | 2, .nilF => true
  | 3, .str _ => true
  | _, _ => false
/-- Where the objects are: block, cells, and how many elements (of a row). -/
abbrev Inf := List (Nat × Nat × Nat)
mutual
def Rep (s : Hp) (B : Inf) : PV → Value → Prop
  | .int k z, v => v = .int k z
  | .bool b, v => v = .bool b
  | .str t, v => v = .string ⟨t.toArray⟩
  | .undef, v => v = Go.undef
  | .nilS, v => v = .slice none 0 0
  | .nilF, v => v = .nilFunc
  | .nilP, v => v = .pointer none
  | .nilI, v => v = .nilIface
  | .sl n rows, v => ∃ xs, SliceIn s n v xs ∧ Repss s B rows xs ∧ ∀ r ∈ rows, ∀ p ∈ r, p.one = true
  | .cell l off, v => ∃ b base vs, v = .pointer (some ⟨b, base + off, none⟩) ∧ Reps s B l vs ∧ ∀ o u, vs[o]? = some u → s b (base + o) = some u
  | .ref h off, v => ∃ b n, B[h]? = some (b, n, 0) ∧ v = .pointer (some ⟨b, off, none⟩)
  | .msl h off len cap _, v => ∃ b n, B[h]? = some (b, n, 0) ∧ v = .slice (some ⟨b, off, none⟩) len cap
  | .rsl h len sz, v => 0 < len ∧ ∃ b cap, v = .slice (some ⟨b, 0, none⟩) len cap ∧ ∃ b' n r, B[h]? = some (b', n, r) ∧ len ≤ r ∧ (r = len → b' = b ∧ n = cap * sz ∧ len ≤ cap)
  | .fn f caps, v => ∃ vs, v = .func (.func f) #[] vs.toArray ∧ Reps s B caps vs
  | .agg l, v => ∃ vs, v = .agg vs.toArray ∧ Reps s B l vs
  | .tup l, v => ∃ vs, v = .tuple vs.toArray ∧ Reps s B l vs
def Reps (s : Hp) (B : Inf) : List PV → List Value → Prop
  | [], vs => vs = []
  | p :: l, vs => ∃ v r, vs = v :: r ∧ Rep s B p v ∧ Reps s B l r
def Repss (s : Hp) (B : Inf) : List (List PV) → List (List Value) → Prop
  | [], xs => xs = []
  | l :: ls, xs => ∃ x r, xs = x :: r ∧ Reps s B l x ∧ Repss s B ls r
end
def RepM (s : Hp) (B : Inf) : List MO → MS → Prop
  | [], m => m = []
  | .cells l T :: σ, m => ∃ b vs r, m = (b, .cells vs.toArray T (0, 0)) :: r ∧ Reps s B l vs ∧ RepM s B σ r
  | .row rows sz T :: σ, m => ∃ b cur r, m = (b, .cells cur T (0, 0)) :: r ∧ (rows ≠ [] ∧ 0 < sz ∧ (∃ cap, cur.size = cap * sz ∧ rows.length ≤ cap ∧ cap ≤ maxLen) ∧ (∀ r ∈ rows, ∀ p ∈ r, p.one = true) ∧
      ∃ xs, Repss s B rows xs ∧ (∀ x ∈ xs, x.length = sz) ∧ ∀ (j : Nat) (u : Value), xs.flatten[j]? = some u → cur[j]? = some u) ∧ RepM s B σ r
def objSize : Obj → Nat
  | .cells cur _ _ => cur.size
  | _ => 0
def infO : MO → Nat × Obj → Nat × Nat × Nat
  | .cells _ _, x => (x.1, objSize x.2, 0)
  | .row rows _ _, x => (x.1, objSize x.2, rows.length)
def inf (σ : List MO) (m : MS) : Inf := List.zipWith infO σ m
/-- Objects stay where they are, but rows that have grown. -/
def BLe (B B' : Inf) : Prop := ∀ (h : Nat) x, B[h]? = some x → ∃ x', B'[h]? = some x' ∧ (x' = x ∨ (1 ≤ x.2.2 ∧ x.2.2 < x'.2.2))
theorem BLe.refl (B : Inf) : BLe B B := fun _ x h => ⟨x, h, .inl rfl⟩
theorem BLe.trans {A B C : Inf} (h : BLe A B) (k : BLe B C) : BLe A C := fun i x hx => by
  obtain ⟨y, hy, h1⟩ := h i x hx
  obtain ⟨z, hz, h2⟩ := k i y hy
  refine ⟨z, hz, ?_⟩
  rcases h1 with rfl | h1
  · exact h2
  · rcases h2 with rfl | h2
    · exact .inr h1
    · exact .inr ⟨h1.1, by omega⟩
theorem BLe.pre {B B' : Inf} (h : B <+: B') : BLe B B' := fun i x hx => by
  obtain ⟨r, rfl⟩ := h
  exact ⟨x, by rw [List.getElem?_append_left (List.getElem?_eq_some_iff.1 hx).1]; exact hx, .inl rfl⟩
theorem pre_get {B B' : Inf} (h : BLe B B') {i b n : Nat} (hb : B[i]? = some (b, n, 0)) : B'[i]? = some (b, n, 0) := by
  obtain ⟨x, hx, h1⟩ := h i _ hb
  rcases h1 with rfl | h1
  · exact hx
  · simp at h1
mutual
theorem Rep.mono {s t : Hp} {B B' : Inf} (h : s.le t) (hB : BLe B B') : ∀ (p : PV) (v : Value), Rep s B p v → Rep t B' p v
  | .int .., v, k => k
  | .bool .., v, k => k
  | .str .., v, k => k
  | .undef, v, k => k
  | .nilS, v, k => k
  | .nilF, v, k => k
  | .nilP, v, k => k
  | .nilI, v, k => k
  | .sl n rows, v, k => by
    simp only [Rep] at k ⊢
    obtain ⟨xs, h1, h2, h3⟩ := k
    exact ⟨xs, h1.mono h, Repss.mono h hB rows xs h2, h3⟩
  | .cell l off, v, k => by
    simp only [Rep] at k ⊢
    obtain ⟨b, base, vs, h1, h2, h3⟩ := k
    exact ⟨b, base, vs, h1, Reps.mono h hB l vs h2, fun o u hu => h _ _ _ (h3 o u hu)⟩
  | .ref h' off, v, k => by
    simp only [Rep] at k ⊢
    obtain ⟨b, n, h1, h2⟩ := k
    exact ⟨b, n, pre_get hB h1, h2⟩
  | .msl h' off len cap _, v, k => by
    simp only [Rep] at k ⊢
    obtain ⟨b, n, h1, h2⟩ := k
    exact ⟨b, n, pre_get hB h1, h2⟩
  | .rsl h' len sz, v, k => by
    simp only [Rep] at k ⊢
    obtain ⟨h0, b, cap, h1, b', n, r, h2, h3, h4⟩ := k
    obtain ⟨⟨b2, n2, r2⟩, hx, h5⟩ := hB _ _ h2
    refine ⟨h0, b, cap, h1, b2, n2, r2, hx, ?_, ?_⟩
    · rcases h5 with h5 | h5
      · simp only [Prod.mk.injEq] at h5; omega
      · simp only at h5; omega
    · intro hr
      rcases h5 with h5 | h5
      · simp only [Prod.mk.injEq] at h5
        obtain ⟨rfl, rfl, rfl⟩ := h5
        exact h4 hr
      · simp only at h5; omega
  | .fn f caps, v, k => by
    simp only [Rep] at k ⊢
    obtain ⟨vs, h1, h2⟩ := k
    exact ⟨vs, h1, Reps.mono h hB caps vs h2⟩
  | .agg l, v, k => by
    simp only [Rep] at k ⊢
    obtain ⟨vs, h1, h2⟩ := k
    exact ⟨vs, h1, Reps.mono h hB l vs h2⟩
  | .tup l, v, k => by
    simp only [Rep] at k ⊢
    obtain ⟨vs, h1, h2⟩ := k
    exact ⟨vs, h1, Reps.mono h hB l vs h2⟩
theorem Reps.mono {s t : Hp} {B B' : Inf} (h : s.le t) (hB : BLe B B') : ∀ (l : List PV) (vs : List Value), Reps s B l vs → Reps t B' l vs
  | [], vs, k => k
  | p :: l, vs, k => by
    simp only [Reps] at k ⊢
    obtain ⟨v, r, h1, h2, h3⟩ := k
    exact ⟨v, r, h1, Rep.mono h hB p v h2, Reps.mono h hB l r h3⟩
theorem Repss.mono {s t : Hp} {B B' : Inf} (h : s.le t) (hB : BLe B B') : ∀ (ls : List (List PV)) (xs : List (List Value)), Repss s B ls xs → Repss t B' ls xs
  | [], xs, k => k
  | l :: ls, xs, k => by
    simp only [Repss] at k ⊢
    obtain ⟨x, r, h1, h2, h3⟩ := k
    exact ⟨x, r, h1, Reps.mono h hB l x h2, Repss.mono h hB ls r h3⟩
end
theorem RepM.mono {s t : Hp} {B B' : Inf} (h : s.le t) (hB : BLe B B') : ∀ (σ : List MO) (m : MS), RepM s B σ m → RepM t B' σ m
  | [], m, k => k
  | .cells l T :: σ, m, k => by
    simp only [RepM] at k ⊢
    obtain ⟨b, vs, r, h1, h2, h3⟩ := k
    exact ⟨b, vs, r, h1, Reps.mono h hB l vs h2, RepM.mono h hB σ r h3⟩
  | .row rows sz T :: σ, m, k => by
    simp only [RepM] at k ⊢
    obtain ⟨b, cur, r, h1, ⟨a1, a2, a3, a4, xs, a5, a6, a7⟩, h3⟩ := k
    exact ⟨b, cur, r, h1, ⟨a1, a2, a3, a4, xs, Repss.mono h hB rows xs a5, a6, a7⟩, RepM.mono h hB σ r h3⟩
section
variable {s : Hp} {B : Inf}
theorem Reps.length : ∀ {l : List PV} {vs : List Value}, Reps s B l vs → vs.length = l.length
  | [], vs, k => by simp only [Reps] at k; subst k; rfl
  | p :: l, vs, k => by
    simp only [Reps] at k
    obtain ⟨v, r, rfl, _, h⟩ := k
    simp [Reps.length h]
theorem Repss.length : ∀ {l : List (List PV)} {vs : List (List Value)}, Repss s B l vs → vs.length = l.length
  | [], vs, k => by simp only [Repss] at k; subst k; rfl
  | p :: l, vs, k => by
    simp only [Repss] at k
    obtain ⟨v, r, rfl, _, h⟩ := k
    simp [Repss.length h]
theorem Reps.get : ∀ {l : List PV} {vs : List Value}, Reps s B l vs → ∀ {i : Nat} {p : PV}, l[i]? = some p → ∃ v, vs[i]? = some v ∧ Rep s B p v
  | [], vs, k, i, p, h => by simp at h
  | q :: l, vs, k, i, p, h => by
    simp only [Reps] at k
    obtain ⟨v, r, rfl, h1, h2⟩ := k
    cases i with
    | zero => simp only [List.getElem?_cons_zero, Option.some.injEq] at h; subst h; exact ⟨v, rfl, h1⟩
    | succ i => simpa using Reps.get h2 (by simpa using h)
theorem Repss.get : ∀ {l : List (List PV)} {vs : List (List Value)}, Repss s B l vs → ∀ {i : Nat} {p : List PV}, l[i]? = some p → ∃ v, vs[i]? = some v ∧ Reps s B p v
  | [], vs, k, i, p, h => by simp at h
  | q :: l, vs, k, i, p, h => by
    simp only [Repss] at k
    obtain ⟨v, r, rfl, h1, h2⟩ := k
    cases i with
    | zero => simp only [List.getElem?_cons_zero, Option.some.injEq] at h; subst h; exact ⟨v, rfl, h1⟩
    | succ i => simpa using Repss.get h2 (by simpa using h)
theorem Reps.append : ∀ {l l' : List PV} {vs vs' : List Value}, Reps s B l vs → Reps s B l' vs' → Reps s B (l ++ l') (vs ++ vs')
  | [], l', vs, vs', h, h' => by simp only [Reps] at h; subst h; exact h'
  | p :: l, l', vs, vs', h, h' => by
    simp only [Reps] at h
    obtain ⟨v, r, rfl, h1, h2⟩ := h
    exact ⟨v, r ++ vs', rfl, h1, Reps.append h2 h'⟩
theorem Repss.append : ∀ {l l' : List (List PV)} {vs vs' : List (List Value)}, Repss s B l vs → Repss s B l' vs' → Repss s B (l ++ l') (vs ++ vs')
  | [], l', vs, vs', h, h' => by simp only [Repss] at h; subst h; exact h'
  | p :: l, l', vs, vs', h, h' => by
    simp only [Repss] at h
    obtain ⟨v, r, rfl, h1, h2⟩ := h
    exact ⟨v, r ++ vs', rfl, h1, Repss.append h2 h'⟩
theorem Reps.drop : ∀ {l : List PV} {vs : List Value} (n : Nat), Reps s B l vs → Reps s B (l.drop n) (vs.drop n)
  | l, vs, 0, h => by simpa using h
  | [], vs, n + 1, h => by simp only [Reps] at h; subst h; simp [Reps]
  | p :: l, vs, n + 1, h => by
    simp only [Reps] at h
    obtain ⟨v, r, rfl, _, h2⟩ := h
    simpa using Reps.drop n h2
theorem Reps.take : ∀ {l : List PV} {vs : List Value} (n : Nat), Reps s B l vs → Reps s B (l.take n) (vs.take n)
  | l, vs, 0, h => by simp [Reps]
  | [], vs, n + 1, h => by simp only [Reps] at h; subst h; simp [Reps]
  | p :: l, vs, n + 1, h => by
    simp only [Reps] at h
    obtain ⟨v, r, rfl, h1, h2⟩ := h
    simp only [List.take_succ_cons]
    exact ⟨v, _, rfl, h1, Reps.take n h2⟩
theorem Repss.drop : ∀ {l : List (List PV)} {vs : List (List Value)} (n : Nat), Repss s B l vs → Repss s B (l.drop n) (vs.drop n)
  | l, vs, 0, h => by simpa using h
  | [], vs, n + 1, h => by simp only [Repss] at h; subst h; simp [Repss]
  | p :: l, vs, n + 1, h => by
    simp only [Repss] at h
    obtain ⟨v, r, rfl, _, h2⟩ := h
    simpa using Repss.drop n h2
theorem Repss.take : ∀ {l : List (List PV)} {vs : List (List Value)} (n : Nat), Repss s B l vs → Repss s B (l.take n) (vs.take n)
  | l, vs, 0, h => by simp [Repss]
  | [], vs, n + 1, h => by simp only [Repss] at h; subst h; simp [Repss]
  | p :: l, vs, n + 1, h => by
    simp only [Repss] at h
    obtain ⟨v, r, rfl, h1, h2⟩ := h
    simp only [List.take_succ_cons]
    exact ⟨v, _, rfl, h1, Repss.take n h2⟩
theorem RepM.length : ∀ {σ : List MO} {m : MS}, RepM s B σ m → m.length = σ.length
  | [], m, k => by simp only [RepM] at k; subst k; rfl
  | .cells l T :: σ, m, k => by
    simp only [RepM] at k
    obtain ⟨b, vs, r, rfl, _, h⟩ := k
    simp [RepM.length h]
  | .row rows sz T :: σ, m, k => by
    simp only [RepM] at k
    obtain ⟨b, vs, r, rfl, _, h⟩ := k
    simp [RepM.length h]
theorem inf_get {σ : List MO} {m : MS} {i : Nat} {o : MO} {x : Nat × Obj} (h : σ[i]? = some o) (k : m[i]? = some x) : (inf σ m)[i]? = some (infO o x) := by
  simp [inf, List.getElem?_zipWith, h, k]
theorem inf_length {σ : List MO} {m : MS} (h : RepM s B σ m) : (inf σ m).length = σ.length := by simp [inf, h.length]
theorem inf_take (σ : List MO) (m : MS) (n : Nat) : inf (σ.take n) (m.take n) = (inf σ m).take n := by simp [inf, List.take_zipWith]
/-- What an object is. -/
def ObjIs (s : Hp) (B : Inf) : MO → Nat × Obj → Prop
  | .cells l T, x => ∃ vs, x.2 = .cells vs.toArray T (0, 0) ∧ Reps s B l vs
  | .row rows sz T, x => ∃ cur, x.2 = .cells cur T (0, 0) ∧ rows ≠ [] ∧ 0 < sz ∧ (∃ cap, cur.size = cap * sz ∧ rows.length ≤ cap ∧ cap ≤ maxLen) ∧ (∀ r ∈ rows, ∀ p ∈ r, p.one = true) ∧
      ∃ xs, Repss s B rows xs ∧ (∀ x ∈ xs, x.length = sz) ∧ ∀ (j : Nat) (u : Value), xs.flatten[j]? = some u → cur[j]? = some u
theorem repM_cons {o : MO} {σ : List MO} {m : MS} : RepM s B (o :: σ) m ↔ ∃ x r, m = x :: r ∧ ObjIs s B o x ∧ RepM s B σ r := by
  cases o with
  | cells l T =>
    simp only [RepM, ObjIs]
    constructor
    · rintro ⟨b, vs, r, rfl, h, k⟩; exact ⟨_, r, rfl, ⟨vs, rfl, h⟩, k⟩
    · rintro ⟨⟨b, o⟩, r, rfl, ⟨vs, h0, h⟩, k⟩; simp only at h0; subst h0; exact ⟨b, vs, r, rfl, h, k⟩
  | row rows sz T =>
    simp only [RepM, ObjIs]
    constructor
    · rintro ⟨b, cur, r, rfl, h, k⟩; exact ⟨_, r, rfl, ⟨cur, rfl, h⟩, k⟩
    · rintro ⟨⟨b, o⟩, r, rfl, ⟨cur, h0, h⟩, k⟩; simp only at h0; subst h0; exact ⟨b, cur, r, rfl, h, k⟩
theorem RepM.obj : ∀ {σ : List MO} {m : MS}, RepM s B σ m → ∀ {i : Nat} {o : MO}, σ[i]? = some o → ∃ x, m[i]? = some x ∧ ObjIs s B o x
  | [], m, k, i, o, h => by simp at h
  | o' :: σ, m, k, i, o, h => by
    obtain ⟨x, r, rfl, h1, h2⟩ := repM_cons.1 k
    cases i with
    | zero => simp only [List.getElem?_cons_zero, Option.some.injEq] at h; subst h; exact ⟨x, rfl, h1⟩
    | succ i => simpa using RepM.obj h2 (by simpa using h)
theorem RepM.get {σ : List MO} {m : MS} (k : RepM s B σ m) {i : Nat} {l : List PV} {T : Nat} (h : σ[i]? = some (.cells l T)) : ∃ b vs, m[i]? = some (b, .cells vs.toArray T (0, 0)) ∧ Reps s B l vs := by
  obtain ⟨⟨b, o⟩, h1, vs, h2, h3⟩ := k.obj h
  simp only at h2; subst h2
  exact ⟨b, vs, h1, h3⟩
theorem RepM.append : ∀ {σ σ' : List MO} {m m' : MS}, RepM s B σ m → RepM s B σ' m' → RepM s B (σ ++ σ') (m ++ m')
  | [], σ', m, m', h, h' => by simp only [RepM] at h; subst h; exact h'
  | o :: σ, σ', m, m', h, h' => by
    obtain ⟨x, r, rfl, h1, h2⟩ := repM_cons.1 h
    exact repM_cons.2 ⟨x, r ++ m', rfl, h1, RepM.append h2 h'⟩
theorem RepM.take : ∀ {σ : List MO} {m : MS} (n : Nat), RepM s B σ m → RepM s B (σ.take n) (m.take n)
  | σ, m, 0, h => by simp [RepM]
  | [], m, n + 1, h => by simp only [RepM] at h; subst h; simp [RepM]
  | o :: σ, m, n + 1, h => by
    obtain ⟨x, r, rfl, h1, h2⟩ := repM_cons.1 h
    simp only [List.take_succ_cons]
    exact repM_cons.2 ⟨x, _, rfl, h1, RepM.take n h2⟩
theorem RepM.set : ∀ {σ : List MO} {m : MS} {i : Nat} {o : MO} {x : Nat × Obj}, RepM s B σ m → i < σ.length → ObjIs s B o x → RepM s B (σ.set i o) (m.set i x)
  | [], m, i, o, x, k, h, _ => by simp at h
  | o' :: σ, m, i, o, x, k, h, h' => by
    obtain ⟨y, r, rfl, h1, h2⟩ := repM_cons.1 k
    cases i with
    | zero => exact repM_cons.2 ⟨x, r, rfl, h', h2⟩
    | succ i => exact repM_cons.2 ⟨y, _, rfl, h1, RepM.set h2 (by simpa using h) h'⟩
theorem ObjIs.mono {s t : Hp} {B B' : Inf} (h : s.le t) (hB : BLe B B') {o : MO} {x : Nat × Obj} (k : ObjIs s B o x) : ObjIs t B' o x := by
  cases o with
  | cells l T => obtain ⟨vs, h1, h2⟩ := k; exact ⟨vs, h1, Reps.mono h hB l vs h2⟩
  | row rows sz T => obtain ⟨cur, h1, a1, a2, a3, a4, xs, a5, a6, a7⟩ := k; exact ⟨cur, h1, a1, a2, a3, a4, xs, Repss.mono h hB rows xs a5, a6, a7⟩
theorem Rep.fine {p : PV} {v : Value} (h : Rep s B p v) (h1 : p.one = true) : fineV v = true := by
  cases p <;> simp only [PV.one] at h1 <;> simp only [Rep] at h
  case sl => obtain ⟨_, h, _⟩ := h; exact h.fine
  case cell => obtain ⟨_, _, _, rfl, _⟩ := h; rfl
  case ref => obtain ⟨_, _, _, rfl⟩ := h; rfl
  case msl => obtain ⟨_, _, _, rfl⟩ := h; rfl
  case rsl => obtain ⟨_, _, _, rfl, _⟩ := h; rfl
  case fn => obtain ⟨_, rfl, _⟩ := h; rfl
  all_goals first | (subst h; rfl) | cases h1
theorem Rep.len {p : PV} {v : Value} (h : Rep s B p v) : sliceLen v = p.len := by
  cases p <;> simp only [Rep] at h
  case sl => obtain ⟨_, h, h', _⟩ := h; rw [h.len, h'.length]; rfl
  case cell => obtain ⟨_, _, _, rfl, _⟩ := h; rfl
  case ref => obtain ⟨_, _, _, rfl⟩ := h; rfl
  case msl => obtain ⟨_, _, _, rfl⟩ := h; rfl
  case rsl => obtain ⟨_, _, _, rfl, _⟩ := h; rfl
  case fn => obtain ⟨_, rfl, _⟩ := h; rfl
  case agg => obtain ⟨_, rfl, _⟩ := h; rfl
  case tup => obtain ⟨_, rfl, _⟩ := h; rfl
  all_goals (subst h; rfl)
theorem Rep.nil {p : PV} {v : Value} (h : Rep s B p v) (hn : p.nilOk = true) : isNilV v = p.isNil := by
  cases p <;> simp only [Rep] at h
  case sl n rows =>
    obtain ⟨xs, ⟨_, a, cap, rfl, _, h⟩, h', _⟩ := h
    cases rows with
    | nil => simp [PV.nilOk] at hn
    | cons r rows =>
      obtain ⟨b, o, rfl, _⟩ := h (by intro h0; subst h0; have := h'.length; simp at this)
      rfl
  case cell => obtain ⟨_, _, _, rfl, _⟩ := h; rfl
  case ref => obtain ⟨_, _, _, rfl⟩ := h; rfl
  case msl => obtain ⟨_, _, _, rfl⟩ := h; rfl
  case rsl => obtain ⟨_, _, _, rfl, _⟩ := h; rfl
  case fn => obtain ⟨_, rfl, _⟩ := h; rfl
  case agg => obtain ⟨_, rfl, _⟩ := h; rfl
  case tup => obtain ⟨_, rfl, _⟩ := h; rfl
  all_goals (subst h; rfl)
theorem Rep.kind {p : PV} {v : Value} (h : Rep s B p v) (k : Nat) : isKindV k v = p.isKind k := by
  cases p <;> simp only [Rep] at h
  case sl n rows =>
    obtain ⟨xs, ⟨_, a, cap, rfl, _, h⟩, h', _⟩ := h
    match k with | 0 => rfl | 1 => rfl | 2 => rfl | 3 => rfl | k + 4 => rfl
  case cell => obtain ⟨_, _, _, rfl, _⟩ := h; match k with | 0 => rfl | 1 => rfl | 2 => rfl | 3 => rfl | k + 4 => rfl
  case ref => obtain ⟨_, _, _, rfl⟩ := h; match k with | 0 => rfl | 1 => rfl | 2 => rfl | 3 => rfl | k + 4 => rfl
  case msl => obtain ⟨_, _, _, rfl⟩ := h; match k with | 0 => rfl | 1 => rfl | 2 => rfl | 3 => rfl | k + 4 => rfl
  case rsl => obtain ⟨_, _, _, rfl, _⟩ := h; match k with | 0 => rfl | 1 => rfl | 2 => rfl | 3 => rfl | k + 4 => rfl
  case fn => obtain ⟨_, rfl, _⟩ := h; match k with | 0 => rfl | 1 => rfl | 2 => rfl | 3 => rfl | k + 4 => rfl
  case agg => obtain ⟨_, rfl, _⟩ := h; match k with | 0 => rfl | 1 => rfl | 2 => rfl | 3 => rfl | k + 4 => rfl
  case tup => obtain ⟨_, rfl, _⟩ := h; match k with | 0 => rfl | 1 => rfl | 2 => rfl | 3 => rfl | k + 4 => rfl
  all_goals (subst h; match k with | 0 => rfl | 1 => rfl | 2 => rfl | 3 => rfl | k + 4 => rfl)
end
end Go.Sx
