/- TX: what comes in, as plain values; what a law's trees compute, as its contract. -/
import Derived.Test.YtbmfegliomkkfaaHTxY
import Derived.Test.YtbmfegliomkkfaaHTxO
import Derived.Below
set_option linter.unusedSimpArgs false
set_option linter.unusedVariables false
namespace Go.Sx
open Go.RowKit Go.ChangeShapes Go.WideShapes
/-- The plain values are of these types, one after another. -/
def Shapeds (sh : TypeId → List PV → Prop) : List TypeId → List PV → Prop
  | [], ps => ps = []
  | t :: ts, ps => ∃ a b, ps = a ++ b ∧ sh t a ∧ Shapeds sh ts b
def Shaped (P : Program) : Nat → TypeId → List PV → Prop
  | 0, _, _ => False
  | n + 1, t, ps => match P.underlying t with
    | some .bool => ∃ b, ps = [.bool b]
    | some (.int k) => ∃ z, ps = [.int k z] ∧ loI k ≤ z ∧ z ≤ hiI k
    | some .string => ∃ s, ps = [.str s]
    | some (.struct fs) => Shapeds (Shaped P n) (fs.toList.map (·.type)) ps
    | some (.array m e) => Shapeds (Shaped P n) (List.replicate m e) ps
    | some (.slice e) => ∃ rows, ps = [.sl (P.cellsOf e) rows] ∧ ∀ r ∈ rows, Shaped P n e r
    | _ => False
mutual
def PV.wt : PV → Nat
  | .sl _ rows => PV.wtss rows + 1
  | .str s => s.length + 1
  | _ => 1
def PV.wts : List PV → Nat
  | [] => 0
  | p :: l => p.wt + PV.wts l
def PV.wtss : List (List PV) → Nat
  | [] => 0
  | l :: ls => PV.wts l + PV.wtss ls
end
theorem PV.wts_append : ∀ (l m : List PV), PV.wts (l ++ m) = PV.wts l + PV.wts m
  | [], m => by simp [PV.wts]
  | p :: l, m => by simp only [List.cons_append, PV.wts, PV.wts_append l m]; omega
mutual
def bulk {H : Type} : DataW H → Nat
  | .lit (.string bytes) => bytes.length + 1
  | .lit _ => 1
  | .nil => 1
  | .ptr d => bulk d + 1
  | .slice elems spare => bulks elems + bulks spare + 1
  | .agg parts => bulks parts + 1
  | .iface _ d => bulk d + 1
  | .map entries => bulkEs entries + 1
  | .held _ => 1
def bulks {H : Type} : List (DataW H) → Nat
  | [] => 0
  | d :: r => bulk d + bulks r
def bulkEs {H : Type} : List (Lit × DataW H) → Nat
  | [] => 0
  | x :: r => bulkE x + bulkEs r
def bulkE {H : Type} : Lit × DataW H → Nat
  | (.string bytes, d) => bytes.length + bulk d + 1
  | (_, d) => bulk d + 1
end
def fieldsAt (P : Program) : Nat → List Field → Option Nat
  | o, [] => some o
  | o, f :: fs => if f.offset = o then fieldsAt P (o + P.cellsOf f.type) fs else none
def closedT (P : Program) (S : List TypeId) (t : TypeId) : Bool := match P.underlying t with
  | some .bool | some (.int _) | some .string => true
  | some (.struct fs) => fs.toList.all (fun f => S.contains f.type) && fieldsAt P 0 fs.toList == some (P.cellsOf t)
  | some (.array m e) => S.contains e && P.cellsOf t == m * P.cellsOf e
  | some (.slice e) => S.contains e && decide (0 < P.cellsOf e)
  | _ => false
def closed (P : Program) (S : List TypeId) : Bool := S.all (closedT P S)
theorem fieldsAt_le {P : Program} : ∀ (fs : List Field) (o : Nat) {tot}, fieldsAt P o fs = some tot → o ≤ tot
  | [], o, tot, h => by simp only [fieldsAt, Option.some.injEq] at h; omega
  | f :: fs, o, tot, h => by
    simp only [fieldsAt] at h
    split at h
    · have := fieldsAt_le fs _ h; omega
    · cases h
section
variable {H : Type} {enc : TypeId × Value → H} {P : Program} {w : World} {spare : Nat → Bool} {held : Bool}
def Opened (P : Program) (w : World) (m : Nat) (t : TypeId) (cs : List Value) (d : DataW H) (ps : List PV) : Prop :=
  Reps (hpOf w) [] ps cs ∧ Shaped P m t ps ∧ (∀ p ∈ ps, p.one = true) ∧ PV.wts ps ≤ bulk d
theorem open_fields {S : List TypeId} {m : Nat} (ih : ∀ t cs (x : DataW H × List MemPlace), t ∈ S → DataW.trod enc P w 0 spare held m t cs = some x → ∃ ps, Opened P w m t cs x.1 ps) :
    ∀ (fs : List Field) (o : Nat) (A cs : List Value) (xs : List (DataW H × List MemPlace)) (tot : Nat), (∀ f ∈ fs, f.type ∈ S) → fieldsAt P o fs = some tot → A.length = o → (A ++ cs).length = tot → xs.length = fs.length →
      (∀ (j : Nat) f, fs[j]? = some f → DataW.trod enc P w 0 spare held m f.type (((A ++ cs).drop f.offset).take (P.cellsOf f.type)) = xs[j]?) →
      ∃ ps, Reps (hpOf w) [] ps cs ∧ Shapeds (Shaped P m) (fs.map (·.type)) ps ∧ (∀ p ∈ ps, p.one = true) ∧ PV.wts ps ≤ bulks (xs.map (·.1))
  | [], o, A, cs, xs, tot, _, ht, hA, hl, hx, _ => by
    simp only [fieldsAt, Option.some.injEq] at ht
    rw [List.length_append] at hl
    have : cs = [] := List.eq_nil_of_length_eq_zero (by omega)
    subst this
    have : xs = [] := List.eq_nil_of_length_eq_zero (by simpa using hx)
    subst this
    exact ⟨[], rfl, rfl, by simp, by simp [PV.wts]⟩
  | f :: fs, o, A, cs, xs, tot, hS, ht, hA, hl, hx, hi => by
    simp only [fieldsAt] at ht
    split at ht
    case isFalse => cases ht
    rename_i ho
    have hle := fieldsAt_le _ _ ht
    have hl' := hl
    rw [List.length_append] at hl'
    match xs, hx with
    | y :: xs, hx =>
    have h0 := hi 0 f rfl
    rw [ho, ← hA, List.drop_left] at h0
    obtain ⟨ps0, a1, a2, a3, a4⟩ := ih _ _ _ (hS f (by simp)) h0
    have hcl : (cs.take (P.cellsOf f.type)).length = P.cellsOf f.type := by rw [List.length_take]; omega
    obtain ⟨ps, b1, b2, b3, b4⟩ := open_fields ih fs (o + P.cellsOf f.type) (A ++ cs.take (P.cellsOf f.type)) (cs.drop (P.cellsOf f.type)) xs tot (fun g hg => hS g (by simp [hg])) ht
      (by rw [List.length_append, hcl, hA]) (by rw [List.append_assoc, List.take_append_drop]; exact hl) (by simpa using hx) (fun j g hg => by
        rw [List.append_assoc, List.take_append_drop]
        have := hi (j + 1) g (by simpa using hg)
        simpa using this)
    refine ⟨ps0 ++ ps, ?_, ⟨ps0, ps, rfl, a2, b2⟩, ?_, ?_⟩
    · have := Reps.append a1 b1
      rwa [List.take_append_drop] at this
    · intro p hp
      rcases List.mem_append.1 hp with hp | hp
      · exact a3 p hp
      · exact b3 p hp
    · rw [PV.wts_append]; simp only [List.map_cons, bulks]; omega
theorem open_items {S : List TypeId} {m : Nat} {e : TypeId} (he : e ∈ S) (ih : ∀ t cs (x : DataW H × List MemPlace), t ∈ S → DataW.trod enc P w 0 spare held m t cs = some x → ∃ ps, Opened P w m t cs x.1 ps) :
    ∀ (n : Nat) (cs : List Value) (xs : List (DataW H × List MemPlace)), cs.length = n * P.cellsOf e → xs.length = n →
      (∀ i, i < n → DataW.trod enc P w 0 spare held m e ((cs.drop (i * P.cellsOf e)).take (P.cellsOf e)) = xs[i]?) →
      ∃ ps, Reps (hpOf w) [] ps cs ∧ Shapeds (Shaped P m) (List.replicate n e) ps ∧ (∀ p ∈ ps, p.one = true) ∧ PV.wts ps ≤ bulks (xs.map (·.1))
  | 0, cs, xs, hl, hx, _ => by
    have : cs = [] := List.eq_nil_of_length_eq_zero (by omega)
    subst this
    have : xs = [] := List.eq_nil_of_length_eq_zero hx
    subst this
    exact ⟨[], rfl, rfl, by simp, by simp [PV.wts]⟩
  | n + 1, cs, xs, hl, hx, hi => by
    rw [Nat.add_mul, Nat.one_mul] at hl
    match xs, hx with
    | y :: xs, hx =>
    have h0 := hi 0 (by omega)
    rw [Nat.zero_mul, List.drop_zero] at h0
    obtain ⟨ps0, a1, a2, a3, a4⟩ := ih _ _ _ he h0
    obtain ⟨ps, b1, b2, b3, b4⟩ := open_items he ih n (cs.drop (P.cellsOf e)) xs (by rw [List.length_drop]; omega) (by simpa using hx) (fun i hi' => by
        have := hi (i + 1) (by omega)
        rw [Nat.add_mul, Nat.one_mul, Nat.add_comm] at this
        rw [List.drop_drop]
        simpa using this)
    refine ⟨ps0 ++ ps, ?_, ⟨ps0, ps, rfl, a2, b2⟩, ?_, ?_⟩
    · have := Reps.append a1 b1
      rwa [List.take_append_drop] at this
    · intro p hp
      rcases List.mem_append.1 hp with hp | hp
      · exact a3 p hp
      · exact b3 p hp
    · rw [PV.wts_append]; simp only [List.map_cons, bulks]; omega
theorem repss_of {s : Hp} {B : Inf} : ∀ (zs : List (List Value × List PV)), (∀ z ∈ zs, Reps s B z.2 z.1) → Repss s B (zs.map (·.2)) (zs.map (·.1))
  | [], _ => rfl
  | z :: zs, h => ⟨z.1, zs.map (·.1), rfl, h z (by simp), repss_of zs (fun y hy => h y (by simp [hy]))⟩
theorem wtss_of : ∀ (zs : List (List Value × List PV)) (ys : List (DataW H × List MemPlace)), zs.length = ys.length → (∀ (i : Nat) z y, zs[i]? = some z → ys[i]? = some y → PV.wts z.2 ≤ bulk y.1) → PV.wtss (zs.map (·.2)) ≤ bulks (ys.map (·.1))
  | [], _, _, _ => by simp [PV.wtss]
  | z :: zs, [], h, _ => by simp at h
  | z :: zs, y :: ys, h, hi => by
    have h0 := hi 0 z y rfl rfl
    have := wtss_of zs ys (by simpa using h) (fun i z y hz hy => hi (i + 1) z y (by simpa using hz) (by simpa using hy))
    simp only [List.map_cons, PV.wtss, bulks]; omega
theorem open_rows {S : List TypeId} {m : Nat} {t e : TypeId} (hu : P.underlying t = some (.slice e)) (he : e ∈ S) (hpos : 0 < P.cellsOf e) (ih : ∀ t cs (x : DataW H × List MemPlace), t ∈ S → DataW.trod enc P w 0 spare held m t cs = some x → ∃ ps, Opened P w m t cs x.1 ps)
    {cs : List Value} {x : DataW H × List MemPlace} (h : DataW.trod enc P w 0 spare held (m + 1) t cs = some x) : ∃ ps, Opened P w (m + 1) t cs x.1 ps := by
  unfold DataW.trod at h
  rw [hu] at h
  cases cs with
  | nil => simp at h
  | cons v cs =>
  cases cs with
  | cons _ _ => cases v <;> simp at h
  | nil =>
  cases v <;> try (simp at h; done)
  rename_i a len cap
  cases a with
  | none =>
    cases len <;> cases cap <;> simp at h
    subst h
    refine ⟨[.sl (P.cellsOf e) []], ⟨_, [], rfl, ⟨[], ⟨by simp, none, 0, rfl, by simp, by simp⟩, rfl, by simp⟩, rfl⟩, ?_, by simp [PV.one], by simp [PV.wts, PV.wt, PV.wtss, bulk]⟩
    simp only [Shaped, hu]
    exact ⟨[], rfl, by simp⟩
  | some a =>
    simp only at h
    split at h
    case isFalse => simp at h
    rename_i hcond
    simp only [Option.bind_eq_some_iff, Option.map_eq_some_iff] at h
    obtain ⟨elems, hel, rest, _, rfl⟩ := h
    obtain ⟨h1, h2⟩ := mapM_opt hel
    have key : ∀ i, i < len → ∃ z : List Value × List PV, z.1.length = P.cellsOf e ∧ (∀ j u, z.1[j]? = some u → w.cell? ((a.add (i * P.cellsOf e)).add j) = some u) ∧ ∃ y, elems[i]? = some y ∧ Opened P w m e z.1 y.1 z.2 := by
      intro i hi
      obtain ⟨y, hy1, hy2⟩ := h2 i i (by simp [hi])
      simp only [Option.bind_eq_some_iff] at hy2
      obtain ⟨cs, hcs, htr⟩ := hy2
      obtain ⟨ps, hps⟩ := ih _ _ _ he htr
      unfold World.cells? at hcs
      split at hcs
      case isFalse => simp at hcs
      obtain ⟨c1, c2⟩ := mapM_opt hcs
      refine ⟨(cs, ps), by simp only; rw [c1]; simp, fun j u hj => ?_, y, hy1, hps⟩
      have hjl : j < P.cellsOf e := by
        have := (List.getElem?_eq_some_iff.1 hj).1
        simp only at this
        rw [c1] at this; simpa using this
      obtain ⟨y', hy', hc'⟩ := c2 j j (by simp [hjl])
      simp only at hj
      rw [hj] at hy'
      simp only [Option.some.injEq] at hy'; subst hy'
      exact hc'
    obtain ⟨zs, e1, e2⟩ := list_of len key
    have hmem : ∀ z ∈ zs, ∃ y : DataW H × List MemPlace, Opened P w m e z.1 y.1 z.2 := fun z hz => by
      obtain ⟨i, hi⟩ := List.mem_iff_getElem?.1 hz
      obtain ⟨_, _, y, _, hy⟩ := e2 i z hi
      exact ⟨y, hy⟩
    refine ⟨[.sl (P.cellsOf e) (zs.map (·.2))], ⟨_, [], rfl, ⟨zs.map (·.1), ⟨?_, some a, cap, by simp [e1], by simp [e1, hcond.2.1], fun hne => ?_⟩, repss_of zs (fun z hz => ?_), ?_⟩, rfl⟩, ?_, by simp [PV.one], ?_⟩
    · intro x hx
      obtain ⟨z, hz, rfl⟩ := List.mem_map.1 hx
      obtain ⟨i, hi⟩ := List.mem_iff_getElem?.1 hz
      exact (e2 i z hi).1
    · have hsp : a.spot = none := by
        cases zs with
        | nil => simp at hne
        | cons z zs =>
          obtain ⟨hl, hcell, _⟩ := e2 0 z rfl
          have := hcell 0 (z.1[0]'(by omega)) (List.getElem?_eq_getElem (by omega))
          have h3 : (a.add (0 * P.cellsOf e)).add 0 = a := by simp [Addr.add]
          rw [h3] at this
          exact World.cell?_spot this
      obtain ⟨b, o, sp⟩ := a
      simp only at hsp; subst hsp
      refine ⟨b, o, rfl, fun i y hy j u hj => ?_⟩
      rw [List.getElem?_map, Option.map_eq_some_iff] at hy
      obtain ⟨z, hz, rfl⟩ := hy
      exact cell_add (a := ⟨b, o, none⟩) rfl ((e2 i z hz).2.1 j u hj)
    · obtain ⟨y, hy⟩ := hmem z hz
      exact hy.1
    · intro r hr
      obtain ⟨z, hz, rfl⟩ := List.mem_map.1 hr
      obtain ⟨y, hy⟩ := hmem z hz
      exact hy.2.2.1
    · simp only [Shaped, hu]
      refine ⟨_, rfl, fun r hr => ?_⟩
      obtain ⟨z, hz, rfl⟩ := List.mem_map.1 hr
      obtain ⟨y, hy⟩ := hmem z hz
      exact hy.2.1
    · have := wtss_of zs elems (by rw [e1, h1]; simp) (fun i z y hz hy => by
        obtain ⟨_, _, y', hy', ho⟩ := e2 i z hz
        rw [hy] at hy'
        simp only [Option.some.injEq] at hy'; subst hy'
        exact ho.2.2.2)
      simp only [PV.wts, PV.wt, bulk]; omega
theorem open_pv {S : List TypeId} (hS : closed P S = true) : ∀ (m : Nat) (t : TypeId) (cs : List Value) (x : DataW H × List MemPlace), t ∈ S → DataW.trod enc P w 0 spare held m t cs = some x → ∃ ps, Opened P w m t cs x.1 ps
  | 0, t, cs, x, _, h => by simp [DataW.trod] at h
  | m + 1, t, cs, x, ht, h => by
    have ih := fun t cs x => open_pv hS m t cs x
    have hc := List.all_eq_true.1 hS t ht
    unfold closedT at hc
    split at hc
    · rename_i hu
      unfold DataW.trod at h
      rw [hu] at h
      cases cs with
      | nil => simp at h
      | cons v cs =>
      cases cs with
      | cons _ _ => cases v <;> simp at h
      | nil =>
      cases v <;> try (simp at h; done)
      simp only [Option.some.injEq] at h; subst h
      exact ⟨[.bool _], ⟨_, [], rfl, rfl, rfl⟩, by simp only [Shaped, hu]; exact ⟨_, rfl⟩, by simp [PV.one], by simp [PV.wts, PV.wt, bulk]⟩
    · rename_i k hu
      obtain ⟨n, rfl, rfl, hw⟩ := DataW.trod_int hu h
      exact ⟨[.int k n], ⟨_, [], rfl, rfl, rfl⟩, by simp only [Shaped, hu]; exact ⟨_, rfl, wf_rng hw⟩, by simp [PV.one], by simp [PV.wts, PV.wt, bulk]⟩
    · rename_i hu
      unfold DataW.trod at h
      rw [hu] at h
      cases cs with
      | nil => simp at h
      | cons v cs =>
      cases cs with
      | cons _ _ => cases v <;> simp at h
      | nil =>
      cases v <;> try (simp at h; done)
      rename_i s
      simp only at h
      split at h
      case isFalse => cases h
      simp only [Option.some.injEq] at h; subst h
      refine ⟨[.str s.data.toList], ⟨_, [], rfl, ?_, rfl⟩, by simp only [Shaped, hu]; exact ⟨_, rfl⟩, by simp [PV.one], by simp [PV.wts, PV.wt, bulk]⟩
      simp [Rep]
    · rename_i fs hu
      simp only [Bool.and_eq_true, List.all_eq_true, beq_iff_eq] at hc
      obtain ⟨xs, n, hn, rfl, hl, hx, hi⟩ := DataW.trod_struct hu h
      simp only [Nat.add_right_cancel_iff] at hn; subst hn
      obtain ⟨ps, a1, a2, a3, a4⟩ := open_fields ih fs.toList 0 [] cs xs _ (fun f hf => by simpa using hc.1 f hf) hc.2 rfl hl (by simpa using hx) (fun j f hj => by simpa using hi j f (by simpa using hj))
      exact ⟨ps, a1, by simp only [Shaped, hu]; exact a2, a3, by simp only [bulk]; omega⟩
    · rename_i n e hu
      simp only [Bool.and_eq_true, beq_iff_eq] at hc
      obtain ⟨xs, n', hn, rfl, hl, hx, hi⟩ := DataW.trod_array hu h
      simp only [Nat.add_right_cancel_iff] at hn; subst hn
      obtain ⟨ps, a1, a2, a3, a4⟩ := open_items (by simpa using hc.1) ih n cs xs (by rw [hl, hc.2]) hx hi
      exact ⟨ps, a1, by simp only [Shaped, hu]; exact a2, a3, by simp only [bulk]; omega⟩
    · rename_i e hu
      simp only [Bool.and_eq_true, decide_eq_true_eq] at hc
      exact open_rows hu (by simpa using hc.1) hc.2 ih h
    · cases hc
variable {r : Go.Reach} {b0 : Nat}
theorem okWide_arrZ {t e : TypeId} {n : Nat} {v : Value} (ht : P.underlying t = some (.array n e)) (h : Value.okWide P w r b0 t v) : ∃ cs : Array Value, v = .agg cs := by
  simp only [Value.okWide, ht] at h
  obtain ⟨cs, h1, _⟩ := h
  exact ⟨cs, h1⟩
theorem arg_agg {S : List TypeId} (hS : closed P S = true) {t : TypeId} (ht : t ∈ S) {v : Value} {d : DataW H} {pl : List MemPlace} (hv : ∃ cs : Array Value, v = .agg cs) (h : DataW.Trod enc P w 0 spare held t v d pl) :
    ∃ n ps, Rep (hpOf w) [] (.agg ps) v ∧ Shaped P n t ps ∧ PV.wts ps ≤ bulk d := by
  obtain ⟨cs, rfl⟩ := hv
  obtain ⟨fuel, h⟩ := h
  obtain ⟨ps, h1, h2, _, h4⟩ := open_pv hS fuel t _ _ ht h
  refine ⟨fuel, ps, ⟨cs.toList, by simp, ?_⟩, h2, h4⟩
  exact h1
theorem arg_struct {S : List TypeId} (hS : closed P S = true) {t : TypeId} (ht : t ∈ S) {fs : Array Field} (hu : P.underlying t = some (.struct fs)) {v : Value} {d : DataW H} {pl : List MemPlace} (hval : Value.okWide P w r b0 t v) (h : DataW.Trod enc P w 0 spare held t v d pl) :
    ∃ n ps, Rep (hpOf w) [] (.agg ps) v ∧ Shaped P n t ps ∧ PV.wts ps ≤ bulk d := arg_agg hS ht (by obtain ⟨cs, h, _⟩ := okWide_struct hu hval; exact ⟨cs, h⟩) h
theorem arg_array {S : List TypeId} (hS : closed P S = true) {t : TypeId} (ht : t ∈ S) {m : Nat} {e : TypeId} (hu : P.underlying t = some (.array m e)) {v : Value} {d : DataW H} {pl : List MemPlace} (hval : Value.okWide P w r b0 t v) (h : DataW.Trod enc P w 0 spare held t v d pl) :
    ∃ n ps, Rep (hpOf w) [] (.agg ps) v ∧ Shaped P n t ps ∧ PV.wts ps ≤ bulk d := arg_agg hS ht (okWide_arrZ hu hval) h
theorem arg_slice {S : List TypeId} (hS : closed P S = true) {t : TypeId} (ht : t ∈ S) {e : TypeId} (hu : P.underlying t = some (.slice e)) {v : Value} {d : DataW H} {pl : List MemPlace} (hval : Value.okWide P w r b0 t v) (h : DataW.Trod enc P w 0 spare held t v d pl) :
    ∃ n rows, Rep (hpOf w) [] (.sl (P.cellsOf e) rows) v ∧ (∀ r ∈ rows, Shaped P n e r) ∧ PV.wtss rows + 1 ≤ bulk d := by
  obtain ⟨a, len, cap, rfl⟩ := okWide_slice hu hval
  obtain ⟨fuel, h⟩ := h
  obtain ⟨ps, h1, h2, _, h4⟩ := open_pv hS fuel t _ _ ht h
  cases fuel with
  | zero => exact h2.elim
  | succ fuel =>
  simp only [Shaped, hu] at h2
  obtain ⟨rows, rfl, h2⟩ := h2
  refine ⟨fuel, rows, ?_, h2, by simpa [PV.wts, PV.wt] using h4⟩
  obtain ⟨v, r, hvr, hrep, _⟩ := h1
  have : (Value.slice a len cap).cells.toList = [.slice a len cap] := rfl
  rw [this] at hvr
  simp only [List.cons.injEq] at hvr
  rw [hvr.1]; exact hrep
theorem arg_int {t : TypeId} {k : IntKind} {v : Value} {d : DataW H} {ps : List MemPlace} (ht : P.underlying t = some (.int k)) (hval : Value.okWide P w r b0 t v) (h : DataW.Trod enc P w 0 spare held t v d ps) :
    ∃ n, Rep (hpOf w) [] (.int k n) v ∧ loI k ≤ n ∧ n ≤ hiI k := by
  obtain ⟨n, rfl, _, _, hw⟩ := open_int ht hval h
  exact ⟨n, rfl, wf_rng hw⟩
theorem arg_bool {t : TypeId} {v : Value} (ht : P.underlying t = some .bool) (hval : Value.okWide P w r b0 t v) : ∃ b, Rep (hpOf w) [] (.bool b) v := by
  obtain ⟨b, rfl⟩ := okWide_bool ht hval
  exact ⟨b, rfl⟩
end
theorem head_drop {α : Type} {l r : List α} {i : Nat} {x : α} (h : l.drop i = x :: r) : l[i]? = some x := by
  have := congrArg (fun l => l[0]?) h
  simpa using this
theorem eqB_self (x : Int) : eqB x x = true := by simp [eqB]
theorem shaped_int {P : Program} {n : Nat} {t : TypeId} {k : IntKind} {ps : List PV} (hu : P.underlying t = some (.int k)) (h : Shaped P n t ps) : ∃ z, ps = [.int k z] ∧ loI k ≤ z ∧ z ≤ hiI k := by
  cases n with
  | zero => exact h.elim
  | succ n => simpa only [Shaped, hu] using h
theorem shaped_bool {P : Program} {n : Nat} {t : TypeId} {ps : List PV} (hu : P.underlying t = some .bool) (h : Shaped P n t ps) : ∃ b, ps = [.bool b] := by
  cases n with
  | zero => exact h.elim
  | succ n => simpa only [Shaped, hu] using h
theorem shaped_str {P : Program} {n : Nat} {t : TypeId} {ps : List PV} (hu : P.underlying t = some .string) (h : Shaped P n t ps) : ∃ b, ps = [.str b] := by
  cases n with
  | zero => exact h.elim
  | succ n => simpa only [Shaped, hu] using h
theorem shaped_struct {P : Program} {n : Nat} {t : TypeId} {fs : Array Field} {ps : List PV} (hu : P.underlying t = some (.struct fs)) (h : Shaped P n t ps) : ∃ m, m < n ∧ Shapeds (Shaped P m) (fs.toList.map (·.type)) ps := by
  cases n with
  | zero => exact h.elim
  | succ n => exact ⟨n, by omega, by simpa only [Shaped, hu] using h⟩
theorem shaped_array {P : Program} {n : Nat} {t : TypeId} {k : Nat} {e : TypeId} {ps : List PV} (hu : P.underlying t = some (.array k e)) (h : Shaped P n t ps) : ∃ m, m < n ∧ Shapeds (Shaped P m) (List.replicate k e) ps := by
  cases n with
  | zero => exact h.elim
  | succ n => exact ⟨n, by omega, by simpa only [Shaped, hu] using h⟩
theorem shaped_slice {P : Program} {n : Nat} {t : TypeId} {e : TypeId} {ps : List PV} (hu : P.underlying t = some (.slice e)) (h : Shaped P n t ps) : ∃ m rows, m < n ∧ ps = [.sl (P.cellsOf e) rows] ∧ ∀ r ∈ rows, Shaped P m e r := by
  cases n with
  | zero => exact h.elim
  | succ n =>
    simp only [Shaped, hu] at h
    obtain ⟨rows, h1, h2⟩ := h
    exact ⟨n, rows, by omega, h1, h2⟩
/-- A law whose trees say true: what the machine does. -/
theorem lift_true {P : Program} {F : List PV → List MO → Option (PV × List MO)} {f : Nat} (hF : CtP P f F) {as : List PV} (hev : F as [] = some (.bool true, [])) {W : World} {args : List Value} (hr : Reps (hpOf W) [] as args) :
    Calls P f args.toArray W fun e W' => e = .returned (.bool true) ∧ Below W.heap.size W W' := by
  refine ((hF as [] _ _ hev).2 (hpOf W) [] args rfl hr W (sub_hpOf W) ⟨List.nodup_nil, by simp, by simp⟩).mono fun e W' hh => ?_
  obtain ⟨v, s', m', rfl, hg, _, _, _, _, _, _, hrep, _⟩ := hh
  simp only [Rep] at hrep
  subst hrep
  exact ⟨rfl, hg.os, hg.tape, hg.output, hg.size, fun k hk => hg.block k hk (by simp [blks])⟩
end Go.Sx
