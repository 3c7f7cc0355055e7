/- SX: what comes in, read. -/
import Derived.Test.YtbmfegliomkkfaaHTxN
import Derived.ProofKit
import Derived.OpenShut
import Derived.ChangeOld
set_option linter.unusedSimpArgs false
set_option linter.unusedVariables false
namespace Go.Sx
open Go.ChangeShapes
def okI : List Kd → List Int → Prop
  | [], [] => True
  | .int k :: ks, z :: zs => loI k ≤ z ∧ z ≤ hiI k ∧ okI ks zs
  | _, _ => False
theorem okI_append : ∀ (ks ls : List Kd) (zs us : List Int), okI ks zs → okI ls us → okI (ks ++ ls) (zs ++ us)
  | [], ls, [], us, _, h => h
  | .int k :: ks, ls, z :: zs, us, h, h' => ⟨h.1, h.2.1, okI_append ks ls zs us h.2.2 h'⟩
  | [], _, _ :: _, _, h, _ => h.elim
  | .int _ :: _, _, [], _, h, _ => h.elim
  | .bool :: _, _, _, _, h, _ => by cases h
  | .val :: _, _, _, _, h, _ => by cases h
theorem okI_len : ∀ (ks : List Kd) (zs : List Int), okI ks zs → zs.length = ks.length
  | [], [], _ => rfl
  | .int k :: ks, z :: zs, h => by simp [okI_len ks zs h.2.2]
  | [], _ :: _, h => h.elim
  | .int _ :: _, [], h => h.elim
  | .bool :: _, _, h => by cases h
  | .val :: _, _, h => by cases h
mutual
inductive FlatI (P : Program) : TypeId → List Kd → Prop where
  | int {t : TypeId} {k : IntKind} (hu : P.underlying t = some (.int k)) (hc : P.cellsOf t = 1) : FlatI P t [.int k]
  | arr {t e : TypeId} {n : Nat} {ks : List Kd} (hu : P.underlying t = some (.array n e)) (h : FlatI P e ks) (he : P.cellsOf e = ks.length) (hc : P.cellsOf t = n * ks.length) : FlatI P t (List.replicate n ks).flatten
  | st {t : TypeId} {fields : Array Field} {ks : List Kd} (hu : P.underlying t = some (.struct fields)) (h : FlatFs P 0 fields.toList ks) (hc : P.cellsOf t = ks.length) : FlatI P t ks
inductive FlatFs (P : Program) : Nat → List Field → List Kd → Prop where
  | nil (o : Nat) : FlatFs P o [] []
  | cons {o : Nat} {f : Field} {fs : List Field} {ks ls : List Kd} (ho : f.offset = o) (h : FlatI P f.type ks) (hc : P.cellsOf f.type = ks.length) (r : FlatFs P (o + ks.length) fs ls) : FlatFs P o (f :: fs) (ks ++ ls)
end
theorem wf_rng {k : IntKind} {n : Int} (h : (Lit.int k n).wf = true) : loI k ≤ n ∧ n ≤ hiI k := by
  simp only [Lit.wf, Bool.and_eq_true, decide_eq_true_eq] at h
  cases k <;> simp [IntKind.min, IntKind.max, IntKind.signed, IntKind.bits] at h <;> simp [loI, hiI, IntKind.signed, IntKind.bits] <;> omega
theorem chunks_flat {ks : List Kd} : ∀ (n : Nat) (cs : List Value), cs.length = n * ks.length → (∀ i, i < n → ∃ zs, okI ks zs ∧ (cs.drop (i * ks.length)).take ks.length = cellsI ks zs) →
    ∃ zs, okI (List.replicate n ks).flatten zs ∧ cs = cellsI (List.replicate n ks).flatten zs
  | 0, cs, hl, _ => by
    simp at hl; subst hl
    exact ⟨[], trivial, rfl⟩
  | n + 1, cs, hl, h => by
    obtain ⟨z0, h0, e0⟩ := h 0 (by omega)
    simp only [Nat.zero_mul, List.drop_zero] at e0
    obtain ⟨zs, h1, e1⟩ := chunks_flat (ks := ks) n (cs.drop ks.length) (by rw [List.length_drop, hl, Nat.add_mul]; omega) (fun i hi => by
      obtain ⟨z, a, b⟩ := h (i + 1) (by omega)
      refine ⟨z, a, ?_⟩
      rw [List.drop_drop]
      rw [Nat.add_mul, Nat.one_mul, Nat.add_comm] at b
      exact b)
    refine ⟨z0 ++ zs, by simpa [List.replicate_succ] using okI_append _ _ _ _ h0 h1, ?_⟩
    have : cellsI (List.replicate (n + 1) ks).flatten (z0 ++ zs) = cellsI ks z0 ++ cellsI (List.replicate n ks).flatten zs := by
      rw [← cellsI_append _ _ _ _ (okI_len _ _ h0)]; simp [List.replicate_succ]
    rw [this, ← e0, ← e1, List.take_append_drop]
section
variable {H : Type} {enc : TypeId × Value → H} {P : Program} {w : World} {base : Nat} {spare : Nat → Bool} {held : Bool}
mutual
theorem trod_flat {t : TypeId} {ks : List Kd} : FlatI P t ks → ∀ {fuel : Nat} {cs : List Value} {x}, DataW.trod enc P w base spare held fuel t cs = some x → ∃ zs, okI ks zs ∧ cs = cellsI ks zs
  | .int hu hc, fuel, cs, x, h => by
    obtain ⟨n, rfl, _, hw⟩ := DataW.trod_int hu h
    exact ⟨[n], ⟨(wf_rng hw).1, (wf_rng hw).2, trivial⟩, rfl⟩
  | .arr hu he hce hc, fuel, cs, x, h => by
    obtain ⟨xs, m, _, _, hl, hn, hi⟩ := DataW.trod_array hu h
    rw [hc] at hl
    refine chunks_flat _ cs hl (fun i hi' => ?_)
    have := hi i hi'
    rw [hce, List.getElem?_eq_getElem (by omega)] at this
    exact trod_flat he this
  | .st hu hf hc, fuel, cs, x, h => by
    obtain ⟨xs, m, _, _, hl, hn, hi⟩ := DataW.trod_struct hu h
    rw [hc] at hl
    obtain ⟨zs, a, b⟩ := trod_flats hf [] cs rfl hl (m := m) (xs := xs) (fun j f hj => by simpa using hi j f (by simpa using hj)) hn
    exact ⟨zs, a, b⟩
theorem trod_flats {o : Nat} {fs : List Field} {ks : List Kd} : FlatFs P o fs ks → ∀ (A cs : List Value), A.length = o → cs.length = ks.length → ∀ {m : Nat} {xs : List (DataW H × List MemPlace)},
    (∀ (j : Nat) f, fs[j]? = some f → DataW.trod enc P w base spare held m f.type (((A ++ cs).drop f.offset).take (P.cellsOf f.type)) = xs[j]?) → xs.length = fs.length → ∃ zs, okI ks zs ∧ cs = cellsI ks zs
  | .nil o, A, cs, hA, hl, m, xs, _, _ => by
    simp at hl; subst hl
    exact ⟨[], trivial, rfl⟩
  | .cons (f := f) (ks := ks) (ls := ls) ho h hc r, A, cs, hA, hl, m, xs, hi, hn => by
    have h0 := hi 0 f rfl
    rw [List.getElem?_eq_getElem (by simp at hn; omega), ho, ← hA, List.drop_left, hc] at h0
    obtain ⟨z0, a0, b0⟩ := trod_flat h h0
    rw [List.length_append] at hl
    have hl0 : (cs.take ks.length).length = ks.length := by rw [List.length_take]; omega
    obtain ⟨zs, a1, b1⟩ := trod_flats r (A ++ cs.take ks.length) (cs.drop ks.length) (by rw [List.length_append, hl0, hA]) (by rw [List.length_drop]; omega) (m := m) (xs := xs.drop 1) (fun j f' hj => by
      have := hi (j + 1) f' (by simpa using hj)
      rw [List.append_assoc, List.take_append_drop]
      rw [this, List.getElem?_drop, Nat.add_comm]) (by simp at hn; simp; omega)
    refine ⟨z0 ++ zs, okI_append _ _ _ _ a0 a1, ?_⟩
    rw [cellsI_append _ _ _ _ (okI_len _ _ a0), ← b0, ← b1, List.take_append_drop]
end
/-- All cells of a world are known. -/
def hpOf (w : World) : Hp := fun b o => w.cell? ⟨b, o, none⟩
theorem sub_hpOf (w : World) : Sub (hpOf w) w := fun _ _ _ h => h
theorem mapM_opt {α β : Type} {f : α → Option β} : ∀ {l : List α} {ys : List β}, l.mapM f = some ys → ys.length = l.length ∧ ∀ (i : Nat) x, l[i]? = some x → ∃ y, ys[i]? = some y ∧ f x = some y
  | [], ys, h => by simp at h; subst h; exact ⟨rfl, by simp⟩
  | x :: l, ys, h => by
    simp only [List.mapM_cons, Option.bind_eq_bind, Option.bind_eq_some_iff, Option.pure_def, Option.some.injEq] at h
    obtain ⟨y, hy, ys', hys, rfl⟩ := h
    obtain ⟨a, b⟩ := mapM_opt hys
    refine ⟨by simp [a], fun i z hz => ?_⟩
    cases i with
    | zero => simp at hz; subst hz; exact ⟨y, by simp, hy⟩
    | succ i => simpa using b i z (by simpa using hz)
theorem list_of {α : Type} {p : Nat → α → Prop} : ∀ (n : Nat), (∀ i, i < n → ∃ z, p i z) → ∃ l : List α, l.length = n ∧ ∀ i z, l[i]? = some z → p i z
  | 0, _ => ⟨[], rfl, by simp⟩
  | n + 1, h => by
    obtain ⟨l, e1, e2⟩ := list_of n (fun i hi => h i (by omega))
    obtain ⟨z, hz⟩ := h n (by omega)
    refine ⟨l ++ [z], by simp [e1], fun i y hy => ?_⟩
    rw [List.getElem?_append] at hy
    split at hy
    · exact e2 i y hy
    · have := (List.getElem?_eq_some_iff.1 hy).1
      simp at this
      have hin : i = n := by omega
      subst hin
      simp [e1] at hy; subst hy; exact hz
theorem cell_add {w : World} {a : Addr} {j k : Nat} {u : Value} (h0 : a.spot = none) (h : w.cell? ((a.add j).add k) = some u) : w.cell? ⟨a.block, a.off + j + k, none⟩ = some u := by
  obtain ⟨b, o, sp⟩ := a
  simp only at h0; subst h0
  rw [Addr.add_add0] at h
  unfold Addr.add at h
  split at h
  · have h1 : j = 0 := by omega
    have h2 : k = 0 := by omega
    subst h1; subst h2; exact h
  · rw [← Nat.add_assoc] at h; exact h
/-- A slice of flat elements that came in. -/
theorem open_flat {t e : TypeId} {ks : List Kd} (hu : P.underlying t = some (.slice e)) (hf : FlatI P e ks) (hc : P.cellsOf e = ks.length) (hpos : 0 < ks.length) {a : Option Addr} {len cap fuel : Nat} {x}
    (h : DataW.trod enc P w 0 spare held fuel t [.slice a len cap] = some x) :
    ∃ zss : List (List Int), (∀ zs ∈ zss, okI ks zs) ∧ zss.length = len ∧ SliceIn (hpOf w) ks.length (.slice a len cap) (zss.map (cellsI ks)) := by
  cases fuel with
  | zero => simp [DataW.trod] at h
  | succ fuel =>
    unfold DataW.trod at h
    rw [hu] at h
    cases a with
    | none =>
      cases len <;> cases cap <;> simp at h
      exact ⟨[], by simp, rfl, by simp, none, 0, rfl, by simp, by simp⟩
    | some a =>
      simp only at h
      split at h
      case isFalse => simp at h
      rename_i hcond
      simp only [Option.bind_eq_some_iff] at h
      obtain ⟨elems, hel, _⟩ := h
      obtain ⟨h1, h2⟩ := mapM_opt hel
      have key : ∀ i, i < len → ∃ zs, okI ks zs ∧ ∀ j u, (cellsI ks zs)[j]? = some u → w.cell? ((a.add (i * ks.length)).add j) = some u := by
        intro i hi
        obtain ⟨y, hy1, hy2⟩ := h2 i i (by simp [hi])
        simp only [Option.bind_eq_some_iff] at hy2
        obtain ⟨cs, hcs, htr⟩ := hy2
        obtain ⟨zs, hz, rfl⟩ := trod_flat hf htr
        refine ⟨zs, hz, fun j u hj => ?_⟩
        unfold World.cells? at hcs
        split at hcs
        case isFalse => simp at hcs
        obtain ⟨c1, c2⟩ := mapM_opt hcs
        have hjl : j < P.cellsOf e := by
          have := (List.getElem?_eq_some_iff.1 hj).1
          rw [c1] at this; simpa using this
        obtain ⟨y', hy', hc'⟩ := c2 j j (by simp [hjl])
        rw [hj] at hy'
        simp only [Option.some.injEq] at hy'; subst hy'
        rw [hc] at hc'; exact hc'
      have choose := list_of len key
      obtain ⟨zss, e1, e2⟩ := choose
      refine ⟨zss, fun zs hz => ?_, e1, ?_, some a, cap, by simp [e1], by simp [e1, hcond.2.1], fun hne => ?_⟩
      · obtain ⟨i, hi⟩ := List.mem_iff_getElem?.1 hz
        exact (e2 i zs hi).1
      · intro y hy
        obtain ⟨zs, hz, rfl⟩ := List.mem_map.1 hy
        obtain ⟨i, hi⟩ := List.mem_iff_getElem?.1 hz
        exact cellsI_length _ _ (okI_len _ _ (e2 i zs hi).1)
      · have hsp : a.spot = none := by
          cases zss with
          | nil => simp at hne
          | cons z zss =>
            obtain ⟨hz, hcell⟩ := e2 0 z rfl
            have hl := cellsI_length _ _ (okI_len _ _ hz)
            have := hcell 0 ((cellsI ks z)[0]'(by omega)) (List.getElem?_eq_getElem (by omega))
            have h3 : (a.add (0 * ks.length)).add 0 = a := by simp [Addr.add]
            rw [h3] at this
            exact World.cell?_spot this
        obtain ⟨b, o, sp⟩ := a
        simp only at hsp; subst hsp
        refine ⟨b, o, rfl, fun i y hy j u hj => ?_⟩
        rw [List.getElem?_map, Option.map_eq_some_iff] at hy
        obtain ⟨zs, hz, rfl⟩ := hy
        exact cell_add (a := ⟨b, o, none⟩) rfl ((e2 i zs hz).2 j u hj)
end
end Go.Sx
