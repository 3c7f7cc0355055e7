/- TX: what the trees compute over plain values is what the machine does. -/
import Derived.Test.YtbmfegliomkkfaaHTxV
set_option linter.unusedSimpArgs false
set_option linter.unusedVariables false
namespace Go.Sx
open Go.RowKit
section
variable {s : Hp} {B : Inf} {k : Nat}
theorem take_get' {i : Nat} {b : Nat × Nat × Nat} (h : B[i]? = some b) (hi : i < k) : (B.take k)[i]? = some b := by rw [List.getElem?_take_of_lt hi]; exact h
mutual
theorem PV.low_rep : ∀ (p : PV) (v : Value), Rep s B p v → p.low k = true → Rep s (B.take k) p v
  | .int .., v, h, _ => h
  | .bool .., v, h, _ => h
  | .str .., v, h, _ => h
  | .undef, v, h, _ => h
  | .nilS, v, h, _ => h
  | .nilF, v, h, _ => h
  | .nilP, v, h, _ => h
  | .nilI, v, h, _ => h
  | .sl n rows, v, h, hl => by
    simp only [Rep, PV.low] at h hl ⊢
    obtain ⟨xs, h1, h2, h3⟩ := h
    exact ⟨xs, h1, PV.lowss_rep rows xs h2 hl, h3⟩
  | .cell l off, v, h, hl => by
    simp only [Rep, PV.low] at h hl ⊢
    obtain ⟨b, base, vs, h1, h2, h3⟩ := h
    exact ⟨b, base, vs, h1, PV.lows_rep l vs h2 hl, h3⟩
  | .ref i off, v, h, hl => by
    simp only [Rep, PV.low, decide_eq_true_eq] at h hl ⊢
    obtain ⟨b, n, h1, h2⟩ := h
    exact ⟨b, n, take_get' h1 hl, h2⟩
  | .msl i off len cap _, v, h, hl => by
    simp only [Rep, PV.low, decide_eq_true_eq] at h hl ⊢
    obtain ⟨b, n, h1, h2⟩ := h
    exact ⟨b, n, take_get' h1 hl, h2⟩
  | .rsl i len sz, v, h, hl => by
    simp only [Rep, PV.low, decide_eq_true_eq] at h hl ⊢
    obtain ⟨h0, b, cap, h1, b', n, r, h2, h3, h4⟩ := h
    exact ⟨h0, b, cap, h1, b', n, r, take_get' h2 hl, h3, h4⟩
  | .fn f l, v, h, hl => by
    simp only [Rep, PV.low] at h hl ⊢
    obtain ⟨vs, h1, h2⟩ := h
    exact ⟨vs, h1, PV.lows_rep l vs h2 hl⟩
  | .agg l, v, h, hl => by
    simp only [Rep, PV.low] at h hl ⊢
    obtain ⟨vs, h1, h2⟩ := h
    exact ⟨vs, h1, PV.lows_rep l vs h2 hl⟩
  | .tup l, v, h, hl => by
    simp only [Rep, PV.low] at h hl ⊢
    obtain ⟨vs, h1, h2⟩ := h
    exact ⟨vs, h1, PV.lows_rep l vs h2 hl⟩
theorem PV.lows_rep : ∀ (l : List PV) (v : List Value), Reps s B l v → PV.lows k l = true → Reps s (B.take k) l v
  | [], v, h, _ => h
  | p :: l, v, h, hl => by
    simp only [PV.lows, Bool.and_eq_true] at hl
    simp only [Reps] at h ⊢
    obtain ⟨x, r, h1, h2, h3⟩ := h
    exact ⟨x, r, h1, PV.low_rep p x h2 hl.1, PV.lows_rep l r h3 hl.2⟩
theorem PV.lowss_rep : ∀ (l : List (List PV)) (v : List (List Value)), Repss s B l v → PV.lowss k l = true → Repss s (B.take k) l v
  | [], v, h, _ => h
  | p :: l, v, h, hl => by
    simp only [PV.lowss, Bool.and_eq_true] at hl
    simp only [Repss] at h ⊢
    obtain ⟨x, r, h1, h2, h3⟩ := h
    exact ⟨x, r, h1, PV.lows_rep p x h2 hl.1, PV.lowss_rep l r h3 hl.2⟩
end
theorem MO.low_obj {o : MO} {x : Nat × Obj} (h : ObjIs s B o x) (hl : o.low k = true) : ObjIs s (B.take k) o x := by
  cases o with
  | cells l T => obtain ⟨vs, h1, h2⟩ := h; exact ⟨vs, h1, PV.lows_rep l vs h2 hl⟩
  | row rows sz T => obtain ⟨cur, h1, a1, a2, a3, a4, xs, a5, a6, a7⟩ := h; exact ⟨cur, h1, a1, a2, a3, a4, xs, PV.lowss_rep rows xs a5 hl, a6, a7⟩
theorem MO.low_rep : ∀ (σ : List MO) (m : MS), RepM s B σ m → σ.all (MO.low k) = true → RepM s (B.take k) σ m
  | [], m, h, _ => h
  | o :: σ, m, h, hl => by
    simp only [List.all_cons, Bool.and_eq_true] at hl
    obtain ⟨x, r, rfl, h1, h2⟩ := repM_cons.1 h
    exact repM_cons.2 ⟨x, r, rfl, MO.low_obj h1 hl.1, MO.low_rep σ r h2 hl.2⟩
theorem rowsN_rep {sz b : Nat} : ∀ (n : Nat) (l : List PV) (vs : List Value) (o : Nat) {rows}, rowsN sz n l = some rows → Reps s B l vs → (∀ j u, vs[j]? = some u → s b (o + j) = some u) →
    ∃ xs, xs.length = n ∧ (∀ x ∈ xs, x.length = sz) ∧ Repss s B rows xs ∧ (∀ r ∈ rows, ∀ p ∈ r, p.one = true) ∧ ∀ i x, xs[i]? = some x → ∀ j u, x[j]? = some u → s b (o + i * sz + j) = some u
  | 0, l, vs, o, rows, h, _, _ => by
    simp only [rowsN, Option.some.injEq] at h; subst h
    exact ⟨[], rfl, by simp, rfl, by simp, by simp⟩
  | n + 1, l, vs, o, rows, h, hr, hc => by
    simp only [rowsN] at h
    split at h
    case isFalse => cases h
    rename_i hcond
    simp only [Option.map_eq_some_iff] at h
    obtain ⟨rows', h1, rfl⟩ := h
    obtain ⟨xs, e1, e2, e3, e4, e5⟩ := rowsN_rep n (l.drop sz) (vs.drop sz) (o + sz) h1 (hr.drop sz) (fun j u hj => by
      rw [List.getElem?_drop] at hj
      have := hc _ u hj
      rw [← Nat.add_assoc] at this; exact this)
    have hlen : sz ≤ vs.length := by rw [hr.length]; exact hcond.1
    refine ⟨vs.take sz :: xs, by simp [e1], fun x hx => ?_, ⟨_, _, rfl, hr.take sz, e3⟩, fun r hr' => ?_, fun i x hi j u hj => ?_⟩
    · rcases List.mem_cons.1 hx with rfl | hx
      · simp; omega
      · exact e2 x hx
    · rcases List.mem_cons.1 hr' with rfl | hr'
      · exact fun p hp => List.all_eq_true.1 hcond.2 p hp
      · exact e4 r hr'
    · cases i with
      | zero =>
        simp only [List.getElem?_cons_zero, Option.some.injEq] at hi; subst hi
        rw [List.getElem?_take] at hj
        split at hj
        · simpa using hc j u hj
        · cases hj
      | succ i =>
        have := e5 i x (by simpa using hi) j u hj
        rw [show o + (i + 1) * sz + j = o + sz + i * sz + j by rw [Nat.add_mul]; omega]
        exact this
/-- What is told of new objects. -/
def LookOk (s : Hp) (B : Inf) (k : Nat) (look : Nat → Option MO) : Prop := ∀ h o, k ≤ h → look h = some o → match o with
  | .cells l _ => ∃ b n vs, B[h]? = some (b, n, 0) ∧ Reps s (B.take k) l vs ∧ ∀ o u, vs[o]? = some u → s b o = some u
  | .row rows sz _ => ∃ b n xs, B[h]? = some (b, n, rows.length) ∧ Repss s (B.take k) rows xs ∧ (∀ r ∈ rows, ∀ p ∈ r, p.one = true) ∧ (∀ x ∈ xs, x.length = sz) ∧ ∀ o u, xs.flatten[o]? = some u → s b o = some u
mutual
theorem PV.frz_rep {look : Nat → Option MO} (hk : LookOk s B k look) : ∀ (p : PV) (v : Value) {q : PV}, Rep s B p v → p.frz k look = some q → Rep s (B.take k) q v
  | .int .., v, q, h, hq => by simp only [PV.frz, Option.some.injEq] at hq; subst hq; exact h
  | .bool .., v, q, h, hq => by simp only [PV.frz, Option.some.injEq] at hq; subst hq; exact h
  | .str .., v, q, h, hq => by simp only [PV.frz, Option.some.injEq] at hq; subst hq; exact h
  | .undef, v, q, h, hq => by simp only [PV.frz, Option.some.injEq] at hq; subst hq; exact h
  | .nilS, v, q, h, hq => by simp only [PV.frz, Option.some.injEq] at hq; subst hq; exact h
  | .nilF, v, q, h, hq => by simp only [PV.frz, Option.some.injEq] at hq; subst hq; exact h
  | .nilP, v, q, h, hq => by simp only [PV.frz, Option.some.injEq] at hq; subst hq; exact h
  | .nilI, v, q, h, hq => by simp only [PV.frz, Option.some.injEq] at hq; subst hq; exact h
  | .sl n rows, v, q, h, hq => by
    simp only [PV.frz] at hq
    split at hq
    · rename_i hl
      simp only [Option.some.injEq] at hq; subst hq
      exact PV.low_rep _ _ h (by simpa [PV.low] using hl)
    · cases hq
  | .cell l off, v, q, h, hq => by
    simp only [PV.frz] at hq
    split at hq
    · rename_i hl
      simp only [Option.some.injEq] at hq; subst hq
      exact PV.low_rep _ _ h (by simpa [PV.low] using hl)
    · cases hq
  | .ref i off, v, q, h, hq => by
    simp only [PV.frz] at hq
    split at hq
    · rename_i hl
      simp only [Option.some.injEq] at hq; subst hq
      exact PV.low_rep _ _ h (by simpa [PV.low] using hl)
    · rename_i hl
      simp only [Option.bind_eq_some_iff, Option.map_eq_some_iff] at hq
      obtain ⟨o, h1, l, hol, rfl⟩ := hq
      cases o <;> simp only [MO.list, reduceCtorEq, Option.some.injEq] at hol
      subst hol
      obtain ⟨b, n, vs, h2, h3, h4⟩ := hk i _ (by omega) h1
      simp only [Rep] at h ⊢
      obtain ⟨b', n', h5, rfl⟩ := h
      rw [h2] at h5
      simp only [Option.some.injEq, Prod.mk.injEq] at h5
      obtain ⟨rfl, _⟩ := h5
      exact ⟨b, 0, vs, by simp, h3, fun o u hu => by simpa using h4 o u hu⟩
  | .rsl i len sz, v, q, h, hq => by
    simp only [PV.frz] at hq
    split at hq
    · rename_i hl
      simp only [Option.some.injEq] at hq; subst hq
      exact PV.low_rep _ _ h (by simpa [PV.low] using hl)
    · rename_i hl
      simp only [Option.bind_eq_some_iff, Option.map_eq_some_iff] at hq
      obtain ⟨o, h1, rows, hol, rfl⟩ := hq
      cases o <;> simp only [MO.elts, reduceCtorEq] at hol
      split at hol
      case isFalse => cases hol
      rename_i hc
      simp only [Option.some.injEq] at hol
      subst hol
      obtain ⟨hc1, rfl⟩ := hc
      obtain ⟨b, n, xs, h2, h3, h4, h5, h6⟩ := hk i _ (by omega) h1
      simp only [Rep] at h ⊢
      obtain ⟨h0, b1, cap, rfl, b', n', r, h7, h8, h9⟩ := h
      rw [h2] at h7
      simp only [Option.some.injEq, Prod.mk.injEq] at h7
      obtain ⟨rfl, rfl, rfl⟩ := h7
      obtain ⟨rfl, _, hcap⟩ := h9 hc1
      have hlx := h3.length
      refine ⟨xs, ⟨h5, some ⟨b, 0, none⟩, cap, by rw [hlx, hc1], by rw [hlx, hc1]; exact hcap, fun _ => ⟨b, 0, rfl, fun i x hi j u hj => ?_⟩⟩, h3, h4⟩
      rw [Nat.zero_add]
      exact h6 _ u (flat_of _ xs h5 i x j u hi hj)
  | .msl i off len cap sz, v, q, h, hq => by
    simp only [PV.frz] at hq
    split at hq
    · rename_i hl
      simp only [Option.some.injEq] at hq; subst hq
      exact PV.low_rep _ _ h (by simpa [PV.low] using hl)
    · rename_i hl
      simp only [Option.bind_eq_some_iff, Option.map_eq_some_iff] at hq
      obtain ⟨o, h1, l, hol, rows, h0, rfl⟩ := hq
      cases o <;> simp only [MO.list, reduceCtorEq, Option.some.injEq] at hol
      subst hol
      rename_i l T
      split at h0
      case isFalse => cases h0
      rename_i hcap
      obtain ⟨b, n, vs, h2, h3, h4⟩ := hk i _ (by omega) h1
      simp only [Rep] at h ⊢
      obtain ⟨b', n', h5, rfl⟩ := h
      rw [h2] at h5
      simp only [Option.some.injEq, Prod.mk.injEq] at h5
      obtain ⟨rfl, _⟩ := h5
      obtain ⟨xs, e1, e2, e3, e4, e5⟩ := rowsN_rep (b := b) len (l.drop off) (vs.drop off) off h0 (h3.drop off) (fun j u hj => by rw [List.getElem?_drop] at hj; exact h4 _ u hj)
      exact ⟨xs, ⟨e2, some ⟨b, off, none⟩, cap, by rw [e1], by rw [e1]; exact hcap, fun _ => ⟨b, off, rfl, e5⟩⟩, e3, e4⟩
  | .fn f l, v, q, h, hq => by
    simp only [PV.frz, Option.map_eq_some_iff] at hq
    obtain ⟨l', h1, rfl⟩ := hq
    simp only [Rep] at h ⊢
    obtain ⟨vs, h2, h3⟩ := h
    exact ⟨vs, h2, PV.frzs_rep hk l vs h3 h1⟩
  | .agg l, v, q, h, hq => by
    simp only [PV.frz, Option.map_eq_some_iff] at hq
    obtain ⟨l', h1, rfl⟩ := hq
    simp only [Rep] at h ⊢
    obtain ⟨vs, h2, h3⟩ := h
    exact ⟨vs, h2, PV.frzs_rep hk l vs h3 h1⟩
  | .tup l, v, q, h, hq => by
    simp only [PV.frz, Option.map_eq_some_iff] at hq
    obtain ⟨l', h1, rfl⟩ := hq
    simp only [Rep] at h ⊢
    obtain ⟨vs, h2, h3⟩ := h
    exact ⟨vs, h2, PV.frzs_rep hk l vs h3 h1⟩
theorem PV.frzs_rep {look : Nat → Option MO} (hk : LookOk s B k look) : ∀ (l : List PV) (v : List Value) {q : List PV}, Reps s B l v → PV.frzs k look l = some q → Reps s (B.take k) q v
  | [], v, q, h, hq => by simp only [PV.frzs, Option.some.injEq] at hq; subst hq; exact h
  | p :: l, v, q, h, hq => by
    simp only [PV.frzs, Option.bind_eq_some_iff, Option.map_eq_some_iff] at hq
    obtain ⟨p', h1, l', h2, rfl⟩ := hq
    simp only [Reps] at h ⊢
    obtain ⟨x, r, h3, h4, h5⟩ := h
    exact ⟨x, r, h3, PV.frz_rep hk p x h4 h1, PV.frzs_rep hk l r h5 h2⟩
end
theorem PV.frzss_rep {look : Nat → Option MO} (hk : LookOk s B k look) : ∀ (l : List (List PV)) (v : List (List Value)) {q : List (List PV)}, Repss s B l v → PV.frzss k look l = some q → Repss s (B.take k) q v ∧ (∀ r ∈ q, ∀ p ∈ r, p.one = true) ∧ q.length = l.length
  | [], v, q, h, hq => by simp only [PV.frzss, Option.some.injEq] at hq; subst hq; exact ⟨h, by simp, rfl⟩
  | p :: l, v, q, h, hq => by
    simp only [PV.frzss, Option.bind_eq_some_iff] at hq
    obtain ⟨p', h1, hq⟩ := hq
    split at hq
    case isFalse => cases hq
    rename_i hone
    simp only [Option.map_eq_some_iff] at hq
    obtain ⟨l', h2, rfl⟩ := hq
    simp only [Repss] at h
    obtain ⟨x, r, rfl, h4, h5⟩ := h
    obtain ⟨e1, e2, e3⟩ := PV.frzss_rep hk l r h5 h2
    refine ⟨⟨x, r, rfl, PV.frzs_rep hk p x h4 h1, e1⟩, fun r' hr' => ?_, by simp [e3]⟩
    rcases List.mem_cons.1 hr' with rfl | hr'
    · exact fun p hp => List.all_eq_true.1 hone p hp
    · exact e2 r' hr'
end
theorem lookF_ok {s : Hp} {ρp : PEnv} {ρ : Env} (h : EnvRep s ρp ρ) (ht : Told (ρ.m.drop ρ.k) s) : ∀ d, LookOk s (inf ρp.m ρ.m) ρp.k (lookF ρp d)
  | 0, _, _, _, hl => by simp only [lookF] at hl; cases hl
  | d + 1, i, o, hi, hl => by
    simp only [lookF, Option.bind_eq_some_iff] at hl
    obtain ⟨o', h1, h2⟩ := hl
    have told : ∀ {b : Nat} {cur : Array Value} {T : TypeId}, ρ.m[i]? = some (b, .cells cur T (0, 0)) → ∀ o u, cur[o]? = some u → s b o = some u := by
      intro b cur T g1 o u hu
      refine ht (b, .cells cur T (0, 0)) ?_ _ _ _ rfl o u hu
      rw [List.mem_iff_getElem?]
      exact ⟨i - ρ.k, by rw [List.getElem?_drop, show ρ.k + (i - ρ.k) = i by rw [h.k]; omega]; exact g1⟩
    cases o' with
    | cells l T =>
      simp only [Option.map_eq_some_iff] at h2
      obtain ⟨l', h3, rfl⟩ := h2
      obtain ⟨b, vs, g1, g2⟩ := h.m.get h1
      have hB := inf_get h1 g1
      exact ⟨b, _, vs, hB, PV.frzs_rep (lookF_ok h ht d) l vs g2 h3, fun o u hu => told g1 o u (by simpa using hu)⟩
    | row rows sz T =>
      simp only [Option.map_eq_some_iff] at h2
      obtain ⟨rows', h3, rfl⟩ := h2
      obtain ⟨⟨b, ob⟩, g1, cur, g2, a1, a2, a3, a4, xs, a5, a6, a7⟩ := h.m.obj h1
      simp only at g2
      subst g2
      have hB := inf_get h1 g1
      obtain ⟨e1, e2, e3⟩ := PV.frzss_rep (lookF_ok h ht d) rows xs a5 h3
      exact ⟨b, _, xs, by rw [e3]; exact hB, e1, e2, a6, fun o u hu => told g1 o u (a7 o u hu)⟩
/-- The question of a tree, weakened. -/
theorem VC.mono {P : Program} {Q Q' : Value → Hp → MS → Prop} {T T' : Cfg → Env → Hp → Prop} (hQ : ∀ v s m, Q v s m → Q' v s m) (hT : ∀ g ρ s, T g ρ s → T' g ρ s) : ∀ (o : Out) (ρ : Env) (s : Hp), VC P Q T o ρ s → VC P Q' T' o ρ s
  | .ret .., ρ, s, h => fun β s' h1 h2 h3 => hQ _ _ _ (h β s' h1 h2 h3)
  | .ite c x y, ρ, s, h => ⟨fun hc => VC.mono hQ hT x ρ s (h.1 hc), fun hc => VC.mono hQ hT y ρ s (h.2 hc)⟩
  | .need c k, ρ, s, h => ⟨h.1, fun hc => VC.mono hQ hT k ρ s (h.2 hc)⟩
  | .load _ _ _ _ _ _ k, ρ, s, h => by
    obtain ⟨is, bs, vs, h1, h2, h3, h4, h5, h6⟩ := h
    exact ⟨is, bs, vs, h1, h2, h3, h4, h5, VC.mono hQ hT k _ s h6⟩
  | .app _ _ _ _ k, ρ, s, h => by
    obtain ⟨xs, es, h1, h2, h3, h4, h5⟩ := h
    exact ⟨xs, es, h1, h2, h3, h4, fun v s' a b => VC.mono hQ hT k _ _ (h5 v s' a b)⟩
  | .cut _ _ _ _ k, ρ, s, h => by
    obtain ⟨xs, h1, h2, h3, h4, h5⟩ := h
    exact ⟨xs, h1, h2, h3, h4, fun v a => VC.mono hQ hT k _ _ (h5 v a)⟩
  | .hole _ _ _ k, ρ, s, h => by
    obtain ⟨xs, h1, h2, h3, h5⟩ := h
    exact ⟨xs, h1, h2, h3, fun v v' s' a b c => VC.mono hQ hT k _ _ (h5 v v' s' a b c)⟩
  | .fill _ _ _ _ k, ρ, s, h => by
    obtain ⟨xs, h1, h2, h3, h5⟩ := h
    exact ⟨xs, h1, h2, h3, fun s' a b => VC.mono hQ hT k _ _ (h5 s' a b)⟩
  | .call _ _ _ _ _ _ _ k, ρ, s, h => fun β s1 a b => by
    obtain ⟨Qc, h1, h2⟩ := h β s1 a b
    refine ⟨Qc, h1, fun v s' m' a c => ?_⟩
    obtain ⟨is, bs, vs, e1, e2, e3, e4, e5, e6⟩ := h2 v s' m' a c
    exact ⟨is, bs, vs, e1, e2, e3, e4, e5, VC.mono hQ hT k _ _ e6⟩
  | .callv _ _ _ _ _ _ k, ρ, s, h => by
    obtain ⟨F, caps, Qc, h0, h1, h2, h3⟩ := h
    refine ⟨F, caps, Qc, h0, h1, h2, fun v s' m' a c => ?_⟩
    obtain ⟨is, bs, vs, e1, e2, e3, e4, e5, e6⟩ := h3 v s' m' a c
    exact ⟨is, bs, vs, e1, e2, e3, e4, e5, VC.mono hQ hT k _ _ e6⟩
  | .newM _ _ k, ρ, s, h => fun b hb => VC.mono hQ hT k _ _ (h b hb)
  | .mkM _ _ _ _ _ k, ρ, s, h => by
    obtain ⟨h1, h2, h3, h4⟩ := h
    exact ⟨h1, h2, h3, fun b hb => VC.mono hQ hT k _ _ (h4 b hb)⟩
  | .appM _ _ _ _ _ k, ρ, s, h => by
    obtain ⟨i, xs, es, h1, h2, h3, h4, h5, h6, h7⟩ := h
    exact ⟨i, xs, es, h1, h2, h3, h4, h5, fun he => VC.mono hQ hT k _ _ (h6 he), fun he b' cap' cur' e1 e2 e3 e4 e5 => VC.mono hQ hT k _ _ (h7 he b' cap' cur' e1 e2 e3 e4 e5)⟩
  | .storeM _ _ k, ρ, s, h => by
    obtain ⟨i, b, o, cur, T, h1, h2, h3, h4⟩ := h
    exact ⟨i, b, o, cur, T, h1, h2, h3, VC.mono hQ hT k _ _ h4⟩
  | .both x y, ρ, s, h => ⟨VC.mono hQ hT x ρ s h.1, VC.mono hQ hT y ρ s h.2⟩
  | .stop c, ρ, s, h => hT _ _ _ h
  | .fail _, ρ, s, h => h.elim
theorem mod_get {α : Type} (z : List α) (N : Nat) : ∀ i, i < N * z.length → ((List.replicate N z).flatten)[i]? = z[i % z.length]? := by
  induction N with
  | zero => intro i hi; simp at hi
  | succ N ih =>
    intro i hi
    rw [List.replicate_succ, List.flatten_cons, List.getElem?_append]
    split
    · rename_i h; rw [Nat.mod_eq_of_lt h]
    · rename_i h
      rw [ih (i - z.length) (by rw [Nat.add_mul] at hi; omega)]
      congr 1
      rw [← Nat.mod_eq_sub_mod (by omega)]
theorem madeCells_eq (z : List Value) (N : Nat) : madeCells z.toArray (N * z.length) = ((List.replicate N z).flatten).toArray := by
  apply Array.ext'
  apply List.ext_getElem?
  intro i
  simp only [madeCells, Array.toList_map, List.getElem?_map, List.size_toArray]
  rcases Nat.lt_or_ge i (N * z.length) with h | h
  · have hz : 0 < z.length := by
      rcases Nat.eq_zero_or_pos z.length with h0 | h0
      · rw [h0] at h; simp at h
      · exact h0
    have hm := Nat.mod_lt i hz
    rw [mod_get z N i h]
    simp [h, hm]
  · rw [List.getElem?_eq_none (l := (List.replicate N z).flatten) (by simp; exact h)]
    simp [h]
theorem reps_flat {s : Hp} {B : Inf} {z : List PV} {v : List Value} (h : Reps s B z v) : ∀ N, Reps s B (List.replicate N z).flatten (List.replicate N v).flatten
  | 0 => rfl
  | N + 1 => by simp only [List.replicate_succ, List.flatten_cons]; exact h.append (reps_flat h N)
end Go.Sx
