/- SX: append, and a slice cut. -/
import Derived.Test.YthjahianafohjaaHTxa
import Derived.MapKept
set_option linter.unusedSimpArgs false
set_option linter.unusedVariables false
namespace Go.Sx
open Go.RowKit
theorem flat_get (size : Nat) : ∀ (es : List (List Value)), (∀ e ∈ es, e.length = size) → ∀ j u, es.flatten[j]? = some u → ∃ i x r, es[i]? = some x ∧ x[r]? = some u ∧ j = i * size + r
  | [], _, j, u, h => by simp at h
  | e :: es, hl, j, u, h => by
    have he : e.length = size := hl e (by simp)
    simp only [List.flatten_cons, List.getElem?_append] at h
    split at h
    · exact ⟨0, e, j, by simp, h, by simp⟩
    · rename_i hj
      obtain ⟨i, x, r, h1, h2, h3⟩ := flat_get size es (fun e he => hl e (by simp [he])) _ u h
      exact ⟨i + 1, x, r, by simpa using h1, h2, by rw [Nat.add_mul]; omega⟩
theorem flat_of (size : Nat) : ∀ (es : List (List Value)), (∀ e ∈ es, e.length = size) → ∀ i x r u, es[i]? = some x → x[r]? = some u → es.flatten[i * size + r]? = some u
  | [], _, i, x, r, u, h, _ => by simp at h
  | e :: es, hl, 0, x, r, u, h, hr => by
    simp only [List.getElem?_cons_zero, Option.some.injEq] at h; subst h
    have : r < e.length := (List.getElem?_eq_some_iff.1 hr).1
    simp only [Nat.zero_mul, Nat.zero_add, List.flatten_cons, List.getElem?_append, this, if_true, hr]
  | e :: es, hl, i + 1, x, r, u, h, hr => by
    have he : e.length = size := hl e (by simp)
    have ih := flat_of size es (fun e he => hl e (by simp [he])) i x r u (by simpa using h) hr
    simp only [List.flatten_cons, List.getElem?_append]
    rw [if_neg (by rw [he, Nat.add_mul]; omega), he]
    rw [show (i + 1) * size + r - size = i * size + r by rw [Nat.add_mul]; omega]
    exact ih
theorem flat_len (size : Nat) : ∀ (es : List (List Value)), (∀ e ∈ es, e.length = size) → es.flatten.length = es.length * size
  | [], _ => by simp
  | e :: es, hl => by
    have he : e.length = size := hl e (by simp)
    simp only [List.flatten_cons, List.length_append, List.length_cons, he, flat_len size es (fun e he => hl e (by simp [he])), Nat.add_mul]
    omega
/-- The known cells, with a row's cells told. -/
def tell (s : Hp) (g : Nat) (l : List Value) : Hp := fun b o => if b = g ∧ o < l.length then l[o]? else s b o
theorem tell_slice {s : Hp} {g size n cap : Nat} {xs : List (List Value)} (hl : ∀ e ∈ xs, e.length = size) (hn : n = xs.length) (hc : n ≤ cap) :
    SliceIn (tell s g xs.flatten) size (.slice (some ⟨g, 0, none⟩) n cap) xs := by
  subst hn
  refine ⟨hl, _, cap, rfl, hc, fun _ => ⟨g, 0, rfl, fun i x hi j u hj => ?_⟩⟩
  have := flat_of size xs hl i x j u hi hj
  have hlt : i * size + j < xs.flatten.length := (List.getElem?_eq_some_iff.1 this).1
  simp only [tell, Nat.zero_add, hlt, and_self, if_true, this]
theorem addr_add0 (g j : Nat) : (⟨g, 0, none⟩ : Addr).add j = ⟨g, j, none⟩ := by unfold Addr.add; split <;> simp_all
/-- What an append leaves. -/
structure App (P : Program) (e : TypeId) (size : Nat) (s : Hp) (w : World) (v : Value) (all : List (List Value)) (v' : Value) (w' : World) (s' : Hp) : Prop where
  le : s.le s'
  sb : Sub s' w'
  sl : SliceIn s' size v' all
  nw : ∀ b o, s' b o ≠ s b o → ∃ m cap, v' = .slice (some ⟨b, 0, none⟩) m cap
  os : w'.os = w.os
  tape : w'.tape = w.tape
  output : w'.output = w.output
  grew : w.heap.size ≤ w'.heap.size
  old : ∀ k, k < w.heap.size → (∀ m cap, v ≠ .slice (some ⟨k, 0, none⟩) m cap) → w'.heap[k]? = w.heap[k]?
  row : v' = .slice none 0 0 ∨ ∃ g m cap cur, v' = .slice (some ⟨g, 0, none⟩) m cap ∧ ((∃ m' cap', v = .slice (some ⟨g, 0, none⟩) m' cap') ∨ w.heap.size ≤ g) ∧
      w'.heap[g]? = some (.cells cur e (0, 0)) ∧ m ≤ cap ∧ cap ≤ maxLen ∧ cur.size = cap * size ∧ ∀ o u, s' g o = some u → o < m * size
section
variable {P : Program}
theorem app_new {e : TypeId} {size : Nat} {s : Hp} {w : World} {v : Value} {all : List (List Value)} {cap : Nat} {zs : Array Value} (hsub : Sub s w) (hall : ∀ x ∈ all, x.length = size)
    (hc : all.length ≤ cap) (hcm : cap ≤ maxLen) (hz : zs.size = (cap - all.length) * size) :
    App P e size s w v all (.slice (some ⟨w.heap.size, 0, none⟩) all.length cap) (w.drew.alloc (.cells (all.flatten.toArray ++ zs) e)) (tell s w.heap.size all.flatten) where
  le b o u h := by
    have := hsub.lt h
    simp only [tell]
    rw [if_neg (by omega)]; exact h
  sb b o u h := by
    simp only [tell] at h
    split at h
    · rename_i hb
      obtain ⟨rfl, ho⟩ := hb
      simp only [World.cell?]
      have : (w.drew.alloc (.cells (all.flatten.toArray ++ zs) e)).heap[w.heap.size]? = some (.cells (all.flatten.toArray ++ zs) e) := heap_alloc_new w.drew _
      rw [this]
      simp only [Option.isSome_none, Bool.false_eq_true, if_false]
      rw [Array.getElem?_append_left (by simpa using ho)]
      simpa using h
    · have := hsub b o u h
      rw [World.cell?_of_block (w := w)]
      · exact this
      · exact heap_alloc_old w.drew _ _ (hsub.lt h)
  sl := tell_slice hall rfl hc
  nw b o h := by
    simp only [tell] at h
    split at h
    · rename_i hb; exact ⟨_, _, by rw [hb.1]⟩
    · exact absurd rfl h
  os := rfl
  tape := rfl
  output := rfl
  grew := by simp
  old k hk _ := heap_alloc_old w.drew _ k hk
  row := .inr ⟨_, _, _, _, rfl, .inr (Nat.le_refl _), heap_alloc_new w.drew _, hc, hcm, by
      simp only [Array.size_append, List.size_toArray, flat_len size all hall, hz, ← Nat.add_mul]
      congr 1; omega, fun o u h => by
      simp only [tell] at h
      split at h
      · rename_i hb; rw [flat_len size all hall] at hb; exact hb.2
      · have := hsub.lt h; omega⟩
theorem run_app {t e ty : TypeId} {i : TI} (hI : i.Ok P e) (hty : P.underlying t = some (.slice e)) {v y : Value} {xs es : List (List Value)} {w : World} {s : Hp}
    (hsub : Sub s w) (hx : SliceIn s i.size v xs)
    (hdst : v = .slice none 0 0 ∨ ∃ g m cap cur, v = .slice (some ⟨g, 0, none⟩) m cap ∧ w.heap[g]? = some (.cells cur e (0, 0)) ∧ m ≤ cap ∧ cap ≤ maxLen ∧ cur.size = cap * i.size ∧ ∀ o u, s g o = some u → o < m * i.size)
    (hy : (es = [] ∧ ∃ c, y = .slice none 0 c) ∨ ∃ ad c, y = .slice (some ad) es.length c ∧ ∀ j u, es.flatten[j]? = some u → w.cell? (ad.add j) = some u)
    (hes : ∀ e ∈ es, e.length = i.size) (hone : ∀ e ∈ es, ∀ u ∈ e, u.oneCell' = true)
    (hb1 : (xs.length + es.length) * i.bytes ≤ 140737488355328) (hb2 : xs.length + es.length ≤ maxLen) :
    ∃ v' w' s', (Builtin.append_ #[t, t] ty #[v, y]).run P w = .ok v' w' ∧ App P e i.size s w v (xs ++ es) v' w' s' := by
  obtain ⟨inf, z, hinf, hsz, hby, hzero, hzc⟩ := hI.inf
  have hzs : z.cells.size = i.size := by rw [hzc { i := [], b := [], v := [], j := [] } id]; simp [dens_length, hI.zlen]
  have hall : ∀ x ∈ xs ++ es, x.length = i.size := fun x hx' => by
    rcases List.mem_append.1 hx' with h | h
    · exact hx.1 x h
    · exact hes x h
  have hnl : es.flatten.length = es.length * inf.size := by rw [hsz]; exact flat_len _ _ hes
  have h1 : ∀ u ∈ es.flatten, u.oneCell' = true := fun u hu => by
    obtain ⟨e, he, hu⟩ := List.mem_flatten.1 hu
    exact hone e he u hu
  have hmax : xs.length + es.length ≤ 9223372036854775807 := by simp only [maxLen] at hb2; omega
  by_cases hes0 : es = []
  · subst hes0
    refine ⟨v, w, s, ?_, ?_⟩
    · obtain ⟨_, a, cap, rfl, hcap, _⟩ := hx
      have hyn : ∃ a c, y = .slice a 0 c := by
        rcases hy with ⟨_, c, rfl⟩ | ⟨ad, c, rfl, _⟩
        · exact ⟨_, _, rfl⟩
        · exact ⟨_, _, rfl⟩
      obtain ⟨ya, yc, rfl⟩ := hyn
      cases a <;> cases ya <;> simp [Builtin.append_, run_underlying hty, sizeOf, typeInfo, hinf, Builtin.lenOf, hcap, Builtin.firstCells, loadCells, loadCellsFrom, storeCells]
    · refine ⟨Hp.le_refl _, hsub, by simpa using hx, fun b o h => absurd rfl h, rfl, rfl, rfl, Nat.le_refl _, fun _ _ _ => rfl, ?_⟩
      rcases hdst with h | ⟨g, m, cap, cur, h1, h2, h3, h4, h5, h6⟩
      · exact .inl h
      · exact .inr ⟨g, m, cap, cur, h1, .inl ⟨m, cap, h1⟩, h2, h3, h4, h5, h6⟩
  · have hm : 0 < es.length := List.length_pos_iff.2 hes0
    obtain ⟨ad, c, rfl, hnews⟩ : ∃ ad c, y = .slice (some ad) es.length c ∧ ∀ j u, es.flatten[j]? = some u → w.cell? (ad.add j) = some u := by
      rcases hy with ⟨h, _⟩ | h
      · exact absurd h hes0
      · exact h
    rcases hdst with rfl | ⟨g, m, cap, cur, rfl, hg, hmc, hcm, hcs, hrow⟩
    · have hxs : xs = [] := by
        obtain ⟨_, a, cap, he, _⟩ := hx
        simp only [Value.slice.injEq] at he
        exact List.eq_nil_of_length_eq_zero he.2.1.symm
      subst hxs
      simp only [List.length_nil, Nat.zero_add] at hb1 hb2 hmax
      simp only [List.nil_append]
      have hr := run_append_nil (P := P) w t ty e inf z hty hinf hzero ad es.length c es.flatten hnl hnews hm (by omega) (by rw [hby]; omega)
      refine ⟨_, _, _, hr, app_new hsub hes (grownCap_ge _ _ _ _) (grownCap_le_maxLen _ _ _ _ hb2) ?_⟩
      rw [size_zeroCells, hzs]
    · have hlen : m = xs.length := by
        obtain ⟨_, a, cap', he, _⟩ := hx
        simp only [Value.slice.injEq] at he
        exact he.2.1
      subst hlen
      have holds : ∀ j u, xs.flatten[j]? = some u → s g j = some u := by
        intro j u hj
        obtain ⟨i', x, r, a1, a2, rfl⟩ := flat_get i.size xs hx.1 j u hj
        obtain ⟨_, a, cap', he, _, hcell⟩ := hx
        simp only [Value.slice.injEq] at he
        obtain ⟨b, o, hb, hcell⟩ := hcell (by intro h; subst h; simp at a1)
        rw [hb] at he
        simp only [Option.some.injEq, Addr.mk.injEq] at he
        obtain ⟨⟨rfl, rfl, _⟩, _⟩ := he
        simpa using hcell i' x a1 r u a2
      have hxl : xs.flatten.length = xs.length * i.size := flat_len _ _ hx.1
      by_cases hroom : xs.length + es.length ≤ cap
      · have hfit : xs.length * inf.size + es.flatten.length ≤ cur.size := by rw [hnl, hcs, ← Nat.add_mul, hsz]; exact Nat.mul_le_mul_right _ hroom
        have hr := run_append_room (P := P) w t ty e inf hty hinf g xs.length cap cur hg ad es.length c es.flatten hnl hnews h1 hroom hfit
        have hpre : cur.toList.take (xs.length * inf.size) = xs.flatten := by
          apply List.ext_getElem?
          intro j
          rw [List.getElem?_take, hsz]
          by_cases hj : j < xs.length * i.size
          · rw [if_pos hj]
            have hjx : j < xs.flatten.length := by rw [hxl]; exact hj
            have := hsub _ _ _ (holds j _ (List.getElem?_eq_getElem hjx))
            simp only [World.cell?, hg, Option.isSome_none, Bool.false_eq_true, if_false] at this
            rw [List.getElem?_eq_getElem hjx, ← this, Array.getElem?_toList]
          · rw [if_neg hj, List.getElem?_eq_none (by rw [hxl]; omega)]
        rw [hpre] at hr
        refine ⟨_, _, tell s g (xs ++ es).flatten, hr, ?_⟩
        have hfl : (xs ++ es).flatten = xs.flatten ++ es.flatten := by simp
        have hcell' : ∀ j u, (xs ++ es).flatten[j]? = some u → (w.setRow g (xs.flatten ++ es.flatten ++ cur.toList.drop (xs.length * inf.size + es.flatten.length)).toArray).cell? ⟨g, j, none⟩ = some u := by
          intro j u hj
          simp only [World.cell?, setRow_heap w g cur _ e _ hg, Option.isSome_none, Bool.false_eq_true, if_false]
          rw [hfl] at hj
          simp only [List.getElem?_toArray]
          rw [List.getElem?_append_left (List.getElem?_eq_some_iff.1 hj).1]; exact hj
        refine ⟨?_, ?_, ?_, ?_, rfl, rfl, rfl, ?_, ?_, ?_⟩
        · intro b o u h
          simp only [tell]
          split
          · rename_i hb
            obtain ⟨rfl, ho⟩ := hb
            have ho2 : o < xs.flatten.length := by rw [hxl]; exact hrow o u h
            rw [hfl, List.getElem?_append_left ho2]
            have := holds o _ (List.getElem?_eq_getElem ho2)
            rw [h] at this
            rw [List.getElem?_eq_getElem ho2]; exact this.symm
          · exact h
        · intro b o u h
          simp only [tell] at h
          split at h
          · rename_i hb
            obtain ⟨rfl, ho⟩ := hb
            exact hcell' o u h
          · rename_i hb
            have hw := hsub b o u h
            by_cases hbg : b = g
            · subst hbg
              exfalso
              apply hb
              refine ⟨rfl, ?_⟩
              rw [hfl, List.length_append, hxl]
              have := hrow o u h
              omega
            · rw [World.cell?_of_block (w := w)]
              · exact hw
              · exact setRow_other w g b _ hbg
        · exact tell_slice hall (by simp) hroom
        · intro b o h
          simp only [tell] at h
          split at h
          · rename_i hb; exact ⟨_, _, by rw [hb.1]⟩
          · exact absurd rfl h
        · simp [World.setRow]
        · intro k _ hk
          exact setRow_other w g k _ (fun h => hk _ _ (by rw [h]))
        · refine .inr ⟨g, _, _, _, rfl, .inl ⟨_, _, rfl⟩, setRow_heap w g cur _ e _ hg, hroom, hcm, ?_, ?_⟩
          · simp only [List.size_toArray, List.length_append, List.length_drop, Array.length_toList]
            rw [hcs] at hfit ⊢
            rw [hxl, hsz] at *
            omega
          · intro o u h
            simp only [tell] at h
            split at h
            · rename_i hb
              have := hb.2
              rw [flat_len i.size _ hall, List.length_append] at this
              exact this
            · have := hrow o u h
              rw [Nat.add_mul]; omega
      · have hr := run_append_grow (P := P) w t ty e inf z hty hinf hzero ⟨g, 0, none⟩ xs.length cap xs.flatten (by rw [hsz]; exact hxl) (fun j u hj => by rw [addr_add0]; exact hsub _ _ _ (holds j u hj)) ad es.length c es.flatten hnl hnews (by omega) (by omega) (growslice_fits (by omega) (by rw [hby]; exact hb1))
        have hge := grownCap_ge w (xs.length + es.length) cap e
        have := app_new (P := P) (e := e) (v := .slice (some ⟨g, 0, none⟩) xs.length cap) (zs := Builtin.zeroCells z.cells (grownCap w (xs.length + es.length) cap e - (xs.length + es.length))) (cap := grownCap w (xs.length + es.length) cap e) hsub hall (by simpa using hge) (grownCap_le_maxLen _ _ _ _ hb2) (by rw [size_zeroCells, hzs]; simp)
        have e1 : (xs ++ es).flatten.toArray = xs.flatten.toArray ++ es.flatten.toArray := by simp
        rw [e1, List.length_append] at this
        exact ⟨_, _, tell s w.heap.size (xs ++ es).flatten, hr, this⟩
/-- An append onto a slice without room behind it. -/
theorem run_appF {t e ty : TypeId} {i : TI} (hI : i.Ok P e) (hty : P.underlying t = some (.slice e)) {v y : Value} {xs es : List (List Value)} {w : World} {s : Hp}
    (hsub : Sub s w) (hx : SliceIn s i.size v xs) (hes0 : es ≠ [])
    (hy : (es = [] ∧ ∃ c, y = .slice none 0 c) ∨ ∃ ad c, y = .slice (some ad) es.length c ∧ ∀ j u, es.flatten[j]? = some u → w.cell? (ad.add j) = some u)
    (hes : ∀ e ∈ es, e.length = i.size)
    (hb1 : (xs.length + es.length) * i.bytes ≤ 140737488355328) (hb2 : xs.length + es.length ≤ maxLen) :
    ∃ v' w' s', (Builtin.append_ #[t, t] ty #[fullV v, y]).run P w = .ok v' w' ∧ App P e i.size s w (.slice none 0 0) (xs ++ es) v' w' s' := by
  obtain ⟨inf, z, hinf, hsz, hby, hzero, hzc⟩ := hI.inf
  have hzs : z.cells.size = i.size := by rw [hzc { i := [], b := [], v := [], j := [] } id]; simp [dens_length, hI.zlen]
  have hall : ∀ x ∈ xs ++ es, x.length = i.size := fun x hx' => by
    rcases List.mem_append.1 hx' with h | h
    · exact hx.1 x h
    · exact hes x h
  have hnl : es.flatten.length = es.length * inf.size := by rw [hsz]; exact flat_len _ _ hes
  have hmax : xs.length + es.length ≤ 9223372036854775807 := by simp only [maxLen] at hb2; omega
  have hm : 0 < es.length := List.length_pos_iff.2 hes0
  obtain ⟨ad, c, rfl, hnews⟩ : ∃ ad c, y = .slice (some ad) es.length c ∧ ∀ j u, es.flatten[j]? = some u → w.cell? (ad.add j) = some u := by
    rcases hy with ⟨h, _⟩ | h
    · exact absurd h hes0
    · exact h
  obtain ⟨hl, a, cap, rfl, hcap, hc⟩ := hx
  simp only [fullV]
  have grow : ∀ g : Addr, (∀ j u, xs.flatten[j]? = some u → w.cell? (g.add j) = some u) → ∃ v' w' s', (Builtin.append_ #[t, t] ty #[.slice (some g) xs.length xs.length, .slice (some ad) es.length c]).run P w = .ok v' w' ∧ App P e i.size s w (.slice none 0 0) (xs ++ es) v' w' s' := by
    intro g hcells
    have hr := run_append_grow (P := P) w t ty e inf z hty hinf hzero g xs.length xs.length xs.flatten (by rw [hsz]; exact flat_len _ _ hl) hcells ad es.length c es.flatten hnl hnews (by omega) (by omega) (growslice_fits (by omega) (by rw [hby]; exact hb1))
    have hge := grownCap_ge w (xs.length + es.length) xs.length e
    have := app_new (P := P) (e := e) (v := .slice none 0 0) (zs := Builtin.zeroCells z.cells (grownCap w (xs.length + es.length) xs.length e - (xs.length + es.length))) (cap := grownCap w (xs.length + es.length) xs.length e) hsub hall (by simpa using hge) (grownCap_le_maxLen _ _ _ _ hb2) (by rw [size_zeroCells, hzs]; simp)
    have e1 : (xs ++ es).flatten.toArray = xs.flatten.toArray ++ es.flatten.toArray := by simp
    rw [e1, List.length_append] at this
    exact ⟨_, _, tell s w.heap.size (xs ++ es).flatten, hr, this⟩
  cases xs with
  | nil =>
    cases a with
    | some g => exact grow g (by simp)
    | none =>
      simp only [List.length_nil, Nat.zero_add] at hb1 hb2 hmax
      simp only [List.nil_append]
      have hr := run_append_nil (P := P) w t ty e inf z hty hinf hzero ad es.length c es.flatten hnl hnews hm (by omega) (by rw [hby]; omega)
      refine ⟨_, _, _, hr, app_new hsub hes (grownCap_ge _ _ _ _) (grownCap_le_maxLen _ _ _ _ hb2) ?_⟩
      rw [size_zeroCells, hzs]
  | cons x l =>
    obtain ⟨b, o, rfl, hcell⟩ := hc (by simp)
    refine grow _ (fun j u hj => ?_)
    obtain ⟨i', x', r, a1, a2, rfl⟩ := flat_get i.size (x :: l) hl j u hj
    have := hsub _ _ _ (hcell i' x' a1 r u a2)
    rw [Nat.add_assoc] at this
    have e : (⟨b, o, none⟩ : Addr).add (i' * i.size + r) = ⟨b, o + (i' * i.size + r), none⟩ := by unfold Addr.add; split <;> simp_all
    rw [e]; exact this
theorem run_app0 {t e ty : TypeId} {i : TI} (hI : i.Ok P e) (hty : P.underlying t = some (.slice e)) {a : Option Addr} {len cap : Nat} (hcap : len ≤ cap) (hl : a = none → len = 0) {y : Value} (hy : ∃ a c, y = .slice a 0 c) (w : World) :
    (Builtin.append_ #[t, t] ty #[.slice a len cap, y]).run P w = .ok (.slice a len cap) w := by
  obtain ⟨inf, z, hinf, hsz, hby, hzero, hzc⟩ := hI.inf
  obtain ⟨ya, yc, rfl⟩ := hy
  cases a <;> cases ya <;> simp [Builtin.append_, run_underlying hty, sizeOf, typeInfo, hinf, Builtin.lenOf, hcap, Builtin.firstCells, loadCells, loadCellsFrom, storeCells]
/-- A literal slice. -/
theorem app_lit {e size : Nat} {s : Hp} {w : World} {all : List (List Value)} (hsub : Sub s w) (hall : ∀ x ∈ all, x.length = size) (hcm : all.length ≤ maxLen) :
    App P e size s w (.slice none 0 0) all (.slice (some ⟨w.heap.size, 0, none⟩) all.length all.length) (w.alloc (.cells all.flatten.toArray e)) (tell s w.heap.size all.flatten) where
  le b o u h := by
    have := hsub.lt h
    simp only [tell]
    rw [if_neg (by omega)]; exact h
  sb b o u h := by
    simp only [tell] at h
    split at h
    · rename_i hb
      obtain ⟨rfl, ho⟩ := hb
      simp only [World.cell?]
      have : (w.alloc (.cells all.flatten.toArray e)).heap[w.heap.size]? = some (.cells all.flatten.toArray e) := heap_alloc_new w _
      rw [this]
      simp only [Option.isSome_none, Bool.false_eq_true, if_false]
      simpa using h
    · have := hsub b o u h
      rw [World.cell?_of_block (w := w)]
      · exact this
      · exact heap_alloc_old w _ _ (hsub.lt h)
  sl := tell_slice hall rfl (Nat.le_refl _)
  nw b o h := by
    simp only [tell] at h
    split at h
    · rename_i hb; exact ⟨_, _, by rw [hb.1]⟩
    · exact absurd rfl h
  os := rfl
  tape := rfl
  output := rfl
  grew := by simp
  old k hk _ := heap_alloc_old w _ k hk
  row := .inr ⟨_, _, _, _, rfl, .inr (Nat.le_refl _), heap_alloc_new w _, Nat.le_refl _, hcm, by
      simp only [List.size_toArray, flat_len size all hall], fun o u h => by
      simp only [tell] at h
      split at h
      · rename_i hb; rw [flat_len size all hall] at hb; exact hb.2
      · have := hsub.lt h; omega⟩
/-- What is stored behind a row's elements, where there is room. -/
theorem app_room {e size : Nat} {s : Hp} {w : World} {g : Nat} {xs es : List (List Value)} {cap : Nat} {cur : Array Value} (hsub : Sub s w) (hall : ∀ x ∈ xs ++ es, x.length = size)
    (hg : w.heap[g]? = some (.cells cur e (0, 0))) (hroom : xs.length + es.length ≤ cap) (hcm : cap ≤ maxLen) (hcs : cur.size = cap * size) (hrow : ∀ o u, s g o = some u → o < xs.length * size)
    (holds : ∀ j u, xs.flatten[j]? = some u → s g j = some u) :
    App P e size s w (.slice (some ⟨g, 0, none⟩) xs.length cap) (xs ++ es) (.slice (some ⟨g, 0, none⟩) (xs.length + es.length) cap) (w.setRow g (xs.flatten ++ es.flatten ++ cur.toList.drop (xs.length * size + es.flatten.length)).toArray) (tell s g (xs ++ es).flatten) := by
  have hxl : xs.flatten.length = xs.length * size := flat_len _ _ (fun x hx => hall x (by simp [hx]))
  have hnl : es.flatten.length = es.length * size := flat_len _ _ (fun x hx => hall x (by simp [hx]))
  have hfit : xs.length * size + es.flatten.length ≤ cur.size := by rw [hnl, hcs, ← Nat.add_mul]; exact Nat.mul_le_mul_right _ hroom
  have hfl : (xs ++ es).flatten = xs.flatten ++ es.flatten := by simp
  have hcell' : ∀ j u, (xs ++ es).flatten[j]? = some u → (w.setRow g (xs.flatten ++ es.flatten ++ cur.toList.drop (xs.length * size + es.flatten.length)).toArray).cell? ⟨g, j, none⟩ = some u := by
    intro j u hj
    simp only [World.cell?, setRow_heap w g cur _ e _ hg, Option.isSome_none, Bool.false_eq_true, if_false]
    rw [hfl] at hj
    simp only [List.getElem?_toArray]
    rw [List.getElem?_append_left (List.getElem?_eq_some_iff.1 hj).1]; exact hj
  refine ⟨?_, ?_, ?_, ?_, rfl, rfl, rfl, ?_, ?_, ?_⟩
  · intro b o u h
    simp only [tell]
    split
    · rename_i hb
      obtain ⟨rfl, ho⟩ := hb
      have ho2 : o < xs.flatten.length := by rw [hxl]; exact hrow o u h
      rw [hfl, List.getElem?_append_left ho2]
      have := holds o _ (List.getElem?_eq_getElem ho2)
      rw [h] at this
      rw [List.getElem?_eq_getElem ho2]; exact this.symm
    · exact h
  · intro b o u h
    simp only [tell] at h
    split at h
    · rename_i hb
      obtain ⟨rfl, ho⟩ := hb
      exact hcell' o u h
    · rename_i hb
      have hw := hsub b o u h
      by_cases hbg : b = g
      · subst hbg
        exfalso
        apply hb
        refine ⟨rfl, ?_⟩
        rw [hfl, List.length_append, hxl]
        have := hrow o u h
        omega
      · rw [World.cell?_of_block (w := w)]
        · exact hw
        · exact setRow_other w g b _ hbg
  · exact tell_slice hall (by simp) hroom
  · intro b o h
    simp only [tell] at h
    split at h
    · rename_i hb; exact ⟨_, _, by rw [hb.1]⟩
    · exact absurd rfl h
  · simp [World.setRow]
  · intro k _ hk
    exact setRow_other w g k _ (fun h => hk _ _ (by rw [h]))
  · refine .inr ⟨g, _, _, _, rfl, .inl ⟨_, _, rfl⟩, setRow_heap w g cur _ e _ hg, hroom, hcm, ?_, ?_⟩
    · simp only [List.size_toArray, List.length_append, List.length_drop, Array.length_toList]
      rw [hcs] at hfit ⊢
      rw [hxl] at *
      omega
    · intro o u h
      simp only [tell] at h
      split at h
      · rename_i hb
        have := hb.2
        rw [flat_len size _ hall, List.length_append] at this
        exact this
      · have := hrow o u h
        rw [Nat.add_mul]; omega
/-- The last element of what was appended is forgotten. -/
theorem App.trim {e size : Nat} {s s' : Hp} {w w' : World} {v v'' : Value} {xs : List (List Value)} {z : List Value} (ha : App P e size s w v (xs ++ [z]) v'' w' s') (hsub : Sub s w)
    (hlow : ∀ q m cap, v = .slice (some ⟨q, 0, none⟩) m cap → ∀ o u, s q o = some u → o < xs.length * size) :
    ∃ v' s'', App P e size s w v xs v' w' s'' ∧ Ext v' v'' xs.length := by
  obtain ⟨hall, a0, cap0, hv0, hcap0, hc0⟩ := ha.sl
  rcases ha.row with h1 | ⟨g, m, cap, cur, h1, h2, h3, h4, h5, h6, h7⟩
  · rw [h1] at hv0; simp at hv0
  rw [h1] at hv0
  simp only [List.length_append, List.length_cons, List.length_nil, Value.slice.injEq] at hv0
  obtain ⟨rfl, rfl, rfl⟩ := hv0
  subst h1
  obtain ⟨b1, o1, e1, hcells⟩ := hc0 (by simp)
  simp only [Option.some.injEq, Addr.mk.injEq] at e1
  obtain ⟨rfl, rfl, _⟩ := e1
  have hnew : ∀ b o, s' b o ≠ s b o → b = g := fun b o h => by
    obtain ⟨m, cap, hq⟩ := ha.nw b o h
    simp only [Value.slice.injEq, Option.some.injEq, Addr.mk.injEq] at hq
    exact hq.1.1.symm
  refine ⟨.slice (some ⟨g, 0, none⟩) xs.length cap, fun b o => if b = g ∧ xs.length * size ≤ o then s b o else s' b o, ⟨?_, ?_, ?_, ?_, ha.os, ha.tape, ha.output, ha.grew, ha.old, ?_⟩, ⟨g, cap, rfl, rfl, h4⟩⟩
  · intro b o u h
    simp only
    split
    · exact h
    · exact ha.le b o u h
  · intro b o u h
    simp only at h
    split at h
    · exact ha.sb b o u (ha.le b o u h)
    · exact ha.sb b o u h
  · refine ⟨fun x hx => hall x (by simp [hx]), _, cap, rfl, by omega, fun hne => ⟨g, 0, rfl, fun i x hi j u hj => ?_⟩⟩
    have hlt : i < xs.length := (List.getElem?_eq_some_iff.1 hi).1
    have hx : x.length = size := hall x (by simp [List.mem_of_getElem? hi])
    have hj2 : j < size := by rw [← hx]; exact (List.getElem?_eq_some_iff.1 hj).1
    have := hcells i x (by rw [List.getElem?_append_left hlt]; exact hi) j u hj
    show (if g = g ∧ xs.length * size ≤ 0 + i * size + j then s g (0 + i * size + j) else s' g (0 + i * size + j)) = some u
    rw [if_neg]
    · exact this
    · rintro ⟨_, hle⟩
      have : (i + 1) * size ≤ xs.length * size := Nat.mul_le_mul_right _ hlt
      rw [Nat.add_mul] at this
      omega
  · intro b o h
    have h : (if b = g ∧ xs.length * size ≤ o then s b o else s' b o) ≠ s b o := h
    split at h
    · exact absurd rfl h
    · exact ⟨_, _, by rw [hnew b o h]⟩
  · refine .inr ⟨g, _, cap, cur, rfl, h2, h3, by omega, h5, h6, fun o u hu => ?_⟩
    have hu : (if g = g ∧ xs.length * size ≤ o then s g o else s' g o) = some u := hu
    split at hu
    · rename_i hle
      rcases h2 with ⟨m', cap', rfl⟩ | h2
      · exact hlow _ _ _ rfl o u hu
      · have := hsub.lt hu; omega
    · rename_i hle
      have : ¬ xs.length * size ≤ o := fun h => hle ⟨rfl, h⟩
      omega
/-- x[lo:hi] of a slice. -/
theorem run_cut {t e : TypeId} {i : TI} (hI : i.Ok P e) (hty : P.underlying t = some (.slice e)) {v : Value} {xs : List (List Value)} {s : Hp}
    (hx : SliceIn s i.size v xs) (lo hi : Option Value) (l h : Int) (hlo : match lo with | none => l = 0 | some v => ∃ k, v = .int k l) (hhi : match hi with | none => h = xs.length | some v => ∃ k, v = .int k h)
    (h0 : 0 ≤ l) (h1 : l ≤ h) (h2 : h ≤ xs.length) :
    ∃ v', (∀ w, (Instr.sliceAt t v lo hi none).run P w = .ok v' w) ∧ SliceIn s i.size v' ((xs.take h.toNat).drop l.toNat) := by
  obtain ⟨hl, a, cap, rfl, hcap, hc⟩ := hx
  have hb : ∀ w, (Instr.sliceBounds true xs.length cap lo hi none).run P w = .ok (l.toNat, h.toNat, cap) w := by
    intro w
    unfold Instr.sliceBounds
    cases lo with
    | none =>
      simp only at hlo; subst hlo
      cases hi with
      | none => simp only at hhi; subst hhi; simp
      | some hv => simp [run_bound hv h cap _ w hhi ⟨by omega, by omega⟩]
    | some lv =>
      cases hi with
      | none =>
        simp only at hhi; subst hhi
        simp [run_bound lv l xs.length _ w hlo ⟨h0, h1⟩]
      | some hv => simp [run_bound hv h cap _ w hhi ⟨by omega, by omega⟩, run_bound lv l h.toNat _ w hlo ⟨h0, by omega⟩]
  refine ⟨_, fun w => by simp [Instr.sliceAt, run_underlying hty, Instr.slice, hb, run_sizeOf hI]; rfl, ?_, if cap = l.toNat then a else a.map (·.add (l.toNat * i.size)), cap - l.toNat, ?_, ?_, ?_⟩
  · intro x hx
    exact hl x (List.mem_of_mem_take (List.mem_of_mem_drop hx))
  · rw [show ((xs.take h.toNat).drop l.toNat).length = h.toNat - l.toNat by simp; omega]
  · simp; omega
  · intro hne
    have hlh : l.toNat < h.toNat := by
      rcases Nat.lt_or_ge l.toNat h.toNat with h' | h'
      · exact h'
      · exact absurd (List.drop_eq_nil_of_le (by simp; omega)) hne
    obtain ⟨b, o, rfl, hcells⟩ := hc (by intro h'; subst h'; simp at h2; omega)
    refine ⟨b, o + l.toNat * i.size, ?_, ?_⟩
    · rw [if_neg (by omega)]
      simp only [Option.map_some, Addr.add]
      split <;> simp_all
    · intro k x hk j u hj
      rw [List.getElem?_drop, List.getElem?_take] at hk
      split at hk
      · have := hcells _ x hk j u hj
        rw [Nat.add_mul] at this
        rw [show o + l.toNat * i.size + k * i.size + j = o + (l.toNat * i.size + k * i.size) + j by omega]
        exact this
      · simp at hk
end
end Go.Sx
namespace Go.Sx
open Go.RowKit
theorem getBlk_mask (ks : List Nat) (H : List Blk) (k : Nat) : getBlk (maskH ks H) k = if ks.contains k then getBlk H k else none := by
  unfold getBlk maskH
  simp only [List.getElem?_map, List.getElem?_zipIdx]
  cases h : H[k]? with
  | none => simp
  | some b =>
    simp only [Option.map_some, Nat.zero_add]
    by_cases hk : ks.contains k = true
    · rw [if_pos hk, if_pos hk]
    · rw [if_neg hk, if_neg hk]
/-- What the region's steady reads see does not change. -/
def Stab (ρ : Env) (β : Nat → Nat) (g : Cfg) (ρ' : Env) (β' : Nat → Nat) (g' : Cfg) (bad : Nat → Prop) : Prop :=
  g.H.length ≤ g'.H.length ∧ ∀ ks : List Nat, (∀ k ∈ ks, k < g.H.length ∧ ¬ bad k) → ∀ w, HOk ρ' β' (maskH ks g'.H) w ↔ HOk ρ β (maskH ks g.H) w
theorem stab_of {ρ : Env} {β : Nat → Nat} {g : Cfg} {ρ' : Env} {β' : Nat → Nat} {g' : Cfg} {bad : Nat → Prop} (h0 : g.H.length ≤ g'.H.length)
    (h1 : ∀ k, k < g.H.length → ¬ bad k → getBlk g'.H k = getBlk g.H k) (h2 : ∀ k cs T, getBlk g.H k = some (cs, T) → SV.dens ρ' β' cs = SV.dens ρ β cs ∧ β' k = β k) : Stab ρ β g ρ' β' g' bad := by
  refine ⟨h0, fun ks hks w => ⟨fun h k cs T hk => ?_, fun h k cs T hk => ?_⟩⟩
  · rw [getBlk_mask] at hk
    split at hk
    · rename_i hc
      have hm : k ∈ ks := by simpa using hc
      obtain ⟨a1, a2⟩ := hks k hm
      have := h k cs T (by rw [getBlk_mask, if_pos hc, h1 k a1 a2]; exact hk)
      obtain ⟨b1, b2⟩ := h2 k cs T hk
      rw [b1, b2] at this
      exact this
    · simp at hk
  · rw [getBlk_mask] at hk
    split at hk
    · rename_i hc
      have hm : k ∈ ks := by simpa using hc
      obtain ⟨a1, a2⟩ := hks k hm
      rw [h1 k a1 a2] at hk
      have := h k cs T (by rw [getBlk_mask, if_pos hc]; exact hk)
      obtain ⟨b1, b2⟩ := h2 k cs T hk
      rw [b1, b2]
      exact this
    · simp at hk
theorem getBlk_lt {H : List Blk} {k : Nat} {x} (h : getBlk H k = some x) : k < H.length := by
  unfold getBlk at h
  split at h
  · rename_i h'; exact (List.getElem?_eq_some_iff.1 h').1
  · simp at h
theorem getBlk_cells {H : List Blk} {k : Nat} {cs T} (h : getBlk H k = some (cs, T)) : ∃ sh, H[k]? = some (.cells cs T sh) := by
  unfold getBlk at h
  split at h
  · rename_i cs' T' sh h'
    simp only [Option.some.injEq, Prod.mk.injEq] at h
    obtain ⟨rfl, rfl⟩ := h
    exact ⟨_, h'⟩
  · simp at h
section
variable {w0 : World} {s0 : Hp} {X : Fx} {ρ : Env} {s : Hp} {β : Nat → Nat} {g : Cfg} {a : Act} {w : World}
theorem Rel.todo (h : Rel w0 s0 X ρ s β g a w) (t : List PI) : Rel w0 s0 X ρ s β { g with todo := t } a w :=
  ⟨h.tm, h.df, h.sz, h.kp, h.ms, h.fs, h.ci, h.cb, h.cv, h.cj, h.ok, h.bel, h.sb, h.nw, h.le, h.bl, h.sp⟩
theorem Rel.put (h : Rel w0 s0 X ρ s β g a w) (dst : Option Tmp) (v : SV) : Rel w0 s0 X ρ s β { g with sl := putSV g.sl dst v } (a.put dst (v.den ρ β)) w :=
  ⟨put_den h.tm dst v, by cases dst <;> exact h.df, h.sz, h.kp, h.ms, h.fs, h.ci, h.cb, h.cv, h.cj, h.ok, h.bel, h.sb, h.nw, h.le, h.bl, h.sp⟩
theorem okB_sl (h : g.okB = true) : SV.oks g.ni g.nb g.nv g.nj g.kf g.sl = true := by
  simp only [Cfg.okB, Bool.and_eq_true] at h; exact h.1.1
theorem okB_H (h : g.okB = true) {k : Nat} {b : Blk} (hk : g.H[k]? = some b) : okBlk g b = true := by
  simp only [Cfg.okB, Bool.and_eq_true] at h; exact List.all_eq_true.1 h.1.2 b (List.mem_of_getElem? hk)
theorem okB_fs (h : g.okB = true) : g.fs.all (SV.oks g.ni g.nb g.nv g.nj g.kf) = true := by
  simp only [Cfg.okB, Bool.and_eq_true] at h; exact h.2
theorem fs_le {ni nb nv nj : Nat} {kf : Nat → Bool} {ρ ρ' : Env} {β β' : Nat → Nat} (hle : Env.Le ni nb nv nj ρ ρ') (hb : ∀ k, kf k = true → β' k = β k) : ∀ (l : List (List SV)), l.all (SV.oks ni nb nv nj kf) = true →
    (l.map fun x => (SV.dens ρ' β' x).toArray) = l.map fun x => (SV.dens ρ β x).toArray := fun l h => by
  apply List.map_congr_left
  intro x hx
  rw [SV.dens_le hle hb _ (List.all_eq_true.1 h x hx)]
theorem Rel.envle (h : Rel w0 s0 X ρ s β g a w) (is : List Int) (bs : List Bool) (vs : List Value) : Env.Le g.ni g.nb g.nv g.nj ρ (ρ.push is bs vs) := by
  rw [← h.ci, ← h.cb, ← h.cv, ← h.cj]; exact Env.le_push ρ is bs vs
theorem Rel.push (h : Rel w0 s0 X ρ s β g a w) (hok : g.okB = true) (is : List Int) (bs : List Bool) (vs : List Value) (hf : vs.all fineV = true) (ni nb nv : Nat)
    (h1 : g.ni + is.length = ni) (h2 : g.nb + bs.length = nb) (h3 : g.nv + vs.length = nv) : Rel w0 s0 X (ρ.push is bs vs) s β { g with ni := ni, nb := nb, nv := nv } a w := by
  have hle := h.envle is bs vs
  have hval : ∀ n, n < g.nv → (ρ.push is bs vs).v.getD n vd = ρ.v.getD n vd := hle.v
  have hact : ∀ {k : Nat} {b : Blk}, g.H[k]? = some b → act (ρ.push is bs vs) b → act ρ b := by
    intro k b hk hb
    have ho := okB_H hok hk
    cases b with
    | cells cs T sh => trivial
    | row n T size => simp only [act] at hb ⊢; rw [hval n (by simpa [okBlk] using ho)] at hb; exact hb
  refine ⟨?_, h.df, h.sz, fun x hx => ⟨(h.kp x hx).is, fun k b hk hb => (h.kp x hx).own k b hk (hact hk hb), (h.kp x hx).un⟩, h.ms.env rfl rfl, by rw [fs_le hle (fun _ _ => rfl) _ (okB_fs hok)]; exact h.fs, by simp [Env.push, h.ci, h1], by simp [Env.push, h.cb, h2], by simp [Env.push, h.cv, h3], h.cj, ?_, h.bel, h.sb, h.nw, h.le, ?_, ?_⟩
  · rw [SV.dens_le hle (fun _ _ => rfl) _ (okB_sl hok)]; exact h.tm
  · intro x hx
    simp only [Env.push, List.mem_append] at hx
    rcases hx with hx | hx
    · exact h.ok x hx
    · exact List.all_eq_true.1 hf x hx
  · intro k b hk
    have hb := h.bl k b hk
    have ho := okB_H hok hk
    cases b with
    | cells cs T sh =>
      simp only [BOk] at hb ⊢
      rw [SV.dens_le hle (fun _ _ => rfl) _ ho]; exact hb
    | row n T size =>
      simp only [BOk] at hb ⊢
      rw [hval n (by simpa [okBlk] using ho)]; exact hb
  · intro j k bj bk hjk hj hk aj ak
    exact h.sp j k bj bk hjk hj hk (hact hj aj) (hact hk ak)
theorem fillK_le : ∀ (l : List Kd) (x y z : Nat), x ≤ (fillK l x y z).2.1 ∧ y ≤ (fillK l x y z).2.2.1 ∧ z ≤ (fillK l x y z).2.2.2
  | [], x, y, z => by simp [fillK]
  | .int _ :: l, x, y, z => by have := fillK_le l (x + 1) y z; simp only [fillK]; omega
  | .bool :: l, x, y, z => by have := fillK_le l x (y + 1) z; simp only [fillK]; omega
  | .val :: l, x, y, z => by have := fillK_le l x y (z + 1); simp only [fillK]; omega
theorem fillSh_le : ∀ (l : List Sh) (x y z : Nat), x ≤ (fillSh l x y z).2.1 ∧ y ≤ (fillSh l x y z).2.2.1 ∧ z ≤ (fillSh l x y z).2.2.2
  | [], x, y, z => by simp [fillSh]
  | .one k :: l, x, y, z => by
    have h1 := fillK_le [k] x y z
    have := fillSh_le l (fillK [k] x y z).2.1 (fillK [k] x y z).2.2.1 (fillK [k] x y z).2.2.2
    simp only [fillSh]; omega
  | .agg ks :: l, x, y, z => by
    have h1 := fillK_le ks x y z
    have := fillSh_le l (fillK ks x y z).2.1 (fillK ks x y z).2.2.1 (fillK ks x y z).2.2.2
    simp only [fillSh]; omega
theorem Sub.ext {s : Hp} {w w' : World} (h : Sub s w) (hb : ∀ k, k < w.heap.size → (∃ o, s k o ≠ none) → w'.heap[k]? = w.heap[k]?) : Sub s w' := fun b o u hu => by
  have := h b o u hu
  rw [World.cell?_of_block (w := w)]
  · exact this
  · exact hb b (h.lt hu) ⟨o, by rw [hu]; simp⟩
/-- The world has grown; own blocks are as they were. -/
theorem Rel.grow (h : Rel w0 s0 X ρ s β g a w) {w' : World} {s' : Hp} (hb : Below w.heap.size w w') (hle : s.le s') (hsb : Sub s' w') (hnw : New w.heap.size s s') : Rel w0 s0 X ρ s' β g a w' := by
  refine ⟨h.tm, h.df, Nat.le_trans h.sz hb.size, fun x hx => ⟨?_, (h.kp x hx).own, fun o => ?_⟩, h.ms, h.fs, h.ci, h.cb, h.cv, h.cj, h.ok, h.bel.below (hb.mono h.bel.size), hsb, ?_, Hp.le_trans h.le hle, ?_, h.sp⟩
  · have := (h.kp x hx).is
    rw [hb.block _ (Array.getElem?_eq_some_iff.1 this).1]; exact this
  · cases hs' : s' x.1 o with
    | none => rfl
    | some v =>
      have h1 := hnw _ _ _ hs' ((h.kp x hx).un o)
      have h2 := (Array.getElem?_eq_some_iff.1 (h.kp x hx).is).1
      omega
  · intro b o u hu hn
    cases hs : s b o with
    | some v => exact h.nw b o v hs hn
    | none => exact Nat.le_trans h.bel.size (hnw b o u hu hs)
  · intro k b hk
    have hbl := h.bl k b hk
    have same : ∀ o, w.heap[β k]? = some o → w'.heap[β k]? = some o ∧ ∀ c, s' (β k) c = s (β k) c := by
      intro o ho
      have hlt : β k < w.heap.size := (Array.getElem?_eq_some_iff.1 ho).1
      refine ⟨by rw [hb.block _ hlt]; exact ho, fun c => ?_⟩
      cases hs : s (β k) c with
      | some v => exact hle _ _ _ hs
      | none =>
        cases hs' : s' (β k) c with
        | none => rfl
        | some v => have := hnw _ _ _ hs' hs; omega
    cases b with
    | cells cs T sh =>
      obtain ⟨h1, h2, h3, h4⟩ := hbl
      obtain ⟨e1, e2⟩ := same _ h2
      exact ⟨h1, e1, fun hf o => by rw [e2]; exact h3 hf o, fun hf o u hu => by rw [e2]; exact h4 hf o u hu⟩
    | row n T size =>
      refine ⟨hbl.1, ?_⟩
      rcases hbl.2 with h1 | ⟨m, cap, cur, h1, h2, h3, h4, h5, h6, h7⟩
      · exact .inl h1
      · obtain ⟨e1, e2⟩ := same _ h3
        exact .inr ⟨m, cap, cur, h1, h2, e1, h4, h5, h6, fun o u hu => h7 o u (by rw [← e2]; exact hu)⟩
/-- A new own block. -/
theorem Rel.alloc (h : Rel w0 s0 X ρ s β g a w) (hok : g.okB = true) {cs : List SV} (hcs : SV.oks g.ni g.nb g.nv g.nj g.kf cs = true) (T : Nat) :
    Rel w0 s0 X ρ s (fun k => if k = g.H.length then w.heap.size else β k) { g with H := g.H ++ [.cells cs T false] } a (w.alloc (.cells (SV.dens ρ β cs).toArray T)) := by
  have hb : ∀ k, g.kf k = true → (fun k => if k = g.H.length then w.heap.size else β k) k = β k := by
    intro k hk
    simp only [Cfg.kf, Option.isSome_iff_exists] at hk
    obtain ⟨x, hx⟩ := hk
    have := getBlk_lt hx
    simp only
    rw [if_neg (by omega)]
  have hle : Env.Le g.ni g.nb g.nv g.nj ρ ρ := ⟨fun _ _ => rfl, fun _ _ => rfl, fun _ _ => rfl, fun _ _ => rfl⟩
  have hbelow : Below w.heap.size w (w.alloc (.cells (SV.dens ρ β cs).toArray T)) := (Below.refl _ _).alloc (Nat.le_refl _) _
  have hsub : Sub s (w.alloc (.cells (SV.dens ρ β cs).toArray T)) := h.sb.ext fun k hk _ => hbelow.block k hk
  have h' := h.grow hbelow (Hp.le_refl s) hsub (fun b o u h1 h2 => by rw [h1] at h2; simp at h2)
  refine ⟨?_, h'.df, h'.sz, fun x hx => ⟨(h'.kp x hx).is, fun k b hk hb => ?_, (h'.kp x hx).un⟩, h'.ms, by rw [fs_le hle hb _ (okB_fs hok)]; exact h'.fs, h'.ci, h'.cb, h'.cv, h'.cj, h'.ok, h'.bel, h'.sb, h'.nw, h'.le, ?_, ?_⟩
  · rw [SV.dens_le hle hb _ (okB_sl hok)]; exact h'.tm
  · have hlt := (Array.getElem?_eq_some_iff.1 (h.kp x hx).is).1
    simp only at hk ⊢
    split
    · omega
    · rename_i hne
      have hk2 := (List.getElem?_eq_some_iff.1 hk).1
      simp only [List.length_append, List.length_cons, List.length_nil] at hk2
      rw [List.getElem?_append_left (by omega)] at hk
      exact (h.kp x hx).own k b hk hb
  · intro k b hk
    simp only at hk
    rw [List.getElem?_append] at hk
    split at hk
    · rename_i hlt
      have hbl := h'.bl k b hk
      have ho := okB_H hok hk
      have hne : ¬ k = g.H.length := by omega
      cases b with
      | cells cs' T' sh =>
        simp only [BOk, hne, if_false] at hbl ⊢
        rw [SV.dens_le hle hb _ ho]; exact hbl
      | row n T' size =>
        simp only [BOk, hne, if_false] at hbl ⊢; exact hbl
    · rename_i hlt
      have hk0 : k = g.H.length := by
        have := (List.getElem?_eq_some_iff.1 hk).1
        simp at this; omega
      subst hk0
      simp at hk
      subst hk
      simp only [BOk, if_true]
      refine ⟨h.bel.size, ?_, fun _ o => ?_, fun hf => by simp at hf⟩
      · rw [SV.dens_le hle hb _ hcs]; exact heap_alloc_new w _
      · cases hs : s w.heap.size o with
        | none => rfl
        | some v => have := h.sb.lt hs; omega
  · intro j k bj bk hjk hj hk aj ak
    simp only at hj hk ⊢
    have key : ∀ {i : Nat} {b : Blk}, (g.H ++ [Blk.cells cs T false])[i]? = some b → act ρ b → (i < g.H.length ∧ g.H[i]? = some b ∧ β i < w.heap.size) ∨ i = g.H.length := by
      intro i b hi hb
      rw [List.getElem?_append] at hi
      split at hi
      · rename_i hlt; exact .inl ⟨hlt, hi, h.lt hi hb⟩
      · have := (List.getElem?_eq_some_iff.1 hi).1
        simp at this; right; omega
    rcases key hj aj with ⟨a1, a2, a3⟩ | a1 <;> rcases key hk ak with ⟨b1, b2, b3⟩ | b1
    · rw [if_neg (by omega), if_neg (by omega)]; exact h.sp j k bj bk hjk a2 b2 aj ak
    · rw [if_neg (by omega), if_pos b1]; omega
    · rw [if_pos a1, if_neg (by omega)]; omega
    · omega
/-- A store into an own block. -/
theorem Rel.store (h : Rel w0 s0 X ρ s β g a w) {b off : Nat} {cs new : List SV} {T : Nat} (hb : g.H[b]? = some (.cells cs T false)) :
    Rel w0 s0 X ρ s β { g with H := g.H.set b (.cells (setCells cs off new) T false) } a (w.setRow (β b) (SV.dens ρ β (setCells cs off new)).toArray) := by
  have hbl := h.bl b _ hb
  obtain ⟨h1, h2, h3, h4⟩ := hbl
  have hsub : Sub s (w.setRow (β b) (SV.dens ρ β (setCells cs off new)).toArray) := h.sb.ext fun k hk ⟨o, ho⟩ => by
    apply setRow_other
    intro hkb; subst hkb
    exact ho (h3 rfl o)
  refine ⟨h.tm, h.df, by simpa [World.setRow] using h.sz, fun x hx => ?_, h.ms, h.fs, h.ci, h.cb, h.cv, h.cj, h.ok, ?_, hsub, h.nw, h.le, ?_, ?_⟩
  · obtain ⟨k1, k2, k3⟩ := h.kp x hx
    have hne : x.1 ≠ β b := fun he => k2 b _ hb trivial he.symm
    refine ⟨by rw [setRow_other _ _ _ _ hne]; exact k1, fun k y hk hy => ?_, k3⟩
    simp only [List.getElem?_set] at hk
    split at hk
    · rename_i hbk
      subst hbk
      exact hne.symm
    · exact k2 k y hk hy
  · refine h.bel.below ⟨rfl, rfl, rfl, by simp [World.setRow], fun k hk => setRow_other _ _ _ _ (by omega)⟩
  · intro k x hk
    simp only [List.getElem?_set] at hk
    split at hk
    · rename_i hbk
      subst hbk
      split at hk
      · simp only [Option.some.injEq] at hk
        subst hk
        exact ⟨h1, setRow_heap w _ _ _ T _ h2, h3, fun hf => by simp at hf⟩
      · simp at hk
    · rename_i hbk
      have hx := h.bl k x hk
      have other : act ρ x → (w.setRow (β b) (SV.dens ρ β (setCells cs off new)).toArray).heap[β k]? = w.heap[β k]? := fun ha =>
        setRow_other _ _ _ _ (fun he => h.sp k b x _ (Ne.symm hbk) hk hb ha trivial he)
      cases x with
      | cells cs' T' sh =>
        obtain ⟨a1, a2, a3⟩ := hx
        exact ⟨a1, by rw [other trivial]; exact a2, a3⟩
      | row n T' size =>
        refine ⟨hx.1, ?_⟩
        rcases hx.2 with e | ⟨m, cap, cur, e1, e2, e3, e4⟩
        · exact .inl e
        · exact .inr ⟨m, cap, cur, e1, e2, by rw [other (by show ρ.v.getD n vd ≠ _; rw [e1]; simp)]; exact e3, e4⟩
  · intro j k bj bk hjk hj hk aj ak
    have key : ∀ {i : Nat} {x : Blk}, (g.H.set b (.cells (setCells cs off new) T false))[i]? = some x → act ρ x → ∃ y, g.H[i]? = some y ∧ act ρ y := by
      intro i x hi hx
      simp only [List.getElem?_set] at hi
      split at hi
      · rename_i hbi; subst hbi; exact ⟨_, hb, trivial⟩
      · exact ⟨x, hi, hx⟩
    obtain ⟨y, a1, a2⟩ := key hj aj
    obtain ⟨z, b1, b2⟩ := key hk ak
    exact h.sp j k y z hjk a1 b1 a2 b2
def blkOf : Value → Nat
  | .slice (some a) _ _ => a.block
  | _ => 0
/-- An append: the row's entry is number kk. -/
theorem Rel.app {P : Program} (h : Rel w0 s0 X ρ s β g a w) (hok : g.okB = true) {e size : Nat} (hsz : 0 < size) {v v' : Value} {all : List (List Value)} {w' : World} {s' : Hp} (ha : App P e size s w v all v' w' s')
    {kk : Nat} {H' : List Blk} (hk1 : H'[kk]? = some (.row g.nv e size)) (hk2 : ∀ k, k ≠ kk → H'[k]? = g.H[k]?) (hkf : g.kf kk = false)
    (hv : v = .slice none 0 0 ∨ ∃ m, g.H[kk]? = some (.row m e size) ∧ ρ.v.getD m vd = v) :
    Rel w0 s0 X (ρ.push [] [] [v']) s' (fun k => if k = kk then blkOf v' else β k) { g with nv := g.nv + 1, H := H' } a w' := by
  have hle := h.envle [] [] [v']
  have hfine : fineV v' = true := ha.sl.fine
  have hb : ∀ k, g.kf k = true → (fun k => if k = kk then blkOf v' else β k) k = β k := by
    intro k hk
    simp only
    rw [if_neg (by intro hkk; subst hkk; rw [hkf] at hk; simp at hk)]
  have hold : ∀ q m cap, v = .slice (some ⟨q, 0, none⟩) m cap → q = β kk ∧ w0.heap.size ≤ q ∧ ∃ m', g.H[kk]? = some (.row m' e size) ∧ act ρ (.row m' e size) := by
    intro q m cap hq
    rcases hv with h1 | ⟨m', h1, h2⟩
    · rw [h1] at hq; simp at hq
    · have hbl := h.bl kk _ h1
      rcases hbl.2 with h3 | ⟨m2, cap2, cur2, h3, h4, _⟩
      · rw [h2] at h3; rw [h3] at hq; simp at hq
      · rw [h2, hq] at h3
        simp only [Value.slice.injEq, Option.some.injEq, Addr.mk.injEq] at h3
        refine ⟨h3.1.1, by rw [h3.1.1]; exact h4, m', h1, ?_⟩
        show ρ.v.getD m' vd ≠ _
        rw [h2, hq]; simp
  have hoth : ∀ k b, k ≠ kk → g.H[k]? = some b → act ρ b → β k < w.heap.size ∧ (∀ m cap, v ≠ .slice (some ⟨β k, 0, none⟩) m cap) := by
    intro k b hkk hk hact
    refine ⟨h.lt hk hact, fun m cap hq => ?_⟩
    obtain ⟨h1, _, m', h2, h3⟩ := hold _ _ _ hq
    exact h.sp k kk b _ hkk hk h2 hact h3 h1
  have hnewblk : ∀ q m cap, v' = .slice (some ⟨q, 0, none⟩) m cap → (∃ m cap, v = .slice (some ⟨q, 0, none⟩) m cap) ∨ w.heap.size ≤ q := by
    intro q m cap hq
    rcases ha.row with h1 | ⟨g', m', cap', cur, h1, h2, _⟩
    · rw [h1] at hq; simp at hq
    · rw [h1] at hq
      simp only [Value.slice.injEq, Option.some.injEq, Addr.mk.injEq] at hq
      rw [← hq.1.1]; exact h2
  have hsame : ∀ k b, k ≠ kk → g.H[k]? = some b → act ρ b → w'.heap[β k]? = w.heap[β k]? ∧ ∀ o, s' (β k) o = s (β k) o := by
    intro k b hkk hk hact
    obtain ⟨h1, h2⟩ := hoth k b hkk hk hact
    refine ⟨ha.old _ h1 h2, fun o => ?_⟩
    by_cases hne : s' (β k) o = s (β k) o
    · exact hne
    · obtain ⟨m, cap, hq⟩ := ha.nw _ _ hne
      rcases hnewblk _ _ _ hq with ⟨m2, cap2, h3⟩ | h3
      · exact absurd h3 (h2 _ _)
      · omega
  have hbelow : Below w0.heap.size w w' := ⟨ha.os, ha.tape, ha.output, ha.grew, fun k hk => ha.old k (Nat.lt_of_lt_of_le hk h.bel.size) (fun m cap hq => by
    have := (hold _ _ _ hq).2.1; omega)⟩
  have hval : ∀ n, n < g.nv → (ρ.push [] [] [v']).v.getD n vd = ρ.v.getD n vd := hle.v
  have hvnew : (ρ.push [] [] [v']).v.getD g.nv vd = v' := by simp [Env.push, ← h.cv]
  have hkp : ∀ x, X.K x ∨ x ∈ ρ.m → Kept s' (ρ.push [] [] [v']) (fun k => if k = kk then blkOf v' else β k) H' w' x := fun x hx => by
    obtain ⟨k1, k2, k3⟩ := h.kp x hx
    have hlt := (Array.getElem?_eq_some_iff.1 k1).1
    have hne : ∀ m cap, v ≠ .slice (some ⟨x.1, 0, none⟩) m cap := by
      intro m cap hq
      obtain ⟨e1, _, m', e2, e3⟩ := hold _ _ _ hq
      exact k2 kk _ e2 e3 e1.symm
    have hnew : ∀ m cap, v' ≠ .slice (some ⟨x.1, 0, none⟩) m cap := by
      intro m cap hq
      rcases hnewblk _ _ _ hq with ⟨m2, cap2, h3⟩ | h3
      · exact hne _ _ h3
      · omega
    refine ⟨by rw [ha.old x.1 hlt hne]; exact k1, fun k b hk hab => ?_, fun o => ?_⟩
    · by_cases hkk : k = kk
      · subst hkk
        rw [hk1] at hk; simp only [Option.some.injEq] at hk; subst hk
        simp only [act] at hab
        rw [hvnew] at hab
        simp only [if_true]
        rcases ha.row with h1 | ⟨g', m', cap', cur, h1, h2, _⟩
        · exact absurd h1 hab
        · intro he
          rw [h1] at he
          have he : g' = x.1 := he
          rw [he] at h1
          exact hnew _ _ h1
      · simp only [if_neg hkk]
        rw [hk2 k hkk] at hk
        have ho := okB_H hok hk
        refine k2 k b hk ?_
        cases b with
        | cells cs T sh => trivial
        | row n T size' => simp only [act] at hab ⊢; rw [hval n (by simpa [okBlk] using ho)] at hab; exact hab
    · by_cases hq : s' x.1 o = s x.1 o
      · rw [hq]; exact k3 o
      · obtain ⟨m, cap, hq⟩ := ha.nw _ _ hq
        exact absurd hq (hnew _ _)
  refine ⟨?_, h.df, Nat.le_trans h.sz ha.grew, hkp, h.ms.env rfl rfl, by rw [fs_le hle hb _ (okB_fs hok)]; exact h.fs, by simp [Env.push, h.ci], by simp [Env.push, h.cb], by simp [Env.push, h.cv], h.cj, ?_, h.bel.below hbelow, ha.sb, ?_, Hp.le_trans h.le ha.le, ?_, ?_⟩
  · rw [SV.dens_le hle hb _ (okB_sl hok)]; exact h.tm
  · intro x hx
    simp only [Env.push, List.mem_append, List.mem_singleton] at hx
    rcases hx with hx | hx
    · exact h.ok x hx
    · subst hx; exact hfine
  · intro b o u hu hn
    cases hs : s b o with
    | some v => exact h.nw b o v hs hn
    | none =>
      obtain ⟨m, cap, hq⟩ := ha.nw b o (by rw [hu, hs]; simp)
      rcases hnewblk _ _ _ hq with ⟨m2, cap2, h3⟩ | h3
      · exact (hold _ _ _ h3).2.1
      · exact Nat.le_trans h.bel.size h3
  · intro k b hk
    simp only at hk
    by_cases hkk : k = kk
    · subst hkk
      rw [hk1] at hk
      simp only [Option.some.injEq] at hk
      subst hk
      refine ⟨hsz, ?_⟩
      rw [hvnew]
      simp only [if_true]
      rcases ha.row with h1 | ⟨g', m', cap', cur, h1, h2, h3, h4, h5, h6, h7⟩
      · exact .inl h1
      · refine .inr ⟨m', cap', cur, by rw [h1]; rfl, ?_, by rw [h1]; exact h3, h4, h5, h6, by rw [h1]; exact h7⟩
        rw [h1]
        show _ ≤ g'
        rcases h2 with ⟨m2, cap2, h8⟩ | h8
        · exact (hold _ _ _ h8).2.1
        · exact Nat.le_trans h.bel.size h8
    · rw [hk2 k hkk] at hk
      have hbl := h.bl k b hk
      have ho := okB_H hok hk
      cases b with
      | cells cs T sh =>
        obtain ⟨e1, e2⟩ := hsame k _ hkk hk trivial
        obtain ⟨a1, a2, a3, a4⟩ := hbl
        simp only [BOk, if_neg hkk]
        rw [SV.dens_le hle hb _ ho]
        exact ⟨a1, by rw [e1]; exact a2, fun hf o => by rw [e2]; exact a3 hf o, fun hf o u hu => by rw [e2]; exact a4 hf o u hu⟩
      | row n T size' =>
        simp only [BOk, if_neg hkk]
        rw [hval n (by simpa [okBlk] using ho)]
        refine ⟨hbl.1, ?_⟩
        rcases hbl.2 with e | ⟨m, cap, cur, e1, e2, e3, e4, e5, e6, e7⟩
        · exact .inl e
        · have hact : act ρ (.row n T size') := by show ρ.v.getD n vd ≠ _; rw [e1]; simp
          obtain ⟨f1, f2⟩ := hsame k _ hkk hk hact
          exact .inr ⟨m, cap, cur, e1, e2, by rw [f1]; exact e3, e4, e5, e6, fun o u hu => e7 o u (by rw [← f2]; exact hu)⟩
  · intro j k bj bk hjk hj hk aj ak
    simp only at hj hk ⊢
    have key : ∀ i b, i ≠ kk → H'[i]? = some b → act (ρ.push [] [] [v']) b → g.H[i]? = some b ∧ act ρ b := by
      intro i b hi hb' hab
      rw [hk2 i hi] at hb'
      refine ⟨hb', ?_⟩
      have ho := okB_H hok hb'
      cases b with
      | cells cs T sh => trivial
      | row n T size' => simp only [act] at hab ⊢; rw [hval n (by simpa [okBlk] using ho)] at hab; exact hab
    have hrow : act (ρ.push [] [] [v']) (.row g.nv e size) → ∀ k b, k ≠ kk → g.H[k]? = some b → act ρ b → β k ≠ blkOf v' := by
      intro hact k b hkk hk hb' he
      simp only [act] at hact
      rw [hvnew] at hact
      rcases ha.row with h1 | ⟨g', m', cap', cur, h1, h2, _⟩
      · exact hact h1
      · rw [h1] at he
        have he : β k = g' := he
        obtain ⟨h3, h4⟩ := hoth k b hkk hk hb'
        rcases h2 with ⟨m2, cap2, h5⟩ | h5
        · rw [← he] at h5; exact h4 _ _ h5
        · omega
    by_cases h1 : j = kk
    · have h2 : k ≠ kk := by omega
      rw [if_pos h1, if_neg h2]
      subst h1
      rw [hk1] at hj; simp only [Option.some.injEq] at hj; subst hj
      obtain ⟨b1, b2⟩ := key k bk h2 hk ak
      exact fun he => hrow aj k bk h2 b1 b2 he.symm
    · by_cases h2 : k = kk
      · rw [if_neg h1, if_pos h2]
        subst h2
        rw [hk1] at hk; simp only [Option.some.injEq] at hk; subst hk
        obtain ⟨b1, b2⟩ := key j bj h1 hj aj
        exact hrow ak j bj h1 b1 b2
      · rw [if_neg h1, if_neg h2]
        obtain ⟨b1, b2⟩ := key j bj h1 hj aj
        obtain ⟨c1, c2⟩ := key k bk h2 hk ak
        exact h.sp j k bj bk hjk b1 c1 b2 c2
/-- A row goes by another number. -/
theorem Rel.rerow (h : Rel w0 s0 X ρ s β g a w) {kk n n' e size : Nat} (hk : g.H[kk]? = some (.row n e size)) (he : ρ.v.getD n' vd = ρ.v.getD n vd) :
    Rel w0 s0 X ρ s β { g with H := g.H.set kk (.row n' e size) } a w := by
  have key : ∀ (i : Nat) (b : Blk), (g.H.set kk (.row n' e size))[i]? = some b → ∃ b', g.H[i]? = some b' ∧ (act ρ b → act ρ b') ∧ (BOk w0.heap.size s ρ β w i b' → BOk w0.heap.size s ρ β w i b) := by
    intro i b hi
    rw [List.getElem?_set] at hi
    split at hi
    · rename_i hki
      subst hki
      split at hi
      · simp only [Option.some.injEq] at hi
        subst hi
        exact ⟨_, hk, fun h => by simp only [act] at h ⊢; rw [← he]; exact h, fun h => by simp only [BOk] at h ⊢; rw [he]; exact h⟩
      · simp at hi
    · exact ⟨b, hi, id, id⟩
  refine ⟨h.tm, h.df, h.sz, fun x hx => ⟨(h.kp x hx).is, fun k b hb hab => ?_, (h.kp x hx).un⟩, h.ms, h.fs, h.ci, h.cb, h.cv, h.cj, h.ok, h.bel, h.sb, h.nw, h.le, fun k b hb => ?_, fun j k bj bk hjk hj hk' aj ak => ?_⟩
  · obtain ⟨b', e1, e2, _⟩ := key k b hb
    exact (h.kp x hx).own k b' e1 (e2 hab)
  · obtain ⟨b', e1, _, e3⟩ := key k b hb
    exact e3 (h.bl k b' e1)
  · obtain ⟨b1, c1, c2, _⟩ := key j bj hj
    obtain ⟨b2, d1, d2, _⟩ := key k bk hk'
    exact h.sp j k b1 b2 hjk c1 d1 (c2 aj) (d2 ak)
theorem Rel.mok (h : Rel w0 s0 X ρ s β g a w) : MOk s ρ.m w := ⟨h.ms.nd, fun x hx => (h.kp x (.inr hx)).is, fun x hx => (h.kp x (.inr hx)).un⟩
theorem Rel.mE (h : Rel w0 s0 X ρ s β g a w) {i : Nat} (hi : i ∈ blks ρ.m) : i ∈ X.E ∨ w0.heap.size ≤ i := by
  obtain ⟨x, hx, rfl⟩ := List.mem_map.1 hi
  obtain ⟨j, hj⟩ := List.mem_iff_getElem?.1 hx
  rcases Nat.lt_or_ge j ρ.k with hlt | hge
  · exact (h.ms.ck j x hlt hj).imp List.mem_of_getElem? id
  · exact .inr (h.ms.nw j x hge hj)
/-- The objects have been turned, and new ones have come. -/
theorem Rel.turn (h : Rel w0 s0 X ρ s β g a w) {w' : World} {s' : Hp} {m' : MS} (hg : Grows (· ∈ blks ρ.m) w w') (hle : s.le s') (hsb : Sub s' w') (hnw : New w.heap.size s s')
    (hpos : PosB ρ.m m' w) (hmk : MOk s' m' w') : Rel w0 s0 X { ρ with m := m' } s' β g a w' := by
  have hfr : ∀ x ∈ m', x.1 ∈ blks ρ.m ∨ w.heap.size ≤ x.1 := fun x hx => by
    obtain ⟨i, hi⟩ := List.mem_iff_getElem?.1 hx
    exact (hpos.2 i x hi).imp (fun ⟨y, hy, he⟩ => List.mem_map.2 ⟨y, List.mem_of_getElem? hy, he⟩) id
  have hlt : ∀ {x : Nat × Obj}, X.K x ∨ x ∈ ρ.m → x.1 < w.heap.size := fun hx => (Array.getElem?_eq_some_iff.1 (h.kp _ hx).is).1
  have hsame : ∀ (i : Nat), i < w.heap.size → i ∉ blks ρ.m → w'.heap[i]? = w.heap[i]? ∧ ∀ o, s' i o = s i o := fun i hi hn => by
    refine ⟨hg.block i hi hn, fun o => ?_⟩
    cases hs : s i o with
    | some v => exact hle _ _ _ hs
    | none =>
      cases hs' : s' i o with
      | none => rfl
      | some v => have := hnw _ _ _ hs' hs; omega
  have hown : ∀ (k : Nat) (b : Blk), g.H[k]? = some b → act ρ b → β k ∉ blks ρ.m := fun k b hk hb hm => by
    obtain ⟨x, hx, he⟩ := List.mem_map.1 hm
    exact (h.kp x (.inr hx)).own k b hk hb he.symm
  have hlen : ρ.m.length ≤ m'.length := hpos.1
  have hdm : ∀ l, SV.dens { ρ with m := m' } β l = SV.dens ρ β l := fun l => SV.dens_m ρ m' ρ.k β l
  refine ⟨by rw [hdm]; exact h.tm, h.df, Nat.le_trans h.sz hg.size, ?_, ?_, by simp only [hdm]; exact h.fs, h.ci, h.cb, h.cv, h.cj, h.ok, ?_, hsb, ?_, Hp.le_trans h.le hle, ?_, h.sp⟩
  · rintro x (hx | hx)
    · have hk := h.kp x (.inl hx)
      obtain ⟨e1, e2⟩ := hsame x.1 (hlt (.inl hx)) (h.ms.dk x hx)
      exact ⟨by rw [e1]; exact hk.is, hk.own, fun o => by rw [e2]; exact hk.un o⟩
    · refine ⟨hmk.is x hx, fun k b hk hb he => ?_, hmk.un x hx⟩
      rcases hfr x hx with h1 | h1
      · exact hown k b hk hb (by rw [he]; exact h1)
      · have := h.lt hk hb; omega
  · refine ⟨h.ms.ek, ?_, Nat.le_trans h.ms.kl hlen, hmk.nd, ?_, ?_⟩
    · intro i x hi hx
      rcases hpos.2 i x hx with ⟨y, hy, he⟩ | h1
      · rw [← he]; exact h.ms.ck i y hi hy
      · exact .inr (Nat.le_trans h.bel.size h1)
    · intro x hx hm
      obtain ⟨y, hy, he⟩ := List.mem_map.1 hm
      rcases hfr y hy with h1 | h1
      · rw [he] at h1; exact h.ms.dk x hx h1
      · have := hlt (.inl hx); omega
    · intro i x hi hx
      rcases hpos.2 i x hx with ⟨y, hy, he⟩ | h1
      · rw [← he]; exact h.ms.nw i y hi hy
      · exact Nat.le_trans h.bel.size h1
  · exact h.bel.trans hg (fun _ h => h) (fun i hi => h.mE hi)
  · intro b o u hu hn
    cases hs : s b o with
    | some v => exact h.nw b o v hs hn
    | none => exact Nat.le_trans h.bel.size (hnw b o u hu hs)
  · intro k b hk
    have hbl := h.bl k b hk
    cases b with
    | cells cs T sh =>
      obtain ⟨h1, h2, h3, h4⟩ := hbl
      obtain ⟨e1, e2⟩ := hsame _ (h.lt hk trivial) (hown k _ hk trivial)
      exact ⟨h1, by rw [e1, hdm]; exact h2, fun hf o => by rw [e2]; exact h3 hf o, fun hf o u hu => by rw [hdm] at hu; rw [e2]; exact h4 hf o u hu⟩
    | row n T size =>
      refine ⟨hbl.1, ?_⟩
      rcases hbl.2 with h1 | ⟨m, cap, cur, h1, h2, h3, h4, h5, h6, h7⟩
      · exact .inl h1
      · have ha : act ρ (.row n T size) := by show ρ.v.getD n vd ≠ _; rw [h1]; simp
        obtain ⟨e1, e2⟩ := hsame _ (h.lt hk ha) (hown k _ hk ha)
        exact .inr ⟨m, cap, cur, h1, h2, by rw [e1]; exact h3, h4, h5, h6, fun o u hu => h7 o u (by rw [← e2]; exact hu)⟩
/-- A new object. -/
theorem Rel.newM (h : Rel w0 s0 X ρ s β g a w) (o : Obj) : w.heap.size ∉ blks ρ.m ∧ Rel w0 s0 X { ρ with m := ρ.m ++ [(w.heap.size, o)] } s β g a (w.alloc o) := by
  have hb : Below w.heap.size w (w.alloc o) := (Below.refl _ _).alloc (Nat.le_refl _) _
  have hlt : ∀ x ∈ ρ.m, x.1 < w.heap.size := fun x hx => (Array.getElem?_eq_some_iff.1 (h.kp x (.inr hx)).is).1
  have hn : w.heap.size ∉ blks ρ.m := fun hm => by
    obtain ⟨x, hx, he⟩ := List.mem_map.1 hm
    have := hlt x hx; omega
  refine ⟨hn, h.turn (.of_below hb) (Hp.le_refl s) (h.sb.ext fun k hk _ => hb.block k hk) (fun b o u h1 h2 => by rw [h1] at h2; simp at h2) ⟨by simp, ?_⟩ ⟨?_, ?_, ?_⟩⟩
  · intro i x hx
    rw [List.getElem?_append] at hx
    split at hx
    · exact .inl ⟨x, hx, rfl⟩
    · right; rw [List.mem_singleton.1 (List.mem_of_getElem? hx)]; exact Nat.le_refl _
  · simp only [blks, List.map_append, List.map_cons, List.map_nil]
    rw [List.nodup_append]
    refine ⟨h.ms.nd, by simp, fun a ha b hb he => ?_⟩
    simp only [List.mem_singleton] at hb
    rw [he, hb] at ha
    exact hn ha
  · intro x hx
    rcases List.mem_append.1 hx with hx | hx
    · rw [hb.block _ (hlt x hx)]; exact (h.kp x (.inr hx)).is
    · rw [List.mem_singleton.1 hx]
      show (w.heap.push o)[w.heap.size]? = _
      simp
  · intro x hx
    rcases List.mem_append.1 hx with hx | hx
    · exact (h.kp x (.inr hx)).un
    · rw [List.mem_singleton.1 hx]
      intro o'
      cases hs : s w.heap.size o' with
      | none => rfl
      | some v => have := h.sb.lt hs; omega
/-- An object is turned. -/
theorem Rel.setM (h : Rel w0 s0 X ρ s β g a w) {i b : Nat} {o o' : Obj} (hi : ρ.m[i]? = some (b, o)) {w' : World} (hw : w'.heap[b]? = some o') (hoth : ∀ k, k ≠ b → w'.heap[k]? = w.heap[k]?) (hsz : w'.heap.size = w.heap.size)
    (hos : w'.os = w.os) (htp : w'.tape = w.tape) (hout : w'.output = w.output) : Rel w0 s0 X { ρ with m := ρ.m.set i (b, o') } s β g a w' := by
  have hmem : (b, o) ∈ ρ.m := List.mem_of_getElem? hi
  have hbl : blks (ρ.m.set i (b, o')) = blks ρ.m := by
    simp only [blks, List.map_set]
    apply List.ext_getElem?
    intro j
    rw [List.getElem?_set]
    split
    · rename_i hj; subst hj
      have := (List.getElem?_eq_some_iff.1 hi).1
      have e0 : ρ.m[i] = (b, o) := by
        have := List.getElem?_eq_getElem this; rw [hi] at this; simpa using this.symm
      simp [this, e0]
    · rfl
  have hin : ∀ x ∈ ρ.m.set i (b, o'), x = (b, o') ∨ (x ∈ ρ.m ∧ x.1 ≠ b) := by
    intro x hx
    obtain ⟨j, hj⟩ := List.mem_iff_getElem?.1 hx
    rw [List.getElem?_set] at hj
    split at hj
    · rename_i hij; split at hj
      · simp only [Option.some.injEq] at hj; exact .inl hj.symm
      · simp at hj
    · rename_i hij
      refine .inr ⟨List.mem_of_getElem? hj, fun he => hij ?_⟩
      have h1 : (blks ρ.m)[j]? = some b := by simp [blks, hj, he]
      have h2 : (blks ρ.m)[i]? = some b := by simp [blks, hi]
      have hlt := (List.getElem?_eq_some_iff.1 h2).1
      exact (List.getElem?_inj hlt h.ms.nd).1 (h2.trans h1.symm)
  have hbm : b ∈ blks ρ.m := List.mem_map.2 ⟨_, hmem, rfl⟩
  refine h.turn ⟨hos, htp, hout, by omega, fun k hk hn => hoth k (fun he => hn (by rw [he]; exact hbm))⟩ (Hp.le_refl s) (h.sb.ext fun k hk ⟨o, ho⟩ => hoth k (fun he => ho (by rw [he]; exact (h.kp _ (.inr hmem)).un o))) (fun b o u h1 h2 => by rw [h1] at h2; simp at h2) ⟨by simp, fun j x hj => ?_⟩ ⟨by rw [hbl]; exact h.ms.nd, ?_, ?_⟩
  · left
    rw [List.getElem?_set] at hj
    split at hj
    · rename_i hij
      split at hj
      · simp only [Option.some.injEq] at hj
        subst hij hj
        exact ⟨_, hi, rfl⟩
      · cases hj
    · exact ⟨x, hj, rfl⟩
  · intro x hx
    rcases hin x hx with rfl | ⟨h1, h2⟩
    · exact hw
    · rw [hoth _ h2]; exact (h.kp x (.inr h1)).is
  · intro x hx
    rcases hin x hx with rfl | ⟨h1, _⟩
    · exact (h.kp _ (.inr hmem)).un
    · exact (h.kp x (.inr h1)).un
/-- A block elsewhere takes an object's place, or comes as a new one. -/
theorem Rel.moveM (h : Rel w0 s0 X ρ s β g a w) {i b' : Nat} {o' : Obj} {w' : World} (hi : i ≤ ρ.m.length) (hg : Grows (· ∈ blks ρ.m) w w') (hoth : ∀ x ∈ ρ.m, x.1 ≠ b' → ρ.m[i]? ≠ some x → w'.heap[x.1]? = w.heap[x.1]?)
    (hw : w'.heap[b']? = some o') (hb : (∃ o, ρ.m[i]? = some (b', o)) ∨ w.heap.size ≤ b') : Rel w0 s0 X { ρ with m := if i < ρ.m.length then ρ.m.set i (b', o') else ρ.m ++ [(b', o')] } s β g a w' := by
  have hlt : ∀ x ∈ ρ.m, x.1 < w.heap.size := fun x hx => (Array.getElem?_eq_some_iff.1 (h.kp x (.inr hx)).is).1
  have hun : ∀ o, s b' o = none := by
    rcases hb with ⟨o, ho⟩ | hb
    · exact (h.kp _ (.inr (List.mem_of_getElem? ho))).un
    · intro o
      cases hs : s b' o with
      | none => rfl
      | some v => have := h.sb.lt hs; omega
  have hsub : Sub s w' := h.sb.ext fun k hk ⟨o, ho⟩ => hg.block k hk (fun hm => by
    obtain ⟨x, hx, rfl⟩ := List.mem_map.1 hm
    exact ho ((h.kp x (.inr hx)).un o))
  have hnd := h.ms.nd
  have hne : ∀ j x, j ≠ i → ρ.m[j]? = some x → x.1 ≠ b' ∧ ρ.m[i]? ≠ some x := by
    intro j x hji hj
    have hx := List.mem_of_getElem? hj
    refine ⟨fun he => ?_, fun hxi => ?_⟩
    · rcases hb with ⟨o, ho⟩ | hb
      · have h1 : (blks ρ.m)[j]? = some b' := by simp [blks, hj, he]
        have h2 : (blks ρ.m)[i]? = some b' := by simp [blks, ho]
        exact hji ((List.getElem?_inj (List.getElem?_eq_some_iff.1 h1).1 hnd).1 (h1.trans h2.symm))
      · have := hlt x hx; omega
    · have h1 : (blks ρ.m)[j]? = some x.1 := by simp [blks, hj]
      have h2 : (blks ρ.m)[i]? = some x.1 := by simp [blks, hxi]
      exact hji ((List.getElem?_inj (List.getElem?_eq_some_iff.1 h1).1 hnd).1 (h1.trans h2.symm))
  have hget : ∀ j x, (if i < ρ.m.length then ρ.m.set i (b', o') else ρ.m ++ [(b', o')])[j]? = some x → (j = i ∧ x = (b', o')) ∨ (j ≠ i ∧ ρ.m[j]? = some x) := by
    intro j x hj
    split at hj
    · rw [List.getElem?_set] at hj
      split at hj
      · rename_i hij
        simp only [Option.some.injEq] at hj; exact .inl ⟨hij.symm, hj.symm⟩
      · rename_i hij; exact .inr ⟨Ne.symm hij, hj⟩
    · rename_i hnl
      rw [List.getElem?_append] at hj
      split at hj
      · rename_i hjl; exact .inr ⟨by omega, hj⟩
      · have h1 := (List.getElem?_eq_some_iff.1 hj).1
        simp at h1
        have : j - ρ.m.length = 0 := by omega
        rw [this] at hj
        simp only [List.getElem?_cons_zero, Option.some.injEq] at hj
        exact .inl ⟨by omega, hj.symm⟩
  refine h.turn hg (Hp.le_refl s) hsub (fun b o u h1 h2 => by rw [h1] at h2; simp at h2) ⟨by split <;> simp, fun j x hj => ?_⟩ ⟨?_, ?_, ?_⟩
  · rcases hget j x hj with ⟨rfl, rfl⟩ | ⟨_, h2⟩
    · exact hb.imp (fun ⟨o, ho⟩ => ⟨_, ho, rfl⟩) id
    · exact .inl ⟨x, h2, rfl⟩
  · unfold List.Nodup
    rw [List.pairwise_iff_getElem]
    intro p q hpl hq hpq he
    have he : (blks (if i < ρ.m.length then ρ.m.set i (b', o') else ρ.m ++ [(b', o')]))[p]? = (blks (if i < ρ.m.length then ρ.m.set i (b', o') else ρ.m ++ [(b', o')]))[q]? := by
      rw [List.getElem?_eq_getElem hpl, List.getElem?_eq_getElem hq, he]
    simp only [blks, List.length_map] at hpl hq
    obtain ⟨x, hx⟩ : ∃ x, (if i < ρ.m.length then ρ.m.set i (b', o') else ρ.m ++ [(b', o')])[p]? = some x := ⟨_, List.getElem?_eq_getElem hpl⟩
    obtain ⟨y, hy⟩ : ∃ x, (if i < ρ.m.length then ρ.m.set i (b', o') else ρ.m ++ [(b', o')])[q]? = some x := ⟨_, List.getElem?_eq_getElem hq⟩
    simp only [blks, List.getElem?_map, hx, hy, Option.map_some, Option.some.injEq] at he
    rcases hget p x hx with ⟨h1, rfl⟩ | ⟨h1, h2⟩ <;> rcases hget q y hy with ⟨h3, rfl⟩ | ⟨h3, h4⟩
    · omega
    · exact (hne q y h3 h4).1 he.symm
    · exact (hne p x h1 h2).1 he
    · have e1 : (blks ρ.m)[p]? = some x.1 := by simp [blks, h2]
      have e2 : (blks ρ.m)[q]? = some x.1 := by simp [blks, h4, he]
      have := (List.getElem?_inj (List.getElem?_eq_some_iff.1 e1).1 hnd).1 (e1.trans e2.symm)
      omega
  · intro x hx
    obtain ⟨j, hj⟩ := List.mem_iff_getElem?.1 hx
    rcases hget j x hj with ⟨_, rfl⟩ | ⟨h1, h2⟩
    · exact hw
    · rw [hoth x (List.mem_of_getElem? h2) (hne j x h1 h2).1 (hne j x h1 h2).2]; exact (h.kp x (.inr (List.mem_of_getElem? h2))).is
  · intro x hx
    obtain ⟨j, hj⟩ := List.mem_iff_getElem?.1 hx
    rcases hget j x hj with ⟨_, rfl⟩ | ⟨_, h2⟩
    · exact hun
    · exact (h.kp x (.inr (List.mem_of_getElem? h2))).un
end
end Go.Sx
namespace Go.Sx
open Go.RowKit
section
variable {P : Program} {c : Ctx} {w0 : World} {s0 : Hp} {X : Fx} {ρ : Env} {s : Hp} {β : Nat → Nat} {g : Cfg} {a : Act} {w : World} {Q : Value → Hp → MS → Prop} {T : Cfg → Env → Hp → Prop}
theorem wp_value {o : Oper} {K : Act → World → Prop} {Qx : Exit → Act → World → Prop} {v : Value} {w' : World} (hr : (execOp a.eval o).run P w = .ok (.value v) w') (h : K (a.put o.dst v) w') : o.wp P a w K Qx := by
  simp only [Oper.wp, hr, Oper.upon]; exact h
theorem wp_skip' {o : Oper} {K : Act → World → Prop} {Qx : Exit → Act → World → Prop} {w' : World} (hr : (execOp a.eval o).run P w = .ok .skip w') (h : K (a.put o.dst undef) w') : o.wp P a w K Qx := by
  simp only [Oper.wp, hr, Oper.upon]; exact h
theorem wp_enter {o : Oper} {K : Act → World → Prop} {Qx : Exit → Act → World → Prop} {f : FuncId} {args : Array Value} {w' : World} (hr : (execOp a.eval o).run P w = .ok (.enter f args) w')
    (h : Calls P f args w' fun e w'' => ∃ v, e = .returned v ∧ K (a.put o.dst v) w'') : o.wp P a w K Qx := by
  simp only [Oper.wp, hr, Oper.upon]
  exact h.mono fun e w'' ⟨v, he, hv⟩ => by subst he; exact hv
theorem isRow_go (n k T size : Nat) : ∀ (l : List Blk) (i : Nat), isRow.go n l i = some (k, T, size) → ∃ j, k = i + j ∧ l[j]? = some (.row n T size)
  | [], i, h => by simp [isRow.go] at h
  | .cells cs T' sh :: l, i, h => by
    simp only [isRow.go] at h
    obtain ⟨j, h1, h2⟩ := isRow_go n k T size l _ h
    exact ⟨j + 1, by omega, by simpa using h2⟩
  | .row m T' size' :: l, i, h => by
    simp only [isRow.go] at h
    by_cases hm : m = n
    · rw [if_pos hm] at h
      simp only [Option.some.injEq, Prod.mk.injEq] at h
      obtain ⟨rfl, rfl, rfl⟩ := h
      exact ⟨0, by simp, by simp [hm]⟩
    · rw [if_neg hm] at h
      obtain ⟨j, h1, h2⟩ := isRow_go n k T size l _ h
      exact ⟨j + 1, by omega, by simpa using h2⟩
theorem isRow_spec {H : List Blk} {n k T size : Nat} (h : isRow H n = some (k, T, size)) : H[k]? = some (.row n T size) := by
  obtain ⟨j, h1, h2⟩ := isRow_go n k T size H 0 h
  rw [h1, Nat.zero_add]; exact h2
theorem chunk_spec (size : Nat) : ∀ (n : Nat) (l : List SV), l.length = n * size → (chunk size n l).flatten = l ∧ (∀ e ∈ chunk size n l, e.length = size) ∧ (chunk size n l).length = n
  | 0, l, h => by simp at h; subst h; simp [chunk]
  | n + 1, l, h => by
    have h1 : (l.drop size).length = n * size := by rw [List.length_drop, h, Nat.add_mul]; omega
    obtain ⟨a1, a2, a3⟩ := chunk_spec size n _ h1
    refine ⟨by simp [chunk, a1], ?_, by simp [chunk, a3]⟩
    intro e he
    simp only [chunk, List.mem_cons] at he
    rcases he with rfl | he
    · rw [List.length_take, h, Nat.add_mul]; omega
    · exact a2 e he
theorem flat_one (hρ : ρ.Ok) {l : List SV} (h : l.all SV.flat = true) (β : Nat → Nat) : ∀ u ∈ SV.dens ρ β l, u.oneCell' = true := by
  intro u hu
  rw [SV.dens_map] at hu
  obtain ⟨x, hx, rfl⟩ := List.mem_map.1 hu
  have := List.all_eq_true.1 h x hx
  cases x <;> simp [SV.flat] at this
  case va n => exact oneCell_of_fine (hρ.fine n)
  all_goals rfl
/-- What an append's source is in the machine. -/
theorem src_spec (h : Rel w0 s0 X ρ s β g a w) {size : Nat} {y : SV} {src : Src} (hs : srcOf g.H size y = some src) {es : List (List Value)} (he : SrcIs ρ s size es src)
    (hid : ∀ l, src = .lit l → l.map (SV.dens ρ β) = l.map (SV.dens ρ id)) :
    (∀ e ∈ es, e.length = size) ∧ (∀ e ∈ es, ∀ u ∈ e, u.oneCell' = true) ∧
      ((es = [] ∧ ∃ c, y.den ρ β = .slice none 0 c) ∨ ∃ ad c, y.den ρ β = .slice (some ad) es.length c ∧ ∀ j u, es.flatten[j]? = some u → w.cell? (ad.add j) = some u) := by
  unfold srcOf at hs
  split at hs
  · rename_i k len
    split at hs
    case h_2 => simp at hs
    rename_i cs T hk
    split at hs
    case isFalse => simp at hs
    rename_i hc
    simp only [Option.some.injEq] at hs
    subst hs
    simp only [Bool.and_eq_true, beq_iff_eq] at hc
    obtain ⟨a1, a2, a3⟩ := chunk_spec size len cs hc.2
    simp only [SrcIs] at he
    rw [← hid _ rfl] at he
    subst he
    have hH := h.hok k cs T hk
    have hfl : ((chunk size len cs).map (SV.dens ρ β)).flatten = SV.dens ρ β cs := by
      conv => rhs; rw [← a1]
      simp only [SV.dens_map, List.map_flatten]
      congr 1
      apply List.map_congr_left
      intro x _
      exact SV.dens_map ρ β x
    refine ⟨?_, ?_, .inr ⟨⟨β k, 0, none⟩, len, ?_, ?_⟩⟩
    · intro e he
      obtain ⟨x, hx, rfl⟩ := List.mem_map.1 he
      rw [dens_length]; exact a2 x hx
    · intro e he u hu
      obtain ⟨x, hx, rfl⟩ := List.mem_map.1 he
      refine flat_one h.ok (l := cs) hc.1 β u ?_
      rw [← hfl]
      exact List.mem_flatten.2 ⟨_, List.mem_map.2 ⟨x, hx, rfl⟩, hu⟩
    · simp [SV.den, a3]
    · intro j u hj
      rw [hfl] at hj
      rw [addr_add0]
      simp only [World.cell?, hH, Option.isSome_none, Bool.false_eq_true, if_false]
      simpa using hj
  · rename_i n
    simp only [Option.some.injEq] at hs
    subst hs
    obtain ⟨h1, h2⟩ := he
    refine ⟨h1.1, h2, ?_⟩
    obtain ⟨hl, ad, cap, hv, hcap, hc⟩ := h1
    by_cases hnil : es = []
    · subst hnil
      cases ad with
      | none => exact .inl ⟨rfl, cap, by simpa [SV.den] using hv⟩
      | some ad => exact .inr ⟨ad, cap, by simpa [SV.den] using hv, by simp⟩
    · obtain ⟨b, o, rfl, hcells⟩ := hc hnil
      refine .inr ⟨_, cap, by simpa [SV.den] using hv, fun j u hj => ?_⟩
      obtain ⟨i, x, r, b1, b2, rfl⟩ := flat_get size es hl j u hj
      have := h.sb _ _ _ (hcells i x b1 r u b2)
      have e : (⟨b, o, none⟩ : Addr).add (i * size + r) = ⟨b, o + i * size + r, none⟩ := by unfold Addr.add; split <;> simp_all <;> omega
      rw [e]; exact this
  · simp only [Option.some.injEq] at hs
    subst hs
    simp only [SrcIs] at he
    subst he
    exact ⟨by simp, by simp, .inl ⟨rfl, 0, rfl⟩⟩
  · simp at hs
theorem lit_id {l : List (List SV)} (hl : SV.oks g.ni g.nb g.nv g.nj (fun _ => false) l.flatten = true) : l.map (SV.dens ρ β) = l.map (SV.dens ρ id) := by
  have hle : Env.Le g.ni g.nb g.nv g.nj ρ ρ := ⟨fun _ _ => rfl, fun _ _ => rfl, fun _ _ => rfl, fun _ _ => rfl⟩
  have key : ∀ l : List SV, SV.oks g.ni g.nb g.nv g.nj (fun _ => false) l = true → SV.dens ρ β l = SV.dens ρ id l := fun l hl => SV.dens_le hle (by simp) l hl
  have sub : ∀ (l m : List SV), SV.oks g.ni g.nb g.nv g.nj (fun _ => false) (l ++ m) = true → SV.oks g.ni g.nb g.nv g.nj (fun _ => false) l = true ∧ SV.oks g.ni g.nb g.nv g.nj (fun _ => false) m = true := by
    intro l m
    induction l with
    | nil => intro h; exact ⟨rfl, h⟩
    | cons x l ih =>
      intro h
      simp only [List.cons_append, SV.oks, Bool.and_eq_true] at h ⊢
      obtain ⟨h1, h2⟩ := ih h.2
      exact ⟨⟨h.1, h1⟩, h2⟩
  induction l with
  | nil => rfl
  | cons x l ih =>
    simp only [List.flatten_cons] at hl
    obtain ⟨h1, h2⟩ := sub _ _ hl
    simp only [List.map_cons, key x h1, ih h2]
theorem run_call (hP : ProgOk P c) {sl : List SV} {o : Oper} {fo : Operand} {args : Array Operand} {ts : Array TypeId} (ho : o.op = .call { callee := .value fo, args := args, argTypes := ts }) {f nf : Nat} {cap as : List SV}
    (hf : ev sl fo = some (.fn f nf cap)) (has : evs sl args.toList = some as) (hok : c.fok f = true) (ha : a.tmps = (SV.dens ρ β sl).toArray) :
    (execOp a.eval o).run P w = .ok (.enter f (SV.dens ρ β (cap.take nf ++ as ++ cap.drop nf)).toArray) w := by
  obtain ⟨dst, op, type, pos, after, guard⟩ := o
  simp only at ho; subst ho
  have hargs : args.map a.eval = (SV.dens ρ β as).toArray := by rw [← evs_den ha _ _ has]; exact Array.ext' (by simp)
  have hd : ((SV.dens ρ β cap).take nf).toArray ++ (SV.dens ρ β as).toArray ++ ((SV.dens ρ β cap).drop nf).toArray = (SV.dens ρ β (cap.take nf ++ as ++ cap.drop nf)).toArray := by simp [SV.dens_map]
  simp only [execOp, resolve, ev_den hf ha, hargs, SV.den, Deferred.ofValue, Sem.run_bind, Sem.run_pure, Result.andThen_ok, invoke, Array.empty_append, hd]
  exact hP.call f hok _ w
/-- The store of an element that was left open. -/
theorem run_fill (hP : ProgOk P c) {o : Oper} {t : TypeId} {ax vx : Operand} (ho : o.op = .store t ax vx) {n : Nat} {i : IE} {y : SV} {ti : TI} (hi : c.tab t = some ti)
    (hax : ev g.sl ax = some (.ea n i ti.size 0)) (hvx : ev g.sl vx = some y) (hcok : y.cok = true) (hlen : (cellsOf y).length = ti.size) (hflat : (cellsOf y).all SV.flat = true)
    (h : Rel w0 s0 X ρ s β g a w) {b m : Nat} (hb : g.H[b]? = some (.row m t ti.size)) {xs : List (List Value)} (hx : SliceIn s ti.size (ρ.v.getD m vd) xs) (hE : Ext (ρ.v.getD m vd) (ρ.v.getD n vd) xs.length) (hin : i.den ρ = xs.length) :
    ∃ w' s', (execOp a.eval o).run P w = .ok .skip w' ∧ App P t ti.size s w (ρ.v.getD m vd) (xs ++ [SV.dens ρ β (cellsOf y)]) (ρ.v.getD n vd) w' s' := by
  obtain ⟨dst, op, type, pos, after, guard⟩ := o
  simp only at ho; subst ho
  obtain ⟨q, cap, hm, hn, hcap⟩ := hE
  have hbl := (h.bl b _ hb).2
  rw [hm] at hbl hx
  rcases hbl with hbl | ⟨m', cap', cur, e1, e2, e3, e4, e5, e6, e7⟩
  · simp at hbl
  simp only [Value.slice.injEq, Option.some.injEq, Addr.mk.injEq] at e1
  obtain ⟨⟨rfl, _, _⟩, rfl, rfl⟩ := e1
  have hI := hP.tab _ _ hi
  have hcells := cells_den' (β := β) h.ok y hcok
  have hone := flat_one h.ok hflat β
  have hall : ∀ x ∈ xs ++ [SV.dens ρ β (cellsOf y)], x.length = ti.size := by
    intro x hx'
    rcases List.mem_append.1 hx' with h1 | h1
    · exact hx.1 x h1
    · rw [List.mem_singleton.1 h1, dens_length, hlen]
  have holds : ∀ j u, xs.flatten[j]? = some u → s (β b) j = some u := by
    intro j u hj
    obtain ⟨i', x, r, a1, a2, rfl⟩ := flat_get ti.size xs hx.1 j u hj
    obtain ⟨_, a, cap2, he, _, hcell⟩ := hx
    simp only [Value.slice.injEq] at he
    obtain ⟨b2, o2, hb2, hcell⟩ := hcell (by intro h; subst h; simp at a1)
    rw [hb2] at he
    simp only [Option.some.injEq, Addr.mk.injEq] at he
    obtain ⟨⟨rfl, rfl, _⟩, _⟩ := he
    simpa using hcell i' x a1 r u a2
  have hxl : xs.flatten.length = xs.length * ti.size := flat_len _ _ hx.1
  have hpre : cur.toList.take (xs.length * ti.size) = xs.flatten := by
    apply List.ext_getElem?
    intro j
    rw [List.getElem?_take]
    by_cases hj : j < xs.length * ti.size
    · rw [if_pos hj]
      have hjx : j < xs.flatten.length := by rw [hxl]; exact hj
      have := h.sb _ _ _ (holds j _ (List.getElem?_eq_getElem hjx))
      simp only [World.cell?, e3, Option.isSome_none, Bool.false_eq_true, if_false] at this
      rw [List.getElem?_eq_getElem hjx, ← this, Array.getElem?_toList]
    · rw [if_neg hj, List.getElem?_eq_none (by rw [hxl]; omega)]
  have hfit : xs.length * ti.size + (SV.dens ρ β (cellsOf y)).length ≤ cur.size := by
    rw [dens_length, hlen, e6]
    have : (xs.length + 1) * ti.size ≤ cap * ti.size := Nat.mul_le_mul_right _ hcap
    rw [Nat.add_mul] at this
    omega
  have hst := run_storeCells_at P (β b) (xs.length * ti.size) t (SV.dens ρ β (cellsOf y)) 0 cur w e3 (by simpa using hfit) hone
  have happ := app_room (P := P) h.sb hall e3 (by simpa using hcap) e5 e6 e7 holds
  simp only [List.flatten_cons, List.flatten_nil, List.append_nil, List.length_cons, List.length_nil, Nat.zero_add] at happ
  rw [hm, hn]
  refine ⟨_, _, ?_, happ⟩
  simp only [Nat.add_zero, hpre] at hst
  have had : (SV.ea n i ti.size 0).den ρ β = .pointer (some ⟨β b, xs.length * ti.size, none⟩) := by
    simp only [SV.den, hn, addrOf, Option.getD_some, hin, Int.toNat_natCast, Addr.add]
    simp
    exact fun h => h.symm
  simp only [execOp, ev_den hax h.tm, ev_den hvx h.tm, had, Instr.storeAt, Instr.sureAddr, Sem.run_bind, Sem.run_pure, Result.andThen_ok, storeVar, hcells, run_sizeOf hI, List.size_toArray, dens_length, hlen, ne_eq, not_true_eq_false, if_false, hst]
theorem shut_get (ks : List Nat) (H : List Blk) (k : Nat) : (shutBlk ks H)[k]? = (H[k]?).map fun b => match b with | .cells cs T s => .cells cs T (s || ks.contains k) | b => b := by
  unfold shutBlk
  simp only [List.getElem?_map, List.getElem?_zipIdx]
  cases H[k]? with
  | none => rfl
  | some b => simp; cases b <;> rfl
theorem getBlk_shut (ks : List Nat) (H : List Blk) (k : Nat) : getBlk (shutBlk ks H) k = getBlk H k := by
  unfold getBlk
  rw [shut_get]
  cases H[k]? with
  | none => rfl
  | some b => cases b <;> rfl
/-- The cells of shut blocks are told. -/
noncomputable def shutHp (H : List Blk) (β : Nat → Nat) (s : Hp) (w : World) : Hp := fun b o =>
  @ite _ (∃ k cs T, H[k]? = some (Blk.cells cs T true) ∧ β k = b) (Classical.propDecidable _) (w.cell? ⟨b, o, none⟩) (s b o)
theorem Rel.shut (h : Rel w0 s0 X ρ s β g a w) (ks : List Nat) :
    Rel w0 s0 X ρ (shutHp (shutBlk ks g.H) β s w) β { g with H := shutBlk ks g.H } a w ∧ s.le (shutHp (shutBlk ks g.H) β s w) ∧ HShut ρ β (shutBlk ks g.H) (shutHp (shutBlk ks g.H) β s w) ∧ New w0.heap.size s (shutHp (shutBlk ks g.H) β s w) := by
  have hcell : ∀ (k : Nat) (cs : List SV) (T : Nat) (sh : Bool), (shutBlk ks g.H)[k]? = some (Blk.cells cs T sh) → ∃ sh', g.H[k]? = some (Blk.cells cs T sh') := by
    intro k cs T sh hk
    rw [shut_get] at hk
    cases hg : g.H[k]? with
    | none => simp [hg] at hk
    | some b =>
      cases b with
      | cells cs' T' sh' => simp only [hg, Option.map_some, Option.some.injEq, Blk.cells.injEq] at hk; obtain ⟨rfl, rfl, _⟩ := hk; exact ⟨_, rfl⟩
      | row n T' size => simp [hg] at hk
  have hle : s.le (shutHp (shutBlk ks g.H) β s w) := by
    intro b o u hu
    simp only [shutHp]
    split
    · exact h.sb b o u hu
    · exact hu
  have hshut : HShut ρ β (shutBlk ks g.H) (shutHp (shutBlk ks g.H) β s w) := by
    intro k cs T hk o u hu
    simp only [shutHp]
    rw [if_pos ⟨k, cs, T, hk, rfl⟩]
    obtain ⟨sh', hk'⟩ := hcell _ _ _ _ hk
    have := (h.bl k _ hk').2.1
    simp only [World.cell?, this, Option.isSome_none, Bool.false_eq_true, if_false]
    simpa using hu
  have hnew : New w0.heap.size s (shutHp (shutBlk ks g.H) β s w) := by
    intro b o u hu hn
    simp only [shutHp] at hu
    split at hu
    · rename_i hx
      obtain ⟨k, cs, T, hk, rfl⟩ := hx
      obtain ⟨sh', hk'⟩ := hcell _ _ _ _ hk
      exact (h.bl k _ hk').1
    · rw [hu] at hn; simp at hn
  have hkey : ∀ (i : Nat) (b : Blk), (shutBlk ks g.H)[i]? = some b → act ρ b → ∃ b', g.H[i]? = some b' ∧ act ρ b' := by
    intro i b hi hb
    rw [shut_get] at hi
    cases hg : g.H[i]? with
    | none => simp [hg] at hi
    | some b' =>
      cases b' with
      | cells cs T sh => exact ⟨_, rfl, trivial⟩
      | row n T size => simp only [hg, Option.map_some, Option.some.injEq] at hi; subst hi; exact ⟨_, rfl, hb⟩
  have hkp : ∀ x, X.K x ∨ x ∈ ρ.m → Kept (shutHp (shutBlk ks g.H) β s w) ρ β (shutBlk ks g.H) w x := fun x hx => by
    obtain ⟨k1, k2, k3⟩ := h.kp x hx
    refine ⟨k1, fun k b hk hb => ?_, fun o => ?_⟩
    · obtain ⟨b', e1, e2⟩ := hkey k b hk hb
      exact k2 k b' e1 e2
    · simp only [shutHp]
      rw [if_neg]
      · exact k3 o
      · rintro ⟨k, cs2, T2, hk2, he⟩
        obtain ⟨sh2, hk2'⟩ := hcell _ _ _ _ hk2
        exact k2 k _ hk2' trivial he
  refine ⟨⟨h.tm, h.df, h.sz, hkp, h.ms, h.fs, h.ci, h.cb, h.cv, h.cj, h.ok, h.bel, ?_, ?_, Hp.le_trans h.le hle, ?_, ?_⟩, hle, hshut, hnew⟩
  · intro b o u hu
    simp only [shutHp] at hu
    split at hu
    · exact hu
    · exact h.sb b o u hu
  · intro b o u hu hn
    cases hs : s b o with
    | some v => exact h.nw b o v hs hn
    | none => exact hnew b o u hu hs
  · intro k b hk
    cases b with
    | cells cs T sh =>
      obtain ⟨sh', hk'⟩ := hcell _ _ _ _ hk
      obtain ⟨h1, h2, h3, h4⟩ := h.bl k _ hk'
      refine ⟨h1, h2, ?_, ?_⟩
      · intro hf o
        subst hf
        simp only [shutHp]
        rw [if_neg]
        · apply h3
          simp only [shut_get, hk', Option.map_some, Option.some.injEq, Blk.cells.injEq, Bool.or_eq_false_iff] at hk
          exact hk.2.2.1
        · rintro ⟨k2, cs2, T2, hk2, he⟩
          obtain ⟨sh2, hk2'⟩ := hcell _ _ _ _ hk2
          by_cases hkk : k2 = k
          · subst hkk; rw [hk] at hk2; simp at hk2
          · exact h.sp k2 k _ _ hkk hk2' hk' trivial trivial he
      · intro hf o u hu
        subst hf
        exact hshut k cs T hk o u hu
    | row n T size =>
      have hk' : g.H[k]? = some (.row n T size) := by
        rw [shut_get] at hk
        cases hg : g.H[k]? with
        | none => simp [hg] at hk
        | some b => cases b <;> simp [hg] at hk; rw [hk.1, hk.2.1, hk.2.2]
      have hbl := h.bl k _ hk'
      refine ⟨hbl.1, ?_⟩
      rcases hbl.2 with e | ⟨m, cap, cur, e1, e2, e3, e4, e5, e6, e7⟩
      · exact .inl e
      · refine .inr ⟨m, cap, cur, e1, e2, e3, e4, e5, e6, fun o u hu => ?_⟩
        simp only [shutHp] at hu
        rw [if_neg] at hu
        · exact e7 o u hu
        · rintro ⟨k2, cs2, T2, hk2, he⟩
          obtain ⟨sh2, hk2'⟩ := hcell _ _ _ _ hk2
          have hkk : k2 ≠ k := by intro hkk; subst hkk; rw [hk'] at hk2'; simp at hk2'
          exact h.sp k2 k _ _ hkk hk2' hk' trivial (by show ρ.v.getD n vd ≠ _; rw [e1]; simp) he
  · intro j k bj bk hjk hj hk aj ak
    have key : ∀ (i : Nat) (b : Blk), (shutBlk ks g.H)[i]? = some b → act ρ b → ∃ b', g.H[i]? = some b' ∧ act ρ b' := by
      intro i b hi hb
      rw [shut_get] at hi
      cases hg : g.H[i]? with
      | none => simp [hg] at hi
      | some b' =>
        cases b' with
        | cells cs T sh => exact ⟨_, rfl, trivial⟩
        | row n T size => simp only [hg, Option.map_some, Option.some.injEq] at hi; subst hi; exact ⟨_, rfl, hb⟩
    obtain ⟨b1, c1, c2⟩ := key j bj hj aj
    obtain ⟨b2, d1, d2⟩ := key k bk hk ak
    exact h.sp j k b1 b2 hjk c1 d1 c2 d2
/-- The cells of objects are told. -/
noncomputable def tellM (m : MS) (s : Hp) (w : World) : Hp := fun b o => @ite _ (b ∈ blks m) (Classical.propDecidable _) (w.cell? ⟨b, o, none⟩) (s b o)
theorem tellM_le {m : MS} {s : Hp} {w : World} (h : Sub s w) : s.le (tellM m s w) := fun b o u hu => by
  simp only [tellM]; split
  · exact h b o u hu
  · exact hu
theorem tellM_sub {m : MS} {s : Hp} {w : World} (h : Sub s w) : Sub (tellM m s w) w := fun b o u hu => by
  simp only [tellM] at hu; split at hu
  · exact hu
  · exact h b o u hu
theorem tellM_told {m : MS} {s : Hp} {w : World} (h : ∀ x ∈ m, w.heap[x.1]? = some x.2) : Told m (tellM m s w) := fun x hx cur T fr hc o u hu => by
  have h1 := h x hx
  rw [hc] at h1
  simp only [tellM]
  rw [if_pos (show x.1 ∈ blks m from List.mem_map.2 ⟨x, hx, rfl⟩)]
  simp only [World.cell?, h1, Option.isSome_none, Bool.false_eq_true, if_false]
  exact hu
theorem HShut.mono {H : List Blk} {s t : Hp} (h : HShut ρ β H s) (hst : s.le t) : HShut ρ β H t := fun k cs T hk o u hu => hst _ _ _ (h k cs T hk o u hu)
/-- What a frame that ends leaves of the objects: those handed in, the new ones' cells told. -/
theorem Rel.tell (h : Rel w0 s0 X ρ s β g a w) : s.le (tellM (ρ.m.drop ρ.k) s w) ∧ Sub (tellM (ρ.m.drop ρ.k) s w) w ∧ Told (ρ.m.drop ρ.k) (tellM (ρ.m.drop ρ.k) s w) ∧ New w0.heap.size s0 (tellM (ρ.m.drop ρ.k) s w) ∧
    MOk (tellM (ρ.m.drop ρ.k) s w) (ρ.m.take ρ.k) w := by
  refine ⟨tellM_le h.sb, tellM_sub h.sb, tellM_told (fun x hx => (h.kp x (.inr (List.mem_of_mem_drop hx))).is), ?_, ?_, ?_, ?_⟩
  · intro b o u hu hn
    simp only [tellM] at hu
    split at hu
    · rename_i hb
      obtain ⟨x, hx, rfl⟩ := List.mem_map.1 hb
      obtain ⟨i, hi⟩ := List.mem_iff_getElem?.1 hx
      rw [List.getElem?_drop] at hi
      exact h.ms.nw _ x (by omega) hi
    · exact h.nw b o u hu hn
  · have := h.ms.nd
    simp only [blks, List.map_take]
    exact this.sublist (List.take_sublist _ _)
  · exact fun x hx => (h.kp x (.inr (List.mem_of_mem_take hx))).is
  · intro x hx o
    simp only [tellM]
    rw [if_neg]
    · exact (h.kp x (.inr (List.mem_of_mem_take hx))).un o
    · intro hb
      obtain ⟨y, hy, he⟩ := List.mem_map.1 hb
      have hnd : ((blks (ρ.m.take ρ.k)) ++ blks (ρ.m.drop ρ.k)).Nodup := by
        simp only [blks]; rw [← List.map_append, List.take_append_drop]; exact h.ms.nd
      exact (List.nodup_append.1 hnd).2.2 _ (List.mem_map.2 ⟨x, hx, rfl⟩) _ (List.mem_map.2 ⟨y, hy, rfl⟩) he.symm
end
end Go.Sx
namespace Go.Sx
open Go.RowKit
section
variable {P : Program} {c : Ctx} {w0 : World} {s0 : Hp} {X : Fx} {ρ : Env} {s : Hp} {β : Nat → Nat} {g : Cfg} {a : Act} {w : World} {Q : Value → Hp → MS → Prop} {T : Cfg → Env → Hp → Prop}
abbrev badBlk (c : Ctx) (g : Cfg) (o : Oper) (k : Nat) : Prop := ∃ off new, storeOf c g.sl g.H o.op = some (k, off, new)
theorem stab_rfl {bad : Nat → Prop} {g' : Cfg} (h : g'.H = g.H) : Stab ρ β g ρ β g' bad :=
  stab_of (by rw [h]; exact Nat.le_refl _) (fun k _ _ => by rw [h]) (fun _ _ _ _ => ⟨rfl, rfl⟩)
theorem stab_env {bad : Nat → Prop} {g' : Cfg} (hr : Rel w0 s0 X ρ s β g a w) (hok : g.okB = true) (h : ∀ k, k < g.H.length → getBlk g'.H k = getBlk g.H k) (h0 : g.H.length ≤ g'.H.length) (is : List Int) (bs : List Bool) (vs : List Value)
    {β' : Nat → Nat} (hb : ∀ k, g.kf k = true → β' k = β k) : Stab ρ β g (ρ.push is bs vs) β' g' bad :=
  stab_of h0 (fun k hk _ => h k hk) (fun k cs T hk => by
    obtain ⟨sh, hk'⟩ := getBlk_cells hk
    exact ⟨SV.dens_le (hr.envle is bs vs) hb _ (okB_H hok hk'), hb k (by simp [Cfg.kf, hk])⟩)
theorem stab_envm {bad : Nat → Prop} {g' : Cfg} (hr : Rel w0 s0 X ρ s β g a w) (hok : g.okB = true) (h : ∀ k, k < g.H.length → getBlk g'.H k = getBlk g.H k) (h0 : g.H.length ≤ g'.H.length) (is : List Int) (bs : List Bool) (vs : List Value) (m' : MS)
    {β' : Nat → Nat} (hb : ∀ k, g.kf k = true → β' k = β k) : Stab ρ β g { ρ.push is bs vs with m := m' } β' g' bad :=
  stab_of h0 (fun k hk _ => h k hk) (fun k cs T hk => by
    obtain ⟨sh, hk'⟩ := getBlk_cells hk
    exact ⟨(SV.dens_m (ρ.push is bs vs) m' ρ.k β' cs).trans (SV.dens_le (hr.envle is bs vs) hb _ (okB_H hok hk')), hb k (by simp [Cfg.kf, hk])⟩)
theorem load_sound (hP : ProgOk P c) {fl : Bool} {o : Oper} {kont : Cfg → Out} (h : Rel w0 s0 X ρ s β g a w) {t : Nat} {x : Operand} (hop : o.op = .load t x) {xs : SV} (hxs : ev g.sl x = some xs)
    (hvc : VC P Q T (loadRun c fl g o.dst t xs kont) ρ s) :
    ∃ v ρ' g', (∀ w', Sub s w' → (fl = true ∨ w' = w) → (execOp a.eval o).run P w' = .ok (.value v) w') ∧ VC P Q T (kont g') ρ' s ∧ Rel w0 s0 X ρ' s β g' (a.put o.dst v) w ∧ (∀ bad, Stab ρ β g ρ' β g' bad) ∧ g'.todo = g.todo := by
  unfold loadRun at hvc
  split at hvc
  case h_2 => exact hvc.elim
  rename_i i hi
  split at hvc
  case isFalse => exact hvc.elim
  rename_i hok
  have main : (∃ ad, xs.den ρ β = .pointer (some ad)) → xs.den ρ β = xs.den ρ id →
      VC P Q T (if (fillK i.ks g.ni g.nb g.nv).1.length = i.size && SV.oks (fillK i.ks g.ni g.nb g.nv).2.1 (fillK i.ks g.ni g.nb g.nv).2.2.1 (fillK i.ks g.ni g.nb g.nv).2.2.2 0 (fun _ => false) (fillK i.ks g.ni g.nb g.nv).1 then
        .load fl xs (fillK i.ks g.ni g.nb g.nv).1 ((fillK i.ks g.ni g.nb g.nv).2.1 - g.ni) ((fillK i.ks g.ni g.nb g.nv).2.2.1 - g.nb) ((fillK i.ks g.ni g.nb g.nv).2.2.2 - g.nv)
          (kont { g with sl := putSV g.sl o.dst (if i.isAgg then .agg (fillK i.ks g.ni g.nb g.nv).1 else (fillK i.ks g.ni g.nb g.nv).1.headD .undef), ni := (fillK i.ks g.ni g.nb g.nv).2.1, nb := (fillK i.ks g.ni g.nb g.nv).2.2.1, nv := (fillK i.ks g.ni g.nb g.nv).2.2.2 })
        else .fail "load kinds") ρ s → ∃ v ρ' g', (∀ w', Sub s w' → (fl = true ∨ w' = w) → (execOp a.eval o).run P w' = .ok (.value v) w') ∧ VC P Q T (kont g') ρ' s ∧ Rel w0 s0 X ρ' s β g' (a.put o.dst v) w ∧ (∀ bad, Stab ρ β g ρ' β g' bad) ∧ g'.todo = g.todo := by
    intro hptr hid hvc
    split at hvc
    case isFalse => exact hvc.elim
    rename_i hc
    simp only [Bool.and_eq_true, decide_eq_true_eq] at hc
    obtain ⟨is, bs, vs, l1, l2, l3, hf, hr, hvc⟩ := hvc
    obtain ⟨e1, e2, e3⟩ := fillK_le i.ks g.ni g.nb g.nv
    have h1 := h.push hok is bs vs hf (fillK i.ks g.ni g.nb g.nv).2.1 (fillK i.ks g.ni g.nb g.nv).2.2.1 (fillK i.ks g.ni g.nb g.nv).2.2.2 (by omega) (by omega) (by omega)
    have hdens : SV.dens (ρ.push is bs vs) β (fillK i.ks g.ni g.nb g.nv).1 = SV.dens (ρ.push is bs vs) id (fillK i.ks g.ni g.nb g.nv).1 :=
      SV.dens_le (ni := (fillK i.ks g.ni g.nb g.nv).2.1) (nb := (fillK i.ks g.ni g.nb g.nv).2.2.1) (nv := (fillK i.ks g.ni g.nb g.nv).2.2.2) (nj := 0) (kf := fun _ => false)
        ⟨fun _ _ => rfl, fun _ _ => rfl, fun _ _ => rfl, fun _ _ => rfl⟩ (by simp) _ hc.2
    have hrd : ∀ (w' : World), Sub s w' → (fl = true ∨ w' = w) → ∃ b o, addrOf (xs.den ρ β) = some ⟨b, o, none⟩ ∧ ∀ j u, (SV.dens (ρ.push is bs vs) id (fillK i.ks g.ni g.nb g.nv).1)[j]? = some u → w'.cell? ⟨b, o + j, none⟩ = some u := by
      intro w' hs' hfl
      obtain ⟨b, o, ha, h2 | ⟨cur, T, fr, h2, h3⟩⟩ := hr
      · exact ⟨b, o, by rw [hid]; exact ha, fun j u hj => hs' _ _ _ (h2 j u hj)⟩
      · cases hf : fl with
        | true => rw [hf] at h2; simp at h2
        | false =>
          rw [hf] at h2 hfl
          simp only [Bool.false_eq_true, if_false, false_or] at h2 hfl
          subst hfl
          refine ⟨b, o, by rw [hid]; exact ha, fun j u hj => ?_⟩
          have := (h.kp _ (.inr h2)).is
          simp only at this
          simp only [World.cell?, this, Option.isSome_none, Bool.false_eq_true, if_false]
          exact h3 j u hj
    have hrun := fun (w' : World) (hs' : Sub s w') (hfl : fl = true ∨ w' = w) => run_loadFar (w := w') hP hop hi hxs h.tm (vals := SV.dens (ρ.push is bs vs) id (fillK i.ks g.ni g.nb g.nv).1) (hrd w' hs' hfl) (by rw [dens_length]; exact hc.1) hptr
    have h2 := h1.put o.dst (if i.isAgg then .agg (fillK i.ks g.ni g.nb g.nv).1 else (fillK i.ks g.ni g.nb g.nv).1.headD .undef)
    have hv : (if i.isAgg then SV.agg (fillK i.ks g.ni g.nb g.nv).1 else (fillK i.ks g.ni g.nb g.nv).1.headD .undef).den (ρ.push is bs vs) β =
        (if i.isAgg then .agg (SV.dens (ρ.push is bs vs) id (fillK i.ks g.ni g.nb g.nv).1).toArray else (SV.dens (ρ.push is bs vs) id (fillK i.ks g.ni g.nb g.nv).1).headD undef) := by
      rw [← hdens]
      split
      · rfl
      · cases (fillK i.ks g.ni g.nb g.nv).1 <;> rfl
    rw [hv] at h2
    exact ⟨_, _, _, hrun, hvc, h2, fun bad => stab_env h hok (fun _ _ => rfl) (Nat.le_refl _) is bs vs (fun _ _ => rfl), rfl⟩
  split at hvc
  · exact main ⟨_, rfl⟩ rfl hvc
  · exact main ⟨_, rfl⟩ rfl hvc
  · exact hvc.elim
theorem cut_sound (hP : ProgOk P c) {o : Oper} {kont : Cfg → Out} (h : Rel w0 s0 X ρ s β g a w) {t : Nat} {x : Operand} {lo hi : Option Operand} (hop : o.op = .slice t x lo hi none) {xs : SV} (hxs : ev g.sl x = some xs)
    (hvc : VC P Q T (cutRun c g o.dst t xs lo hi kont) ρ s) :
    ∃ v ρ' g', (∀ w', (execOp a.eval o).run P w' = .ok (.value v) w') ∧ VC P Q T (kont g') ρ' s ∧ Rel w0 s0 X ρ' s β g' (a.put o.dst v) w ∧ (∀ bad, Stab ρ β g ρ' β g' bad) ∧ g'.todo = g.todo := by
  unfold cutRun at hvc
  split at hvc
  case h_2 => exact hvc.elim
  rename_i e m hty
  obtain ⟨ti, hti, hti'⟩ := Ctx.ty_some hty
  have hty := (hP.tab t ti hti).ty
  simp only [hti'] at hty
  split at hvc
  case h_2 => exact hvc.elim
  rename_i i lo' hi' hi1 hlo hhi
  split at hvc
  case isFalse => exact hvc.elim
  rename_i hok
  obtain ⟨xs, hsl, b0, b1, b2, hvc⟩ := hvc
  have hlo' : match lo.map a.eval with | none => loOf ρ lo' = 0 | some v => ∃ k, v = .int k (loOf ρ lo') := by
    cases lo with
    | none => simp only [optInt, Option.some.injEq] at hlo; subst hlo; rfl
    | some l =>
      simp only [optInt] at hlo
      split at hlo
      · rename_i k e' he
        simp only [Option.some.injEq] at hlo; subst hlo
        exact ⟨k, by rw [ev_den he h.tm]; rfl⟩
      · simp at hlo
  have hhi' : match hi.map a.eval with | none => hiOf ρ hi' xs.length = xs.length | some v => ∃ k, v = .int k (hiOf ρ hi' xs.length) := by
    cases hi with
    | none => simp only [optInt, Option.some.injEq] at hhi; subst hhi; rfl
    | some l =>
      simp only [optInt] at hhi
      split at hhi
      · rename_i k e' he
        simp only [Option.some.injEq] at hhi; subst hhi
        exact ⟨k, by rw [ev_den he h.tm]; rfl⟩
      · simp at hhi
  obtain ⟨v', hr, hv'⟩ := run_cut (P := P) (hP.tab _ _ hi1) hty hsl (lo.map a.eval) (hi.map a.eval) _ _ hlo' hhi' b0 b1 b2
  have h1 := h.push hok [] [] [v'] (by simp [hv'.fine]) g.ni g.nb (g.nv + 1) (by simp) (by simp) (by simp)
  have h2 := h1.put o.dst (.va g.nv)
  have hv : (SV.va g.nv).den (ρ.push [] [] [v']) β = v' := by simp [SV.den, Env.push, ← h.cv]
  rw [hv] at h2
  have hrun : ∀ w, (execOp a.eval o).run P w = .ok (.value v') w := by
    intro w
    obtain ⟨dst, op, type, pos, after, guard⟩ := o
    simp only at hop; subst hop
    simp only [execOp, ev_den hxs h.tm, SV.den, Sem.run_bind, Option.map_none, hr, Result.andThen_ok, Sem.run_pure]
  exact ⟨_, _, _, hrun, hvc v' hv', h2, fun bad => stab_env h hok (fun _ _ => rfl) (Nat.le_refl _) [] [] [v'] (fun _ _ => rfl), rfl⟩
theorem chk_sound (hP : ProgOk P c) {o : Oper} {kont : Cfg → Out} (h : Rel w0 s0 X ρ s β g a w) {t : Nat} {x hh mm : Operand} (hop : o.op = .slice t x none (some hh) (some mm))
    (hvc : VC P Q T (chkRun c g o.dst t x hh mm kont) ρ s) :
    ∃ v ρ' g', (∀ w', (execOp a.eval o).run P w' = .ok (.value v) w') ∧ VC P Q T (kont g') ρ' s ∧ Rel w0 s0 X ρ' s β g' (a.put o.dst v) w ∧ (∀ bad, Stab ρ β g ρ' β g' bad) ∧ g'.todo = g.todo := by
  unfold chkRun at hvc
  split at hvc
  case h_2 => exact hvc.elim
  rename_i n k1 e1 k2 e2 el hx1 hx2 hx3 hty
  split at hvc
  case h_2 => exact hvc.elim
  rename_i ie hie
  split at hvc
  case isFalse => exact hvc.elim
  rename_i hc
  simp only [Bool.and_eq_true, decide_eq_true_eq] at hc
  obtain ⟨⟨rfl, rfl⟩, hok⟩ := hc
  obtain ⟨⟨xs, hsl⟩, hvc⟩ := hvc
  obtain ⟨ti, hti, hti'⟩ := Ctx.ty_some hty
  have hty := (hP.tab t ti hti).ty
  simp only [hti'] at hty
  have h2 := h.put o.dst (.fs n)
  obtain ⟨hl, ad, cap, hv, hcap, hcc⟩ := hsl
  have hrun : ∀ w, (execOp a.eval o).run P w = .ok (.value ((SV.fs n).den ρ β)) w := by
    intro w
    obtain ⟨dst, op, type, pos, after, guard⟩ := o
    simp only at hop; subst hop
    have hb : (Instr.sliceBounds true xs.length cap none (some (.int k1 xs.length)) (some (.int k2 xs.length))).run P w = .ok (0, xs.length, xs.length) w := by
      unfold Instr.sliceBounds
      simp [run_bound (P := P) (.int k1 xs.length) xs.length xs.length _ w ⟨k1, rfl⟩ ⟨by omega, by omega⟩, run_bound (P := P) (.int k2 xs.length) xs.length cap _ w ⟨k2, rfl⟩ ⟨by omega, by omega⟩]
    simp only [execOp, ev_den hx1 h.tm, ev_den hx2 h.tm, ev_den hx3 h.tm, Option.map_none, Option.map_some, SV.den, IE.den, hv, sliceLen, fullV]
    simp [Instr.sliceAt, run_underlying hty, Instr.slice, run_sizeOf (hP.tab _ _ hie), hb]
    cases ad <;> simp [Addr.add]
  exact ⟨_, _, _, hrun, hvc, h2, fun bad => stab_rfl rfl, rfl⟩
theorem dens_nil (g : Cfg) {l : List SV} (h : SV.oks g.ni g.nb g.nv g.nj (fun _ => false) l = true) (ρ : Env) (β : Nat → Nat) : SV.dens ρ β l = SV.dens ρ id l :=
  SV.dens_le (ni := g.ni) (nb := g.nb) (nv := g.nv) (nj := g.nj) (kf := fun _ => false) ⟨fun _ _ => rfl, fun _ _ => rfl, fun _ _ => rfl, fun _ _ => rfl⟩ (by simp) _ h
theorem den_nil (g : Cfg) {l : SV} (h : SV.ok g.ni g.nb g.nv g.nj (fun _ => false) l = true) (ρ : Env) (β : Nat → Nat) : SV.den ρ β l = SV.den ρ id l :=
  SV.den_le (ni := g.ni) (nb := g.nb) (nv := g.nv) (nj := g.nj) (kf := fun _ => false) ⟨fun _ _ => rfl, fun _ _ => rfl, fun _ _ => rfl, fun _ _ => rfl⟩ (by simp) _ h
theorem fine_flat' {ρ : Env} (hρ : ρ.Ok) (β : Nat → Nat) {v : SV} (h : v.flat = true) : fineV (v.den ρ β) = true := by
  cases v <;> simp [SV.flat] at h <;> try rfl
  exact hρ.fine _
abbrev GoOn (P : Program) (Q : Value → Hp → MS → Prop) (T : Cfg → Env → Hp → Prop) (c : Ctx) (w0 : World) (s0 : Hp) (X : Fx) (ρ : Env) (s : Hp) (β : Nat → Nat) (g : Cfg) (o : Oper) (kont : Cfg → Out) (K : Act → World → Prop) : Prop :=
  ∀ ρ' s' β' g' a' w', VC P Q T (kont g') ρ' s' → Rel w0 s0 X ρ' s' β' g' a' w' → Stab ρ β g ρ' β' g' (badBlk c g o) → g'.todo = g.todo → s.le s' → K a' w'
/-- A new object. -/
theorem newM_sound (hP : ProgOk P c) {o : Oper} {kont : Cfg → Out} (h : Rel w0 s0 X ρ s β g a w) {cs : List SV} {t : Nat} {v : SV} (hnew : newBlk c g.sl g.H.length o.op = some (cs, t, v))
    (hvc : VC P Q T (newMRun g o.dst cs t v kont) ρ s) {K : Act → World → Prop} {Qx : Exit → Act → World → Prop} (hK : GoOn P Q T c w0 s0 X ρ s β g o kont K) : o.wp P a w K Qx := by
  unfold newMRun at hvc
  split at hvc
  case h_2 => exact hvc.elim
  rename_i kk
  split at hvc
  case isFalse => exact hvc.elim
  rename_i hc
  simp only [Bool.and_eq_true] at hc
  obtain ⟨⟨hok, hflat⟩, hoks⟩ := hc
  obtain ⟨v', hr, hv⟩ := run_newBlk (β := β) hP h.ok hnew h.tm w
  have hv' := hv ρ (fun _ => w.heap.size) rfl
  simp only [SV.den] at hv'
  subst hv'
  rw [dens_nil g hoks] at hr
  obtain ⟨hn, h1⟩ := h.newM (.cells (SV.dens ρ id cs).toArray t)
  have h2 := h1.push hok [] [] [.pointer (some ⟨w.heap.size, 0, none⟩)] rfl g.ni g.nb (g.nv + 1) (by simp) (by simp) (by simp)
  have h3 := h2.put o.dst (.pa g.nv 0)
  have hden : (SV.pa g.nv 0).den (({ ρ with m := ρ.m ++ [(w.heap.size, .cells (SV.dens ρ id cs).toArray t)] } : Env).push [] [] [.pointer (some ⟨w.heap.size, 0, none⟩)]) β = .pointer (some ⟨w.heap.size, 0, none⟩) := by
    simp [SV.den, Env.push, ← h.cv, addrOf, addr_add0]
  rw [hden] at h3
  exact wp_value hr (hK _ _ _ _ _ _ (hvc _ hn) h3 (stab_envm h hok (fun _ _ => rfl) (Nat.le_refl _) [] [] [_] _ (fun _ _ => rfl)) rfl (Hp.le_refl s))
/-- make of a slice. -/
theorem mkM_sound (hP : ProgOk P c) {o : Oper} {kont : Cfg → Out} (h : Rel w0 s0 X ρ s β g a w) {t : Nat} {lx nx : Operand} (hop : o.op = .makeSlice t lx nx) {l n : SV} (hl : ev g.sl lx = some l) (hn : ev g.sl nx = some n)
    (hvc : VC P Q T (mkMRun c g o.dst t l n kont) ρ s) {K : Act → World → Prop} {Qx : Exit → Act → World → Prop} (hK : GoOn P Q T c w0 s0 X ρ s β g o kont K) : o.wp P a w K Qx := by
  unfold mkMRun at hvc
  split at hvc
  case h_2 => exact hvc.elim
  rename_i k1 l k2 n e hty
  obtain ⟨ti, hti, hti'⟩ := Ctx.ty_some hty
  have hty := (hP.tab t ti hti).ty
  simp only [hti'] at hty
  split at hvc
  case h_2 => exact hvc.elim
  rename_i i hi
  split at hvc
  case isFalse => exact hvc.elim
  rename_i hc
  simp only [Bool.and_eq_true, decide_eq_true_eq] at hc
  obtain ⟨⟨⟨hok, rfl⟩, hflat⟩, hoks⟩ := hc
  obtain ⟨b0, b1, b2, hvc⟩ := hvc
  have hI := hP.tab _ _ hi
  obtain ⟨inf, z, i1, i2, i3, i4, i5⟩ := hI.inf
  have hr := run_make (P := P) w t e inf z hty i1 i4 k1 k2 (l.den ρ) (l.den ρ) b0 (Int.le_refl _) (by rw [i3, Int.mul_comm]; omega) b2
  rw [i5 ρ id, i2] at hr
  have hrun : (execOp a.eval o).run P w = .ok (.value (.slice (some ⟨w.heap.size, 0, none⟩) (l.den ρ).toNat (l.den ρ).toNat)) (w.alloc (.cells (madeCells (SV.dens ρ id i.zero).toArray ((l.den ρ).toNat * i.size)) e)) := by
    obtain ⟨dst, op, type, pos, after, guard⟩ := o
    simp only at hop; subst hop
    simp only [execOp, ev_den hl h.tm, ev_den hn h.tm, SV.den, Sem.run_bind, hr, Result.andThen_ok, Sem.run_pure]
  obtain ⟨hn', h1⟩ := h.newM (.cells (madeCells (SV.dens ρ id i.zero).toArray ((l.den ρ).toNat * i.size)) e)
  have h2 := h1.push hok [] [] [.slice (some ⟨w.heap.size, 0, none⟩) (l.den ρ).toNat (l.den ρ).toNat] rfl g.ni g.nb (g.nv + 1) (by simp) (by simp) (by simp)
  have h3 := h2.put o.dst (.va g.nv)
  have hden : (SV.va g.nv).den (({ ρ with m := ρ.m ++ [(w.heap.size, .cells (madeCells (SV.dens ρ id i.zero).toArray ((l.den ρ).toNat * i.size)) e)] } : Env).push [] [] [.slice (some ⟨w.heap.size, 0, none⟩) (l.den ρ).toNat (l.den ρ).toNat]) β = .slice (some ⟨w.heap.size, 0, none⟩) (l.den ρ).toNat (l.den ρ).toNat := by
    simp [SV.den, Env.push, ← h.cv]
  rw [hden] at h3
  exact wp_value hrun (hK _ _ _ _ _ _ (hvc _ hn') h3 (stab_envm h hok (fun _ _ => rfl) (Nat.le_refl _) [] [] [_] _ (fun _ _ => rfl)) rfl (Hp.le_refl s))
/-- A store into an object. -/
theorem storeM_sound (hP : ProgOk P c) {o : Oper} {kont : Cfg → Out} (h : Rel w0 s0 X ρ s β g a w) {t : Nat} {ax vx : Operand} (hop : o.op = .store t ax vx) {x y : SV} (hax : ev g.sl ax = some x) (hvx : ev g.sl vx = some y)
    (hvc : VC P Q T (storeMRun c g o.dst t x y kont) ρ s) {K : Act → World → Prop} {Qx : Exit → Act → World → Prop} (hK : GoOn P Q T c w0 s0 X ρ s β g o kont K) : o.wp P a w K Qx := by
  unfold storeMRun at hvc
  split at hvc
  case h_2 => exact hvc.elim
  rename_i ti hti
  split at hvc
  case isFalse => exact hvc.elim
  rename_i hc
  simp only [Bool.and_eq_true, beq_iff_eq] at hc
  obtain ⟨⟨⟨⟨⟨hok, hcok⟩, hlen⟩, hflat⟩, hoks⟩, hxok⟩ := hc
  have main : (∃ ad, x.den ρ id = .pointer (some ad)) → VC P Q T (.storeM x (cellsOf y) (kont { g with sl := putSV g.sl o.dst .undef })) ρ s → o.wp P a w K Qx := by
    rintro ⟨ad, had⟩ ⟨i, b, off, cur, T, hi, hab, hle, hvc⟩
    rw [had] at hab
    simp only [addrOf, Option.some.injEq] at hab
    subst hab
    have hI := hP.tab _ _ hti
    have hxd : x.den ρ β = .pointer (some ⟨b, off, none⟩) := by rw [den_nil g hxok]; exact had
    have hcells := cells_den' (β := β) h.ok y hcok
    rw [dens_nil g hoks] at hcells
    have hone : ∀ u ∈ SV.dens ρ id (cellsOf y), u.oneCell' = true := flat_one h.ok hflat id
    have hw := (h.kp _ (.inr (List.mem_of_getElem? hi))).is
    simp only at hw
    have hst := run_storeCells_at P b off T (SV.dens ρ id (cellsOf y)) 0 cur w hw (by simp only [dens_length]; omega) hone
    simp only [Nat.add_zero] at hst
    have hrun : (execOp a.eval o).run P w = .ok .skip (w.setRow b (setC cur.toList off (SV.dens ρ id (cellsOf y))).toArray) := by
      obtain ⟨dst, op, type, pos, after, guard⟩ := o
      simp only at hop; subst hop
      simp only [execOp, ev_den hax h.tm, ev_den hvx h.tm, hxd, Instr.storeAt, Instr.sureAddr, Sem.run_bind, Sem.run_pure, Result.andThen_ok, storeVar, hcells, run_sizeOf hI, List.size_toArray, dens_length, hlen, ne_eq, not_true_eq_false, if_false, hst]
      simp only [setC, dens_length, hlen]
    have h1 := h.setM hi (o' := .cells (setC cur.toList off (SV.dens ρ id (cellsOf y))).toArray T (0, 0)) (w' := w.setRow b (setC cur.toList off (SV.dens ρ id (cellsOf y))).toArray)
      (setRow_heap w _ _ _ T _ hw) (fun k hk => setRow_other _ _ _ _ hk) (by simp [World.setRow]) rfl rfl rfl
    have h2 := h1.put o.dst .undef
    refine wp_skip' hrun (hK _ _ _ _ _ _ hvc h2 ?_ rfl (Hp.le_refl s))
    have := stab_envm (bad := badBlk c g o) (g' := { g with sl := putSV g.sl o.dst .undef }) h hok (fun _ _ => rfl) (Nat.le_refl _) [] [] [] (ρ.m.set i (b, .cells (setC cur.toList off (SV.dens ρ id (cellsOf y))).toArray T (0, 0))) (β' := β) (fun _ _ => rfl)
    simpa [Env.push] using this
  split at hvc
  · exact main ⟨_, rfl⟩ hvc
  · exact main ⟨_, rfl⟩ hvc
  · exact hvc.elim
theorem isKey_of {K : IntKind} {es : Array MapEntry} {ks : List Int} (h : es.toList.map (·.key) = ks.map (Value.int K)) : ∀ x ∈ es.toList, MapKept.IsKey (.int K) x.key := by
  intro x hx
  have : x.key ∈ es.toList.map (·.key) := List.mem_map.2 ⟨x, hx, rfl⟩
  rw [h] at this
  obtain ⟨z, _, hz⟩ := List.mem_map.1 this
  rw [← hz]; rfl
theorem findNow_look {K : IntKind} (z : Int) : ∀ (es : List MapEntry) (ks : List Int) (i : Nat), es.map (·.key) = ks.map (Value.int K) →
    (Instr.findNow (.int K) (.int K z) es i = some none ∧ lookL ks (es.map (·.val)) z = none ∧ ∀ x, putL ks (es.map (·.val)) z x = (ks ++ [z], es.map (·.val) ++ [x])) ∨
    ∃ j e, Instr.findNow (.int K) (.int K z) es i = some (some (i + j, e.val)) ∧ es[j]? = some e ∧ e.key = .int K z ∧ lookL ks (es.map (·.val)) z = some e.val ∧ ∀ x, putL ks (es.map (·.val)) z x = (ks, (es.map (·.val)).set j x)
  | [], ks, i, h => by
    cases ks with
    | cons _ _ => simp at h
    | nil => exact .inl ⟨rfl, rfl, fun _ => rfl⟩
  | e :: es, ks, i, h => by
    cases ks with
    | nil => simp at h
    | cons k ks =>
    simp only [List.map_cons, List.cons.injEq] at h
    obtain ⟨h1, h2⟩ := h
    by_cases hk : k = z
    · subst hk
      refine .inr ⟨0, e, ?_, rfl, h1, by simp [lookL], fun x => by simp [putL]⟩
      simp [Instr.findNow, Instr.sameNow, h1]
    · have hs : Instr.sameNow (.int K) (.int K z) e.key = some false := by
        rw [h1]
        have : (z == k) = false := by simp; exact fun h => hk h.symm
        simp [Instr.sameNow, this]
      rcases findNow_look z es ks (i + 1) h2 with ⟨a, b, c⟩ | ⟨j, e', a, b, c, d, f⟩
      · exact .inl ⟨by simp [Instr.findNow, hs, a], by simp [lookL, hk, b], fun x => by simp [putL, hk, c x]⟩
      · refine .inr ⟨j + 1, e', ?_, by simpa using b, c, by simp [lookL, hk, d], fun x => by simp [putL, hk, f x]⟩
        simp [Instr.findNow, hs, a]; omega
theorem run_zero_of {t : Nat} {inf : TypeInfo} {z : Value} (h1 : P.info? t = some inf) (h2 : inf.zero = some z) (w : World) : (zeroValue t).run P w = .ok z w := by
  simp [zeroValue, typeInfo, h1, h2]
theorem run_lookup_of {i : MT} {t : Nat} (hI : i.Ok P t) {b : Nat} {es : Array MapEntry} {clock : Nat} (hb : w.heap[b]? = some (.map es clock)) {ks : List Int} {l : List Value} (hm : MapIs i.k es ks l) (z : Int) (ok : Bool) (ρ : Env) (β : Nat → Nat) :
    (Instr.lookup t (.map (some b)) (.int i.k z) ok).run P w = .ok (mapRes ok (lookL ks l z) (i.dflt.den ρ β)) w := by
  obtain ⟨inf, z0, h1, h2, h3⟩ := hI.zero
  have hz := run_zero_of h1 h2 w
  rw [h3 ρ β] at hz
  have hkey : MapKept.IsKey (.int i.k) (.int i.k z) := rfl
  obtain ⟨m1, rfl⟩ := hm
  rcases findNow_look z es.toList ks 0 m1 with ⟨a, b', _⟩ | ⟨j, e, a, _, _, b', _⟩
  · rw [b']
    simp [Instr.lookup, run_underlying hI.ty, MapKept.run_getObj_map hb, MapKept.run_checkKey hI.key hkey, MapKept.run_findKey hI.key a, hz, Result.andThen, mapRes]
  · rw [b']
    simp [Instr.lookup, run_underlying hI.ty, MapKept.run_getObj_map hb, MapKept.run_checkKey hI.key hkey, MapKept.run_findKey hI.key a, Result.andThen, mapRes]
theorem modify_val {es : Array MapEntry} {j : Nat} {e : MapEntry} {k x : Value} (he : es.toList[j]? = some e) (hk : e.key = k) : (es.modify j fun e => { e with key := k, val := x }).toList.map (·.key) = es.toList.map (·.key) ∧ (es.modify j fun e => { e with key := k, val := x }).toList.map (·.val) = (es.toList.map (·.val)).set j x := by
  constructor
  · apply List.ext_getElem?
    intro q
    rw [List.getElem?_map, List.getElem?_map, Array.getElem?_toList, Array.getElem?_modify, Array.getElem?_toList]
    split
    · rename_i hq
      subst hq
      rw [Array.getElem?_toList] at he
      simp [he, hk]
    · rfl
  · apply List.ext_getElem?
    intro q
    rw [List.getElem?_map, Array.getElem?_toList, Array.getElem?_modify, List.getElem?_set, List.getElem?_map, Array.getElem?_toList]
    split
    · rename_i hq
      subst hq
      rw [Array.getElem?_toList] at he
      have hlt := (Array.getElem?_eq_some_iff.1 he).1
      simp [he, hlt]
    · rfl
theorem run_update_of {i : MT} {t : Nat} (hI : i.Ok P t) {b : Nat} {es : Array MapEntry} {clock : Nat} (hb : w.heap[b]? = some (.map es clock)) {ks : List Int} {l : List Value} (hm : MapIs i.k es ks l) (z : Int) (x : Value) :
    ∃ es' clock', (Instr.mapUpdate t (.map (some b)) (.int i.k z) x).run P w = .ok () { w with heap := w.heap.setIfInBounds b (.map es' clock') } ∧ MapIs i.k es' (putL ks l z x).1 (putL ks l z x).2 := by
  have hkey : MapKept.IsKey (.int i.k) (.int i.k z) := rfl
  obtain ⟨m1, rfl⟩ := hm
  rcases findNow_look z es.toList ks 0 m1 with ⟨a, _, p⟩ | ⟨j, e, a, he, hek, _, p⟩
  · refine ⟨es.push ⟨.int i.k z, x, clock⟩, clock + 1, ?_, ?_⟩
    · simp [Instr.mapUpdate, run_underlying hI.ty, MapKept.run_getObj_map hb, MapKept.run_checkKey hI.key hkey, MapKept.run_findKey hI.key a, MapKept.run_setObj_map _ hb, Result.andThen]
    · rw [p x]
      exact ⟨by simp [m1], by simp⟩
  · refine ⟨es.modify j (fun e => { e with key := .int i.k z, val := x }), clock, ?_, ?_⟩
    · have hj : es[j]? = some e := by simpa using he
      simp only [Nat.zero_add] at a
      simp [Instr.mapUpdate, run_underlying hI.ty, MapKept.run_getObj_map hb, MapKept.run_checkKey hI.key hkey, MapKept.run_findKey hI.key a, hj, hek, MapKept.run_keyThatStays hkey, MapKept.run_setObj_map _ hb, Result.andThen]
    · rw [p x]
      obtain ⟨e1, e2⟩ := modify_val (x := x) he hek
      exact ⟨by rw [e1]; exact m1, e2⟩
/-- The operations on maps. -/
theorem map_sound (hP : ProgOk P c) {o : Oper} {kont : Cfg → Out} (h : Rel w0 s0 X ρ s β g a w)
    (hvc : VC P Q T (mapRun c g o kont) ρ s) {K : Act → World → Prop} {Qx : Exit → Act → World → Prop} (hK : GoOn P Q T c w0 s0 X ρ s β g o kont K) : o.wp P a w K Qx := by
  unfold mapRun at hvc
  split at hvc
  ·
    rename_i t hop
    split at hvc
    case h_2 => exact hvc.elim
    rename_i i hi
    split at hvc
    case isFalse => exact hvc.elim
    rename_i hok
    have hrun : (execOp a.eval o).run P w = .ok (.value (.map (some w.heap.size))) (w.alloc (.map #[] 0)) := by
      obtain ⟨dst, op, type, pos, after, guard⟩ := o
      simp only at hop; subst hop
      have : (Instr.makeMap t none).run P w = .ok (.map (some w.heap.size)) (w.alloc (.map #[] 0)) := rfl
      simp only [execOp, Option.map_none, Sem.run_bind, this, Result.andThen_ok, Sem.run_pure]
    obtain ⟨hn', h1⟩ := h.newM (.map #[] 0)
    have h2 := h1.push hok [] [] [.map (some w.heap.size)] rfl g.ni g.nb (g.nv + 1) (by simp) (by simp) (by simp)
    have h3 := h2.put o.dst (.va g.nv)
    have hden : (SV.va g.nv).den (({ ρ with m := ρ.m ++ [(w.heap.size, .map #[] 0)] } : Env).push [] [] [.map (some w.heap.size)]) β = .map (some w.heap.size) := by
      simp [SV.den, Env.push, ← h.cv]
    rw [hden] at h3
    exact wp_value hrun (hK _ _ _ _ _ _ (hvc _ hn') h3 (stab_envm h hok (fun _ _ => rfl) (Nat.le_refl _) [] [] [_] _ (fun _ _ => rfl)) rfl (Hp.le_refl s))
  ·
    rename_i t x ix ok hop
    split at hvc
    case h_2 => exact hvc.elim
    rename_i i n kk key hi hx hix
    split at hvc
    case isFalse => exact hvc.elim
    rename_i hc
    simp only [Bool.and_eq_true, decide_eq_true_eq] at hc
    obtain ⟨⟨rfl, hok⟩, hdk⟩ := hc
    generalize hr : fillSh (if ok = true then [i.sh, Sh.one Kd.bool] else [i.sh]) g.ni g.nb g.nv = r at hvc
    have hle3 := fillSh_le (if ok = true then [i.sh, Sh.one Kd.bool] else [i.sh]) g.ni g.nb g.nv
    rw [hr] at hle3
    simp only at hvc
    split at hvc
    case isFalse => exact hvc.elim
    rename_i hres
    obtain ⟨ii, b, es, clock, ks, l, hm, hv, hmi, is, bs, vs, l1, l2, l3, hfv, hrv, hvc⟩ := hvc
    have hw := (h.kp _ (.inr (List.mem_of_getElem? hm))).is
    simp only at hw
    have hl := run_lookup_of (P := P) (hP.mtab _ _ hi) hw hmi (key.den ρ) ok ρ id
    have hrun : (execOp a.eval o).run P w = .ok (.value (mapRes ok (lookL ks l (key.den ρ)) (i.dflt.den ρ id))) w := by
      obtain ⟨dst, op, type, pos, after, guard⟩ := o
      simp only at hop; subst hop
      simp only [execOp, ev_den hx h.tm, ev_den hix h.tm, SV.den, hv, Sem.run_bind, hl, Result.andThen_ok, Sem.run_pure]
    rw [hrv] at hrun
    have h2 := h.push hok is bs vs hfv r.2.1 r.2.2.1 r.2.2.2 (by omega) (by omega) (by omega)
    have h3 := h2.put o.dst (tupOf r.1)
    have hden : (tupOf r.1).den (ρ.push is bs vs) β = (tupOf r.1).den (ρ.push is bs vs) id :=
      SV.den_le (ni := r.2.1) (nb := r.2.2.1) (nv := r.2.2.2) (nj := 0) (kf := fun _ => false) ⟨fun _ _ => rfl, fun _ _ => rfl, fun _ _ => rfl, fun _ _ => rfl⟩ (by simp) _ hres
    rw [hden] at h3
    exact wp_value hrun (hK _ _ _ _ _ _ hvc h3 (stab_env h hok (fun _ _ => rfl) (Nat.le_refl _) is bs vs (fun _ _ => rfl)) rfl (Hp.le_refl s))
  ·
    rename_i t x ix y hop
    split at hvc
    case h_2 => exact hvc.elim
    rename_i i n kk key v hi hx hix hy
    split at hvc
    case isFalse => exact hvc.elim
    rename_i hc
    simp only [Bool.and_eq_true, decide_eq_true_eq] at hc
    obtain ⟨⟨rfl, hok⟩, hvok⟩ := hc
    obtain ⟨ii, b, es, clock, ks, l, hm, hv, hmi, hvc⟩ := hvc
    have hw := (h.kp _ (.inr (List.mem_of_getElem? hm))).is
    simp only at hw
    obtain ⟨es', clock', hu, hmi'⟩ := run_update_of (P := P) (hP.mtab _ _ hi) hw hmi (key.den ρ) (v.den ρ id)
    have hrun : (execOp a.eval o).run P w = .ok .skip { w with heap := w.heap.setIfInBounds b (.map es' clock') } := by
      obtain ⟨dst, op, type, pos, after, guard⟩ := o
      simp only at hop; subst hop
      have hyd : v.den ρ β = v.den ρ id := den_nil g hvok ρ β
      simp only [execOp, ev_den hx h.tm, ev_den hix h.tm, ev_den hy h.tm, SV.den, hv, hyd, Sem.run_bind, hu, Result.andThen_ok, Sem.run_pure]
    obtain ⟨hs1, hs2⟩ := MapKept.heap_set (o' := .map es' clock') hw
    have h1 := h.setM hm (o' := .map es' clock') (w' := { w with heap := w.heap.setIfInBounds b (.map es' clock') }) hs1 hs2 (by simp) rfl rfl rfl
    have h2 := h1.put o.dst .undef
    refine wp_skip' hrun (hK _ _ _ _ _ _ (hvc es' clock' hmi') h2 ?_ rfl (Hp.le_refl s))
    have := stab_envm (bad := badBlk c g o) (g' := { g with sl := putSV g.sl o.dst .undef }) h hok (fun _ _ => rfl) (Nat.le_refl _) [] [] [] (ρ.m.set ii (b, .map es' clock')) (β' := β) (fun _ _ => rfl)
    simpa [Env.push] using this
  ·
    rename_i args ts hop
    split at hvc
    case h_2 => exact hvc.elim
    rename_i n t hev hts
    split at hvc
    case h_2 => exact hvc.elim
    rename_i i hi
    split at hvc
    case isFalse => exact hvc.elim
    rename_i hok
    obtain ⟨ii, b, es, clock, hm, hv, hvc⟩ := hvc
    have hw := (h.kp _ (.inr (List.mem_of_getElem? hm))).is
    simp only at hw
    have hI := hP.mtab _ _ hi
    have hts' : ts = #[t] := by rw [← Array.toList_inj]; simpa using hts
    have hargs : args.map a.eval = #[.map (some b)] := by
      have h0 := evs_den h.tm _ _ hev
      simp only [SV.dens, SV.den, hv] at h0
      rw [← Array.toList_inj, Array.toList_map]; exact h0
    have hrun : (execOp a.eval o).run P w = .ok (.value (.tuple #[])) { w with heap := w.heap.setIfInBounds b (.map #[] clock) } := by
      obtain ⟨dst, op, type, pos, after, guard⟩ := o
      simp only at hop; subst hop
      have : (Builtin.clear_ #[t] type #[.map (some b)]).run P w = .ok (.tuple #[]) { w with heap := w.heap.setIfInBounds b (.map #[] clock) } := by
        simp [Builtin.clear_, run_underlying hI.ty, MapKept.run_getObj_map hw, MapKept.run_setObj_map _ hw, Result.andThen]
      simp only [execOp, resolve, hargs, invoke, builtin, hts', Sem.run_bind, Sem.run_pure, Result.andThen_ok, this]
    obtain ⟨hs1, hs2⟩ := MapKept.heap_set (o' := .map #[] clock) hw
    have h1 := h.setM hm (o' := .map #[] clock) (w' := { w with heap := w.heap.setIfInBounds b (.map #[] clock) }) hs1 hs2 (by simp) rfl rfl rfl
    have h2 := h1.put o.dst (.tup [])
    refine wp_value hrun (hK _ _ _ _ _ _ hvc h2 ?_ rfl (Hp.le_refl s))
    have := stab_envm (bad := badBlk c g o) (g' := { g with sl := putSV g.sl o.dst (.tup []) }) h hok (fun _ _ => rfl) (Nat.le_refl _) [] [] [] (ρ.m.set ii (b, .map #[] clock)) (β' := β) (fun _ _ => rfl)
    simpa [Env.push] using this
  · exact hvc.elim
/-- A call through a function value. -/
theorem callv_sound (hP : ProgOk P c) {o : Oper} {kont : Cfg → Out} (h : Rel w0 s0 X ρ s β g a w) {fo : Operand} {args : Array Operand} {ts : Array TypeId} (hop : o.op = .call { callee := .value fo, args := args, argTypes := ts }) {n : Nat} {as : List SV}
    (hf : ev g.sl fo = some (.va n)) (has : evs g.sl args.toList = some as)
    (hvc : VC P Q T (callvRun c g o.dst (tmpOf fo) n as kont) ρ s) {K : Act → World → Prop} {Qx : Exit → Act → World → Prop} (hK : GoOn P Q T c w0 s0 X ρ s β g o kont K) : o.wp P a w K Qx := by
  unfold callvRun at hvc
  split at hvc
  case h_2 => exact hvc.elim
  rename_i rs _
  simp only at hvc
  generalize hr : fillSh (rs.map (shOf c)) g.ni g.nb g.nv = r at hvc
  have hle3 := fillSh_le (rs.map (shOf c)) g.ni g.nb g.nv
  rw [hr] at hle3
  split at hvc
  case isFalse => exact hvc.elim
  rename_i hc
  simp only [Bool.and_eq_true] at hc
  obtain ⟨⟨hok, hoks⟩, hres⟩ := hc
  obtain ⟨F, caps, Qc, hv, he, hct, hq⟩ := hvc
  have hrun : (execOp a.eval o).run P w = .ok (.enter F (SV.dens ρ id as ++ caps.toList).toArray) w := by
    obtain ⟨dst, op, type, pos, after, guard⟩ := o
    simp only at hop; subst hop
    have h1 : a.eval fo = .func (.func F) #[] caps := by rw [ev_den hf h.tm]; exact hv
    have h2 : args.map a.eval = (SV.dens ρ id as).toArray := by
      rw [← dens_nil g hoks ρ β, ← evs_den h.tm _ _ has]; exact Array.ext' (by simp)
    have h3 := he (SV.dens ρ id as ++ caps.toList).toArray w
    have h4 : (SV.dens ρ id as).toArray ++ caps = (SV.dens ρ id as ++ caps.toList).toArray := Array.ext' (by simp)
    simp only [execOp, resolve, h1, h2, Deferred.ofValue, Sem.run_bind, Sem.run_pure, Result.andThen_ok, invoke, Array.empty_append, h4]
    exact h3
  refine wp_enter hrun ((hct w h.sb h.mok).mono ?_)
  rintro e w' ⟨v, s', m', rfl, hg, hle, hsb, hnw, hpos, hmk, hqv⟩
  obtain ⟨is, bs, vs, l1, l2, l3, hfv, rfl, hvc⟩ := hq v s' m' hle hqv
  have h1 := h.turn hg hle hsb hnw hpos hmk
  have h2 := h1.push hok is bs vs hfv r.2.1 r.2.2.1 r.2.2.2 (by omega) (by omega) (by omega)
  have h3 := h2.put o.dst (tupOf r.1)
  have hpm : ({ ρ with m := m' } : Env).push is bs vs = { ρ.push is bs vs with m := m' } := rfl
  rw [hpm] at h3
  have hden : (tupOf r.1).den { ρ.push is bs vs with m := m' } β = (tupOf r.1).den (ρ.push is bs vs) id := by
    refine (SV.den_m (ρ.push is bs vs) m' ρ.k β _).trans ?_
    exact SV.den_le (ni := r.2.1) (nb := r.2.2.1) (nv := r.2.2.2) (nj := 0) (kf := fun _ => false) ⟨fun _ _ => rfl, fun _ _ => rfl, fun _ _ => rfl, fun _ _ => rfl⟩ (by simp) _ hres
  rw [hden] at h3
  exact ⟨_, rfl, hK _ _ _ _ _ _ hvc h3 (stab_envm h hok (fun _ _ => rfl) (Nat.le_refl _) is bs vs m' (fun _ _ => rfl)) rfl hle⟩
/-- An append onto an object. -/
theorem appM_sound (hP : ProgOk P c) {o : Oper} {kont : Cfg → Out} (h : Rel w0 s0 X ρ s β g a w) {t : Nat} {x y : SV} (hrun : ∀ v' w', (Builtin.append_ #[t, t] o.type #[x.den ρ β, y.den ρ β]).run P w = .ok v' w' → (execOp a.eval o).run P w = .ok (.value v') w')
    (hvc : VC P Q T (appMRun c g o.dst t x y kont) ρ s) {K : Act → World → Prop} {Qx : Exit → Act → World → Prop} (hK : GoOn P Q T c w0 s0 X ρ s β g o kont K) : o.wp P a w K Qx := by
  unfold appMRun at hvc
  split at hvc
  case h_2 => exact hvc.elim
  rename_i e hty
  obtain ⟨ti, hti, hti'⟩ := Ctx.ty_some hty
  have hty := (hP.tab t ti hti).ty
  simp only [hti'] at hty
  split at hvc
  case h_2 => exact hvc.elim
  rename_i i hi
  split at hvc
  case isFalse => exact hvc.elim
  rename_i hc
  simp only [Bool.and_eq_true, decide_eq_true_eq] at hc
  obtain ⟨hpos, hok⟩ := hc
  split at hvc
  case h_2 => exact hvc.elim
  rename_i src hsrc
  split at hvc
  case isFalse => exact hvc.elim
  rename_i hsok
  have hid : ∀ l, src = .lit l → l.map (SV.dens ρ β) = l.map (SV.dens ρ id) := fun l hl => by subst hl; exact lit_id hsok
  have hI := hP.tab _ _ hi
  have main : x.den ρ β = x.den ρ id → (x.flat = true) → VC P Q T (.appM x src i.size i.bytes e (kont { g with sl := putSV g.sl o.dst (.va g.nv), nv := g.nv + 1 })) ρ s → o.wp P a w K Qx := by
    rintro hxd hxf ⟨ix, xs, es, hxl, hd, hs, hb1, hb2, hv0, hv1⟩
    obtain ⟨s1, s2, s3⟩ := src_spec h hsrc hs hid
    have hput : ∀ (ρ' : Env) (v' : Value), ρ'.v = ρ.v ++ [v'] → (SV.va g.nv).den ρ' β = v' := fun ρ' v' he => by simp [SV.den, he, ← h.cv]
    have hfx : fineV (x.den ρ id) = true := fine_flat' h.ok id hxf
    by_cases hes : es = []
    · have hvc := hv0 hes
      subst hes
      have h1 := h.push hok [] [] [x.den ρ id] (by simp [hfx]) g.ni g.nb (g.nv + 1) (by simp) (by simp) (by simp)
      have h2 := h1.put o.dst (.va g.nv)
      rw [hput _ (x.den ρ id) rfl] at h2
      have hy0 : ∃ a c, y.den ρ β = .slice a 0 c := by
        rcases s3 with ⟨_, c, hc⟩ | ⟨ad, c, hc, _⟩
        · exact ⟨_, _, hc⟩
        · exact ⟨_, _, hc⟩
      have hr : (Builtin.append_ #[t, t] o.type #[x.den ρ β, y.den ρ β]).run P w = .ok (x.den ρ id) w := by
        rw [hxd]
        rcases hd with ⟨rfl, _, hx0⟩ | ⟨b, cap, cur, hx0, _, hcap, _⟩
        · rw [hx0]; exact run_app0 hI hty (Nat.le_refl _) (fun _ => rfl) hy0 w
        · rw [hx0]; exact run_app0 hI hty hcap (fun h => by cases h) hy0 w
      exact wp_value (hrun _ _ hr) (hK _ _ _ _ _ _ hvc h2 (stab_env h hok (fun _ _ => rfl) (Nat.le_refl _) [] [] [_] (fun _ _ => rfl)) rfl (Hp.le_refl s))
    ·
      have key : ∃ sp : Hp, Sub sp w ∧ SliceIn sp i.size (x.den ρ β) xs ∧ (x.den ρ β = .slice none 0 0 ∨ ∃ g' m cap cur, x.den ρ β = .slice (some ⟨g', 0, none⟩) m cap ∧ w.heap[g']? = some (.cells cur e (0, 0)) ∧ m ≤ cap ∧ cap ≤ maxLen ∧ cur.size = cap * i.size ∧ ∀ o u, sp g' o = some u → o < m * i.size) := by
        rw [hxd]
        rcases hd with ⟨rfl, _, hx0⟩ | ⟨b, cap, cur, hx0, hm, hcap, hcm, hcs, hpre⟩
        · exact ⟨s, h.sb, by rw [hx0]; exact ⟨by simp, none, 0, rfl, Nat.le_refl _, by simp⟩, .inl hx0⟩
        · have hk := h.kp _ (.inr (List.mem_of_getElem? hm))
          have hfl := flat_len i.size xs hxl
          refine ⟨fun b' o => if b' = b ∧ o < xs.length * i.size then cur[o]? else s b' o, fun b' o u hu => ?_, ?_, .inr ⟨b, xs.length, cap, cur, hx0, hk.is, hcap, hcm, hcs, fun o u hu => ?_⟩⟩
          · simp only at hu
            split at hu
            · rename_i hb
              rw [hb.1]
              have := hk.is
              simp only at this
              simp only [World.cell?, this, Option.isSome_none, Bool.false_eq_true, if_false]
              exact hu
            · exact h.sb b' o u hu
          · refine ⟨hxl, _, cap, hx0, hcap, fun _ => ⟨b, 0, rfl, fun q z hq j u hj => ?_⟩⟩
            have h1 := flat_of i.size xs hxl q z j u hq hj
            have h2 := (List.getElem?_eq_some_iff.1 h1).1
            simp only [Nat.zero_add]
            rw [if_pos (by refine ⟨by trivial, ?_⟩; omega)]
            exact hpre _ u h1
          · simp only at hu
            split at hu
            · rename_i hb; exact hb.2
            · rw [hk.un o] at hu; cases hu
      obtain ⟨sp, k1, k2, k3⟩ := key
      obtain ⟨v', w', s', hr, ha⟩ := run_app (ty := o.type) hI hty k1 k2 k3 s3 s1 s2 hb1 hb2
      have hne : xs ++ es ≠ [] := by simp [hes]
      obtain ⟨_, av, cv, hv', hcv, hcell⟩ := ha.sl
      obtain ⟨gb0, go, hav, hcell⟩ := hcell hne
      rcases ha.row with hz | ⟨gb, mm, cap', cur', hv'', hwhere, hheap, hmc, hcm, hcs, _⟩
      · rw [hz] at hv'; simp only [Value.slice.injEq] at hv'; rw [← hv'.1] at hav; cases hav
      rw [hv''] at hv'
      simp only [Value.slice.injEq] at hv'
      obtain ⟨e1, e2, e3⟩ := hv'
      rw [← e1] at hav
      simp only [Option.some.injEq, Addr.mk.injEq] at hav
      obtain ⟨rfl, rfl, _⟩ := hav
      have hlen : mm = xs.length + es.length := by rw [e2]; simp
      subst hlen
      have hblk : ∀ b m cap, x.den ρ β = .slice (some ⟨b, 0, none⟩) m cap → ∃ o, ρ.m[ix]? = some (b, o) := by
        intro b m cap hx1
        rw [hxd] at hx1
        rcases hd with ⟨_, _, hx0⟩ | ⟨b2, cap2, cur2, hx0, hm, _⟩
        · rw [hx0] at hx1; cases hx1
        · rw [hx0] at hx1
          simp only [Value.slice.injEq, Option.some.injEq, Addr.mk.injEq] at hx1
          obtain ⟨⟨rfl, _⟩, _⟩ := hx1
          exact ⟨_, hm⟩
      have hix : ix ≤ ρ.m.length := by
        rcases hd with ⟨_, h0, _⟩ | ⟨_, _, _, _, hm, _⟩
        · omega
        · have := (List.getElem?_eq_some_iff.1 hm).1; omega
      have hmem : ∀ {q b o}, ρ.m[q]? = some (b, o) → b ∈ blks ρ.m := fun hq => List.mem_map.2 ⟨_, List.mem_of_getElem? hq, rfl⟩
      have hgrow : Grows (· ∈ blks ρ.m) w w' := ⟨ha.os, ha.tape, ha.output, ha.grew, fun k hk hn => ha.old k hk (fun m cap hx1 => by
        obtain ⟨o, ho⟩ := hblk _ _ _ hx1
        exact hn (hmem ho))⟩
      have hwh : (∃ o, ρ.m[ix]? = some (gb, o)) ∨ w.heap.size ≤ gb := hwhere.imp (fun ⟨m, cap, hx1⟩ => hblk _ _ _ hx1) id
      have h1 := h.moveM (i := ix) (b' := gb) (o' := .cells cur' e (0, 0)) hix hgrow (fun z hz hzb hzi => ha.old z.1 (Array.getElem?_eq_some_iff.1 (h.kp z (.inr hz)).is).1 (fun m cap hx1 => by
        obtain ⟨o, ho⟩ := hblk _ _ _ hx1
        obtain ⟨q, hq⟩ := List.mem_iff_getElem?.1 hz
        have a1 : (blks ρ.m)[q]? = some z.1 := by simp [blks, hq]
        have a2 : (blks ρ.m)[ix]? = some z.1 := by simp [blks, ho]
        have := (List.getElem?_inj (List.getElem?_eq_some_iff.1 a1).1 h.ms.nd).1 (a1.trans a2.symm)
        subst this
        exact hzi hq)) hheap hwh
      have h2 := h1.push hok [] [] [v'] (by simp [ha.sl.fine]) g.ni g.nb (g.nv + 1) (by simp) (by simp) (by simp)
      have h3 := h2.put o.dst (.va g.nv)
      rw [hput _ v' rfl] at h3
      have hvc := hv1 hes gb cap' cur' (fun hm => by
        rcases hwh with hw1 | hw1
        · exact hw1
        · obtain ⟨z, hz, he⟩ := List.mem_map.1 hm
          have := (Array.getElem?_eq_some_iff.1 (h.kp z (.inr hz)).is).1
          omega) hmc hcm hcs (fun j u hj => by
        obtain ⟨q, z, r, hq, hz, hjr⟩ := flat_get i.size (xs ++ es) (fun z hz => by
          rcases List.mem_append.1 hz with hz | hz
          · exact hxl z hz
          · exact s1 z hz) j u hj
        have h4 := hcell q z hq r u hz
        rw [Nat.zero_add, ← hjr] at h4
        have h5 := ha.sb _ _ _ h4
        simp only [World.cell?, hheap, Option.isSome_none, Bool.false_eq_true, if_false] at h5
        exact h5)
      rw [← hv''] at hvc
      exact wp_value (hrun _ _ hr) (hK _ _ _ _ _ _ hvc h3 (stab_envm h hok (fun _ _ => rfl) (Nat.le_refl _) [] [] [_] _ (fun _ _ => rfl)) rfl (Hp.le_refl s))
  split at hvc
  · exact main rfl rfl hvc
  · split at hvc
    · exact main rfl rfl hvc
    · exact hvc.elim
  · exact hvc.elim
theorem opRun_sound (hP : ProgOk P c) {o : Oper} {kont : Cfg → Out} (h : Rel w0 s0 X ρ s β g a w) (hvc : VC P Q T (opRun c g o kont) ρ s) {K : Act → World → Prop} {Qx : Exit → Act → World → Prop}
    (hK : ∀ ρ' s' β' g' a' w', VC P Q T (kont g') ρ' s' → Rel w0 s0 X ρ' s' β' g' a' w' → Stab ρ β g ρ' β' g' (badBlk c g o) → g'.todo = g.todo → s.le s' → K a' w') : o.wp P a w K Qx := by
  unfold opRun at hvc
  split at hvc
  ·
    rename_i ns v hpv
    obtain ⟨hn, hvc⟩ := VC_needs P Q T _ _ _ _ hvc
    exact wp_value (run_pv hP h.ok hpv hn h.tm h.hok) (hK _ _ _ _ _ _ hvc (h.put o.dst v) (stab_rfl rfl) rfl (Hp.le_refl s))
  rename_i hpv
  split at hvc
  ·
    rename_i cs t v hnew
    split at hvc
    · exact newM_sound hP h hnew hvc hK
    split at hvc
    ·
      rename_i hrl
      unfold litRun at hvc
      split at hvc
      case h_2 => exact hvc.elim
      rename_i kk len i hi
      split at hvc
      case isFalse => exact hvc.elim
      rename_i hc
      simp only [Bool.and_eq_true, decide_eq_true_eq, beq_iff_eq] at hc
      obtain ⟨⟨⟨⟨⟨hpos, hok⟩, hflat⟩, hlen⟩, hoks⟩, hlm⟩ := hc
      obtain ⟨v', hr, hv⟩ := run_newBlk (β := β) hP h.ok hnew h.tm w
      have hv' := hv ρ (fun _ => w.heap.size) rfl
      simp only [SV.den] at hv'
      subst hv'
      obtain ⟨xs, es, hd, hs, hb1, hb2, hvc⟩ := hvc
      simp only [DstIs] at hd
      subst hd
      simp only [SrcIs] at hs
      obtain ⟨c1, c2, c3⟩ := chunk_spec i.size len cs hlen
      have hid : SV.dens ρ β cs = SV.dens ρ id cs :=
        SV.dens_le (ni := g.ni) (nb := g.nb) (nv := g.nv) (nj := g.nj) (kf := fun _ => false) ⟨fun _ _ => rfl, fun _ _ => rfl, fun _ _ => rfl, fun _ _ => rfl⟩ (by simp) _ hoks
      have hfl : es.flatten = SV.dens ρ β cs := by
        have e1 : SV.dens ρ id cs = (chunk i.size len cs).flatten.map (SV.den ρ id) := by rw [c1, SV.dens_map]
        rw [hid, e1, hs, List.map_flatten]
        congr 1
        exact List.map_congr_left (fun l _ => SV.dens_map _ _ l)
      have hel : es.length = len := by rw [hs, List.length_map, c3]
      have hall : ∀ x ∈ es, x.length = i.size := by
        rw [hs]
        intro x hx
        obtain ⟨y, hy, rfl⟩ := List.mem_map.1 hx
        rw [dens_length]; exact c2 y hy
      have ha := app_lit (P := P) (e := t) h.sb hall (by simpa using hb2)
      rw [hfl, hel] at ha
      have hlast : ∀ k, k ≠ g.H.length → (g.H ++ [Blk.row g.nv t i.size])[k]? = g.H[k]? := fun k hk => by
        rw [List.getElem?_append]
        split
        · rfl
        · rw [List.getElem?_eq_none (by simp; omega), List.getElem?_eq_none (by omega)]
      have h1 := h.app (H' := g.H ++ [.row g.nv t i.size]) (kk := g.H.length) hok hpos ha (by simp) hlast (by simp [Cfg.kf, getBlk]) (.inl rfl)
      have h2 := h1.put o.dst (.va g.nv)
      have hv2 : ∀ (x : Value) (β' : Nat → Nat), (SV.va g.nv).den (ρ.push [] [] [x]) β' = x := fun x β' => by simp [SV.den, Env.push, ← h.cv]
      rw [hv2] at h2
      have hsl := ha.sl
      have hvc2 := hvc _ _ ha.le (by simpa using hsl)
      refine wp_value hr (hK _ _ _ _ _ _ hvc2 h2 (stab_env h hok ?_ (by simp) [] [] [_] ?_) rfl ha.le)
      · intro k hk
        simp only [getBlk, List.getElem?_append_left hk]
      · intro k hk
        refine if_neg ?_
        intro hkk
        subst hkk
        simp [Cfg.kf, getBlk] at hk
    split at hvc
    case isFalse => exact hvc.elim
    rename_i hok
    simp only [Bool.and_eq_true] at hok
    obtain ⟨v', hr, hv⟩ := run_newBlk (β := β) hP h.ok hnew h.tm w
    have h1 := h.alloc hok.1 hok.2 t
    have h2 := h1.put o.dst v
    rw [hv ρ (fun k => if k = g.H.length then w.heap.size else β k) (by simp)] at h2
    refine wp_value hr (hK _ _ _ _ _ _ hvc h2 (stab_of (by simp) ?_ ?_) rfl (Hp.le_refl s))
    · intro k hk _
      simp only [getBlk, List.getElem?_append_left hk]
    · intro k cs' T' hk
      obtain ⟨sh, hk'⟩ := getBlk_cells hk
      have hb : ∀ k, g.kf k = true → (fun k => if k = g.H.length then w.heap.size else β k) k = β k := by
        intro k hk
        simp only [Cfg.kf, Option.isSome_iff_exists] at hk
        obtain ⟨x, hx⟩ := hk
        have := getBlk_lt hx
        simp only
        rw [if_neg (by omega)]
      exact ⟨SV.dens_le ⟨fun _ _ => rfl, fun _ _ => rfl, fun _ _ => rfl, fun _ _ => rfl⟩ hb _ (okB_H hok.1 hk'), hb k (by simp [Cfg.kf, hk])⟩
  rename_i hnew
  split at hvc
  ·
    rename_i b off new hst
    split at hvc
    case h_2 => exact hvc.elim
    rename_i cs t hb
    have hr := run_storeOf (β := β) hP h.ok hst hb h.tm w (h.bl _ _ hb).2.1
    have h1 := (h.store (off := off) (new := new) hb).put o.dst .undef
    refine wp_skip' hr (hK _ _ _ _ _ _ hvc h1 (stab_of (by simp) ?_ (fun _ _ _ _ => ⟨rfl, rfl⟩)) rfl (Hp.le_refl s))
    intro k hk hbad
    have hkb : b ≠ k := by intro he; subst he; exact hbad ⟨off, new, hst⟩
    simp only [getBlk, List.getElem?_set_ne hkb]
  rename_i hst
  split at hvc
  ·
    rename_i t x hop
    split at hvc
    case h_2 => exact hvc.elim
    rename_i xs hxs
    obtain ⟨v, ρ', g', hrun, hvc, hr, hst, htd⟩ := load_sound hP h hop hxs hvc
    exact wp_value (hrun w h.sb (.inr rfl)) (hK _ _ _ _ _ _ hvc hr (hst _) htd (Hp.le_refl s))
  ·
    rename_i t x lo hi hop
    split at hvc
    case h_2 => exact hvc.elim
    rename_i xs hxs
    obtain ⟨v, ρ', g', hrun, hvc, hr, hst, htd⟩ := cut_sound hP h hop hxs hvc
    exact wp_value (hrun w) (hK _ _ _ _ _ _ hvc hr (hst _) htd (Hp.le_refl s))
  ·
    rename_i t x hh mm hop
    obtain ⟨v, ρ', g', hrun, hvc, hr, hst, htd⟩ := chk_sound hP h hop hvc
    exact wp_value (hrun w) (hK _ _ _ _ _ _ hvc hr (hst _) htd (Hp.le_refl s))
  ·
    rename_i t ax vx hop
    split at hvc
    case h_2 => exact hvc.elim
    rename_i xs y hax hvx
    split at hvc
    case isFalse => exact storeM_sound hP h hop hax hvx hvc hK
    unfold fillRun at hvc
    split at hvc
    case h_2 => exact hvc.elim
    rename_i n i sz ti hti
    split at hvc
    case h_2 => exact hvc.elim
    rename_i b T size hrow
    split at hvc
    case isFalse => exact hvc.elim
    rename_i hc
    simp only [Bool.and_eq_true, beq_iff_eq, decide_eq_true_eq] at hc
    obtain ⟨⟨⟨⟨⟨⟨⟨⟨⟨rfl, rfl⟩, rfl⟩, hpos⟩, hok⟩, hcok⟩, hlen⟩, hflat⟩, hoks⟩, hxok⟩ := hc
    have hrow := isRow_spec hrow
    obtain ⟨xs, hsl, hext, hin, hvc⟩ := hvc
    obtain ⟨w', s', hr, ha⟩ := run_fill hP hop hti hax hvx hcok hlen hflat h hrow hsl hext hin
    have hid : SV.dens ρ β (cellsOf y) = SV.dens ρ id (cellsOf y) :=
      SV.dens_le (ni := g.ni) (nb := g.nb) (nv := g.nv) (nj := g.nj) (kf := fun _ => false) ⟨fun _ _ => rfl, fun _ _ => rfl, fun _ _ => rfl, fun _ _ => rfl⟩ (by simp) _ hoks
    rw [hid] at ha
    have hlt : b < g.H.length := (List.getElem?_eq_some_iff.1 hrow).1
    have hkf : g.kf b = false := by simp [Cfg.kf, getBlk, hrow]
    have h1 := h.app (H' := g.H.set b (.row g.nv T ti.size)) hok hpos ha (kk := b) (by simp [hlt]) (fun k hk => by rw [List.getElem?_set_ne (Ne.symm hk)]) hkf (.inr ⟨n - 1, hrow, rfl⟩)
    have hnn : n < g.nv := by
      simp only [SV.ok, Bool.and_eq_true, decide_eq_true_eq] at hxok
      exact hxok.1
    have hv1 : (ρ.push [] [] [ρ.v.getD n vd]).v.getD n vd = ρ.v.getD n vd := (h.envle [] [] [ρ.v.getD n vd]).v n hnn
    have hv2 : (ρ.push [] [] [ρ.v.getD n vd]).v.getD g.nv vd = ρ.v.getD n vd := by simp [Env.push, ← h.cv]
    have h2 := h1.rerow (kk := b) (n := g.nv) (n' := n) (e := T) (size := ti.size) (by simp [hlt]) (by rw [hv1, hv2])
    have h3 := h2.put o.dst .undef
    simp only [List.set_set] at h3
    refine wp_skip' hr (hK _ _ _ _ _ _ (hvc s' ha.le ha.sl) h3 (stab_env h hok ?_ (by simp) [] [] [_] ?_) rfl ha.le)
    · intro k hk
      by_cases hkk : k = b
      · subst hkk
        have e1 : (g.H.set k (.row n T ti.size))[k]? = some (.row n T ti.size) := by simp [hlt]
        simp only [getBlk, e1, hrow]
      · simp only [getBlk, List.getElem?_set_ne (Ne.symm hkk)]
    · intro k hk
      exact if_neg (by intro hkk; subst hkk; rw [hkf] at hk; simp at hk)
  ·
    rename_i t lx nx hop
    split at hvc
    case h_2 => exact hvc.elim
    rename_i x y hx hy
    exact mkM_sound hP h hop hx hy hvc hK
  ·
    rename_i args ts hop
    split at hvc
    case h_2 => exact hvc.elim
    rename_i x y t t' hev hts
    split at hvc
    case isFalse => exact hvc.elim
    rename_i htt
    have htt : t = t' := by simpa using htt
    subst htt
    have hts' : ts = #[t, t] := by rw [← Array.toList_inj]; simpa using hts
    have hargs : args.map a.eval = #[x.den ρ β, y.den ρ β] := by
      have := evs_den h.tm _ _ hev
      rw [← Array.toList_inj]; simpa [SV.dens] using this
    have hrun : ∀ v' w', (Builtin.append_ #[t, t] o.type #[x.den ρ β, y.den ρ β]).run P w = .ok v' w' → (execOp a.eval o).run P w = .ok (.value v') w' := by
      intro v' w' hr
      obtain ⟨dst, op, type, pos, after, guard⟩ := o
      simp only at hop; subst hop
      simp only [execOp, resolve, hargs, invoke, builtin, hts', Sem.run_bind, Sem.run_pure, Result.andThen_ok, hr]
    split at hvc
    · exact appM_sound hP h hrun hvc hK
    split at hvc
    ·
      unfold holeRun at hvc
      split at hvc
      case h_2 => exact hvc.elim
      rename_i e hty
      obtain ⟨ti, hti, hti'⟩ := Ctx.ty_some hty
      have hty := (hP.tab t ti hti).ty
      simp only [hti'] at hty
      split at hvc
      case h_2 => exact hvc.elim
      rename_i i hi
      split at hvc
      case isFalse => exact hvc.elim
      rename_i hc
      simp only [Bool.and_eq_true, decide_eq_true_eq] at hc
      obtain ⟨hpos, hok⟩ := hc
      split at hvc
      case h_2 => exact hvc.elim
      rename_i z hsrc
      split at hvc
      case isFalse => exact hvc.elim
      rename_i hsok
      have hid : ∀ l, Src.lit [z] = .lit l → l.map (SV.dens ρ β) = l.map (SV.dens ρ id) := fun l hl => by
        simp only [Src.lit.injEq] at hl
        subst hl; exact lit_id hsok
      have hI := hP.tab _ _ hi
      obtain ⟨s1, s2, s3⟩ := src_spec h hsrc (es := [SV.dens ρ id z]) rfl hid
      have fin : ∀ (d : Option Nat) (kk : Nat) (H' : List Blk), VC P Q T (.hole d i.size i.bytes (kont { g with sl := putSV g.sl o.dst (.va (g.nv + 1)), nv := g.nv + 2, H := H' })) ρ s →
          ({ g with nv := g.nv + 1, H := H' } : Cfg).okB = true → (∀ xs, DstIs ρ s i.size xs d → SliceIn s i.size (x.den ρ β) xs) →
          (x.den ρ β = .slice none 0 0 ∨ ∃ g' m cap cur, x.den ρ β = .slice (some ⟨g', 0, none⟩) m cap ∧ w.heap[g']? = some (.cells cur e (0, 0)) ∧ m ≤ cap ∧ cap ≤ maxLen ∧ cur.size = cap * i.size ∧ ∀ o u, s g' o = some u → o < m * i.size) →
          H'[kk]? = some (.row g.nv e i.size) → (∀ k, k ≠ kk → H'[k]? = g.H[k]?) → g.kf kk = false → g.H.length ≤ H'.length →
          (x.den ρ β = .slice none 0 0 ∨ ∃ m, g.H[kk]? = some (.row m e i.size) ∧ ρ.v.getD m vd = x.den ρ β) → o.wp P a w K Qx := by
        intro d kk H' hvc hok' hsl hdst hk1 hk2 hkf hlen hv
        obtain ⟨xs, hd, hb1, hb2, hvc⟩ := hvc
        have hd := hsl xs hd
        obtain ⟨v'', w', s', hr, ha⟩ := run_app (ty := o.type) hI hty h.sb hd hdst s3 s1 s2 (by simpa using hb1) (by simpa using hb2)
        have hlow : ∀ q m cap, x.den ρ β = .slice (some ⟨q, 0, none⟩) m cap → ∀ o u, s q o = some u → o < xs.length * i.size := by
          intro q m cap hq o u hu
          obtain ⟨_, a1, c1, hq1, _⟩ := hd
          rw [hq] at hq1
          simp only [Value.slice.injEq] at hq1
          obtain ⟨_, rfl, _⟩ := hq1
          rcases hdst with h1 | ⟨g', m', cap', cur, h1, _, _, _, _, h6⟩
          · rw [h1] at hq; simp at hq
          · rw [h1] at hq
            simp only [Value.slice.injEq, Option.some.injEq, Addr.mk.injEq] at hq
            obtain ⟨⟨rfl, _⟩, rfl, _⟩ := hq
            exact h6 o u hu
        obtain ⟨v', s'', ha', hext⟩ := ha.trim h.sb hlow
        have h1 := h.app (H' := H') hok hpos ha' hk1 hk2 hkf hv
        have hfine : fineV v'' = true := by obtain ⟨_, _, _, h2, _⟩ := hext; rw [h2]; rfl
        have h2 := h1.push hok' [] [] [v''] (by simp [hfine]) g.ni g.nb (g.nv + 2) (by simp) (by simp) (by simp)
        have hpp : (ρ.push [] [] [v']).push [] [] [v''] = ρ.push [] [] [v', v''] := by simp [Env.push]
        rw [hpp] at h2
        have h3 := h2.put o.dst (.va (g.nv + 1))
        have hv2 : (SV.va (g.nv + 1)).den (ρ.push [] [] [v', v'']) (fun k => if k = kk then blkOf v' else β k) = v'' := by simp [SV.den, Env.push, ← h.cv]
        rw [hv2] at h3
        refine wp_value (hrun _ _ hr) (hK _ _ _ _ _ _ (hvc v' v'' s'' ha'.le ha'.sl hext) h3 (stab_env h hok ?_ hlen [] [] [v', v''] ?_) rfl ha'.le)
        · intro k hk
          by_cases hkk : k = kk
          · subst hkk
            have : getBlk g.H k = none := by simpa [Cfg.kf] using hkf
            rw [this]
            simp only [getBlk, hk1]
          · simp only [getBlk, hk2 k hkk]
        · intro k hk
          exact if_neg (by intro hkk; subst hkk; rw [hkf] at hk; simp at hk)
      split at hvc
      ·
        split at hvc
        case isFalse => exact hvc.elim
        rename_i hok'
        refine fin none g.H.length _ hvc hok' (fun xs hd => ?_) (.inl rfl) (by simp) (fun k hk => ?_) (by simp [Cfg.kf, getBlk]) (by simp) (.inl rfl)
        · simp only [DstIs] at hd
          subst hd
          exact ⟨by simp, none, 0, rfl, by simp, by simp⟩
        · rw [List.getElem?_append]
          split
          · rfl
          · rw [List.getElem?_eq_none (by simp; omega), List.getElem?_eq_none (by omega)]
      ·
        rename_i m
        split at hvc
        case h_2 => exact hvc.elim
        rename_i b T' size' hrow
        split at hvc
        case isFalse => exact hvc.elim
        rename_i hT
        simp only [Bool.and_eq_true, beq_iff_eq] at hT
        obtain ⟨⟨rfl, rfl⟩, hok'⟩ := hT
        have hrow := isRow_spec hrow
        have hbl := (h.bl b _ hrow).2
        have hlt : b < g.H.length := (List.getElem?_eq_some_iff.1 hrow).1
        refine fin (some m) b _ hvc hok' (fun xs hd => hd) ?_ (by simp [hlt]) (fun k hk => by rw [List.getElem?_set_ne (Ne.symm hk)]) (by simp [Cfg.kf, getBlk, hrow]) (by simp) (.inr ⟨m, hrow, rfl⟩)
        rcases hbl with h1 | ⟨m', cap, cur, h1, h2, h3, h4, h5, h6, h7⟩
        · exact .inl h1
        · exact .inr ⟨_, m', cap, cur, h1, h3, h4, h5, h6, h7⟩
      · exact hvc.elim
    unfold appRun at hvc
    split at hvc
    case h_2 => exact hvc.elim
    rename_i e hty
    obtain ⟨ti, hti, hti'⟩ := Ctx.ty_some hty
    have hty := (hP.tab t ti hti).ty
    simp only [hti'] at hty
    split at hvc
    case h_2 => exact hvc.elim
    rename_i i hi
    split at hvc
    case isFalse => exact hvc.elim
    rename_i hc
    simp only [Bool.and_eq_true, decide_eq_true_eq] at hc
    obtain ⟨hpos, hok⟩ := hc
    split at hvc
    case h_2 => exact hvc.elim
    rename_i src hsrc
    split at hvc
    case isFalse => exact hvc.elim
    rename_i hsok
    have hid : ∀ l, src = .lit l → l.map (SV.dens ρ β) = l.map (SV.dens ρ id) := fun l hl => by
      subst hl; exact lit_id hsok
    have hI := hP.tab _ _ hi
    have fin : ∀ {xv : Value} (v' : Value) (w' : World) (s' : Hp) (all : List (List Value)) (kk : Nat) (H' : List Blk) (kont' : Cfg → Out), kont' = kont → App P e i.size s w xv all v' w' s' →
        (Builtin.append_ #[t, t] o.type #[x.den ρ β, y.den ρ β]).run P w = .ok v' w' →
        H'[kk]? = some (.row g.nv e i.size) → (∀ k, k ≠ kk → H'[k]? = g.H[k]?) → g.kf kk = false → g.H.length ≤ H'.length →
        (xv = .slice none 0 0 ∨ ∃ m, g.H[kk]? = some (.row m e i.size) ∧ ρ.v.getD m vd = xv) →
        VC P Q T (kont { g with sl := putSV g.sl o.dst (.va g.nv), nv := g.nv + 1, H := H' }) (ρ.push [] [] [v']) s' → o.wp P a w K Qx := by
      intro xv v' w' s' all kk H' _ _ ha hr hk1 hk2 hkf hlen hv hvc
      have h1 := h.app hok hpos ha hk1 hk2 hkf hv
      have h2 := h1.put o.dst (.va g.nv)
      have hv2 : (SV.va g.nv).den (ρ.push [] [] [v']) (fun k => if k = kk then blkOf v' else β k) = v' := by simp [SV.den, Env.push, ← h.cv]
      rw [hv2] at h2
      refine wp_value (hrun _ _ hr) (hK _ _ _ _ _ _ hvc h2 (stab_env h hok ?_ hlen [] [] [v'] ?_) rfl ha.le)
      · intro k hk
        by_cases hkk : k = kk
        · subst hkk
          have : getBlk g.H k = none := by simpa [Cfg.kf] using hkf
          rw [this]
          simp only [getBlk, hk1]
        · simp only [getBlk, hk2 k hkk]
      · intro k hk
        exact if_neg (by intro hkk; subst hkk; rw [hkf] at hk; simp at hk)
    split at hvc
    ·
      split at hvc
      · rename_i b hfind
        obtain ⟨xs, es, hd, hs, hb1, hb2, hvc⟩ := hvc
        simp only [DstIs] at hd
        subst hd
        obtain ⟨s1, s2, s3⟩ := src_spec h hsrc hs hid
        have hx0 : SliceIn s i.size (.slice none 0 0) [] := ⟨by simp, none, 0, rfl, by simp, by simp⟩
        obtain ⟨v', w', s', hr, ha⟩ := run_app (ty := o.type) hI hty h.sb hx0 (.inl rfl) s3 s1 s2 hb1 hb2
        obtain ⟨hlt, hp, _⟩ := List.findIdx?_eq_some_iff_getElem.1 hfind
        have hkf : g.kf b = false := by
          simp only [Cfg.kf, getBlk, List.getElem?_eq_getElem hlt]
          cases hb : g.H[b] with
          | row n T' size' => rfl
          | cells cs T' sh => rw [hb] at hp; simp [deadRow] at hp
        refine fin v' w' s' _ b _ kont rfl ha hr (by simp [hlt]) (fun k hk => by rw [List.getElem?_set_ne (Ne.symm hk)]) hkf (by simp) (.inl rfl) (hvc v' s' ha.le ha.sl)
      · obtain ⟨xs, es, hd, hs, hb1, hb2, hvc⟩ := hvc
        simp only [DstIs] at hd
        subst hd
        obtain ⟨s1, s2, s3⟩ := src_spec h hsrc hs hid
        have hx0 : SliceIn s i.size (.slice none 0 0) [] := ⟨by simp, none, 0, rfl, by simp, by simp⟩
        obtain ⟨v', w', s', hr, ha⟩ := run_app (ty := o.type) hI hty h.sb hx0 (.inl rfl) s3 s1 s2 hb1 hb2
        refine fin v' w' s' _ g.H.length _ kont rfl ha hr (by simp) (fun k hk => ?_) ?_ (by simp) (.inl rfl) (hvc v' s' ha.le ha.sl)
        · rw [List.getElem?_append]
          split
          · rfl
          · rw [List.getElem?_eq_none (by simp; omega), List.getElem?_eq_none (by omega)]
        · simp [Cfg.kf, getBlk]
    ·
      rename_i m
      obtain ⟨xs, es, hx0, hne, hs, hb1, hb2, hvc⟩ := hvc
      obtain ⟨s1, s2, s3⟩ := src_spec h hsrc hs hid
      obtain ⟨v', w', s', hr, ha⟩ := run_appF (ty := o.type) hI hty h.sb hx0 hne s3 s1 hb1 hb2
      refine fin v' w' s' _ g.H.length _ kont rfl ha hr (by simp) (fun k hk => ?_) ?_ (by simp) (.inl rfl) (hvc v' s' ha.le ha.sl)
      · rw [List.getElem?_append]
        split
        · rfl
        · rw [List.getElem?_eq_none (by simp; omega), List.getElem?_eq_none (by omega)]
      · simp [Cfg.kf, getBlk]
    ·
      rename_i m
      split at hvc
      case h_2 => exact hvc.elim
      rename_i b T' size' hrow
      split at hvc
      case isFalse => exact hvc.elim
      rename_i hT
      simp only [Bool.and_eq_true, beq_iff_eq] at hT
      obtain ⟨rfl, rfl⟩ := hT
      have hrow := isRow_spec hrow
      obtain ⟨xs, es, hd, hs, hb1, hb2, hvc⟩ := hvc
      simp only [DstIs] at hd
      obtain ⟨s1, s2, s3⟩ := src_spec h hsrc hs hid
      have hbl := (h.bl b _ hrow).2
      have hdst : ρ.v.getD m vd = .slice none 0 0 ∨ ∃ g' m' cap cur, ρ.v.getD m vd = .slice (some ⟨g', 0, none⟩) m' cap ∧ w.heap[g']? = some (.cells cur T' (0, 0)) ∧ m' ≤ cap ∧ cap ≤ maxLen ∧ cur.size = cap * i.size ∧ ∀ o u, s g' o = some u → o < m' * i.size := by
        rcases hbl with h1 | ⟨m', cap, cur, h1, h2, h3, h4, h5, h6, h7⟩
        · exact .inl h1
        · exact .inr ⟨_, m', cap, cur, h1, h3, h4, h5, h6, h7⟩
      obtain ⟨v', w', s', hr, ha⟩ := run_app (ty := o.type) hI hty h.sb hd hdst s3 s1 s2 hb1 hb2
      have hlt : b < g.H.length := (List.getElem?_eq_some_iff.1 hrow).1
      refine fin v' w' s' _ b _ kont rfl ha hr (by simp [hlt]) (fun k hk => by rw [List.getElem?_set_ne (Ne.symm hk)]) ?_ (by simp) (.inr ⟨m, hrow, rfl⟩) (hvc v' s' ha.le ha.sl)
      simp [Cfg.kf, getBlk, hrow]
    · exact hvc.elim
  ·
    rename_i fo args ts hop
    split at hvc
    case h_3 => exact hvc.elim
    case h_2 => rename_i n as hf has; exact callv_sound hP h hop hf has hvc hK
    rename_i f nf cap as hf has
    have hrun0 := fun hfok => run_call (w := w) hP hop hf has hfok h.tm
    generalize cap.take nf ++ as ++ cap.drop nf = all at hvc hrun0
    unfold callRun at hvc
    split at hvc
    case isFalse => exact hvc.elim
    rename_i hc
    simp only [Bool.and_eq_true] at hc
    obtain ⟨hfok, hok⟩ := hc
    simp only at hvc
    split at hvc
    case isFalse => exact hvc.elim
    rename_i hres
    have hrun := hrun0 hfok
    generalize hr : fillSh ((c.rets f).map (shOf c)) g.ni g.nb g.nv = r at hvc hres
    have hle3 := fillSh_le ((c.rets f).map (shOf c)) g.ni g.nb g.nv
    rw [hr] at hle3
    have fin : ∀ (s1 : Hp) (H' : List Blk), s.le s1 → Rel w0 s0 X ρ s1 β { g with H := H' } a w → (∀ k, getBlk H' k = getBlk g.H k) → H'.length = g.H.length → ({ g with H := H' } : Cfg).okB = true →
        (∃ Qc, Ct P f (SV.dens ρ β all) s1 ρ.m Qc ∧ ∀ v s' m', s1.le s' → Qc v s' m' → ∃ is bs vs, is.length = r.2.1 - g.ni ∧ bs.length = r.2.2.1 - g.nb ∧ vs.length = r.2.2.2 - g.nv ∧ vs.all fineV = true ∧
          v = (tupOf r.1).den (ρ.push is bs vs) id ∧ VC P Q T (kont { g with sl := putSV g.sl o.dst (tupOf r.1), ni := r.2.1, nb := r.2.2.1, nv := r.2.2.2, H := H' }) { ρ.push is bs vs with m := m' } s') → o.wp P a w K Qx := by
      intro s1 H' hs1 hrel hget hlen hok' ⟨Qc, hct, hq⟩
      refine wp_enter hrun ((hct w hrel.sb hrel.mok).mono ?_)
      rintro e w' ⟨v, s', m', rfl, hg, hle, hsb, hnw, hpos, hmk, hqv⟩
      obtain ⟨is, bs, vs, l1, l2, l3, hfv, rfl, hvc⟩ := hq v s' m' hle hqv
      have h1 := hrel.turn hg hle hsb hnw hpos hmk
      have h2 := h1.push hok' is bs vs hfv r.2.1 r.2.2.1 r.2.2.2 (by simp only; omega) (by simp only; omega) (by simp only; omega)
      have h3 := h2.put o.dst (tupOf r.1)
      have hpm : ({ ρ with m := m' } : Env).push is bs vs = { ρ.push is bs vs with m := m' } := rfl
      rw [hpm] at h3
      have hden : (tupOf r.1).den { ρ.push is bs vs with m := m' } β = (tupOf r.1).den (ρ.push is bs vs) id := by
        refine (SV.den_m (ρ.push is bs vs) m' ρ.k β _).trans ?_
        exact SV.den_le (ni := r.2.1) (nb := r.2.2.1) (nv := r.2.2.2) (nj := 0) (kf := fun _ => false) ⟨fun _ _ => rfl, fun _ _ => rfl, fun _ _ => rfl, fun _ _ => rfl⟩ (by simp) _ hres
      rw [hden] at h3
      exact ⟨_, rfl, hK _ _ _ _ _ _ hvc h3 (stab_envm h hok (fun k _ => hget k) (by rw [hlen]; exact Nat.le_refl _) is bs vs m' (fun _ _ => rfl)) rfl (Hp.le_trans hs1 hle)⟩
    by_cases hps : (SV.ptrss all).isEmpty = true
    · rw [if_pos hps] at hvc
      exact fin s g.H (Hp.le_refl s) h (fun _ => rfl) rfl hok (by simpa [hps] using hvc β s (Hp.le_refl s) (fun k cs T hk => by simp at hk))
    · simp only [hps, Bool.false_eq_true, if_false] at hvc
      obtain ⟨k1, k2, k3, _⟩ := h.shut (SV.ptrss all)
      refine fin _ (shutBlk (SV.ptrss all) g.H) k2 k1 (fun k => getBlk_shut _ _ k) (by simp [shutBlk]) ?_ (hvc β _ k2 k3)
      simp only [Cfg.okB, Bool.and_eq_true, List.all_eq_true] at hok ⊢
      have hkf : ({ g with H := shutBlk (SV.ptrss all) g.H } : Cfg).kf = g.kf := by
        funext k; simp only [Cfg.kf, getBlk_shut]
      rw [hkf]
      refine ⟨⟨hok.1.1, fun b hb => ?_⟩, hok.2⟩
      obtain ⟨k, hk⟩ := List.mem_iff_getElem?.1 hb
      rw [shut_get] at hk
      cases hg : g.H[k]? with
      | none => simp [hg] at hk
      | some b' =>
        have := hok.1.2 b' (List.mem_of_getElem? hg)
        cases b' with
        | cells cs T sh => simp only [hg, Option.map_some, Option.some.injEq] at hk; subst hk; simp only [okBlk, hkf] at this ⊢; exact this
        | row n T size => simp only [hg, Option.map_some, Option.some.injEq] at hk; subst hk; exact this
  · exact map_sound hP h hvc hK
end
end Go.Sx
