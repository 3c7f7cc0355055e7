/- SX: append, and a slice cut. -/
import Derived.Test.YtbmfegliomkkfaaHTxG
set_option linter.unusedSimpArgs false
set_option linter.unusedVariables false
namespace Go.Sx
open Go.RowKit
theorem flat_get (size : Nat) : ∀ (es : List (List Value)), (∀ e ∈ es, e.length = size) → ∀ j u, es.flatten[j]? = some u → ∃ i x r, es[i]? = some x ∧ x[r]? = some u ∧ j = i * size + r
  | [], _, j, u, h => by simp at h
  | e :: es, hl, j, u, h => by
    have he : e.length = size := hl e (by simp)
    simp only [List.flatten_cons, List.getElem?_append] at h
    split at h
    · exact ⟨0, e, j, by simp, h, by simp⟩
    · rename_i hj
      obtain ⟨i, x, r, h1, h2, h3⟩ := flat_get size es (fun e he => hl e (by simp [he])) _ u h
      exact ⟨i + 1, x, r, by simpa using h1, h2, by rw [Nat.add_mul]; omega⟩
theorem flat_of (size : Nat) : ∀ (es : List (List Value)), (∀ e ∈ es, e.length = size) → ∀ i x r u, es[i]? = some x → x[r]? = some u → es.flatten[i * size + r]? = some u
  | [], _, i, x, r, u, h, _ => by simp at h
  | e :: es, hl, 0, x, r, u, h, hr => by
    simp only [List.getElem?_cons_zero, Option.some.injEq] at h; subst h
    have : r < e.length := (List.getElem?_eq_some_iff.1 hr).1
    simp only [Nat.zero_mul, Nat.zero_add, List.flatten_cons, List.getElem?_append, this, if_true, hr]
  | e :: es, hl, i + 1, x, r, u, h, hr => by
    have he : e.length = size := hl e (by simp)
    have ih := flat_of size es (fun e he => hl e (by simp [he])) i x r u (by simpa using h) hr
    simp only [List.flatten_cons, List.getElem?_append]
    rw [if_neg (by rw [he, Nat.add_mul]; omega), he]
    rw [show (i + 1) * size + r - size = i * size + r by rw [Nat.add_mul]; omega]
    exact ih
theorem flat_len (size : Nat) : ∀ (es : List (List Value)), (∀ e ∈ es, e.length = size) → es.flatten.length = es.length * size
  | [], _ => by simp
  | e :: es, hl => by
    have he : e.length = size := hl e (by simp)
    simp only [List.flatten_cons, List.length_append, List.length_cons, he, flat_len size es (fun e he => hl e (by simp [he])), Nat.add_mul]
    omega
/-- The known cells, with a row's cells told. -/
def tell (s : Hp) (g : Nat) (l : List Value) : Hp := fun b o => if b = g ∧ o < l.length then l[o]? else s b o
theorem tell_slice {s : Hp} {g size n cap : Nat} {xs : List (List Value)} (hl : ∀ e ∈ xs, e.length = size) (hn : n = xs.length) (hc : n ≤ cap) :
    SliceIn (tell s g xs.flatten) size (.slice (some ⟨g, 0, none⟩) n cap) xs := by
  subst hn
  refine ⟨hl, _, cap, rfl, hc, fun _ => ⟨g, 0, rfl, fun i x hi j u hj => ?_⟩⟩
  have := flat_of size xs hl i x j u hi hj
  have hlt : i * size + j < xs.flatten.length := (List.getElem?_eq_some_iff.1 this).1
  simp only [tell, Nat.zero_add, hlt, and_self, if_true, this]
theorem addr_add0 (g j : Nat) : (⟨g, 0, none⟩ : Addr).add j = ⟨g, j, none⟩ := by unfold Addr.add; split <;> simp_all
/-- What an append leaves. -/
structure App (P : Program) (e : TypeId) (size : Nat) (s : Hp) (w : World) (v : Value) (all : List (List Value)) (v' : Value) (w' : World) (s' : Hp) : Prop where
  le : s.le s'
  sb : Sub s' w'
  sl : SliceIn s' size v' all
  nw : ∀ b o, s' b o ≠ s b o → ∃ m cap, v' = .slice (some ⟨b, 0, none⟩) m cap
  os : w'.os = w.os
  tape : w'.tape = w.tape
  output : w'.output = w.output
  grew : w.heap.size ≤ w'.heap.size
  old : ∀ k, k < w.heap.size → (∀ m cap, v ≠ .slice (some ⟨k, 0, none⟩) m cap) → w'.heap[k]? = w.heap[k]?
  row : v' = .slice none 0 0 ∨ ∃ g m cap cur, v' = .slice (some ⟨g, 0, none⟩) m cap ∧ ((∃ m' cap', v = .slice (some ⟨g, 0, none⟩) m' cap') ∨ w.heap.size ≤ g) ∧
      w'.heap[g]? = some (.cells cur e (0, 0)) ∧ m ≤ cap ∧ cap ≤ maxLen ∧ cur.size = cap * size ∧ ∀ o u, s' g o = some u → o < m * size
section
variable {P : Program}
theorem app_new {e : TypeId} {size : Nat} {s : Hp} {w : World} {v : Value} {all : List (List Value)} {cap : Nat} {zs : Array Value} (hsub : Sub s w) (hall : ∀ x ∈ all, x.length = size)
    (hc : all.length ≤ cap) (hcm : cap ≤ maxLen) (hz : zs.size = (cap - all.length) * size) :
    App P e size s w v all (.slice (some ⟨w.heap.size, 0, none⟩) all.length cap) (w.drew.alloc (.cells (all.flatten.toArray ++ zs) e)) (tell s w.heap.size all.flatten) where
  le b o u h := by
    have := hsub.lt h
    simp only [tell]
    rw [if_neg (by omega)]; exact h
  sb b o u h := by
    simp only [tell] at h
    split at h
    · rename_i hb
      obtain ⟨rfl, ho⟩ := hb
      simp only [World.cell?]
      have : (w.drew.alloc (.cells (all.flatten.toArray ++ zs) e)).heap[w.heap.size]? = some (.cells (all.flatten.toArray ++ zs) e) := heap_alloc_new w.drew _
      rw [this]
      simp only [Option.isSome_none, Bool.false_eq_true, if_false]
      rw [Array.getElem?_append_left (by simpa using ho)]
      simpa using h
    · have := hsub b o u h
      rw [World.cell?_of_block (w := w)]
      · exact this
      · exact heap_alloc_old w.drew _ _ (hsub.lt h)
  sl := tell_slice hall rfl hc
  nw b o h := by
    simp only [tell] at h
    split at h
    · rename_i hb; exact ⟨_, _, by rw [hb.1]⟩
    · exact absurd rfl h
  os := rfl
  tape := rfl
  output := rfl
  grew := by simp
  old k hk _ := heap_alloc_old w.drew _ k hk
  row := .inr ⟨_, _, _, _, rfl, .inr (Nat.le_refl _), heap_alloc_new w.drew _, hc, hcm, by
      simp only [Array.size_append, List.size_toArray, flat_len size all hall, hz, ← Nat.add_mul]
      congr 1; omega, fun o u h => by
      simp only [tell] at h
      split at h
      · rename_i hb; rw [flat_len size all hall] at hb; exact hb.2
      · have := hsub.lt h; omega⟩
theorem run_app {t e ty : TypeId} {i : TI} (hI : i.Ok P e) (hty : P.underlying t = some (.slice e)) {v y : Value} {xs es : List (List Value)} {w : World} {s : Hp}
    (hsub : Sub s w) (hx : SliceIn s i.size v xs)
    (hdst : v = .slice none 0 0 ∨ ∃ g m cap cur, v = .slice (some ⟨g, 0, none⟩) m cap ∧ w.heap[g]? = some (.cells cur e (0, 0)) ∧ m ≤ cap ∧ cap ≤ maxLen ∧ cur.size = cap * i.size ∧ ∀ o u, s g o = some u → o < m * i.size)
    (hy : (es = [] ∧ ∃ c, y = .slice none 0 c) ∨ ∃ ad c, y = .slice (some ad) es.length c ∧ ∀ j u, es.flatten[j]? = some u → w.cell? (ad.add j) = some u)
    (hes : ∀ e ∈ es, e.length = i.size) (hone : ∀ e ∈ es, ∀ u ∈ e, u.oneCell' = true)
    (hb1 : (xs.length + es.length) * i.bytes ≤ 140737488355328) (hb2 : xs.length + es.length ≤ maxLen) :
    ∃ v' w' s', (Builtin.append_ #[t, t] ty #[v, y]).run P w = .ok v' w' ∧ App P e i.size s w v (xs ++ es) v' w' s' := by
  obtain ⟨inf, z, hinf, hsz, hby, hzero, hzc⟩ := hI.inf
  have hzs : z.cells.size = i.size := by rw [hzc { i := [], b := [], v := [], j := [] } id]; simp [dens_length, hI.zlen]
  have hall : ∀ x ∈ xs ++ es, x.length = i.size := fun x hx' => by
    rcases List.mem_append.1 hx' with h | h
    · exact hx.1 x h
    · exact hes x h
  have hnl : es.flatten.length = es.length * inf.size := by rw [hsz]; exact flat_len _ _ hes
  have h1 : ∀ u ∈ es.flatten, u.oneCell' = true := fun u hu => by
    obtain ⟨e, he, hu⟩ := List.mem_flatten.1 hu
    exact hone e he u hu
  have hmax : xs.length + es.length ≤ 9223372036854775807 := by simp only [maxLen] at hb2; omega
  by_cases hes0 : es = []
  · subst hes0
    refine ⟨v, w, s, ?_, ?_⟩
    · obtain ⟨_, a, cap, rfl, hcap, _⟩ := hx
      have hyn : ∃ a c, y = .slice a 0 c := by
        rcases hy with ⟨_, c, rfl⟩ | ⟨ad, c, rfl, _⟩
        · exact ⟨_, _, rfl⟩
        · exact ⟨_, _, rfl⟩
      obtain ⟨ya, yc, rfl⟩ := hyn
      cases a <;> cases ya <;> simp [Builtin.append_, run_underlying hty, sizeOf, typeInfo, hinf, Builtin.lenOf, hcap, Builtin.firstCells, loadCells, loadCellsFrom, storeCells]
    · refine ⟨Hp.le_refl _, hsub, by simpa using hx, fun b o h => absurd rfl h, rfl, rfl, rfl, Nat.le_refl _, fun _ _ _ => rfl, ?_⟩
      rcases hdst with h | ⟨g, m, cap, cur, h1, h2, h3, h4, h5, h6⟩
      · exact .inl h
      · exact .inr ⟨g, m, cap, cur, h1, .inl ⟨m, cap, h1⟩, h2, h3, h4, h5, h6⟩
  · have hm : 0 < es.length := List.length_pos_iff.2 hes0
    obtain ⟨ad, c, rfl, hnews⟩ : ∃ ad c, y = .slice (some ad) es.length c ∧ ∀ j u, es.flatten[j]? = some u → w.cell? (ad.add j) = some u := by
      rcases hy with ⟨h, _⟩ | h
      · exact absurd h hes0
      · exact h
    rcases hdst with rfl | ⟨g, m, cap, cur, rfl, hg, hmc, hcm, hcs, hrow⟩
    · have hxs : xs = [] := by
        obtain ⟨_, a, cap, he, _⟩ := hx
        simp only [Value.slice.injEq] at he
        exact List.eq_nil_of_length_eq_zero he.2.1.symm
      subst hxs
      simp only [List.length_nil, Nat.zero_add] at hb1 hb2 hmax
      simp only [List.nil_append]
      have hr := run_append_nil (P := P) w t ty e inf z hty hinf hzero ad es.length c es.flatten hnl hnews hm (by omega) (by rw [hby]; omega)
      refine ⟨_, _, _, hr, app_new hsub hes (grownCap_ge _ _ _ _) (grownCap_le_maxLen _ _ _ _ hb2) ?_⟩
      rw [size_zeroCells, hzs]
    · have hlen : m = xs.length := by
        obtain ⟨_, a, cap', he, _⟩ := hx
        simp only [Value.slice.injEq] at he
        exact he.2.1
      subst hlen
      have holds : ∀ j u, xs.flatten[j]? = some u → s g j = some u := by
        intro j u hj
        obtain ⟨i', x, r, a1, a2, rfl⟩ := flat_get i.size xs hx.1 j u hj
        obtain ⟨_, a, cap', he, _, hcell⟩ := hx
        simp only [Value.slice.injEq] at he
        obtain ⟨b, o, hb, hcell⟩ := hcell (by intro h; subst h; simp at a1)
        rw [hb] at he
        simp only [Option.some.injEq, Addr.mk.injEq] at he
        obtain ⟨⟨rfl, rfl, _⟩, _⟩ := he
        simpa using hcell i' x a1 r u a2
      have hxl : xs.flatten.length = xs.length * i.size := flat_len _ _ hx.1
      by_cases hroom : xs.length + es.length ≤ cap
      · have hfit : xs.length * inf.size + es.flatten.length ≤ cur.size := by rw [hnl, hcs, ← Nat.add_mul, hsz]; exact Nat.mul_le_mul_right _ hroom
        have hr := run_append_room (P := P) w t ty e inf hty hinf g xs.length cap cur hg ad es.length c es.flatten hnl hnews h1 hroom hfit
        have hpre : cur.toList.take (xs.length * inf.size) = xs.flatten := by
          apply List.ext_getElem?
          intro j
          rw [List.getElem?_take, hsz]
          by_cases hj : j < xs.length * i.size
          · rw [if_pos hj]
            have hjx : j < xs.flatten.length := by rw [hxl]; exact hj
            have := hsub _ _ _ (holds j _ (List.getElem?_eq_getElem hjx))
            simp only [World.cell?, hg, Option.isSome_none, Bool.false_eq_true, if_false] at this
            rw [List.getElem?_eq_getElem hjx, ← this, Array.getElem?_toList]
          · rw [if_neg hj, List.getElem?_eq_none (by rw [hxl]; omega)]
        rw [hpre] at hr
        refine ⟨_, _, tell s g (xs ++ es).flatten, hr, ?_⟩
        have hfl : (xs ++ es).flatten = xs.flatten ++ es.flatten := by simp
        have hcell' : ∀ j u, (xs ++ es).flatten[j]? = some u → (w.setRow g (xs.flatten ++ es.flatten ++ cur.toList.drop (xs.length * inf.size + es.flatten.length)).toArray).cell? ⟨g, j, none⟩ = some u := by
          intro j u hj
          simp only [World.cell?, setRow_heap w g cur _ e _ hg, Option.isSome_none, Bool.false_eq_true, if_false]
          rw [hfl] at hj
          simp only [List.getElem?_toArray]
          rw [List.getElem?_append_left (List.getElem?_eq_some_iff.1 hj).1]; exact hj
        refine ⟨?_, ?_, ?_, ?_, rfl, rfl, rfl, ?_, ?_, ?_⟩
        · intro b o u h
          simp only [tell]
          split
          · rename_i hb
            obtain ⟨rfl, ho⟩ := hb
            have ho2 : o < xs.flatten.length := by rw [hxl]; exact hrow o u h
            rw [hfl, List.getElem?_append_left ho2]
            have := holds o _ (List.getElem?_eq_getElem ho2)
            rw [h] at this
            rw [List.getElem?_eq_getElem ho2]; exact this.symm
          · exact h
        · intro b o u h
          simp only [tell] at h
          split at h
          · rename_i hb
            obtain ⟨rfl, ho⟩ := hb
            exact hcell' o u h
          · rename_i hb
            have hw := hsub b o u h
            by_cases hbg : b = g
            · subst hbg
              exfalso
              apply hb
              refine ⟨rfl, ?_⟩
              rw [hfl, List.length_append, hxl]
              have := hrow o u h
              omega
            · rw [World.cell?_of_block (w := w)]
              · exact hw
              · exact setRow_other w g b _ hbg
        · exact tell_slice hall (by simp) hroom
        · intro b o h
          simp only [tell] at h
          split at h
          · rename_i hb; exact ⟨_, _, by rw [hb.1]⟩
          · exact absurd rfl h
        · simp [World.setRow]
        · intro k _ hk
          exact setRow_other w g k _ (fun h => hk _ _ (by rw [h]))
        · refine .inr ⟨g, _, _, _, rfl, .inl ⟨_, _, rfl⟩, setRow_heap w g cur _ e _ hg, hroom, hcm, ?_, ?_⟩
          · simp only [List.size_toArray, List.length_append, List.length_drop, Array.length_toList]
            rw [hcs] at hfit ⊢
            rw [hxl, hsz] at *
            omega
          · intro o u h
            simp only [tell] at h
            split at h
            · rename_i hb
              have := hb.2
              rw [flat_len i.size _ hall, List.length_append] at this
              exact this
            · have := hrow o u h
              rw [Nat.add_mul]; omega
      · have hr := run_append_grow (P := P) w t ty e inf z hty hinf hzero ⟨g, 0, none⟩ xs.length cap xs.flatten (by rw [hsz]; exact hxl) (fun j u hj => by rw [addr_add0]; exact hsub _ _ _ (holds j u hj)) ad es.length c es.flatten hnl hnews (by omega) (by omega) (growslice_fits (by omega) (by rw [hby]; exact hb1))
        have hge := grownCap_ge w (xs.length + es.length) cap e
        have := app_new (P := P) (e := e) (v := .slice (some ⟨g, 0, none⟩) xs.length cap) (zs := Builtin.zeroCells z.cells (grownCap w (xs.length + es.length) cap e - (xs.length + es.length))) (cap := grownCap w (xs.length + es.length) cap e) hsub hall (by simpa using hge) (grownCap_le_maxLen _ _ _ _ hb2) (by rw [size_zeroCells, hzs]; simp)
        have e1 : (xs ++ es).flatten.toArray = xs.flatten.toArray ++ es.flatten.toArray := by simp
        rw [e1, List.length_append] at this
        exact ⟨_, _, tell s w.heap.size (xs ++ es).flatten, hr, this⟩
theorem run_app0 {t e ty : TypeId} {i : TI} (hI : i.Ok P e) (hty : P.underlying t = some (.slice e)) {a : Option Addr} {len cap : Nat} (hcap : len ≤ cap) (hl : a = none → len = 0) {y : Value} (hy : ∃ a c, y = .slice a 0 c) (w : World) :
    (Builtin.append_ #[t, t] ty #[.slice a len cap, y]).run P w = .ok (.slice a len cap) w := by
  obtain ⟨inf, z, hinf, hsz, hby, hzero, hzc⟩ := hI.inf
  obtain ⟨ya, yc, rfl⟩ := hy
  cases a <;> cases ya <;> simp [Builtin.append_, run_underlying hty, sizeOf, typeInfo, hinf, Builtin.lenOf, hcap, Builtin.firstCells, loadCells, loadCellsFrom, storeCells]
/-- A literal slice. -/
theorem app_lit {e size : Nat} {s : Hp} {w : World} {all : List (List Value)} (hsub : Sub s w) (hall : ∀ x ∈ all, x.length = size) (hcm : all.length ≤ maxLen) :
    App P e size s w (.slice none 0 0) all (.slice (some ⟨w.heap.size, 0, none⟩) all.length all.length) (w.alloc (.cells all.flatten.toArray e)) (tell s w.heap.size all.flatten) where
  le b o u h := by
    have := hsub.lt h
    simp only [tell]
    rw [if_neg (by omega)]; exact h
  sb b o u h := by
    simp only [tell] at h
    split at h
    · rename_i hb
      obtain ⟨rfl, ho⟩ := hb
      simp only [World.cell?]
      have : (w.alloc (.cells all.flatten.toArray e)).heap[w.heap.size]? = some (.cells all.flatten.toArray e) := heap_alloc_new w _
      rw [this]
      simp only [Option.isSome_none, Bool.false_eq_true, if_false]
      simpa using h
    · have := hsub b o u h
      rw [World.cell?_of_block (w := w)]
      · exact this
      · exact heap_alloc_old w _ _ (hsub.lt h)
  sl := tell_slice hall rfl (Nat.le_refl _)
  nw b o h := by
    simp only [tell] at h
    split at h
    · rename_i hb; exact ⟨_, _, by rw [hb.1]⟩
    · exact absurd rfl h
  os := rfl
  tape := rfl
  output := rfl
  grew := by simp
  old k hk _ := heap_alloc_old w _ k hk
  row := .inr ⟨_, _, _, _, rfl, .inr (Nat.le_refl _), heap_alloc_new w _, Nat.le_refl _, hcm, by
      simp only [List.size_toArray, flat_len size all hall], fun o u h => by
      simp only [tell] at h
      split at h
      · rename_i hb; rw [flat_len size all hall] at hb; exact hb.2
      · have := hsub.lt h; omega⟩
/-- What is stored behind a row's elements, where there is room. -/
theorem app_room {e size : Nat} {s : Hp} {w : World} {g : Nat} {xs es : List (List Value)} {cap : Nat} {cur : Array Value} (hsub : Sub s w) (hall : ∀ x ∈ xs ++ es, x.length = size)
    (hg : w.heap[g]? = some (.cells cur e (0, 0))) (hroom : xs.length + es.length ≤ cap) (hcm : cap ≤ maxLen) (hcs : cur.size = cap * size) (hrow : ∀ o u, s g o = some u → o < xs.length * size)
    (holds : ∀ j u, xs.flatten[j]? = some u → s g j = some u) :
    App P e size s w (.slice (some ⟨g, 0, none⟩) xs.length cap) (xs ++ es) (.slice (some ⟨g, 0, none⟩) (xs.length + es.length) cap) (w.setRow g (xs.flatten ++ es.flatten ++ cur.toList.drop (xs.length * size + es.flatten.length)).toArray) (tell s g (xs ++ es).flatten) := by
  have hxl : xs.flatten.length = xs.length * size := flat_len _ _ (fun x hx => hall x (by simp [hx]))
  have hnl : es.flatten.length = es.length * size := flat_len _ _ (fun x hx => hall x (by simp [hx]))
  have hfit : xs.length * size + es.flatten.length ≤ cur.size := by rw [hnl, hcs, ← Nat.add_mul]; exact Nat.mul_le_mul_right _ hroom
  have hfl : (xs ++ es).flatten = xs.flatten ++ es.flatten := by simp
  have hcell' : ∀ j u, (xs ++ es).flatten[j]? = some u → (w.setRow g (xs.flatten ++ es.flatten ++ cur.toList.drop (xs.length * size + es.flatten.length)).toArray).cell? ⟨g, j, none⟩ = some u := by
    intro j u hj
    simp only [World.cell?, setRow_heap w g cur _ e _ hg, Option.isSome_none, Bool.false_eq_true, if_false]
    rw [hfl] at hj
    simp only [List.getElem?_toArray]
    rw [List.getElem?_append_left (List.getElem?_eq_some_iff.1 hj).1]; exact hj
  refine ⟨?_, ?_, ?_, ?_, rfl, rfl, rfl, ?_, ?_, ?_⟩
  · intro b o u h
    simp only [tell]
    split
    · rename_i hb
      obtain ⟨rfl, ho⟩ := hb
      have ho2 : o < xs.flatten.length := by rw [hxl]; exact hrow o u h
      rw [hfl, List.getElem?_append_left ho2]
      have := holds o _ (List.getElem?_eq_getElem ho2)
      rw [h] at this
      rw [List.getElem?_eq_getElem ho2]; exact this.symm
    · exact h
  · intro b o u h
    simp only [tell] at h
    split at h
    · rename_i hb
      obtain ⟨rfl, ho⟩ := hb
      exact hcell' o u h
    · rename_i hb
      have hw := hsub b o u h
      by_cases hbg : b = g
      · subst hbg
        exfalso
        apply hb
        refine ⟨rfl, ?_⟩
        rw [hfl, List.length_append, hxl]
        have := hrow o u h
        omega
      · rw [World.cell?_of_block (w := w)]
        · exact hw
        · exact setRow_other w g b _ hbg
  · exact tell_slice hall (by simp) hroom
  · intro b o h
    simp only [tell] at h
    split at h
    · rename_i hb; exact ⟨_, _, by rw [hb.1]⟩
    · exact absurd rfl h
  · simp [World.setRow]
  · intro k _ hk
    exact setRow_other w g k _ (fun h => hk _ _ (by rw [h]))
  · refine .inr ⟨g, _, _, _, rfl, .inl ⟨_, _, rfl⟩, setRow_heap w g cur _ e _ hg, hroom, hcm, ?_, ?_⟩
    · simp only [List.size_toArray, List.length_append, List.length_drop, Array.length_toList]
      rw [hcs] at hfit ⊢
      rw [hxl] at *
      omega
    · intro o u h
      simp only [tell] at h
      split at h
      · rename_i hb
        have := hb.2
        rw [flat_len size _ hall, List.length_append] at this
        exact this
      · have := hrow o u h
        rw [Nat.add_mul]; omega
/-- The last element of what was appended is forgotten. -/
theorem App.trim {e size : Nat} {s s' : Hp} {w w' : World} {v v'' : Value} {xs : List (List Value)} {z : List Value} (ha : App P e size s w v (xs ++ [z]) v'' w' s') (hsub : Sub s w)
    (hlow : ∀ q m cap, v = .slice (some ⟨q, 0, none⟩) m cap → ∀ o u, s q o = some u → o < xs.length * size) :
    ∃ v' s'', App P e size s w v xs v' w' s'' ∧ Ext v' v'' xs.length := by
  obtain ⟨hall, a0, cap0, hv0, hcap0, hc0⟩ := ha.sl
  rcases ha.row with h1 | ⟨g, m, cap, cur, h1, h2, h3, h4, h5, h6, h7⟩
  · rw [h1] at hv0; simp at hv0
  rw [h1] at hv0
  simp only [List.length_append, List.length_cons, List.length_nil, Value.slice.injEq] at hv0
  obtain ⟨rfl, rfl, rfl⟩ := hv0
  subst h1
  obtain ⟨b1, o1, e1, hcells⟩ := hc0 (by simp)
  simp only [Option.some.injEq, Addr.mk.injEq] at e1
  obtain ⟨rfl, rfl, _⟩ := e1
  have hnew : ∀ b o, s' b o ≠ s b o → b = g := fun b o h => by
    obtain ⟨m, cap, hq⟩ := ha.nw b o h
    simp only [Value.slice.injEq, Option.some.injEq, Addr.mk.injEq] at hq
    exact hq.1.1.symm
  refine ⟨.slice (some ⟨g, 0, none⟩) xs.length cap, fun b o => if b = g ∧ xs.length * size ≤ o then s b o else s' b o, ⟨?_, ?_, ?_, ?_, ha.os, ha.tape, ha.output, ha.grew, ha.old, ?_⟩, ⟨g, cap, rfl, rfl, h4⟩⟩
  · intro b o u h
    simp only
    split
    · exact h
    · exact ha.le b o u h
  · intro b o u h
    simp only at h
    split at h
    · exact ha.sb b o u (ha.le b o u h)
    · exact ha.sb b o u h
  · refine ⟨fun x hx => hall x (by simp [hx]), _, cap, rfl, by omega, fun hne => ⟨g, 0, rfl, fun i x hi j u hj => ?_⟩⟩
    have hlt : i < xs.length := (List.getElem?_eq_some_iff.1 hi).1
    have hx : x.length = size := hall x (by simp [List.mem_of_getElem? hi])
    have hj2 : j < size := by rw [← hx]; exact (List.getElem?_eq_some_iff.1 hj).1
    have := hcells i x (by rw [List.getElem?_append_left hlt]; exact hi) j u hj
    show (if g = g ∧ xs.length * size ≤ 0 + i * size + j then s g (0 + i * size + j) else s' g (0 + i * size + j)) = some u
    rw [if_neg]
    · exact this
    · rintro ⟨_, hle⟩
      have : (i + 1) * size ≤ xs.length * size := Nat.mul_le_mul_right _ hlt
      rw [Nat.add_mul] at this
      omega
  · intro b o h
    have h : (if b = g ∧ xs.length * size ≤ o then s b o else s' b o) ≠ s b o := h
    split at h
    · exact absurd rfl h
    · exact ⟨_, _, by rw [hnew b o h]⟩
  · refine .inr ⟨g, _, cap, cur, rfl, h2, h3, by omega, h5, h6, fun o u hu => ?_⟩
    have hu : (if g = g ∧ xs.length * size ≤ o then s g o else s' g o) = some u := hu
    split at hu
    · rename_i hle
      rcases h2 with ⟨m', cap', rfl⟩ | h2
      · exact hlow _ _ _ rfl o u hu
      · have := hsub.lt hu; omega
    · rename_i hle
      have : ¬ xs.length * size ≤ o := fun h => hle ⟨rfl, h⟩
      omega
/-- x[lo:hi] of a slice. -/
theorem run_cut {t e : TypeId} {i : TI} (hI : i.Ok P e) (hty : P.underlying t = some (.slice e)) {v : Value} {xs : List (List Value)} {w : World} {s : Hp}
    (hx : SliceIn s i.size v xs) (lo hi : Option Value) (l h : Int) (hlo : match lo with | none => l = 0 | some v => ∃ k, v = .int k l) (hhi : match hi with | none => h = xs.length | some v => ∃ k, v = .int k h)
    (h0 : 0 ≤ l) (h1 : l ≤ h) (h2 : h ≤ xs.length) :
    ∃ v', (Instr.sliceAt t v lo hi none).run P w = .ok v' w ∧ SliceIn s i.size v' ((xs.take h.toNat).drop l.toNat) := by
  obtain ⟨hl, a, cap, rfl, hcap, hc⟩ := hx
  have hb : (Instr.sliceBounds true xs.length cap lo hi none).run P w = .ok (l.toNat, h.toNat, cap) w := by
    unfold Instr.sliceBounds
    cases lo with
    | none =>
      simp only at hlo; subst hlo
      cases hi with
      | none => simp only at hhi; subst hhi; simp
      | some hv => simp [run_bound hv h cap _ w hhi ⟨by omega, by omega⟩]
    | some lv =>
      cases hi with
      | none =>
        simp only at hhi; subst hhi
        simp [run_bound lv l xs.length _ w hlo ⟨h0, h1⟩]
      | some hv => simp [run_bound hv h cap _ w hhi ⟨by omega, by omega⟩, run_bound lv l h.toNat _ w hlo ⟨h0, by omega⟩]
  refine ⟨_, by simp [Instr.sliceAt, run_underlying hty, Instr.slice, hb, run_sizeOf hI]; rfl, ?_, if cap = l.toNat then a else a.map (·.add (l.toNat * i.size)), cap - l.toNat, ?_, ?_, ?_⟩
  · intro x hx
    exact hl x (List.mem_of_mem_take (List.mem_of_mem_drop hx))
  · rw [show ((xs.take h.toNat).drop l.toNat).length = h.toNat - l.toNat by simp; omega]
  · simp; omega
  · intro hne
    have hlh : l.toNat < h.toNat := by
      rcases Nat.lt_or_ge l.toNat h.toNat with h' | h'
      · exact h'
      · exact absurd (List.drop_eq_nil_of_le (by simp; omega)) hne
    obtain ⟨b, o, rfl, hcells⟩ := hc (by intro h'; subst h'; simp at h2; omega)
    refine ⟨b, o + l.toNat * i.size, ?_, ?_⟩
    · rw [if_neg (by omega)]
      simp only [Option.map_some, Addr.add]
      split <;> simp_all
    · intro k x hk j u hj
      rw [List.getElem?_drop, List.getElem?_take] at hk
      split at hk
      · have := hcells _ x hk j u hj
        rw [Nat.add_mul] at this
        rw [show o + l.toNat * i.size + k * i.size + j = o + (l.toNat * i.size + k * i.size) + j by omega]
        exact this
      · simp at hk
end
end Go.Sx
