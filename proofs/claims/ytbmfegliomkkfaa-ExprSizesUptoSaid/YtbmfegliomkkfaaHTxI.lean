/- SX: one operation: what its tree asks is enough. -/
import Derived.Test.YtbmfegliomkkfaaHTxH
set_option linter.unusedSimpArgs false
set_option linter.unusedVariables false
namespace Go.Sx
open Go.RowKit
theorem getBlk_mask (ks : List Nat) (H : List Blk) (k : Nat) : getBlk (maskH ks H) k = if ks.contains k then getBlk H k else none := by
  unfold getBlk maskH
  simp only [List.getElem?_map, List.getElem?_zipIdx]
  cases h : H[k]? with
  | none => simp
  | some b =>
    simp only [Option.map_some, Nat.zero_add]
    by_cases hk : ks.contains k = true
    · rw [if_pos hk, if_pos hk]
    · rw [if_neg hk, if_neg hk]
/-- What the region's steady reads see does not change. -/
def Stab (ρ : Env) (β : Nat → Nat) (g : Cfg) (ρ' : Env) (β' : Nat → Nat) (g' : Cfg) (bad : Nat → Prop) : Prop :=
  g.H.length ≤ g'.H.length ∧ ∀ ks : List Nat, (∀ k ∈ ks, k < g.H.length ∧ ¬ bad k) → ∀ w, HOk ρ' β' (maskH ks g'.H) w ↔ HOk ρ β (maskH ks g.H) w
theorem stab_of {ρ : Env} {β : Nat → Nat} {g : Cfg} {ρ' : Env} {β' : Nat → Nat} {g' : Cfg} {bad : Nat → Prop} (h0 : g.H.length ≤ g'.H.length)
    (h1 : ∀ k, k < g.H.length → ¬ bad k → getBlk g'.H k = getBlk g.H k) (h2 : ∀ k cs T, getBlk g.H k = some (cs, T) → SV.dens ρ' β' cs = SV.dens ρ β cs ∧ β' k = β k) : Stab ρ β g ρ' β' g' bad := by
  refine ⟨h0, fun ks hks w => ⟨fun h k cs T hk => ?_, fun h k cs T hk => ?_⟩⟩
  · rw [getBlk_mask] at hk
    split at hk
    · rename_i hc
      have hm : k ∈ ks := by simpa using hc
      obtain ⟨a1, a2⟩ := hks k hm
      have := h k cs T (by rw [getBlk_mask, if_pos hc, h1 k a1 a2]; exact hk)
      obtain ⟨b1, b2⟩ := h2 k cs T hk
      rw [b1, b2] at this
      exact this
    · simp at hk
  · rw [getBlk_mask] at hk
    split at hk
    · rename_i hc
      have hm : k ∈ ks := by simpa using hc
      obtain ⟨a1, a2⟩ := hks k hm
      rw [h1 k a1 a2] at hk
      have := h k cs T (by rw [getBlk_mask, if_pos hc]; exact hk)
      obtain ⟨b1, b2⟩ := h2 k cs T hk
      rw [b1, b2]
      exact this
    · simp at hk
theorem getBlk_lt {H : List Blk} {k : Nat} {x} (h : getBlk H k = some x) : k < H.length := by
  unfold getBlk at h
  split at h
  · rename_i h'; exact (List.getElem?_eq_some_iff.1 h').1
  · simp at h
theorem getBlk_cells {H : List Blk} {k : Nat} {cs T} (h : getBlk H k = some (cs, T)) : ∃ sh, H[k]? = some (.cells cs T sh) := by
  unfold getBlk at h
  split at h
  · rename_i cs' T' sh h'
    simp only [Option.some.injEq, Prod.mk.injEq] at h
    obtain ⟨rfl, rfl⟩ := h
    exact ⟨_, h'⟩
  · simp at h
section
variable {w0 : World} {s0 : Hp} {X : Fx} {ρ : Env} {s : Hp} {β : Nat → Nat} {g : Cfg} {a : Act} {w : World}
theorem Rel.todo (h : Rel w0 s0 X ρ s β g a w) (t : List PI) : Rel w0 s0 X ρ s β { g with todo := t } a w :=
  ⟨h.tm, h.df, h.sz, h.kp, h.ms, h.fs, h.ci, h.cb, h.cv, h.cj, h.ok, h.bel, h.sb, h.nw, h.le, h.bl, h.sp⟩
theorem Rel.put (h : Rel w0 s0 X ρ s β g a w) (dst : Option Tmp) (v : SV) : Rel w0 s0 X ρ s β { g with sl := putSV g.sl dst v } (a.put dst (v.den ρ β)) w :=
  ⟨put_den h.tm dst v, by cases dst <;> exact h.df, h.sz, h.kp, h.ms, h.fs, h.ci, h.cb, h.cv, h.cj, h.ok, h.bel, h.sb, h.nw, h.le, h.bl, h.sp⟩
theorem okB_sl (h : g.okB = true) : SV.oks g.ni g.nb g.nv g.nj g.kf g.sl = true := by
  simp only [Cfg.okB, Bool.and_eq_true] at h; exact h.1.1
theorem okB_H (h : g.okB = true) {k : Nat} {b : Blk} (hk : g.H[k]? = some b) : okBlk g b = true := by
  simp only [Cfg.okB, Bool.and_eq_true] at h; exact List.all_eq_true.1 h.1.2 b (List.mem_of_getElem? hk)
theorem okB_fs (h : g.okB = true) : g.fs.all (SV.oks g.ni g.nb g.nv g.nj g.kf) = true := by
  simp only [Cfg.okB, Bool.and_eq_true] at h; exact h.2
theorem fs_le {ni nb nv nj : Nat} {kf : Nat → Bool} {ρ ρ' : Env} {β β' : Nat → Nat} (hle : Env.Le ni nb nv nj ρ ρ') (hb : ∀ k, kf k = true → β' k = β k) : ∀ (l : List (List SV)), l.all (SV.oks ni nb nv nj kf) = true →
    (l.map fun x => (SV.dens ρ' β' x).toArray) = l.map fun x => (SV.dens ρ β x).toArray := fun l h => by
  apply List.map_congr_left
  intro x hx
  rw [SV.dens_le hle hb _ (List.all_eq_true.1 h x hx)]
theorem Rel.envle (h : Rel w0 s0 X ρ s β g a w) (is : List Int) (bs : List Bool) (vs : List Value) : Env.Le g.ni g.nb g.nv g.nj ρ (ρ.push is bs vs) := by
  rw [← h.ci, ← h.cb, ← h.cv, ← h.cj]; exact Env.le_push ρ is bs vs
theorem Rel.push (h : Rel w0 s0 X ρ s β g a w) (hok : g.okB = true) (is : List Int) (bs : List Bool) (vs : List Value) (hf : vs.all fineV = true) (ni nb nv : Nat)
    (h1 : g.ni + is.length = ni) (h2 : g.nb + bs.length = nb) (h3 : g.nv + vs.length = nv) : Rel w0 s0 X (ρ.push is bs vs) s β { g with ni := ni, nb := nb, nv := nv } a w := by
  have hle := h.envle is bs vs
  have hval : ∀ n, n < g.nv → (ρ.push is bs vs).v.getD n vd = ρ.v.getD n vd := hle.v
  have hact : ∀ {k : Nat} {b : Blk}, g.H[k]? = some b → act (ρ.push is bs vs) b → act ρ b := by
    intro k b hk hb
    have ho := okB_H hok hk
    cases b with
    | cells cs T sh => trivial
    | row n T size => simp only [act] at hb ⊢; rw [hval n (by simpa [okBlk] using ho)] at hb; exact hb
  refine ⟨?_, h.df, h.sz, fun x hx => ⟨(h.kp x hx).is, fun k b hk hb => (h.kp x hx).own k b hk (hact hk hb), (h.kp x hx).un⟩, h.ms.env rfl rfl, by rw [fs_le hle (fun _ _ => rfl) _ (okB_fs hok)]; exact h.fs, by simp [Env.push, h.ci, h1], by simp [Env.push, h.cb, h2], by simp [Env.push, h.cv, h3], h.cj, ?_, h.bel, h.sb, h.nw, h.le, ?_, ?_⟩
  · rw [SV.dens_le hle (fun _ _ => rfl) _ (okB_sl hok)]; exact h.tm
  · intro x hx
    simp only [Env.push, List.mem_append] at hx
    rcases hx with hx | hx
    · exact h.ok x hx
    · exact List.all_eq_true.1 hf x hx
  · intro k b hk
    have hb := h.bl k b hk
    have ho := okB_H hok hk
    cases b with
    | cells cs T sh =>
      simp only [BOk] at hb ⊢
      rw [SV.dens_le hle (fun _ _ => rfl) _ ho]; exact hb
    | row n T size =>
      simp only [BOk] at hb ⊢
      rw [hval n (by simpa [okBlk] using ho)]; exact hb
  · intro j k bj bk hjk hj hk aj ak
    exact h.sp j k bj bk hjk hj hk (hact hj aj) (hact hk ak)
theorem fillK_le : ∀ (l : List Kd) (x y z : Nat), x ≤ (fillK l x y z).2.1 ∧ y ≤ (fillK l x y z).2.2.1 ∧ z ≤ (fillK l x y z).2.2.2
  | [], x, y, z => by simp [fillK]
  | .int _ :: l, x, y, z => by have := fillK_le l (x + 1) y z; simp only [fillK]; omega
  | .bool :: l, x, y, z => by have := fillK_le l x (y + 1) z; simp only [fillK]; omega
  | .val :: l, x, y, z => by have := fillK_le l x y (z + 1); simp only [fillK]; omega
theorem fillSh_le : ∀ (l : List Sh) (x y z : Nat), x ≤ (fillSh l x y z).2.1 ∧ y ≤ (fillSh l x y z).2.2.1 ∧ z ≤ (fillSh l x y z).2.2.2
  | [], x, y, z => by simp [fillSh]
  | .one k :: l, x, y, z => by
    have h1 := fillK_le [k] x y z
    have := fillSh_le l (fillK [k] x y z).2.1 (fillK [k] x y z).2.2.1 (fillK [k] x y z).2.2.2
    simp only [fillSh]; omega
  | .agg ks :: l, x, y, z => by
    have h1 := fillK_le ks x y z
    have := fillSh_le l (fillK ks x y z).2.1 (fillK ks x y z).2.2.1 (fillK ks x y z).2.2.2
    simp only [fillSh]; omega
theorem Sub.ext {s : Hp} {w w' : World} (h : Sub s w) (hb : ∀ k, k < w.heap.size → (∃ o, s k o ≠ none) → w'.heap[k]? = w.heap[k]?) : Sub s w' := fun b o u hu => by
  have := h b o u hu
  rw [World.cell?_of_block (w := w)]
  · exact this
  · exact hb b (h.lt hu) ⟨o, by rw [hu]; simp⟩
/-- The world has grown; own blocks are as they were. -/
theorem Rel.grow (h : Rel w0 s0 X ρ s β g a w) {w' : World} {s' : Hp} (hb : Below w.heap.size w w') (hle : s.le s') (hsb : Sub s' w') (hnw : New w.heap.size s s') : Rel w0 s0 X ρ s' β g a w' := by
  refine ⟨h.tm, h.df, Nat.le_trans h.sz hb.size, fun x hx => ⟨?_, (h.kp x hx).own, fun o => ?_⟩, h.ms, h.fs, h.ci, h.cb, h.cv, h.cj, h.ok, h.bel.below (hb.mono h.bel.size), hsb, ?_, Hp.le_trans h.le hle, ?_, h.sp⟩
  · have := (h.kp x hx).is
    rw [hb.block _ (Array.getElem?_eq_some_iff.1 this).1]; exact this
  · cases hs' : s' x.1 o with
    | none => rfl
    | some v =>
      have h1 := hnw _ _ _ hs' ((h.kp x hx).un o)
      have h2 := (Array.getElem?_eq_some_iff.1 (h.kp x hx).is).1
      omega
  · intro b o u hu hn
    cases hs : s b o with
    | some v => exact h.nw b o v hs hn
    | none => exact Nat.le_trans h.bel.size (hnw b o u hu hs)
  · intro k b hk
    have hbl := h.bl k b hk
    have same : ∀ o, w.heap[β k]? = some o → w'.heap[β k]? = some o ∧ ∀ c, s' (β k) c = s (β k) c := by
      intro o ho
      have hlt : β k < w.heap.size := (Array.getElem?_eq_some_iff.1 ho).1
      refine ⟨by rw [hb.block _ hlt]; exact ho, fun c => ?_⟩
      cases hs : s (β k) c with
      | some v => exact hle _ _ _ hs
      | none =>
        cases hs' : s' (β k) c with
        | none => rfl
        | some v => have := hnw _ _ _ hs' hs; omega
    cases b with
    | cells cs T sh =>
      obtain ⟨h1, h2, h3, h4⟩ := hbl
      obtain ⟨e1, e2⟩ := same _ h2
      exact ⟨h1, e1, fun hf o => by rw [e2]; exact h3 hf o, fun hf o u hu => by rw [e2]; exact h4 hf o u hu⟩
    | row n T size =>
      refine ⟨hbl.1, ?_⟩
      rcases hbl.2 with h1 | ⟨m, cap, cur, h1, h2, h3, h4, h5, h6, h7⟩
      · exact .inl h1
      · obtain ⟨e1, e2⟩ := same _ h3
        exact .inr ⟨m, cap, cur, h1, h2, e1, h4, h5, h6, fun o u hu => h7 o u (by rw [← e2]; exact hu)⟩
/-- A new own block. -/
theorem Rel.alloc (h : Rel w0 s0 X ρ s β g a w) (hok : g.okB = true) {cs : List SV} (hcs : SV.oks g.ni g.nb g.nv g.nj g.kf cs = true) (T : Nat) :
    Rel w0 s0 X ρ s (fun k => if k = g.H.length then w.heap.size else β k) { g with H := g.H ++ [.cells cs T false] } a (w.alloc (.cells (SV.dens ρ β cs).toArray T)) := by
  have hb : ∀ k, g.kf k = true → (fun k => if k = g.H.length then w.heap.size else β k) k = β k := by
    intro k hk
    simp only [Cfg.kf, Option.isSome_iff_exists] at hk
    obtain ⟨x, hx⟩ := hk
    have := getBlk_lt hx
    simp only
    rw [if_neg (by omega)]
  have hle : Env.Le g.ni g.nb g.nv g.nj ρ ρ := ⟨fun _ _ => rfl, fun _ _ => rfl, fun _ _ => rfl, fun _ _ => rfl⟩
  have hbelow : Below w.heap.size w (w.alloc (.cells (SV.dens ρ β cs).toArray T)) := (Below.refl _ _).alloc (Nat.le_refl _) _
  have hsub : Sub s (w.alloc (.cells (SV.dens ρ β cs).toArray T)) := h.sb.ext fun k hk _ => hbelow.block k hk
  have h' := h.grow hbelow (Hp.le_refl s) hsub (fun b o u h1 h2 => by rw [h1] at h2; simp at h2)
  refine ⟨?_, h'.df, h'.sz, fun x hx => ⟨(h'.kp x hx).is, fun k b hk hb => ?_, (h'.kp x hx).un⟩, h'.ms, by rw [fs_le hle hb _ (okB_fs hok)]; exact h'.fs, h'.ci, h'.cb, h'.cv, h'.cj, h'.ok, h'.bel, h'.sb, h'.nw, h'.le, ?_, ?_⟩
  · rw [SV.dens_le hle hb _ (okB_sl hok)]; exact h'.tm
  · have hlt := (Array.getElem?_eq_some_iff.1 (h.kp x hx).is).1
    simp only at hk ⊢
    split
    · omega
    · rename_i hne
      have hk2 := (List.getElem?_eq_some_iff.1 hk).1
      simp only [List.length_append, List.length_cons, List.length_nil] at hk2
      rw [List.getElem?_append_left (by omega)] at hk
      exact (h.kp x hx).own k b hk hb
  · intro k b hk
    simp only at hk
    rw [List.getElem?_append] at hk
    split at hk
    · rename_i hlt
      have hbl := h'.bl k b hk
      have ho := okB_H hok hk
      have hne : ¬ k = g.H.length := by omega
      cases b with
      | cells cs' T' sh =>
        simp only [BOk, hne, if_false] at hbl ⊢
        rw [SV.dens_le hle hb _ ho]; exact hbl
      | row n T' size =>
        simp only [BOk, hne, if_false] at hbl ⊢; exact hbl
    · rename_i hlt
      have hk0 : k = g.H.length := by
        have := (List.getElem?_eq_some_iff.1 hk).1
        simp at this; omega
      subst hk0
      simp at hk
      subst hk
      simp only [BOk, if_true]
      refine ⟨h.bel.size, ?_, fun _ o => ?_, fun hf => by simp at hf⟩
      · rw [SV.dens_le hle hb _ hcs]; exact heap_alloc_new w _
      · cases hs : s w.heap.size o with
        | none => rfl
        | some v => have := h.sb.lt hs; omega
  · intro j k bj bk hjk hj hk aj ak
    simp only at hj hk ⊢
    have key : ∀ {i : Nat} {b : Blk}, (g.H ++ [Blk.cells cs T false])[i]? = some b → act ρ b → (i < g.H.length ∧ g.H[i]? = some b ∧ β i < w.heap.size) ∨ i = g.H.length := by
      intro i b hi hb
      rw [List.getElem?_append] at hi
      split at hi
      · rename_i hlt; exact .inl ⟨hlt, hi, h.lt hi hb⟩
      · have := (List.getElem?_eq_some_iff.1 hi).1
        simp at this; right; omega
    rcases key hj aj with ⟨a1, a2, a3⟩ | a1 <;> rcases key hk ak with ⟨b1, b2, b3⟩ | b1
    · rw [if_neg (by omega), if_neg (by omega)]; exact h.sp j k bj bk hjk a2 b2 aj ak
    · rw [if_neg (by omega), if_pos b1]; omega
    · rw [if_pos a1, if_neg (by omega)]; omega
    · omega
/-- A store into an own block. -/
theorem Rel.store (h : Rel w0 s0 X ρ s β g a w) {b off : Nat} {cs new : List SV} {T : Nat} (hb : g.H[b]? = some (.cells cs T false)) :
    Rel w0 s0 X ρ s β { g with H := g.H.set b (.cells (setCells cs off new) T false) } a (w.setRow (β b) (SV.dens ρ β (setCells cs off new)).toArray) := by
  have hbl := h.bl b _ hb
  obtain ⟨h1, h2, h3, h4⟩ := hbl
  have hsub : Sub s (w.setRow (β b) (SV.dens ρ β (setCells cs off new)).toArray) := h.sb.ext fun k hk ⟨o, ho⟩ => by
    apply setRow_other
    intro hkb; subst hkb
    exact ho (h3 rfl o)
  refine ⟨h.tm, h.df, by simpa [World.setRow] using h.sz, fun x hx => ?_, h.ms, h.fs, h.ci, h.cb, h.cv, h.cj, h.ok, ?_, hsub, h.nw, h.le, ?_, ?_⟩
  · obtain ⟨k1, k2, k3⟩ := h.kp x hx
    have hne : x.1 ≠ β b := fun he => k2 b _ hb trivial he.symm
    refine ⟨by rw [setRow_other _ _ _ _ hne]; exact k1, fun k y hk hy => ?_, k3⟩
    simp only [List.getElem?_set] at hk
    split at hk
    · rename_i hbk
      subst hbk
      exact hne.symm
    · exact k2 k y hk hy
  · refine h.bel.below ⟨rfl, rfl, rfl, by simp [World.setRow], fun k hk => setRow_other _ _ _ _ (by omega)⟩
  · intro k x hk
    simp only [List.getElem?_set] at hk
    split at hk
    · rename_i hbk
      subst hbk
      split at hk
      · simp only [Option.some.injEq] at hk
        subst hk
        exact ⟨h1, setRow_heap w _ _ _ T _ h2, h3, fun hf => by simp at hf⟩
      · simp at hk
    · rename_i hbk
      have hx := h.bl k x hk
      have other : act ρ x → (w.setRow (β b) (SV.dens ρ β (setCells cs off new)).toArray).heap[β k]? = w.heap[β k]? := fun ha =>
        setRow_other _ _ _ _ (fun he => h.sp k b x _ (Ne.symm hbk) hk hb ha trivial he)
      cases x with
      | cells cs' T' sh =>
        obtain ⟨a1, a2, a3⟩ := hx
        exact ⟨a1, by rw [other trivial]; exact a2, a3⟩
      | row n T' size =>
        refine ⟨hx.1, ?_⟩
        rcases hx.2 with e | ⟨m, cap, cur, e1, e2, e3, e4⟩
        · exact .inl e
        · exact .inr ⟨m, cap, cur, e1, e2, by rw [other (by show ρ.v.getD n vd ≠ _; rw [e1]; simp)]; exact e3, e4⟩
  · intro j k bj bk hjk hj hk aj ak
    have key : ∀ {i : Nat} {x : Blk}, (g.H.set b (.cells (setCells cs off new) T false))[i]? = some x → act ρ x → ∃ y, g.H[i]? = some y ∧ act ρ y := by
      intro i x hi hx
      simp only [List.getElem?_set] at hi
      split at hi
      · rename_i hbi; subst hbi; exact ⟨_, hb, trivial⟩
      · exact ⟨x, hi, hx⟩
    obtain ⟨y, a1, a2⟩ := key hj aj
    obtain ⟨z, b1, b2⟩ := key hk ak
    exact h.sp j k y z hjk a1 b1 a2 b2
def blkOf : Value → Nat
  | .slice (some a) _ _ => a.block
  | _ => 0
/-- An append: the row's entry is number kk. -/
theorem Rel.app {P : Program} (h : Rel w0 s0 X ρ s β g a w) (hok : g.okB = true) {e size : Nat} (hsz : 0 < size) {v v' : Value} {all : List (List Value)} {w' : World} {s' : Hp} (ha : App P e size s w v all v' w' s')
    {kk : Nat} {H' : List Blk} (hk1 : H'[kk]? = some (.row g.nv e size)) (hk2 : ∀ k, k ≠ kk → H'[k]? = g.H[k]?) (hkf : g.kf kk = false)
    (hv : v = .slice none 0 0 ∨ ∃ m, g.H[kk]? = some (.row m e size) ∧ ρ.v.getD m vd = v) :
    Rel w0 s0 X (ρ.push [] [] [v']) s' (fun k => if k = kk then blkOf v' else β k) { g with nv := g.nv + 1, H := H' } a w' := by
  have hle := h.envle [] [] [v']
  have hfine : fineV v' = true := ha.sl.fine
  have hb : ∀ k, g.kf k = true → (fun k => if k = kk then blkOf v' else β k) k = β k := by
    intro k hk
    simp only
    rw [if_neg (by intro hkk; subst hkk; rw [hkf] at hk; simp at hk)]
  have hold : ∀ q m cap, v = .slice (some ⟨q, 0, none⟩) m cap → q = β kk ∧ w0.heap.size ≤ q ∧ ∃ m', g.H[kk]? = some (.row m' e size) ∧ act ρ (.row m' e size) := by
    intro q m cap hq
    rcases hv with h1 | ⟨m', h1, h2⟩
    · rw [h1] at hq; simp at hq
    · have hbl := h.bl kk _ h1
      rcases hbl.2 with h3 | ⟨m2, cap2, cur2, h3, h4, _⟩
      · rw [h2] at h3; rw [h3] at hq; simp at hq
      · rw [h2, hq] at h3
        simp only [Value.slice.injEq, Option.some.injEq, Addr.mk.injEq] at h3
        refine ⟨h3.1.1, by rw [h3.1.1]; exact h4, m', h1, ?_⟩
        show ρ.v.getD m' vd ≠ _
        rw [h2, hq]; simp
  have hoth : ∀ k b, k ≠ kk → g.H[k]? = some b → act ρ b → β k < w.heap.size ∧ (∀ m cap, v ≠ .slice (some ⟨β k, 0, none⟩) m cap) := by
    intro k b hkk hk hact
    refine ⟨h.lt hk hact, fun m cap hq => ?_⟩
    obtain ⟨h1, _, m', h2, h3⟩ := hold _ _ _ hq
    exact h.sp k kk b _ hkk hk h2 hact h3 h1
  have hnewblk : ∀ q m cap, v' = .slice (some ⟨q, 0, none⟩) m cap → (∃ m cap, v = .slice (some ⟨q, 0, none⟩) m cap) ∨ w.heap.size ≤ q := by
    intro q m cap hq
    rcases ha.row with h1 | ⟨g', m', cap', cur, h1, h2, _⟩
    · rw [h1] at hq; simp at hq
    · rw [h1] at hq
      simp only [Value.slice.injEq, Option.some.injEq, Addr.mk.injEq] at hq
      rw [← hq.1.1]; exact h2
  have hsame : ∀ k b, k ≠ kk → g.H[k]? = some b → act ρ b → w'.heap[β k]? = w.heap[β k]? ∧ ∀ o, s' (β k) o = s (β k) o := by
    intro k b hkk hk hact
    obtain ⟨h1, h2⟩ := hoth k b hkk hk hact
    refine ⟨ha.old _ h1 h2, fun o => ?_⟩
    by_cases hne : s' (β k) o = s (β k) o
    · exact hne
    · obtain ⟨m, cap, hq⟩ := ha.nw _ _ hne
      rcases hnewblk _ _ _ hq with ⟨m2, cap2, h3⟩ | h3
      · exact absurd h3 (h2 _ _)
      · omega
  have hbelow : Below w0.heap.size w w' := ⟨ha.os, ha.tape, ha.output, ha.grew, fun k hk => ha.old k (Nat.lt_of_lt_of_le hk h.bel.size) (fun m cap hq => by
    have := (hold _ _ _ hq).2.1; omega)⟩
  have hval : ∀ n, n < g.nv → (ρ.push [] [] [v']).v.getD n vd = ρ.v.getD n vd := hle.v
  have hvnew : (ρ.push [] [] [v']).v.getD g.nv vd = v' := by simp [Env.push, ← h.cv]
  have hkp : ∀ x, X.K x ∨ x ∈ ρ.m → Kept s' (ρ.push [] [] [v']) (fun k => if k = kk then blkOf v' else β k) H' w' x := fun x hx => by
    obtain ⟨k1, k2, k3⟩ := h.kp x hx
    have hlt := (Array.getElem?_eq_some_iff.1 k1).1
    have hne : ∀ m cap, v ≠ .slice (some ⟨x.1, 0, none⟩) m cap := by
      intro m cap hq
      obtain ⟨e1, _, m', e2, e3⟩ := hold _ _ _ hq
      exact k2 kk _ e2 e3 e1.symm
    have hnew : ∀ m cap, v' ≠ .slice (some ⟨x.1, 0, none⟩) m cap := by
      intro m cap hq
      rcases hnewblk _ _ _ hq with ⟨m2, cap2, h3⟩ | h3
      · exact hne _ _ h3
      · omega
    refine ⟨by rw [ha.old x.1 hlt hne]; exact k1, fun k b hk hab => ?_, fun o => ?_⟩
    · by_cases hkk : k = kk
      · subst hkk
        rw [hk1] at hk; simp only [Option.some.injEq] at hk; subst hk
        simp only [act] at hab
        rw [hvnew] at hab
        simp only [if_true]
        rcases ha.row with h1 | ⟨g', m', cap', cur, h1, h2, _⟩
        · exact absurd h1 hab
        · intro he
          rw [h1] at he
          have he : g' = x.1 := he
          rw [he] at h1
          exact hnew _ _ h1
      · simp only [if_neg hkk]
        rw [hk2 k hkk] at hk
        have ho := okB_H hok hk
        refine k2 k b hk ?_
        cases b with
        | cells cs T sh => trivial
        | row n T size' => simp only [act] at hab ⊢; rw [hval n (by simpa [okBlk] using ho)] at hab; exact hab
    · by_cases hq : s' x.1 o = s x.1 o
      · rw [hq]; exact k3 o
      · obtain ⟨m, cap, hq⟩ := ha.nw _ _ hq
        exact absurd hq (hnew _ _)
  refine ⟨?_, h.df, Nat.le_trans h.sz ha.grew, hkp, h.ms.env rfl rfl, by rw [fs_le hle hb _ (okB_fs hok)]; exact h.fs, by simp [Env.push, h.ci], by simp [Env.push, h.cb], by simp [Env.push, h.cv], h.cj, ?_, h.bel.below hbelow, ha.sb, ?_, Hp.le_trans h.le ha.le, ?_, ?_⟩
  · rw [SV.dens_le hle hb _ (okB_sl hok)]; exact h.tm
  · intro x hx
    simp only [Env.push, List.mem_append, List.mem_singleton] at hx
    rcases hx with hx | hx
    · exact h.ok x hx
    · subst hx; exact hfine
  · intro b o u hu hn
    cases hs : s b o with
    | some v => exact h.nw b o v hs hn
    | none =>
      obtain ⟨m, cap, hq⟩ := ha.nw b o (by rw [hu, hs]; simp)
      rcases hnewblk _ _ _ hq with ⟨m2, cap2, h3⟩ | h3
      · exact (hold _ _ _ h3).2.1
      · exact Nat.le_trans h.bel.size h3
  · intro k b hk
    simp only at hk
    by_cases hkk : k = kk
    · subst hkk
      rw [hk1] at hk
      simp only [Option.some.injEq] at hk
      subst hk
      refine ⟨hsz, ?_⟩
      rw [hvnew]
      simp only [if_true]
      rcases ha.row with h1 | ⟨g', m', cap', cur, h1, h2, h3, h4, h5, h6, h7⟩
      · exact .inl h1
      · refine .inr ⟨m', cap', cur, by rw [h1]; rfl, ?_, by rw [h1]; exact h3, h4, h5, h6, by rw [h1]; exact h7⟩
        rw [h1]
        show _ ≤ g'
        rcases h2 with ⟨m2, cap2, h8⟩ | h8
        · exact (hold _ _ _ h8).2.1
        · exact Nat.le_trans h.bel.size h8
    · rw [hk2 k hkk] at hk
      have hbl := h.bl k b hk
      have ho := okB_H hok hk
      cases b with
      | cells cs T sh =>
        obtain ⟨e1, e2⟩ := hsame k _ hkk hk trivial
        obtain ⟨a1, a2, a3, a4⟩ := hbl
        simp only [BOk, if_neg hkk]
        rw [SV.dens_le hle hb _ ho]
        exact ⟨a1, by rw [e1]; exact a2, fun hf o => by rw [e2]; exact a3 hf o, fun hf o u hu => by rw [e2]; exact a4 hf o u hu⟩
      | row n T size' =>
        simp only [BOk, if_neg hkk]
        rw [hval n (by simpa [okBlk] using ho)]
        refine ⟨hbl.1, ?_⟩
        rcases hbl.2 with e | ⟨m, cap, cur, e1, e2, e3, e4, e5, e6, e7⟩
        · exact .inl e
        · have hact : act ρ (.row n T size') := by show ρ.v.getD n vd ≠ _; rw [e1]; simp
          obtain ⟨f1, f2⟩ := hsame k _ hkk hk hact
          exact .inr ⟨m, cap, cur, e1, e2, by rw [f1]; exact e3, e4, e5, e6, fun o u hu => e7 o u (by rw [← f2]; exact hu)⟩
  · intro j k bj bk hjk hj hk aj ak
    simp only at hj hk ⊢
    have key : ∀ i b, i ≠ kk → H'[i]? = some b → act (ρ.push [] [] [v']) b → g.H[i]? = some b ∧ act ρ b := by
      intro i b hi hb' hab
      rw [hk2 i hi] at hb'
      refine ⟨hb', ?_⟩
      have ho := okB_H hok hb'
      cases b with
      | cells cs T sh => trivial
      | row n T size' => simp only [act] at hab ⊢; rw [hval n (by simpa [okBlk] using ho)] at hab; exact hab
    have hrow : act (ρ.push [] [] [v']) (.row g.nv e size) → ∀ k b, k ≠ kk → g.H[k]? = some b → act ρ b → β k ≠ blkOf v' := by
      intro hact k b hkk hk hb' he
      simp only [act] at hact
      rw [hvnew] at hact
      rcases ha.row with h1 | ⟨g', m', cap', cur, h1, h2, _⟩
      · exact hact h1
      · rw [h1] at he
        have he : β k = g' := he
        obtain ⟨h3, h4⟩ := hoth k b hkk hk hb'
        rcases h2 with ⟨m2, cap2, h5⟩ | h5
        · rw [← he] at h5; exact h4 _ _ h5
        · omega
    by_cases h1 : j = kk
    · have h2 : k ≠ kk := by omega
      rw [if_pos h1, if_neg h2]
      subst h1
      rw [hk1] at hj; simp only [Option.some.injEq] at hj; subst hj
      obtain ⟨b1, b2⟩ := key k bk h2 hk ak
      exact fun he => hrow aj k bk h2 b1 b2 he.symm
    · by_cases h2 : k = kk
      · rw [if_neg h1, if_pos h2]
        subst h2
        rw [hk1] at hk; simp only [Option.some.injEq] at hk; subst hk
        obtain ⟨b1, b2⟩ := key j bj h1 hj aj
        exact hrow ak j bj h1 b1 b2
      · rw [if_neg h1, if_neg h2]
        obtain ⟨b1, b2⟩ := key j bj h1 hj aj
        obtain ⟨c1, c2⟩ := key k bk h2 hk ak
        exact h.sp j k bj bk hjk b1 c1 b2 c2
/-- A row goes by another number. -/
theorem Rel.rerow (h : Rel w0 s0 X ρ s β g a w) {kk n n' e size : Nat} (hk : g.H[kk]? = some (.row n e size)) (he : ρ.v.getD n' vd = ρ.v.getD n vd) :
    Rel w0 s0 X ρ s β { g with H := g.H.set kk (.row n' e size) } a w := by
  have key : ∀ (i : Nat) (b : Blk), (g.H.set kk (.row n' e size))[i]? = some b → ∃ b', g.H[i]? = some b' ∧ (act ρ b → act ρ b') ∧ (BOk w0.heap.size s ρ β w i b' → BOk w0.heap.size s ρ β w i b) := by
    intro i b hi
    rw [List.getElem?_set] at hi
    split at hi
    · rename_i hki
      subst hki
      split at hi
      · simp only [Option.some.injEq] at hi
        subst hi
        exact ⟨_, hk, fun h => by simp only [act] at h ⊢; rw [← he]; exact h, fun h => by simp only [BOk] at h ⊢; rw [he]; exact h⟩
      · simp at hi
    · exact ⟨b, hi, id, id⟩
  refine ⟨h.tm, h.df, h.sz, fun x hx => ⟨(h.kp x hx).is, fun k b hb hab => ?_, (h.kp x hx).un⟩, h.ms, h.fs, h.ci, h.cb, h.cv, h.cj, h.ok, h.bel, h.sb, h.nw, h.le, fun k b hb => ?_, fun j k bj bk hjk hj hk' aj ak => ?_⟩
  · obtain ⟨b', e1, e2, _⟩ := key k b hb
    exact (h.kp x hx).own k b' e1 (e2 hab)
  · obtain ⟨b', e1, _, e3⟩ := key k b hb
    exact e3 (h.bl k b' e1)
  · obtain ⟨b1, c1, c2, _⟩ := key j bj hj
    obtain ⟨b2, d1, d2, _⟩ := key k bk hk'
    exact h.sp j k b1 b2 hjk c1 d1 (c2 aj) (d2 ak)
theorem Rel.mok (h : Rel w0 s0 X ρ s β g a w) : MOk s ρ.m w := ⟨h.ms.nd, fun x hx => (h.kp x (.inr hx)).is, fun x hx => (h.kp x (.inr hx)).un⟩
theorem Rel.mE (h : Rel w0 s0 X ρ s β g a w) {i : Nat} (hi : i ∈ blks ρ.m) : i ∈ X.E ∨ w0.heap.size ≤ i := by
  obtain ⟨x, hx, rfl⟩ := List.mem_map.1 hi
  obtain ⟨j, hj⟩ := List.mem_iff_getElem?.1 hx
  rcases Nat.lt_or_ge j ρ.k with hlt | hge
  · exact (h.ms.ck j x hlt hj).imp List.mem_of_getElem? id
  · exact .inr (h.ms.nw j x hge hj)
/-- The objects have been turned, and new ones have come. -/
theorem Rel.turn (h : Rel w0 s0 X ρ s β g a w) {w' : World} {s' : Hp} {m' : MS} (hg : Grows (· ∈ blks ρ.m) w w') (hle : s.le s') (hsb : Sub s' w') (hnw : New w.heap.size s s')
    (hpos : PosB ρ.m m' w) (hmk : MOk s' m' w') : Rel w0 s0 X { ρ with m := m' } s' β g a w' := by
  have hfr : ∀ x ∈ m', x.1 ∈ blks ρ.m ∨ w.heap.size ≤ x.1 := fun x hx => by
    obtain ⟨i, hi⟩ := List.mem_iff_getElem?.1 hx
    exact (hpos.2 i x hi).imp (fun ⟨y, hy, he⟩ => List.mem_map.2 ⟨y, List.mem_of_getElem? hy, he⟩) id
  have hlt : ∀ {x : Nat × Obj}, X.K x ∨ x ∈ ρ.m → x.1 < w.heap.size := fun hx => (Array.getElem?_eq_some_iff.1 (h.kp _ hx).is).1
  have hsame : ∀ (i : Nat), i < w.heap.size → i ∉ blks ρ.m → w'.heap[i]? = w.heap[i]? ∧ ∀ o, s' i o = s i o := fun i hi hn => by
    refine ⟨hg.block i hi hn, fun o => ?_⟩
    cases hs : s i o with
    | some v => exact hle _ _ _ hs
    | none =>
      cases hs' : s' i o with
      | none => rfl
      | some v => have := hnw _ _ _ hs' hs; omega
  have hown : ∀ (k : Nat) (b : Blk), g.H[k]? = some b → act ρ b → β k ∉ blks ρ.m := fun k b hk hb hm => by
    obtain ⟨x, hx, he⟩ := List.mem_map.1 hm
    exact (h.kp x (.inr hx)).own k b hk hb he.symm
  have hlen : ρ.m.length ≤ m'.length := hpos.1
  have hdm : ∀ l, SV.dens { ρ with m := m' } β l = SV.dens ρ β l := fun l => SV.dens_m ρ m' ρ.k β l
  refine ⟨by rw [hdm]; exact h.tm, h.df, Nat.le_trans h.sz hg.size, ?_, ?_, by simp only [hdm]; exact h.fs, h.ci, h.cb, h.cv, h.cj, h.ok, ?_, hsb, ?_, Hp.le_trans h.le hle, ?_, h.sp⟩
  · rintro x (hx | hx)
    · have hk := h.kp x (.inl hx)
      obtain ⟨e1, e2⟩ := hsame x.1 (hlt (.inl hx)) (h.ms.dk x hx)
      exact ⟨by rw [e1]; exact hk.is, hk.own, fun o => by rw [e2]; exact hk.un o⟩
    · refine ⟨hmk.is x hx, fun k b hk hb he => ?_, hmk.un x hx⟩
      rcases hfr x hx with h1 | h1
      · exact hown k b hk hb (by rw [he]; exact h1)
      · have := h.lt hk hb; omega
  · refine ⟨h.ms.ek, ?_, Nat.le_trans h.ms.kl hlen, hmk.nd, ?_, ?_⟩
    · intro i x hi hx
      rcases hpos.2 i x hx with ⟨y, hy, he⟩ | h1
      · rw [← he]; exact h.ms.ck i y hi hy
      · exact .inr (Nat.le_trans h.bel.size h1)
    · intro x hx hm
      obtain ⟨y, hy, he⟩ := List.mem_map.1 hm
      rcases hfr y hy with h1 | h1
      · rw [he] at h1; exact h.ms.dk x hx h1
      · have := hlt (.inl hx); omega
    · intro i x hi hx
      rcases hpos.2 i x hx with ⟨y, hy, he⟩ | h1
      · rw [← he]; exact h.ms.nw i y hi hy
      · exact Nat.le_trans h.bel.size h1
  · exact h.bel.trans hg (fun _ h => h) (fun i hi => h.mE hi)
  · intro b o u hu hn
    cases hs : s b o with
    | some v => exact h.nw b o v hs hn
    | none => exact Nat.le_trans h.bel.size (hnw b o u hu hs)
  · intro k b hk
    have hbl := h.bl k b hk
    cases b with
    | cells cs T sh =>
      obtain ⟨h1, h2, h3, h4⟩ := hbl
      obtain ⟨e1, e2⟩ := hsame _ (h.lt hk trivial) (hown k _ hk trivial)
      exact ⟨h1, by rw [e1, hdm]; exact h2, fun hf o => by rw [e2]; exact h3 hf o, fun hf o u hu => by rw [hdm] at hu; rw [e2]; exact h4 hf o u hu⟩
    | row n T size =>
      refine ⟨hbl.1, ?_⟩
      rcases hbl.2 with h1 | ⟨m, cap, cur, h1, h2, h3, h4, h5, h6, h7⟩
      · exact .inl h1
      · have ha : act ρ (.row n T size) := by show ρ.v.getD n vd ≠ _; rw [h1]; simp
        obtain ⟨e1, e2⟩ := hsame _ (h.lt hk ha) (hown k _ hk ha)
        exact .inr ⟨m, cap, cur, h1, h2, by rw [e1]; exact h3, h4, h5, h6, fun o u hu => h7 o u (by rw [← e2]; exact hu)⟩
/-- A new object. -/
theorem Rel.newM (h : Rel w0 s0 X ρ s β g a w) (o : Obj) : w.heap.size ∉ blks ρ.m ∧ Rel w0 s0 X { ρ with m := ρ.m ++ [(w.heap.size, o)] } s β g a (w.alloc o) := by
  have hb : Below w.heap.size w (w.alloc o) := (Below.refl _ _).alloc (Nat.le_refl _) _
  have hlt : ∀ x ∈ ρ.m, x.1 < w.heap.size := fun x hx => (Array.getElem?_eq_some_iff.1 (h.kp x (.inr hx)).is).1
  have hn : w.heap.size ∉ blks ρ.m := fun hm => by
    obtain ⟨x, hx, he⟩ := List.mem_map.1 hm
    have := hlt x hx; omega
  refine ⟨hn, h.turn (.of_below hb) (Hp.le_refl s) (h.sb.ext fun k hk _ => hb.block k hk) (fun b o u h1 h2 => by rw [h1] at h2; simp at h2) ⟨by simp, ?_⟩ ⟨?_, ?_, ?_⟩⟩
  · intro i x hx
    rw [List.getElem?_append] at hx
    split at hx
    · exact .inl ⟨x, hx, rfl⟩
    · right; rw [List.mem_singleton.1 (List.mem_of_getElem? hx)]; exact Nat.le_refl _
  · simp only [blks, List.map_append, List.map_cons, List.map_nil]
    rw [List.nodup_append]
    refine ⟨h.ms.nd, by simp, fun a ha b hb he => ?_⟩
    simp only [List.mem_singleton] at hb
    rw [he, hb] at ha
    exact hn ha
  · intro x hx
    rcases List.mem_append.1 hx with hx | hx
    · rw [hb.block _ (hlt x hx)]; exact (h.kp x (.inr hx)).is
    · rw [List.mem_singleton.1 hx]
      show (w.heap.push o)[w.heap.size]? = _
      simp
  · intro x hx
    rcases List.mem_append.1 hx with hx | hx
    · exact (h.kp x (.inr hx)).un
    · rw [List.mem_singleton.1 hx]
      intro o'
      cases hs : s w.heap.size o' with
      | none => rfl
      | some v => have := h.sb.lt hs; omega
/-- An object is turned. -/
theorem Rel.setM (h : Rel w0 s0 X ρ s β g a w) {i b : Nat} {o o' : Obj} (hi : ρ.m[i]? = some (b, o)) {w' : World} (hw : w'.heap[b]? = some o') (hoth : ∀ k, k ≠ b → w'.heap[k]? = w.heap[k]?) (hsz : w'.heap.size = w.heap.size)
    (hos : w'.os = w.os) (htp : w'.tape = w.tape) (hout : w'.output = w.output) : Rel w0 s0 X { ρ with m := ρ.m.set i (b, o') } s β g a w' := by
  have hmem : (b, o) ∈ ρ.m := List.mem_of_getElem? hi
  have hbl : blks (ρ.m.set i (b, o')) = blks ρ.m := by
    simp only [blks, List.map_set]
    apply List.ext_getElem?
    intro j
    rw [List.getElem?_set]
    split
    · rename_i hj; subst hj
      have := (List.getElem?_eq_some_iff.1 hi).1
      have e0 : ρ.m[i] = (b, o) := by
        have := List.getElem?_eq_getElem this; rw [hi] at this; simpa using this.symm
      simp [this, e0]
    · rfl
  have hin : ∀ x ∈ ρ.m.set i (b, o'), x = (b, o') ∨ (x ∈ ρ.m ∧ x.1 ≠ b) := by
    intro x hx
    obtain ⟨j, hj⟩ := List.mem_iff_getElem?.1 hx
    rw [List.getElem?_set] at hj
    split at hj
    · rename_i hij; split at hj
      · simp only [Option.some.injEq] at hj; exact .inl hj.symm
      · simp at hj
    · rename_i hij
      refine .inr ⟨List.mem_of_getElem? hj, fun he => hij ?_⟩
      have h1 : (blks ρ.m)[j]? = some b := by simp [blks, hj, he]
      have h2 : (blks ρ.m)[i]? = some b := by simp [blks, hi]
      have hlt := (List.getElem?_eq_some_iff.1 h2).1
      exact (List.getElem?_inj hlt h.ms.nd).1 (h2.trans h1.symm)
  have hbm : b ∈ blks ρ.m := List.mem_map.2 ⟨_, hmem, rfl⟩
  refine h.turn ⟨hos, htp, hout, by omega, fun k hk hn => hoth k (fun he => hn (by rw [he]; exact hbm))⟩ (Hp.le_refl s) (h.sb.ext fun k hk ⟨o, ho⟩ => hoth k (fun he => ho (by rw [he]; exact (h.kp _ (.inr hmem)).un o))) (fun b o u h1 h2 => by rw [h1] at h2; simp at h2) ⟨by simp, fun j x hj => ?_⟩ ⟨by rw [hbl]; exact h.ms.nd, ?_, ?_⟩
  · left
    rw [List.getElem?_set] at hj
    split at hj
    · rename_i hij
      split at hj
      · simp only [Option.some.injEq] at hj
        subst hij hj
        exact ⟨_, hi, rfl⟩
      · cases hj
    · exact ⟨x, hj, rfl⟩
  · intro x hx
    rcases hin x hx with rfl | ⟨h1, h2⟩
    · exact hw
    · rw [hoth _ h2]; exact (h.kp x (.inr h1)).is
  · intro x hx
    rcases hin x hx with rfl | ⟨h1, _⟩
    · exact (h.kp _ (.inr hmem)).un
    · exact (h.kp x (.inr h1)).un
/-- A block elsewhere takes an object's place, or comes as a new one. -/
theorem Rel.moveM (h : Rel w0 s0 X ρ s β g a w) {i b' : Nat} {o' : Obj} {w' : World} (hi : i ≤ ρ.m.length) (hg : Grows (· ∈ blks ρ.m) w w') (hoth : ∀ x ∈ ρ.m, x.1 ≠ b' → ρ.m[i]? ≠ some x → w'.heap[x.1]? = w.heap[x.1]?)
    (hw : w'.heap[b']? = some o') (hb : (∃ o, ρ.m[i]? = some (b', o)) ∨ w.heap.size ≤ b') : Rel w0 s0 X { ρ with m := if i < ρ.m.length then ρ.m.set i (b', o') else ρ.m ++ [(b', o')] } s β g a w' := by
  have hlt : ∀ x ∈ ρ.m, x.1 < w.heap.size := fun x hx => (Array.getElem?_eq_some_iff.1 (h.kp x (.inr hx)).is).1
  have hun : ∀ o, s b' o = none := by
    rcases hb with ⟨o, ho⟩ | hb
    · exact (h.kp _ (.inr (List.mem_of_getElem? ho))).un
    · intro o
      cases hs : s b' o with
      | none => rfl
      | some v => have := h.sb.lt hs; omega
  have hsub : Sub s w' := h.sb.ext fun k hk ⟨o, ho⟩ => hg.block k hk (fun hm => by
    obtain ⟨x, hx, rfl⟩ := List.mem_map.1 hm
    exact ho ((h.kp x (.inr hx)).un o))
  have hnd := h.ms.nd
  have hne : ∀ j x, j ≠ i → ρ.m[j]? = some x → x.1 ≠ b' ∧ ρ.m[i]? ≠ some x := by
    intro j x hji hj
    have hx := List.mem_of_getElem? hj
    refine ⟨fun he => ?_, fun hxi => ?_⟩
    · rcases hb with ⟨o, ho⟩ | hb
      · have h1 : (blks ρ.m)[j]? = some b' := by simp [blks, hj, he]
        have h2 : (blks ρ.m)[i]? = some b' := by simp [blks, ho]
        exact hji ((List.getElem?_inj (List.getElem?_eq_some_iff.1 h1).1 hnd).1 (h1.trans h2.symm))
      · have := hlt x hx; omega
    · have h1 : (blks ρ.m)[j]? = some x.1 := by simp [blks, hj]
      have h2 : (blks ρ.m)[i]? = some x.1 := by simp [blks, hxi]
      exact hji ((List.getElem?_inj (List.getElem?_eq_some_iff.1 h1).1 hnd).1 (h1.trans h2.symm))
  have hget : ∀ j x, (if i < ρ.m.length then ρ.m.set i (b', o') else ρ.m ++ [(b', o')])[j]? = some x → (j = i ∧ x = (b', o')) ∨ (j ≠ i ∧ ρ.m[j]? = some x) := by
    intro j x hj
    split at hj
    · rw [List.getElem?_set] at hj
      split at hj
      · rename_i hij
        simp only [Option.some.injEq] at hj; exact .inl ⟨hij.symm, hj.symm⟩
      · rename_i hij; exact .inr ⟨Ne.symm hij, hj⟩
    · rename_i hnl
      rw [List.getElem?_append] at hj
      split at hj
      · rename_i hjl; exact .inr ⟨by omega, hj⟩
      · have h1 := (List.getElem?_eq_some_iff.1 hj).1
        simp at h1
        have : j - ρ.m.length = 0 := by omega
        rw [this] at hj
        simp only [List.getElem?_cons_zero, Option.some.injEq] at hj
        exact .inl ⟨by omega, hj.symm⟩
  refine h.turn hg (Hp.le_refl s) hsub (fun b o u h1 h2 => by rw [h1] at h2; simp at h2) ⟨by split <;> simp, fun j x hj => ?_⟩ ⟨?_, ?_, ?_⟩
  · rcases hget j x hj with ⟨rfl, rfl⟩ | ⟨_, h2⟩
    · exact hb.imp (fun ⟨o, ho⟩ => ⟨_, ho, rfl⟩) id
    · exact .inl ⟨x, h2, rfl⟩
  · unfold List.Nodup
    rw [List.pairwise_iff_getElem]
    intro p q hpl hq hpq he
    have he : (blks (if i < ρ.m.length then ρ.m.set i (b', o') else ρ.m ++ [(b', o')]))[p]? = (blks (if i < ρ.m.length then ρ.m.set i (b', o') else ρ.m ++ [(b', o')]))[q]? := by
      rw [List.getElem?_eq_getElem hpl, List.getElem?_eq_getElem hq, he]
    simp only [blks, List.length_map] at hpl hq
    obtain ⟨x, hx⟩ : ∃ x, (if i < ρ.m.length then ρ.m.set i (b', o') else ρ.m ++ [(b', o')])[p]? = some x := ⟨_, List.getElem?_eq_getElem hpl⟩
    obtain ⟨y, hy⟩ : ∃ x, (if i < ρ.m.length then ρ.m.set i (b', o') else ρ.m ++ [(b', o')])[q]? = some x := ⟨_, List.getElem?_eq_getElem hq⟩
    simp only [blks, List.getElem?_map, hx, hy, Option.map_some, Option.some.injEq] at he
    rcases hget p x hx with ⟨h1, rfl⟩ | ⟨h1, h2⟩ <;> rcases hget q y hy with ⟨h3, rfl⟩ | ⟨h3, h4⟩
    · omega
    · exact (hne q y h3 h4).1 he.symm
    · exact (hne p x h1 h2).1 he
    · have e1 : (blks ρ.m)[p]? = some x.1 := by simp [blks, h2]
      have e2 : (blks ρ.m)[q]? = some x.1 := by simp [blks, h4, he]
      have := (List.getElem?_inj (List.getElem?_eq_some_iff.1 e1).1 hnd).1 (e1.trans e2.symm)
      omega
  · intro x hx
    obtain ⟨j, hj⟩ := List.mem_iff_getElem?.1 hx
    rcases hget j x hj with ⟨_, rfl⟩ | ⟨h1, h2⟩
    · exact hw
    · rw [hoth x (List.mem_of_getElem? h2) (hne j x h1 h2).1 (hne j x h1 h2).2]; exact (h.kp x (.inr (List.mem_of_getElem? h2))).is
  · intro x hx
    obtain ⟨j, hj⟩ := List.mem_iff_getElem?.1 hx
    rcases hget j x hj with ⟨_, rfl⟩ | ⟨_, h2⟩
    · exact hun
    · exact (h.kp x (.inr (List.mem_of_getElem? h2))).un
end
end Go.Sx
