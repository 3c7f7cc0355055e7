/- SX: one operation, and what comes behind it: what its tree asks is enough. -/
import Derived.Test.YtbmfegliomkkfaaHSxJ
namespace Go.Sx
open Go.RowKit
section
variable {P : Program} {c : Ctx} {w0 : World} {s0 : Hp} {X : Fx} {ρ : Env} {s : Hp} {β : Nat → Nat} {g : Cfg} {a : Act} {w : World} {Q : Value → Hp → Prop} {T : Cfg → Env → Hp → Prop}

abbrev badBlk (c : Ctx) (g : Cfg) (o : Oper) (k : Nat) : Prop := ∃ off new, storeOf c g.sl g.H o.op = some (k, off, new)

theorem stab_rfl {bad : Nat → Prop} {g' : Cfg} (h : g'.H = g.H) : Stab ρ β g ρ β g' bad :=
  stab_of (by rw [h]; exact Nat.le_refl _) (fun k _ _ => by rw [h]) (fun _ _ _ _ => ⟨rfl, rfl⟩)

theorem stab_env {bad : Nat → Prop} {g' : Cfg} (hr : Rel w0 s0 X ρ s β g a w) (hok : g.okB = true) (h : ∀ k, k < g.H.length → getBlk g'.H k = getBlk g.H k) (h0 : g.H.length ≤ g'.H.length) (is : List Int) (bs : List Bool) (vs : List Value)
    {β' : Nat → Nat} (hb : ∀ k, g.kf k = true → β' k = β k) : Stab ρ β g (ρ.push is bs vs) β' g' bad :=
  stab_of h0 (fun k hk _ => h k hk) (fun k cs T hk => by
    obtain ⟨sh, hk'⟩ := getBlk_cells hk
    exact ⟨SV.dens_le (hr.envle is bs vs) hb _ (okB_H hok hk'), hb k (by simp [Cfg.kf, hk])⟩)

theorem load_sound (hP : ProgOk P c) {o : Oper} {kont : Cfg → Out} (h : Rel w0 s0 X ρ s β g a w) {t : Nat} {x : Operand} (hop : o.op = .load t x) {xs : SV} (hxs : ev g.sl x = some xs)
    (hvc : VC P Q T (loadRun c g o.dst t xs kont) ρ s) :
    ∃ v ρ' g', (∀ w', Sub s w' → (execOp a.eval o).run P w' = .ok (.value v) w') ∧ VC P Q T (kont g') ρ' s ∧ Rel w0 s0 X ρ' s β g' (a.put o.dst v) w ∧ (∀ bad, Stab ρ β g ρ' β g' bad) ∧ g'.todo = g.todo := by
  unfold loadRun at hvc
  split at hvc
  case h_2 => exact hvc.elim
  rename_i i hi
  split at hvc
  case isFalse => exact hvc.elim
  rename_i hok
  have main : (∃ ad, xs.den ρ β = .pointer (some ad)) → xs.den ρ β = xs.den ρ id →
      VC P Q T (if (fillK i.ks g.ni g.nb g.nv).1.length = i.size && SV.oks (fillK i.ks g.ni g.nb g.nv).2.1 (fillK i.ks g.ni g.nb g.nv).2.2.1 (fillK i.ks g.ni g.nb g.nv).2.2.2 0 (fun _ => false) (fillK i.ks g.ni g.nb g.nv).1 then
        .load xs (fillK i.ks g.ni g.nb g.nv).1 ((fillK i.ks g.ni g.nb g.nv).2.1 - g.ni) ((fillK i.ks g.ni g.nb g.nv).2.2.1 - g.nb) ((fillK i.ks g.ni g.nb g.nv).2.2.2 - g.nv)
          (kont { g with sl := putSV g.sl o.dst (if i.isAgg then .agg (fillK i.ks g.ni g.nb g.nv).1 else (fillK i.ks g.ni g.nb g.nv).1.headD .undef), ni := (fillK i.ks g.ni g.nb g.nv).2.1, nb := (fillK i.ks g.ni g.nb g.nv).2.2.1, nv := (fillK i.ks g.ni g.nb g.nv).2.2.2 })
        else .fail "load kinds") ρ s → ∃ v ρ' g', (∀ w', Sub s w' → (execOp a.eval o).run P w' = .ok (.value v) w') ∧ VC P Q T (kont g') ρ' s ∧ Rel w0 s0 X ρ' s β g' (a.put o.dst v) w ∧ (∀ bad, Stab ρ β g ρ' β g' bad) ∧ g'.todo = g.todo := by
    intro hptr hid hvc
    split at hvc
    case isFalse => exact hvc.elim
    rename_i hc
    simp only [Bool.and_eq_true, decide_eq_true_eq] at hc
    obtain ⟨is, bs, vs, l1, l2, l3, hf, hr, hvc⟩ := hvc
    obtain ⟨e1, e2, e3⟩ := fillK_le i.ks g.ni g.nb g.nv
    have h1 := h.push hok is bs vs hf (fillK i.ks g.ni g.nb g.nv).2.1 (fillK i.ks g.ni g.nb g.nv).2.2.1 (fillK i.ks g.ni g.nb g.nv).2.2.2 (by omega) (by omega) (by omega)
    have hdens : SV.dens (ρ.push is bs vs) β (fillK i.ks g.ni g.nb g.nv).1 = SV.dens (ρ.push is bs vs) id (fillK i.ks g.ni g.nb g.nv).1 :=
      SV.dens_le (ni := (fillK i.ks g.ni g.nb g.nv).2.1) (nb := (fillK i.ks g.ni g.nb g.nv).2.2.1) (nv := (fillK i.ks g.ni g.nb g.nv).2.2.2) (nj := 0) (kf := fun _ => false)
        ⟨fun _ _ => rfl, fun _ _ => rfl, fun _ _ => rfl, fun _ _ => rfl⟩ (by simp) _ hc.2
    have hrun := fun (w' : World) (hs' : Sub s w') => run_loadFar (w := w') hP hop hi hxs h.tm hs' (vals := SV.dens (ρ.push is bs vs) id (fillK i.ks g.ni g.nb g.nv).1) (by rw [hid]; exact hr) (by rw [dens_length]; exact hc.1) hptr
    have h2 := h1.put o.dst (if i.isAgg then .agg (fillK i.ks g.ni g.nb g.nv).1 else (fillK i.ks g.ni g.nb g.nv).1.headD .undef)
    have hv : (if i.isAgg then SV.agg (fillK i.ks g.ni g.nb g.nv).1 else (fillK i.ks g.ni g.nb g.nv).1.headD .undef).den (ρ.push is bs vs) β =
        (if i.isAgg then .agg (SV.dens (ρ.push is bs vs) id (fillK i.ks g.ni g.nb g.nv).1).toArray else (SV.dens (ρ.push is bs vs) id (fillK i.ks g.ni g.nb g.nv).1).headD undef) := by
      rw [← hdens]
      split
      · rfl
      · cases (fillK i.ks g.ni g.nb g.nv).1 <;> rfl
    rw [hv] at h2
    exact ⟨_, _, _, hrun, hvc, h2, fun bad => stab_env h hok (fun _ _ => rfl) (Nat.le_refl _) is bs vs (fun _ _ => rfl), rfl⟩
  split at hvc
  · exact main ⟨_, rfl⟩ rfl hvc
  · exact main ⟨_, rfl⟩ rfl hvc
  · exact hvc.elim

theorem opRun_sound (hP : ProgOk P c) {o : Oper} {kont : Cfg → Out} (h : Rel w0 s0 X ρ s β g a w) (hvc : VC P Q T (opRun c g o kont) ρ s) {K : Act → World → Prop} {Qx : Exit → Act → World → Prop}
    (hK : ∀ ρ' s' β' g' a' w', VC P Q T (kont g') ρ' s' → Rel w0 s0 X ρ' s' β' g' a' w' → Stab ρ β g ρ' β' g' (badBlk c g o) → g'.todo = g.todo → s.le s' → K a' w') : o.wp P a w K Qx := by
  unfold opRun at hvc
  split at hvc
  · -- it only computes
    rename_i ns v hpv
    obtain ⟨hn, hvc⟩ := VC_needs P Q T _ _ _ _ hvc
    exact wp_value (run_pv hP h.ok hpv hn h.tm h.hok) (hK _ _ _ _ _ _ hvc (h.put o.dst v) (stab_rfl rfl) rfl (Hp.le_refl s))
  rename_i hpv
  split at hvc
  · -- a new block
    rename_i cs t v hnew
    split at hvc
    case isFalse => exact hvc.elim
    rename_i hok
    simp only [Bool.and_eq_true] at hok
    obtain ⟨v', hr, hv⟩ := run_newBlk (β := β) hP h.ok hnew h.tm w
    have h1 := h.alloc hok.1 hok.2 t
    have h2 := h1.put o.dst v
    rw [hv ρ (fun k => if k = g.H.length then w.heap.size else β k) (by simp)] at h2
    refine wp_value hr (hK _ _ _ _ _ _ hvc h2 (stab_of (by simp) ?_ ?_) rfl (Hp.le_refl s))
    · intro k hk _
      simp only [getBlk, List.getElem?_append_left hk]
    · intro k cs' T' hk
      obtain ⟨sh, hk'⟩ := getBlk_cells hk
      have hb : ∀ k, g.kf k = true → (fun k => if k = g.H.length then w.heap.size else β k) k = β k := by
        intro k hk
        simp only [Cfg.kf, Option.isSome_iff_exists] at hk
        obtain ⟨x, hx⟩ := hk
        have := getBlk_lt hx
        simp only
        rw [if_neg (by omega)]
      exact ⟨SV.dens_le ⟨fun _ _ => rfl, fun _ _ => rfl, fun _ _ => rfl, fun _ _ => rfl⟩ hb _ (okB_H hok.1 hk'), hb k (by simp [Cfg.kf, hk])⟩
  rename_i hnew
  split at hvc
  · -- a store
    rename_i b off new hst
    split at hvc
    case h_2 => exact hvc.elim
    rename_i cs t hb
    have hr := run_storeOf (β := β) hP h.ok hst hb h.tm w (h.bl _ _ hb).2.1
    have h1 := (h.store (off := off) (new := new) hb).put o.dst .undef
    refine wp_skip' hr (hK _ _ _ _ _ _ hvc h1 (stab_of (by simp) ?_ (fun _ _ _ _ => ⟨rfl, rfl⟩)) rfl (Hp.le_refl s))
    intro k hk hbad
    have hkb : b ≠ k := by intro he; subst he; exact hbad ⟨off, new, hst⟩
    simp only [getBlk, List.getElem?_set_ne hkb]
  rename_i hst
  split at hvc
  · -- a load from elsewhere
    rename_i t x hop
    split at hvc
    case h_2 => exact hvc.elim
    rename_i xs hxs
    obtain ⟨v, ρ', g', hrun, hvc, hr, hst, htd⟩ := load_sound hP h hop hxs hvc
    exact wp_value (hrun w h.sb) (hK _ _ _ _ _ _ hvc hr (hst _) htd (Hp.le_refl s))
  · -- a slice cut
    rename_i t x lo hi hop
    split at hvc
    case h_2 => exact hvc.elim
    rename_i xs hxs
    unfold cutRun at hvc
    split at hvc
    case h_2 => exact hvc.elim
    rename_i e m hty
    obtain ⟨ti, hti, hti'⟩ := Ctx.ty_some hty
    have hty := (hP.tab t ti hti).ty
    simp only [hti'] at hty
    split at hvc
    case h_2 => exact hvc.elim
    rename_i i lo' hi' hi1 hlo hhi
    split at hvc
    case isFalse => exact hvc.elim
    rename_i hok
    obtain ⟨xs, hsl, b0, b1, b2, hvc⟩ := hvc
    have hlo' : match lo.map a.eval with | none => loOf ρ lo' = 0 | some v => ∃ k, v = .int k (loOf ρ lo') := by
      cases lo with
      | none => simp only [optInt, Option.some.injEq] at hlo; subst hlo; rfl
      | some l =>
        simp only [optInt] at hlo
        split at hlo
        · rename_i k e' he
          simp only [Option.some.injEq] at hlo; subst hlo
          exact ⟨k, by rw [ev_den he h.tm]; rfl⟩
        · simp at hlo
    have hhi' : match hi.map a.eval with | none => hiOf ρ hi' xs.length = xs.length | some v => ∃ k, v = .int k (hiOf ρ hi' xs.length) := by
      cases hi with
      | none => simp only [optInt, Option.some.injEq] at hhi; subst hhi; rfl
      | some l =>
        simp only [optInt] at hhi
        split at hhi
        · rename_i k e' he
          simp only [Option.some.injEq] at hhi; subst hhi
          exact ⟨k, by rw [ev_den he h.tm]; rfl⟩
        · simp at hhi
    obtain ⟨v', hr, hv'⟩ := run_cut (P := P) (hP.tab _ _ hi1) hty (w := w) hsl (lo.map a.eval) (hi.map a.eval) _ _ hlo' hhi' b0 b1 b2
    have h1 := h.push hok [] [] [v'] (by simp [hv'.fine]) g.ni g.nb (g.nv + 1) (by simp) (by simp) (by simp)
    have h2 := h1.put o.dst (.va g.nv)
    have hv : (SV.va g.nv).den (ρ.push [] [] [v']) β = v' := by simp [SV.den, Env.push, ← h.cv]
    rw [hv] at h2
    have hrun : (execOp a.eval o).run P w = .ok (.value v') w := by
      obtain ⟨dst, op, type, pos, after, guard⟩ := o
      simp only at hop; subst hop
      simp only [execOp, ev_den hxs h.tm, SV.den, Sem.run_bind, Option.map_none, hr, Result.andThen_ok, Sem.run_pure]
    exact wp_value hrun (hK _ _ _ _ _ _ (hvc v' hv') h2 (stab_env h hok (fun _ _ => rfl) (Nat.le_refl _) [] [] [v'] (fun _ _ => rfl)) rfl (Hp.le_refl s))
  · -- append
    rename_i args ts hop
    split at hvc
    case h_2 => exact hvc.elim
    rename_i x y t t' hev hts
    split at hvc
    case isFalse => exact hvc.elim
    rename_i htt
    have htt : t = t' := by simpa using htt
    subst htt
    have hts' : ts = #[t, t] := by rw [← Array.toList_inj]; simpa using hts
    have hargs : args.map a.eval = #[x.den ρ β, y.den ρ β] := by
      have := evs_den h.tm _ _ hev
      rw [← Array.toList_inj]; simpa [SV.dens] using this
    unfold appRun at hvc
    split at hvc
    case h_2 => exact hvc.elim
    rename_i e hty
    obtain ⟨ti, hti, hti'⟩ := Ctx.ty_some hty
    have hty := (hP.tab t ti hti).ty
    simp only [hti'] at hty
    split at hvc
    case h_2 => exact hvc.elim
    rename_i i hi
    split at hvc
    case isFalse => exact hvc.elim
    rename_i hc
    simp only [Bool.and_eq_true, decide_eq_true_eq] at hc
    obtain ⟨hpos, hok⟩ := hc
    split at hvc
    case h_2 => exact hvc.elim
    rename_i src hsrc
    split at hvc
    case isFalse => exact hvc.elim
    rename_i hsok
    have hid : ∀ l, src = .lit l → l.map (SV.dens ρ β) = l.map (SV.dens ρ id) := fun l hl => by
      subst hl; exact lit_id hsok
    have hI := hP.tab _ _ hi
    have hrun : ∀ v' w', (Builtin.append_ #[t, t] o.type #[x.den ρ β, y.den ρ β]).run P w = .ok v' w' → (execOp a.eval o).run P w = .ok (.value v') w' := by
      intro v' w' hr
      obtain ⟨dst, op, type, pos, after, guard⟩ := o
      simp only at hop; subst hop
      simp only [execOp, resolve, hargs, invoke, builtin, hts', Sem.run_bind, Sem.run_pure, Result.andThen_ok, hr]
    have fin : ∀ (v' : Value) (w' : World) (s' : Hp) (all : List (List Value)) (kk : Nat) (H' : List Blk) (kont' : Cfg → Out), kont' = kont → App P e i.size s w (x.den ρ β) all v' w' s' →
        (Builtin.append_ #[t, t] o.type #[x.den ρ β, y.den ρ β]).run P w = .ok v' w' →
        H'[kk]? = some (.row g.nv e i.size) → (∀ k, k ≠ kk → H'[k]? = g.H[k]?) → g.kf kk = false → g.H.length ≤ H'.length →
        (x.den ρ β = .slice none 0 0 ∨ ∃ m, g.H[kk]? = some (.row m e i.size) ∧ ρ.v.getD m vd = x.den ρ β) →
        VC P Q T (kont { g with sl := putSV g.sl o.dst (.va g.nv), nv := g.nv + 1, H := H' }) (ρ.push [] [] [v']) s' → o.wp P a w K Qx := by
      intro v' w' s' all kk H' _ _ ha hr hk1 hk2 hkf hlen hv hvc
      have h1 := h.app hok hpos ha hk1 hk2 hkf hv
      have h2 := h1.put o.dst (.va g.nv)
      have hv2 : (SV.va g.nv).den (ρ.push [] [] [v']) (fun k => if k = kk then blkOf v' else β k) = v' := by simp [SV.den, Env.push, ← h.cv]
      rw [hv2] at h2
      refine wp_value (hrun _ _ hr) (hK _ _ _ _ _ _ hvc h2 (stab_env h hok ?_ hlen [] [] [v'] ?_) rfl ha.le)
      · intro k hk
        by_cases hkk : k = kk
        · subst hkk
          have : getBlk g.H k = none := by simpa [Cfg.kf] using hkf
          rw [this]
          simp only [getBlk, hk1]
        · simp only [getBlk, hk2 k hkk]
      · intro k hk
        exact if_neg (by intro hkk; subst hkk; rw [hkf] at hk; simp at hk)
    split at hvc
    · -- onto nil
      split at hvc
      · rename_i b hfind
        obtain ⟨xs, es, hd, hs, hb1, hb2, hvc⟩ := hvc
        simp only [DstIs] at hd
        subst hd
        obtain ⟨s1, s2, s3⟩ := src_spec h hsrc hs hid
        have hx0 : SliceIn s i.size (.slice none 0 0) [] := ⟨by simp, none, 0, rfl, by simp, by simp⟩
        obtain ⟨v', w', s', hr, ha⟩ := run_app (ty := o.type) hI hty h.sb hx0 (.inl rfl) s3 s1 s2 hb1 hb2
        obtain ⟨hlt, hp, _⟩ := List.findIdx?_eq_some_iff_getElem.1 hfind
        have hkf : g.kf b = false := by
          simp only [Cfg.kf, getBlk, List.getElem?_eq_getElem hlt]
          cases hb : g.H[b] with
          | row n T' size' => rfl
          | cells cs T' sh => rw [hb] at hp; simp [deadRow] at hp
        refine fin v' w' s' _ b _ kont rfl ha hr (by simp [hlt]) (fun k hk => by rw [List.getElem?_set_ne (Ne.symm hk)]) hkf (by simp) (.inl rfl) (hvc v' s' ha.le ha.sl)
      · obtain ⟨xs, es, hd, hs, hb1, hb2, hvc⟩ := hvc
        simp only [DstIs] at hd
        subst hd
        obtain ⟨s1, s2, s3⟩ := src_spec h hsrc hs hid
        have hx0 : SliceIn s i.size (.slice none 0 0) [] := ⟨by simp, none, 0, rfl, by simp, by simp⟩
        obtain ⟨v', w', s', hr, ha⟩ := run_app (ty := o.type) hI hty h.sb hx0 (.inl rfl) s3 s1 s2 hb1 hb2
        refine fin v' w' s' _ g.H.length _ kont rfl ha hr (by simp) (fun k hk => ?_) ?_ (by simp) (.inl rfl) (hvc v' s' ha.le ha.sl)
        · rw [List.getElem?_append]
          split
          · rfl
          · rw [List.getElem?_eq_none (by simp; omega), List.getElem?_eq_none (by omega)]
        · simp [Cfg.kf, getBlk]
    · -- onto a row of the call's own
      rename_i m
      split at hvc
      case h_2 => exact hvc.elim
      rename_i b T' size' hrow
      split at hvc
      case isFalse => exact hvc.elim
      rename_i hT
      simp only [Bool.and_eq_true, beq_iff_eq] at hT
      obtain ⟨rfl, rfl⟩ := hT
      have hrow := isRow_spec hrow
      obtain ⟨xs, es, hd, hs, hb1, hb2, hvc⟩ := hvc
      simp only [DstIs] at hd
      obtain ⟨s1, s2, s3⟩ := src_spec h hsrc hs hid
      have hbl := (h.bl b _ hrow).2
      have hdst : ρ.v.getD m vd = .slice none 0 0 ∨ ∃ g' m' cap cur, ρ.v.getD m vd = .slice (some ⟨g', 0, none⟩) m' cap ∧ w.heap[g']? = some (.cells cur T' (0, 0)) ∧ m' ≤ cap ∧ cap ≤ maxLen ∧ cur.size = cap * i.size ∧ ∀ o u, s g' o = some u → o < m' * i.size := by
        rcases hbl with h1 | ⟨m', cap, cur, h1, h2, h3, h4, h5, h6, h7⟩
        · exact .inl h1
        · exact .inr ⟨_, m', cap, cur, h1, h3, h4, h5, h6, h7⟩
      obtain ⟨v', w', s', hr, ha⟩ := run_app (ty := o.type) hI hty h.sb hd hdst s3 s1 s2 hb1 hb2
      have hlt : b < g.H.length := (List.getElem?_eq_some_iff.1 hrow).1
      refine fin v' w' s' _ b _ kont rfl ha hr (by simp [hlt]) (fun k hk => by rw [List.getElem?_set_ne (Ne.symm hk)]) ?_ (by simp) (.inr ⟨m, hrow, rfl⟩) (hvc v' s' ha.le ha.sl)
      simp [Cfg.kf, getBlk, hrow]
    · exact hvc.elim
  · -- a call
    rename_i fo args ts hop
    split at hvc
    case h_2 => exact hvc.elim
    rename_i f cap as hf has
    unfold callRun at hvc
    split at hvc
    case isFalse => exact hvc.elim
    rename_i hc
    simp only [Bool.and_eq_true] at hc
    obtain ⟨hfok, hok⟩ := hc
    simp only at hvc
    split at hvc
    case isFalse => exact hvc.elim
    rename_i hres
    have hrun := run_call (w := w) hP hop hf has hfok h.tm
    generalize hr : fillSh ((c.rets f).map (shOf c)) g.ni g.nb g.nv = r at hvc hres
    have hle3 := fillSh_le ((c.rets f).map (shOf c)) g.ni g.nb g.nv
    rw [hr] at hle3
    -- both cases, with no address handed over and with some
    have fin : ∀ (s1 : Hp) (H' : List Blk), s.le s1 → Rel w0 s0 X ρ s1 β { g with H := H' } a w → (∀ k, getBlk H' k = getBlk g.H k) → H'.length = g.H.length → ({ g with H := H' } : Cfg).okB = true →
        (∃ Qc, Ct P f (SV.dens ρ β (as ++ cap)) s1 Qc ∧ ∀ v s', s1.le s' → Qc v s' → ∃ is bs vs, is.length = r.2.1 - g.ni ∧ bs.length = r.2.2.1 - g.nb ∧ vs.length = r.2.2.2 - g.nv ∧ vs.all fineV = true ∧
          v = (tupOf r.1).den (ρ.push is bs vs) id ∧ VC P Q T (kont { g with sl := putSV g.sl o.dst (tupOf r.1), ni := r.2.1, nb := r.2.2.1, nv := r.2.2.2, H := H' }) (ρ.push is bs vs) s') → o.wp P a w K Qx := by
      intro s1 H' hs1 hrel hget hlen hok' ⟨Qc, hct, hq⟩
      refine wp_enter hrun ((hct w hrel.sb).mono ?_)
      rintro e w' ⟨v, s', rfl, hb, hle, hsb, hnw, hqv⟩
      obtain ⟨is, bs, vs, l1, l2, l3, hfv, rfl, hvc⟩ := hq v s' hle hqv
      have h1 := hrel.grow hb hle hsb hnw
      have h2 := h1.push hok' is bs vs hfv r.2.1 r.2.2.1 r.2.2.2 (by simp only; omega) (by simp only; omega) (by simp only; omega)
      have h3 := h2.put o.dst (tupOf r.1)
      have hden : (tupOf r.1).den (ρ.push is bs vs) β = (tupOf r.1).den (ρ.push is bs vs) id :=
        SV.den_le (ni := r.2.1) (nb := r.2.2.1) (nv := r.2.2.2) (nj := 0) (kf := fun _ => false) ⟨fun _ _ => rfl, fun _ _ => rfl, fun _ _ => rfl, fun _ _ => rfl⟩ (by simp) _ hres
      rw [hden] at h3
      exact ⟨_, rfl, hK _ _ _ _ _ _ hvc h3 (stab_env h hok (fun k _ => hget k) (by rw [hlen]; exact Nat.le_refl _) is bs vs (fun _ _ => rfl)) rfl (Hp.le_trans hs1 hle)⟩
    by_cases hps : (SV.ptrss (as ++ cap)).isEmpty = true
    · rw [if_pos hps] at hvc
      exact fin s g.H (Hp.le_refl s) h (fun _ => rfl) rfl hok (by simpa [hps] using hvc β s (Hp.le_refl s) (fun k cs T hk => by simp at hk))
    · simp only [hps, Bool.false_eq_true, if_false] at hvc
      obtain ⟨k1, k2, k3, _⟩ := h.shut (SV.ptrss (as ++ cap))
      refine fin _ (shutBlk (SV.ptrss (as ++ cap)) g.H) k2 k1 (fun k => getBlk_shut _ _ k) (by simp [shutBlk]) ?_ (hvc β _ k2 k3)
      simp only [Cfg.okB, Bool.and_eq_true, List.all_eq_true] at hok ⊢
      have hkf : ({ g with H := shutBlk (SV.ptrss (as ++ cap)) g.H } : Cfg).kf = g.kf := by
        funext k; simp only [Cfg.kf, getBlk_shut]
      rw [hkf]
      refine ⟨⟨hok.1.1, fun b hb => ?_⟩, hok.2⟩
      obtain ⟨k, hk⟩ := List.mem_iff_getElem?.1 hb
      rw [shut_get] at hk
      cases hg : g.H[k]? with
      | none => simp [hg] at hk
      | some b' =>
        have := hok.1.2 b' (List.mem_of_getElem? hg)
        cases b' with
        | cells cs T sh => simp only [hg, Option.map_some, Option.some.injEq] at hk; subst hk; simp only [okBlk, hkf] at this ⊢; exact this
        | row n T size => simp only [hg, Option.map_some, Option.some.injEq] at hk; subst hk; exact this
  · exact hvc.elim
end
end Go.Sx
