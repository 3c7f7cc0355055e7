/- SX: one operation, and what comes behind it: what its tree asks is enough. -/
import Derived.Test.YtbmfegliomkkfaaHTxJ
set_option linter.unusedSimpArgs false
set_option linter.unusedVariables false
namespace Go.Sx
open Go.RowKit
section
variable {P : Program} {c : Ctx} {w0 : World} {s0 : Hp} {X : Fx} {ρ : Env} {s : Hp} {β : Nat → Nat} {g : Cfg} {a : Act} {w : World} {Q : Value → Hp → MS → Prop} {T : Cfg → Env → Hp → Prop}
abbrev badBlk (c : Ctx) (g : Cfg) (o : Oper) (k : Nat) : Prop := ∃ off new, storeOf c g.sl g.H o.op = some (k, off, new)
theorem stab_rfl {bad : Nat → Prop} {g' : Cfg} (h : g'.H = g.H) : Stab ρ β g ρ β g' bad :=
  stab_of (by rw [h]; exact Nat.le_refl _) (fun k _ _ => by rw [h]) (fun _ _ _ _ => ⟨rfl, rfl⟩)
theorem stab_env {bad : Nat → Prop} {g' : Cfg} (hr : Rel w0 s0 X ρ s β g a w) (hok : g.okB = true) (h : ∀ k, k < g.H.length → getBlk g'.H k = getBlk g.H k) (h0 : g.H.length ≤ g'.H.length) (is : List Int) (bs : List Bool) (vs : List Value)
    {β' : Nat → Nat} (hb : ∀ k, g.kf k = true → β' k = β k) : Stab ρ β g (ρ.push is bs vs) β' g' bad :=
  stab_of h0 (fun k hk _ => h k hk) (fun k cs T hk => by
    obtain ⟨sh, hk'⟩ := getBlk_cells hk
    exact ⟨SV.dens_le (hr.envle is bs vs) hb _ (okB_H hok hk'), hb k (by simp [Cfg.kf, hk])⟩)
theorem stab_envm {bad : Nat → Prop} {g' : Cfg} (hr : Rel w0 s0 X ρ s β g a w) (hok : g.okB = true) (h : ∀ k, k < g.H.length → getBlk g'.H k = getBlk g.H k) (h0 : g.H.length ≤ g'.H.length) (is : List Int) (bs : List Bool) (vs : List Value) (m' : MS)
    {β' : Nat → Nat} (hb : ∀ k, g.kf k = true → β' k = β k) : Stab ρ β g { ρ.push is bs vs with m := m' } β' g' bad :=
  stab_of h0 (fun k hk _ => h k hk) (fun k cs T hk => by
    obtain ⟨sh, hk'⟩ := getBlk_cells hk
    exact ⟨(SV.dens_m (ρ.push is bs vs) m' ρ.k β' cs).trans (SV.dens_le (hr.envle is bs vs) hb _ (okB_H hok hk')), hb k (by simp [Cfg.kf, hk])⟩)
theorem load_sound (hP : ProgOk P c) {fl : Bool} {o : Oper} {kont : Cfg → Out} (h : Rel w0 s0 X ρ s β g a w) {t : Nat} {x : Operand} (hop : o.op = .load t x) {xs : SV} (hxs : ev g.sl x = some xs)
    (hvc : VC P Q T (loadRun c fl g o.dst t xs kont) ρ s) :
    ∃ v ρ' g', (∀ w', Sub s w' → (fl = true ∨ w' = w) → (execOp a.eval o).run P w' = .ok (.value v) w') ∧ VC P Q T (kont g') ρ' s ∧ Rel w0 s0 X ρ' s β g' (a.put o.dst v) w ∧ (∀ bad, Stab ρ β g ρ' β g' bad) ∧ g'.todo = g.todo := by
  unfold loadRun at hvc
  split at hvc
  case h_2 => exact hvc.elim
  rename_i i hi
  split at hvc
  case isFalse => exact hvc.elim
  rename_i hok
  have main : (∃ ad, xs.den ρ β = .pointer (some ad)) → xs.den ρ β = xs.den ρ id →
      VC P Q T (if (fillK i.ks g.ni g.nb g.nv).1.length = i.size && SV.oks (fillK i.ks g.ni g.nb g.nv).2.1 (fillK i.ks g.ni g.nb g.nv).2.2.1 (fillK i.ks g.ni g.nb g.nv).2.2.2 0 (fun _ => false) (fillK i.ks g.ni g.nb g.nv).1 then
        .load fl xs (fillK i.ks g.ni g.nb g.nv).1 ((fillK i.ks g.ni g.nb g.nv).2.1 - g.ni) ((fillK i.ks g.ni g.nb g.nv).2.2.1 - g.nb) ((fillK i.ks g.ni g.nb g.nv).2.2.2 - g.nv)
          (kont { g with sl := putSV g.sl o.dst (if i.isAgg then .agg (fillK i.ks g.ni g.nb g.nv).1 else (fillK i.ks g.ni g.nb g.nv).1.headD .undef), ni := (fillK i.ks g.ni g.nb g.nv).2.1, nb := (fillK i.ks g.ni g.nb g.nv).2.2.1, nv := (fillK i.ks g.ni g.nb g.nv).2.2.2 })
        else .fail "load kinds") ρ s → ∃ v ρ' g', (∀ w', Sub s w' → (fl = true ∨ w' = w) → (execOp a.eval o).run P w' = .ok (.value v) w') ∧ VC P Q T (kont g') ρ' s ∧ Rel w0 s0 X ρ' s β g' (a.put o.dst v) w ∧ (∀ bad, Stab ρ β g ρ' β g' bad) ∧ g'.todo = g.todo := by
    intro hptr hid hvc
    split at hvc
    case isFalse => exact hvc.elim
    rename_i hc
    simp only [Bool.and_eq_true, decide_eq_true_eq] at hc
    obtain ⟨is, bs, vs, l1, l2, l3, hf, hr, hvc⟩ := hvc
    obtain ⟨e1, e2, e3⟩ := fillK_le i.ks g.ni g.nb g.nv
    have h1 := h.push hok is bs vs hf (fillK i.ks g.ni g.nb g.nv).2.1 (fillK i.ks g.ni g.nb g.nv).2.2.1 (fillK i.ks g.ni g.nb g.nv).2.2.2 (by omega) (by omega) (by omega)
    have hdens : SV.dens (ρ.push is bs vs) β (fillK i.ks g.ni g.nb g.nv).1 = SV.dens (ρ.push is bs vs) id (fillK i.ks g.ni g.nb g.nv).1 :=
      SV.dens_le (ni := (fillK i.ks g.ni g.nb g.nv).2.1) (nb := (fillK i.ks g.ni g.nb g.nv).2.2.1) (nv := (fillK i.ks g.ni g.nb g.nv).2.2.2) (nj := 0) (kf := fun _ => false)
        ⟨fun _ _ => rfl, fun _ _ => rfl, fun _ _ => rfl, fun _ _ => rfl⟩ (by simp) _ hc.2
    have hrd : ∀ (w' : World), Sub s w' → (fl = true ∨ w' = w) → ∃ b o, addrOf (xs.den ρ β) = some ⟨b, o, none⟩ ∧ ∀ j u, (SV.dens (ρ.push is bs vs) id (fillK i.ks g.ni g.nb g.nv).1)[j]? = some u → w'.cell? ⟨b, o + j, none⟩ = some u := by
      intro w' hs' hfl
      obtain ⟨b, o, ha, h2 | ⟨cur, T, fr, h2, h3⟩⟩ := hr
      · exact ⟨b, o, by rw [hid]; exact ha, fun j u hj => hs' _ _ _ (h2 j u hj)⟩
      · cases hf : fl with
        | true => rw [hf] at h2; simp at h2
        | false =>
          rw [hf] at h2 hfl
          simp only [Bool.false_eq_true, if_false, false_or] at h2 hfl
          subst hfl
          refine ⟨b, o, by rw [hid]; exact ha, fun j u hj => ?_⟩
          have := (h.kp _ (.inr h2)).is
          simp only at this
          simp only [World.cell?, this, Option.isSome_none, Bool.false_eq_true, if_false]
          exact h3 j u hj
    have hrun := fun (w' : World) (hs' : Sub s w') (hfl : fl = true ∨ w' = w) => run_loadFar (w := w') hP hop hi hxs h.tm (vals := SV.dens (ρ.push is bs vs) id (fillK i.ks g.ni g.nb g.nv).1) (hrd w' hs' hfl) (by rw [dens_length]; exact hc.1) hptr
    have h2 := h1.put o.dst (if i.isAgg then .agg (fillK i.ks g.ni g.nb g.nv).1 else (fillK i.ks g.ni g.nb g.nv).1.headD .undef)
    have hv : (if i.isAgg then SV.agg (fillK i.ks g.ni g.nb g.nv).1 else (fillK i.ks g.ni g.nb g.nv).1.headD .undef).den (ρ.push is bs vs) β =
        (if i.isAgg then .agg (SV.dens (ρ.push is bs vs) id (fillK i.ks g.ni g.nb g.nv).1).toArray else (SV.dens (ρ.push is bs vs) id (fillK i.ks g.ni g.nb g.nv).1).headD undef) := by
      rw [← hdens]
      split
      · rfl
      · cases (fillK i.ks g.ni g.nb g.nv).1 <;> rfl
    rw [hv] at h2
    exact ⟨_, _, _, hrun, hvc, h2, fun bad => stab_env h hok (fun _ _ => rfl) (Nat.le_refl _) is bs vs (fun _ _ => rfl), rfl⟩
  split at hvc
  · exact main ⟨_, rfl⟩ rfl hvc
  · exact main ⟨_, rfl⟩ rfl hvc
  · exact hvc.elim
theorem dens_nil (g : Cfg) {l : List SV} (h : SV.oks g.ni g.nb g.nv g.nj (fun _ => false) l = true) (ρ : Env) (β : Nat → Nat) : SV.dens ρ β l = SV.dens ρ id l :=
  SV.dens_le (ni := g.ni) (nb := g.nb) (nv := g.nv) (nj := g.nj) (kf := fun _ => false) ⟨fun _ _ => rfl, fun _ _ => rfl, fun _ _ => rfl, fun _ _ => rfl⟩ (by simp) _ h
theorem den_nil (g : Cfg) {l : SV} (h : SV.ok g.ni g.nb g.nv g.nj (fun _ => false) l = true) (ρ : Env) (β : Nat → Nat) : SV.den ρ β l = SV.den ρ id l :=
  SV.den_le (ni := g.ni) (nb := g.nb) (nv := g.nv) (nj := g.nj) (kf := fun _ => false) ⟨fun _ _ => rfl, fun _ _ => rfl, fun _ _ => rfl, fun _ _ => rfl⟩ (by simp) _ h
theorem fine_flat' {ρ : Env} (hρ : ρ.Ok) (β : Nat → Nat) {v : SV} (h : v.flat = true) : fineV (v.den ρ β) = true := by
  cases v <;> simp [SV.flat] at h <;> try rfl
  exact hρ.fine _
abbrev GoOn (P : Program) (Q : Value → Hp → MS → Prop) (T : Cfg → Env → Hp → Prop) (c : Ctx) (w0 : World) (s0 : Hp) (X : Fx) (ρ : Env) (s : Hp) (β : Nat → Nat) (g : Cfg) (o : Oper) (kont : Cfg → Out) (K : Act → World → Prop) : Prop :=
  ∀ ρ' s' β' g' a' w', VC P Q T (kont g') ρ' s' → Rel w0 s0 X ρ' s' β' g' a' w' → Stab ρ β g ρ' β' g' (badBlk c g o) → g'.todo = g.todo → s.le s' → K a' w'
/-- A new object. -/
theorem newM_sound (hP : ProgOk P c) {o : Oper} {kont : Cfg → Out} (h : Rel w0 s0 X ρ s β g a w) {cs : List SV} {t : Nat} {v : SV} (hnew : newBlk c g.sl g.H.length o.op = some (cs, t, v))
    (hvc : VC P Q T (newMRun g o.dst cs t v kont) ρ s) {K : Act → World → Prop} {Qx : Exit → Act → World → Prop} (hK : GoOn P Q T c w0 s0 X ρ s β g o kont K) : o.wp P a w K Qx := by
  unfold newMRun at hvc
  split at hvc
  case h_2 => exact hvc.elim
  rename_i kk
  split at hvc
  case isFalse => exact hvc.elim
  rename_i hc
  simp only [Bool.and_eq_true] at hc
  obtain ⟨⟨hok, hflat⟩, hoks⟩ := hc
  obtain ⟨v', hr, hv⟩ := run_newBlk (β := β) hP h.ok hnew h.tm w
  have hv' := hv ρ (fun _ => w.heap.size) rfl
  simp only [SV.den] at hv'
  subst hv'
  rw [dens_nil g hoks] at hr
  obtain ⟨hn, h1⟩ := h.newM (.cells (SV.dens ρ id cs).toArray t)
  have h2 := h1.push hok [] [] [.pointer (some ⟨w.heap.size, 0, none⟩)] rfl g.ni g.nb (g.nv + 1) (by simp) (by simp) (by simp)
  have h3 := h2.put o.dst (.pa g.nv 0)
  have hden : (SV.pa g.nv 0).den (({ ρ with m := ρ.m ++ [(w.heap.size, .cells (SV.dens ρ id cs).toArray t)] } : Env).push [] [] [.pointer (some ⟨w.heap.size, 0, none⟩)]) β = .pointer (some ⟨w.heap.size, 0, none⟩) := by
    simp [SV.den, Env.push, ← h.cv, addrOf, addr_add0]
  rw [hden] at h3
  exact wp_value hr (hK _ _ _ _ _ _ (hvc _ hn) h3 (stab_envm h hok (fun _ _ => rfl) (Nat.le_refl _) [] [] [_] _ (fun _ _ => rfl)) rfl (Hp.le_refl s))
/-- make of a slice. -/
theorem mkM_sound (hP : ProgOk P c) {o : Oper} {kont : Cfg → Out} (h : Rel w0 s0 X ρ s β g a w) {t : Nat} {lx nx : Operand} (hop : o.op = .makeSlice t lx nx) {l n : SV} (hl : ev g.sl lx = some l) (hn : ev g.sl nx = some n)
    (hvc : VC P Q T (mkMRun c g o.dst t l n kont) ρ s) {K : Act → World → Prop} {Qx : Exit → Act → World → Prop} (hK : GoOn P Q T c w0 s0 X ρ s β g o kont K) : o.wp P a w K Qx := by
  unfold mkMRun at hvc
  split at hvc
  case h_2 => exact hvc.elim
  rename_i k1 l k2 n e hty
  obtain ⟨ti, hti, hti'⟩ := Ctx.ty_some hty
  have hty := (hP.tab t ti hti).ty
  simp only [hti'] at hty
  split at hvc
  case h_2 => exact hvc.elim
  rename_i i hi
  split at hvc
  case isFalse => exact hvc.elim
  rename_i hc
  simp only [Bool.and_eq_true, decide_eq_true_eq] at hc
  obtain ⟨⟨⟨hok, rfl⟩, hflat⟩, hoks⟩ := hc
  obtain ⟨b0, b1, b2, hvc⟩ := hvc
  have hI := hP.tab _ _ hi
  obtain ⟨inf, z, i1, i2, i3, i4, i5⟩ := hI.inf
  have hr := run_make (P := P) w t e inf z hty i1 i4 k1 k2 (l.den ρ) (l.den ρ) b0 (Int.le_refl _) (by rw [i3, Int.mul_comm]; omega) b2
  rw [i5 ρ id, i2] at hr
  have hrun : (execOp a.eval o).run P w = .ok (.value (.slice (some ⟨w.heap.size, 0, none⟩) (l.den ρ).toNat (l.den ρ).toNat)) (w.alloc (.cells (madeCells (SV.dens ρ id i.zero).toArray ((l.den ρ).toNat * i.size)) e)) := by
    obtain ⟨dst, op, type, pos, after, guard⟩ := o
    simp only at hop; subst hop
    simp only [execOp, ev_den hl h.tm, ev_den hn h.tm, SV.den, Sem.run_bind, hr, Result.andThen_ok, Sem.run_pure]
  obtain ⟨hn', h1⟩ := h.newM (.cells (madeCells (SV.dens ρ id i.zero).toArray ((l.den ρ).toNat * i.size)) e)
  have h2 := h1.push hok [] [] [.slice (some ⟨w.heap.size, 0, none⟩) (l.den ρ).toNat (l.den ρ).toNat] rfl g.ni g.nb (g.nv + 1) (by simp) (by simp) (by simp)
  have h3 := h2.put o.dst (.va g.nv)
  have hden : (SV.va g.nv).den (({ ρ with m := ρ.m ++ [(w.heap.size, .cells (madeCells (SV.dens ρ id i.zero).toArray ((l.den ρ).toNat * i.size)) e)] } : Env).push [] [] [.slice (some ⟨w.heap.size, 0, none⟩) (l.den ρ).toNat (l.den ρ).toNat]) β = .slice (some ⟨w.heap.size, 0, none⟩) (l.den ρ).toNat (l.den ρ).toNat := by
    simp [SV.den, Env.push, ← h.cv]
  rw [hden] at h3
  exact wp_value hrun (hK _ _ _ _ _ _ (hvc _ hn') h3 (stab_envm h hok (fun _ _ => rfl) (Nat.le_refl _) [] [] [_] _ (fun _ _ => rfl)) rfl (Hp.le_refl s))
/-- A store into an object. -/
theorem storeM_sound (hP : ProgOk P c) {o : Oper} {kont : Cfg → Out} (h : Rel w0 s0 X ρ s β g a w) {t : Nat} {ax vx : Operand} (hop : o.op = .store t ax vx) {x y : SV} (hax : ev g.sl ax = some x) (hvx : ev g.sl vx = some y)
    (hvc : VC P Q T (storeMRun c g o.dst t x y kont) ρ s) {K : Act → World → Prop} {Qx : Exit → Act → World → Prop} (hK : GoOn P Q T c w0 s0 X ρ s β g o kont K) : o.wp P a w K Qx := by
  unfold storeMRun at hvc
  split at hvc
  case h_2 => exact hvc.elim
  rename_i ti hti
  split at hvc
  case isFalse => exact hvc.elim
  rename_i hc
  simp only [Bool.and_eq_true, beq_iff_eq] at hc
  obtain ⟨⟨⟨⟨⟨hok, hcok⟩, hlen⟩, hflat⟩, hoks⟩, hxok⟩ := hc
  have main : (∃ ad, x.den ρ id = .pointer (some ad)) → VC P Q T (.storeM x (cellsOf y) (kont { g with sl := putSV g.sl o.dst .undef })) ρ s → o.wp P a w K Qx := by
    rintro ⟨ad, had⟩ ⟨i, b, off, cur, T, hi, hab, hle, hvc⟩
    rw [had] at hab
    simp only [addrOf, Option.some.injEq] at hab
    subst hab
    have hI := hP.tab _ _ hti
    have hxd : x.den ρ β = .pointer (some ⟨b, off, none⟩) := by rw [den_nil g hxok]; exact had
    have hcells := cells_den' (β := β) h.ok y hcok
    rw [dens_nil g hoks] at hcells
    have hone : ∀ u ∈ SV.dens ρ id (cellsOf y), u.oneCell' = true := flat_one h.ok hflat id
    have hw := (h.kp _ (.inr (List.mem_of_getElem? hi))).is
    simp only at hw
    have hst := run_storeCells_at P b off T (SV.dens ρ id (cellsOf y)) 0 cur w hw (by simp only [dens_length]; omega) hone
    simp only [Nat.add_zero] at hst
    have hrun : (execOp a.eval o).run P w = .ok .skip (w.setRow b (setC cur.toList off (SV.dens ρ id (cellsOf y))).toArray) := by
      obtain ⟨dst, op, type, pos, after, guard⟩ := o
      simp only at hop; subst hop
      simp only [execOp, ev_den hax h.tm, ev_den hvx h.tm, hxd, Instr.storeAt, Instr.sureAddr, Sem.run_bind, Sem.run_pure, Result.andThen_ok, storeVar, hcells, run_sizeOf hI, List.size_toArray, dens_length, hlen, ne_eq, not_true_eq_false, if_false, hst]
      simp only [setC, dens_length, hlen]
    have h1 := h.setM hi (o' := .cells (setC cur.toList off (SV.dens ρ id (cellsOf y))).toArray T (0, 0)) (w' := w.setRow b (setC cur.toList off (SV.dens ρ id (cellsOf y))).toArray)
      (setRow_heap w _ _ _ T _ hw) (fun k hk => setRow_other _ _ _ _ hk) (by simp [World.setRow]) rfl rfl rfl
    have h2 := h1.put o.dst .undef
    refine wp_skip' hrun (hK _ _ _ _ _ _ hvc h2 ?_ rfl (Hp.le_refl s))
    have := stab_envm (bad := badBlk c g o) (g' := { g with sl := putSV g.sl o.dst .undef }) h hok (fun _ _ => rfl) (Nat.le_refl _) [] [] [] (ρ.m.set i (b, .cells (setC cur.toList off (SV.dens ρ id (cellsOf y))).toArray T (0, 0))) (β' := β) (fun _ _ => rfl)
    simpa [Env.push] using this
  split at hvc
  · exact main ⟨_, rfl⟩ hvc
  · exact main ⟨_, rfl⟩ hvc
  · exact hvc.elim
/-- A call through a function value. -/
theorem callv_sound (hP : ProgOk P c) {o : Oper} {kont : Cfg → Out} (h : Rel w0 s0 X ρ s β g a w) {fo : Operand} {args : Array Operand} {ts : Array TypeId} (hop : o.op = .call { callee := .value fo, args := args, argTypes := ts }) {n : Nat} {as : List SV}
    (hf : ev g.sl fo = some (.va n)) (has : evs g.sl args.toList = some as)
    (hvc : VC P Q T (callvRun c g o.dst (tmpOf fo) n as kont) ρ s) {K : Act → World → Prop} {Qx : Exit → Act → World → Prop} (hK : GoOn P Q T c w0 s0 X ρ s β g o kont K) : o.wp P a w K Qx := by
  unfold callvRun at hvc
  split at hvc
  case h_2 => exact hvc.elim
  rename_i rs _
  simp only at hvc
  generalize hr : fillSh (rs.map (shOf c)) g.ni g.nb g.nv = r at hvc
  have hle3 := fillSh_le (rs.map (shOf c)) g.ni g.nb g.nv
  rw [hr] at hle3
  split at hvc
  case isFalse => exact hvc.elim
  rename_i hc
  simp only [Bool.and_eq_true] at hc
  obtain ⟨⟨hok, hoks⟩, hres⟩ := hc
  obtain ⟨F, caps, Qc, hv, he, hct, hq⟩ := hvc
  have hrun : (execOp a.eval o).run P w = .ok (.enter F (SV.dens ρ id as ++ caps.toList).toArray) w := by
    obtain ⟨dst, op, type, pos, after, guard⟩ := o
    simp only at hop; subst hop
    have h1 : a.eval fo = .func (.func F) #[] caps := by rw [ev_den hf h.tm]; exact hv
    have h2 : args.map a.eval = (SV.dens ρ id as).toArray := by
      rw [← dens_nil g hoks ρ β, ← evs_den h.tm _ _ has]; exact Array.ext' (by simp)
    have h3 := he (SV.dens ρ id as ++ caps.toList).toArray w
    have h4 : (SV.dens ρ id as).toArray ++ caps = (SV.dens ρ id as ++ caps.toList).toArray := Array.ext' (by simp)
    simp only [execOp, resolve, h1, h2, Deferred.ofValue, Sem.run_bind, Sem.run_pure, Result.andThen_ok, invoke, Array.empty_append, h4]
    exact h3
  refine wp_enter hrun ((hct w h.sb h.mok).mono ?_)
  rintro e w' ⟨v, s', m', rfl, hg, hle, hsb, hnw, hpos, hmk, hqv⟩
  obtain ⟨is, bs, vs, l1, l2, l3, hfv, rfl, hvc⟩ := hq v s' m' hle hqv
  have h1 := h.turn hg hle hsb hnw hpos hmk
  have h2 := h1.push hok is bs vs hfv r.2.1 r.2.2.1 r.2.2.2 (by omega) (by omega) (by omega)
  have h3 := h2.put o.dst (tupOf r.1)
  have hpm : ({ ρ with m := m' } : Env).push is bs vs = { ρ.push is bs vs with m := m' } := rfl
  rw [hpm] at h3
  have hden : (tupOf r.1).den { ρ.push is bs vs with m := m' } β = (tupOf r.1).den (ρ.push is bs vs) id := by
    refine (SV.den_m (ρ.push is bs vs) m' ρ.k β _).trans ?_
    exact SV.den_le (ni := r.2.1) (nb := r.2.2.1) (nv := r.2.2.2) (nj := 0) (kf := fun _ => false) ⟨fun _ _ => rfl, fun _ _ => rfl, fun _ _ => rfl, fun _ _ => rfl⟩ (by simp) _ hres
  rw [hden] at h3
  exact ⟨_, rfl, hK _ _ _ _ _ _ hvc h3 (stab_envm h hok (fun _ _ => rfl) (Nat.le_refl _) is bs vs m' (fun _ _ => rfl)) rfl hle⟩
/-- An append onto an object. -/
theorem appM_sound (hP : ProgOk P c) {o : Oper} {kont : Cfg → Out} (h : Rel w0 s0 X ρ s β g a w) {t : Nat} {x y : SV} (hrun : ∀ v' w', (Builtin.append_ #[t, t] o.type #[x.den ρ β, y.den ρ β]).run P w = .ok v' w' → (execOp a.eval o).run P w = .ok (.value v') w')
    (hvc : VC P Q T (appMRun c g o.dst t x y kont) ρ s) {K : Act → World → Prop} {Qx : Exit → Act → World → Prop} (hK : GoOn P Q T c w0 s0 X ρ s β g o kont K) : o.wp P a w K Qx := by
  unfold appMRun at hvc
  split at hvc
  case h_2 => exact hvc.elim
  rename_i e hty
  obtain ⟨ti, hti, hti'⟩ := Ctx.ty_some hty
  have hty := (hP.tab t ti hti).ty
  simp only [hti'] at hty
  split at hvc
  case h_2 => exact hvc.elim
  rename_i i hi
  split at hvc
  case isFalse => exact hvc.elim
  rename_i hc
  simp only [Bool.and_eq_true, decide_eq_true_eq] at hc
  obtain ⟨hpos, hok⟩ := hc
  split at hvc
  case h_2 => exact hvc.elim
  rename_i src hsrc
  split at hvc
  case isFalse => exact hvc.elim
  rename_i hsok
  have hid : ∀ l, src = .lit l → l.map (SV.dens ρ β) = l.map (SV.dens ρ id) := fun l hl => by subst hl; exact lit_id hsok
  have hI := hP.tab _ _ hi
  have main : x.den ρ β = x.den ρ id → (x.flat = true) → VC P Q T (.appM x src i.size i.bytes e (kont { g with sl := putSV g.sl o.dst (.va g.nv), nv := g.nv + 1 })) ρ s → o.wp P a w K Qx := by
    rintro hxd hxf ⟨ix, xs, es, hxl, hd, hs, hb1, hb2, hv0, hv1⟩
    obtain ⟨s1, s2, s3⟩ := src_spec h hsrc hs hid
    have hput : ∀ (ρ' : Env) (v' : Value), ρ'.v = ρ.v ++ [v'] → (SV.va g.nv).den ρ' β = v' := fun ρ' v' he => by simp [SV.den, he, ← h.cv]
    have hfx : fineV (x.den ρ id) = true := fine_flat' h.ok id hxf
    by_cases hes : es = []
    · have hvc := hv0 hes
      subst hes
      have h1 := h.push hok [] [] [x.den ρ id] (by simp [hfx]) g.ni g.nb (g.nv + 1) (by simp) (by simp) (by simp)
      have h2 := h1.put o.dst (.va g.nv)
      rw [hput _ (x.den ρ id) rfl] at h2
      have hy0 : ∃ a c, y.den ρ β = .slice a 0 c := by
        rcases s3 with ⟨_, c, hc⟩ | ⟨ad, c, hc, _⟩
        · exact ⟨_, _, hc⟩
        · exact ⟨_, _, hc⟩
      have hr : (Builtin.append_ #[t, t] o.type #[x.den ρ β, y.den ρ β]).run P w = .ok (x.den ρ id) w := by
        rw [hxd]
        rcases hd with ⟨rfl, _, hx0⟩ | ⟨b, cap, cur, hx0, _, hcap, _⟩
        · rw [hx0]; exact run_app0 hI hty (Nat.le_refl _) (fun _ => rfl) hy0 w
        · rw [hx0]; exact run_app0 hI hty hcap (fun h => by cases h) hy0 w
      exact wp_value (hrun _ _ hr) (hK _ _ _ _ _ _ hvc h2 (stab_env h hok (fun _ _ => rfl) (Nat.le_refl _) [] [] [_] (fun _ _ => rfl)) rfl (Hp.le_refl s))
    ·
      have key : ∃ sp : Hp, Sub sp w ∧ SliceIn sp i.size (x.den ρ β) xs ∧ (x.den ρ β = .slice none 0 0 ∨ ∃ g' m cap cur, x.den ρ β = .slice (some ⟨g', 0, none⟩) m cap ∧ w.heap[g']? = some (.cells cur e (0, 0)) ∧ m ≤ cap ∧ cap ≤ maxLen ∧ cur.size = cap * i.size ∧ ∀ o u, sp g' o = some u → o < m * i.size) := by
        rw [hxd]
        rcases hd with ⟨rfl, _, hx0⟩ | ⟨b, cap, cur, hx0, hm, hcap, hcm, hcs, hpre⟩
        · exact ⟨s, h.sb, by rw [hx0]; exact ⟨by simp, none, 0, rfl, Nat.le_refl _, by simp⟩, .inl hx0⟩
        · have hk := h.kp _ (.inr (List.mem_of_getElem? hm))
          have hfl := flat_len i.size xs hxl
          refine ⟨fun b' o => if b' = b ∧ o < xs.length * i.size then cur[o]? else s b' o, fun b' o u hu => ?_, ?_, .inr ⟨b, xs.length, cap, cur, hx0, hk.is, hcap, hcm, hcs, fun o u hu => ?_⟩⟩
          · simp only at hu
            split at hu
            · rename_i hb
              rw [hb.1]
              have := hk.is
              simp only at this
              simp only [World.cell?, this, Option.isSome_none, Bool.false_eq_true, if_false]
              exact hu
            · exact h.sb b' o u hu
          · refine ⟨hxl, _, cap, hx0, hcap, fun _ => ⟨b, 0, rfl, fun q z hq j u hj => ?_⟩⟩
            have h1 := flat_of i.size xs hxl q z j u hq hj
            have h2 := (List.getElem?_eq_some_iff.1 h1).1
            simp only [Nat.zero_add]
            rw [if_pos (by refine ⟨by trivial, ?_⟩; omega)]
            exact hpre _ u h1
          · simp only at hu
            split at hu
            · rename_i hb; exact hb.2
            · rw [hk.un o] at hu; cases hu
      obtain ⟨sp, k1, k2, k3⟩ := key
      obtain ⟨v', w', s', hr, ha⟩ := run_app (ty := o.type) hI hty k1 k2 k3 s3 s1 s2 hb1 hb2
      have hne : xs ++ es ≠ [] := by simp [hes]
      obtain ⟨_, av, cv, hv', hcv, hcell⟩ := ha.sl
      obtain ⟨gb0, go, hav, hcell⟩ := hcell hne
      rcases ha.row with hz | ⟨gb, mm, cap', cur', hv'', hwhere, hheap, hmc, hcm, hcs, _⟩
      · rw [hz] at hv'; simp only [Value.slice.injEq] at hv'; rw [← hv'.1] at hav; cases hav
      rw [hv''] at hv'
      simp only [Value.slice.injEq] at hv'
      obtain ⟨e1, e2, e3⟩ := hv'
      rw [← e1] at hav
      simp only [Option.some.injEq, Addr.mk.injEq] at hav
      obtain ⟨rfl, rfl, _⟩ := hav
      have hlen : mm = xs.length + es.length := by rw [e2]; simp
      subst hlen
      have hblk : ∀ b m cap, x.den ρ β = .slice (some ⟨b, 0, none⟩) m cap → ∃ o, ρ.m[ix]? = some (b, o) := by
        intro b m cap hx1
        rw [hxd] at hx1
        rcases hd with ⟨_, _, hx0⟩ | ⟨b2, cap2, cur2, hx0, hm, _⟩
        · rw [hx0] at hx1; cases hx1
        · rw [hx0] at hx1
          simp only [Value.slice.injEq, Option.some.injEq, Addr.mk.injEq] at hx1
          obtain ⟨⟨rfl, _⟩, _⟩ := hx1
          exact ⟨_, hm⟩
      have hix : ix ≤ ρ.m.length := by
        rcases hd with ⟨_, h0, _⟩ | ⟨_, _, _, _, hm, _⟩
        · omega
        · have := (List.getElem?_eq_some_iff.1 hm).1; omega
      have hmem : ∀ {q b o}, ρ.m[q]? = some (b, o) → b ∈ blks ρ.m := fun hq => List.mem_map.2 ⟨_, List.mem_of_getElem? hq, rfl⟩
      have hgrow : Grows (· ∈ blks ρ.m) w w' := ⟨ha.os, ha.tape, ha.output, ha.grew, fun k hk hn => ha.old k hk (fun m cap hx1 => by
        obtain ⟨o, ho⟩ := hblk _ _ _ hx1
        exact hn (hmem ho))⟩
      have hwh : (∃ o, ρ.m[ix]? = some (gb, o)) ∨ w.heap.size ≤ gb := hwhere.imp (fun ⟨m, cap, hx1⟩ => hblk _ _ _ hx1) id
      have h1 := h.moveM (i := ix) (b' := gb) (o' := .cells cur' e (0, 0)) hix hgrow (fun z hz hzb hzi => ha.old z.1 (Array.getElem?_eq_some_iff.1 (h.kp z (.inr hz)).is).1 (fun m cap hx1 => by
        obtain ⟨o, ho⟩ := hblk _ _ _ hx1
        obtain ⟨q, hq⟩ := List.mem_iff_getElem?.1 hz
        have a1 : (blks ρ.m)[q]? = some z.1 := by simp [blks, hq]
        have a2 : (blks ρ.m)[ix]? = some z.1 := by simp [blks, ho]
        have := (List.getElem?_inj (List.getElem?_eq_some_iff.1 a1).1 h.ms.nd).1 (a1.trans a2.symm)
        subst this
        exact hzi hq)) hheap hwh
      have h2 := h1.push hok [] [] [v'] (by simp [ha.sl.fine]) g.ni g.nb (g.nv + 1) (by simp) (by simp) (by simp)
      have h3 := h2.put o.dst (.va g.nv)
      rw [hput _ v' rfl] at h3
      have hvc := hv1 hes gb cap' cur' (fun hm => by
        rcases hwh with hw1 | hw1
        · exact hw1
        · obtain ⟨z, hz, he⟩ := List.mem_map.1 hm
          have := (Array.getElem?_eq_some_iff.1 (h.kp z (.inr hz)).is).1
          omega) hmc hcm hcs (fun j u hj => by
        obtain ⟨q, z, r, hq, hz, hjr⟩ := flat_get i.size (xs ++ es) (fun z hz => by
          rcases List.mem_append.1 hz with hz | hz
          · exact hxl z hz
          · exact s1 z hz) j u hj
        have h4 := hcell q z hq r u hz
        rw [Nat.zero_add, ← hjr] at h4
        have h5 := ha.sb _ _ _ h4
        simp only [World.cell?, hheap, Option.isSome_none, Bool.false_eq_true, if_false] at h5
        exact h5)
      rw [← hv''] at hvc
      exact wp_value (hrun _ _ hr) (hK _ _ _ _ _ _ hvc h3 (stab_envm h hok (fun _ _ => rfl) (Nat.le_refl _) [] [] [_] _ (fun _ _ => rfl)) rfl (Hp.le_refl s))
  split at hvc
  · exact main rfl rfl hvc
  · split at hvc
    · exact main rfl rfl hvc
    · exact hvc.elim
  · exact hvc.elim
theorem opRun_sound (hP : ProgOk P c) {o : Oper} {kont : Cfg → Out} (h : Rel w0 s0 X ρ s β g a w) (hvc : VC P Q T (opRun c g o kont) ρ s) {K : Act → World → Prop} {Qx : Exit → Act → World → Prop}
    (hK : ∀ ρ' s' β' g' a' w', VC P Q T (kont g') ρ' s' → Rel w0 s0 X ρ' s' β' g' a' w' → Stab ρ β g ρ' β' g' (badBlk c g o) → g'.todo = g.todo → s.le s' → K a' w') : o.wp P a w K Qx := by
  unfold opRun at hvc
  split at hvc
  ·
    rename_i ns v hpv
    obtain ⟨hn, hvc⟩ := VC_needs P Q T _ _ _ _ hvc
    exact wp_value (run_pv hP h.ok hpv hn h.tm h.hok) (hK _ _ _ _ _ _ hvc (h.put o.dst v) (stab_rfl rfl) rfl (Hp.le_refl s))
  rename_i hpv
  split at hvc
  ·
    rename_i cs t v hnew
    split at hvc
    · exact newM_sound hP h hnew hvc hK
    split at hvc
    ·
      rename_i hrl
      unfold litRun at hvc
      split at hvc
      case h_2 => exact hvc.elim
      rename_i kk len i hi
      split at hvc
      case isFalse => exact hvc.elim
      rename_i hc
      simp only [Bool.and_eq_true, decide_eq_true_eq, beq_iff_eq] at hc
      obtain ⟨⟨⟨⟨⟨hpos, hok⟩, hflat⟩, hlen⟩, hoks⟩, hlm⟩ := hc
      obtain ⟨v', hr, hv⟩ := run_newBlk (β := β) hP h.ok hnew h.tm w
      have hv' := hv ρ (fun _ => w.heap.size) rfl
      simp only [SV.den] at hv'
      subst hv'
      obtain ⟨xs, es, hd, hs, hb1, hb2, hvc⟩ := hvc
      simp only [DstIs] at hd
      subst hd
      simp only [SrcIs] at hs
      obtain ⟨c1, c2, c3⟩ := chunk_spec i.size len cs hlen
      have hid : SV.dens ρ β cs = SV.dens ρ id cs :=
        SV.dens_le (ni := g.ni) (nb := g.nb) (nv := g.nv) (nj := g.nj) (kf := fun _ => false) ⟨fun _ _ => rfl, fun _ _ => rfl, fun _ _ => rfl, fun _ _ => rfl⟩ (by simp) _ hoks
      have hfl : es.flatten = SV.dens ρ β cs := by
        have e1 : SV.dens ρ id cs = (chunk i.size len cs).flatten.map (SV.den ρ id) := by rw [c1, SV.dens_map]
        rw [hid, e1, hs, List.map_flatten]
        congr 1
        exact List.map_congr_left (fun l _ => SV.dens_map _ _ l)
      have hel : es.length = len := by rw [hs, List.length_map, c3]
      have hall : ∀ x ∈ es, x.length = i.size := by
        rw [hs]
        intro x hx
        obtain ⟨y, hy, rfl⟩ := List.mem_map.1 hx
        rw [dens_length]; exact c2 y hy
      have ha := app_lit (P := P) (e := t) h.sb hall (by simpa using hb2)
      rw [hfl, hel] at ha
      have hlast : ∀ k, k ≠ g.H.length → (g.H ++ [Blk.row g.nv t i.size])[k]? = g.H[k]? := fun k hk => by
        rw [List.getElem?_append]
        split
        · rfl
        · rw [List.getElem?_eq_none (by simp; omega), List.getElem?_eq_none (by omega)]
      have h1 := h.app (H' := g.H ++ [.row g.nv t i.size]) (kk := g.H.length) hok hpos ha (by simp) hlast (by simp [Cfg.kf, getBlk]) (.inl rfl)
      have h2 := h1.put o.dst (.va g.nv)
      have hv2 : ∀ (x : Value) (β' : Nat → Nat), (SV.va g.nv).den (ρ.push [] [] [x]) β' = x := fun x β' => by simp [SV.den, Env.push, ← h.cv]
      rw [hv2] at h2
      have hsl := ha.sl
      have hvc2 := hvc _ _ ha.le (by simpa using hsl)
      refine wp_value hr (hK _ _ _ _ _ _ hvc2 h2 (stab_env h hok ?_ (by simp) [] [] [_] ?_) rfl ha.le)
      · intro k hk
        simp only [getBlk, List.getElem?_append_left hk]
      · intro k hk
        refine if_neg ?_
        intro hkk
        subst hkk
        simp [Cfg.kf, getBlk] at hk
    split at hvc
    case isFalse => exact hvc.elim
    rename_i hok
    simp only [Bool.and_eq_true] at hok
    obtain ⟨v', hr, hv⟩ := run_newBlk (β := β) hP h.ok hnew h.tm w
    have h1 := h.alloc hok.1 hok.2 t
    have h2 := h1.put o.dst v
    rw [hv ρ (fun k => if k = g.H.length then w.heap.size else β k) (by simp)] at h2
    refine wp_value hr (hK _ _ _ _ _ _ hvc h2 (stab_of (by simp) ?_ ?_) rfl (Hp.le_refl s))
    · intro k hk _
      simp only [getBlk, List.getElem?_append_left hk]
    · intro k cs' T' hk
      obtain ⟨sh, hk'⟩ := getBlk_cells hk
      have hb : ∀ k, g.kf k = true → (fun k => if k = g.H.length then w.heap.size else β k) k = β k := by
        intro k hk
        simp only [Cfg.kf, Option.isSome_iff_exists] at hk
        obtain ⟨x, hx⟩ := hk
        have := getBlk_lt hx
        simp only
        rw [if_neg (by omega)]
      exact ⟨SV.dens_le ⟨fun _ _ => rfl, fun _ _ => rfl, fun _ _ => rfl, fun _ _ => rfl⟩ hb _ (okB_H hok.1 hk'), hb k (by simp [Cfg.kf, hk])⟩
  rename_i hnew
  split at hvc
  ·
    rename_i b off new hst
    split at hvc
    case h_2 => exact hvc.elim
    rename_i cs t hb
    have hr := run_storeOf (β := β) hP h.ok hst hb h.tm w (h.bl _ _ hb).2.1
    have h1 := (h.store (off := off) (new := new) hb).put o.dst .undef
    refine wp_skip' hr (hK _ _ _ _ _ _ hvc h1 (stab_of (by simp) ?_ (fun _ _ _ _ => ⟨rfl, rfl⟩)) rfl (Hp.le_refl s))
    intro k hk hbad
    have hkb : b ≠ k := by intro he; subst he; exact hbad ⟨off, new, hst⟩
    simp only [getBlk, List.getElem?_set_ne hkb]
  rename_i hst
  split at hvc
  ·
    rename_i t x hop
    split at hvc
    case h_2 => exact hvc.elim
    rename_i xs hxs
    obtain ⟨v, ρ', g', hrun, hvc, hr, hst, htd⟩ := load_sound hP h hop hxs hvc
    exact wp_value (hrun w h.sb (.inr rfl)) (hK _ _ _ _ _ _ hvc hr (hst _) htd (Hp.le_refl s))
  ·
    rename_i t x lo hi hop
    split at hvc
    case h_2 => exact hvc.elim
    rename_i xs hxs
    unfold cutRun at hvc
    split at hvc
    case h_2 => exact hvc.elim
    rename_i e m hty
    obtain ⟨ti, hti, hti'⟩ := Ctx.ty_some hty
    have hty := (hP.tab t ti hti).ty
    simp only [hti'] at hty
    split at hvc
    case h_2 => exact hvc.elim
    rename_i i lo' hi' hi1 hlo hhi
    split at hvc
    case isFalse => exact hvc.elim
    rename_i hok
    obtain ⟨xs, hsl, b0, b1, b2, hvc⟩ := hvc
    have hlo' : match lo.map a.eval with | none => loOf ρ lo' = 0 | some v => ∃ k, v = .int k (loOf ρ lo') := by
      cases lo with
      | none => simp only [optInt, Option.some.injEq] at hlo; subst hlo; rfl
      | some l =>
        simp only [optInt] at hlo
        split at hlo
        · rename_i k e' he
          simp only [Option.some.injEq] at hlo; subst hlo
          exact ⟨k, by rw [ev_den he h.tm]; rfl⟩
        · simp at hlo
    have hhi' : match hi.map a.eval with | none => hiOf ρ hi' xs.length = xs.length | some v => ∃ k, v = .int k (hiOf ρ hi' xs.length) := by
      cases hi with
      | none => simp only [optInt, Option.some.injEq] at hhi; subst hhi; rfl
      | some l =>
        simp only [optInt] at hhi
        split at hhi
        · rename_i k e' he
          simp only [Option.some.injEq] at hhi; subst hhi
          exact ⟨k, by rw [ev_den he h.tm]; rfl⟩
        · simp at hhi
    obtain ⟨v', hr, hv'⟩ := run_cut (P := P) (hP.tab _ _ hi1) hty (w := w) hsl (lo.map a.eval) (hi.map a.eval) _ _ hlo' hhi' b0 b1 b2
    have h1 := h.push hok [] [] [v'] (by simp [hv'.fine]) g.ni g.nb (g.nv + 1) (by simp) (by simp) (by simp)
    have h2 := h1.put o.dst (.va g.nv)
    have hv : (SV.va g.nv).den (ρ.push [] [] [v']) β = v' := by simp [SV.den, Env.push, ← h.cv]
    rw [hv] at h2
    have hrun : (execOp a.eval o).run P w = .ok (.value v') w := by
      obtain ⟨dst, op, type, pos, after, guard⟩ := o
      simp only at hop; subst hop
      simp only [execOp, ev_den hxs h.tm, SV.den, Sem.run_bind, Option.map_none, hr, Result.andThen_ok, Sem.run_pure]
    exact wp_value hrun (hK _ _ _ _ _ _ (hvc v' hv') h2 (stab_env h hok (fun _ _ => rfl) (Nat.le_refl _) [] [] [v'] (fun _ _ => rfl)) rfl (Hp.le_refl s))
  ·
    rename_i t ax vx hop
    split at hvc
    case h_2 => exact hvc.elim
    rename_i xs y hax hvx
    split at hvc
    case isFalse => exact storeM_sound hP h hop hax hvx hvc hK
    unfold fillRun at hvc
    split at hvc
    case h_2 => exact hvc.elim
    rename_i n i sz ti hti
    split at hvc
    case h_2 => exact hvc.elim
    rename_i b T size hrow
    split at hvc
    case isFalse => exact hvc.elim
    rename_i hc
    simp only [Bool.and_eq_true, beq_iff_eq, decide_eq_true_eq] at hc
    obtain ⟨⟨⟨⟨⟨⟨⟨⟨⟨rfl, rfl⟩, rfl⟩, hpos⟩, hok⟩, hcok⟩, hlen⟩, hflat⟩, hoks⟩, hxok⟩ := hc
    have hrow := isRow_spec hrow
    obtain ⟨xs, hsl, hext, hin, hvc⟩ := hvc
    obtain ⟨w', s', hr, ha⟩ := run_fill hP hop hti hax hvx hcok hlen hflat h hrow hsl hext hin
    have hid : SV.dens ρ β (cellsOf y) = SV.dens ρ id (cellsOf y) :=
      SV.dens_le (ni := g.ni) (nb := g.nb) (nv := g.nv) (nj := g.nj) (kf := fun _ => false) ⟨fun _ _ => rfl, fun _ _ => rfl, fun _ _ => rfl, fun _ _ => rfl⟩ (by simp) _ hoks
    rw [hid] at ha
    have hlt : b < g.H.length := (List.getElem?_eq_some_iff.1 hrow).1
    have hkf : g.kf b = false := by simp [Cfg.kf, getBlk, hrow]
    have h1 := h.app (H' := g.H.set b (.row g.nv T ti.size)) hok hpos ha (kk := b) (by simp [hlt]) (fun k hk => by rw [List.getElem?_set_ne (Ne.symm hk)]) hkf (.inr ⟨n - 1, hrow, rfl⟩)
    have hnn : n < g.nv := by
      simp only [SV.ok, Bool.and_eq_true, decide_eq_true_eq] at hxok
      exact hxok.1
    have hv1 : (ρ.push [] [] [ρ.v.getD n vd]).v.getD n vd = ρ.v.getD n vd := (h.envle [] [] [ρ.v.getD n vd]).v n hnn
    have hv2 : (ρ.push [] [] [ρ.v.getD n vd]).v.getD g.nv vd = ρ.v.getD n vd := by simp [Env.push, ← h.cv]
    have h2 := h1.rerow (kk := b) (n := g.nv) (n' := n) (e := T) (size := ti.size) (by simp [hlt]) (by rw [hv1, hv2])
    have h3 := h2.put o.dst .undef
    simp only [List.set_set] at h3
    refine wp_skip' hr (hK _ _ _ _ _ _ (hvc s' ha.le ha.sl) h3 (stab_env h hok ?_ (by simp) [] [] [_] ?_) rfl ha.le)
    · intro k hk
      by_cases hkk : k = b
      · subst hkk
        have e1 : (g.H.set k (.row n T ti.size))[k]? = some (.row n T ti.size) := by simp [hlt]
        simp only [getBlk, e1, hrow]
      · simp only [getBlk, List.getElem?_set_ne (Ne.symm hkk)]
    · intro k hk
      exact if_neg (by intro hkk; subst hkk; rw [hkf] at hk; simp at hk)
  ·
    rename_i t lx nx hop
    split at hvc
    case h_2 => exact hvc.elim
    rename_i x y hx hy
    exact mkM_sound hP h hop hx hy hvc hK
  ·
    rename_i args ts hop
    split at hvc
    case h_2 => exact hvc.elim
    rename_i x y t t' hev hts
    split at hvc
    case isFalse => exact hvc.elim
    rename_i htt
    have htt : t = t' := by simpa using htt
    subst htt
    have hts' : ts = #[t, t] := by rw [← Array.toList_inj]; simpa using hts
    have hargs : args.map a.eval = #[x.den ρ β, y.den ρ β] := by
      have := evs_den h.tm _ _ hev
      rw [← Array.toList_inj]; simpa [SV.dens] using this
    have hrun : ∀ v' w', (Builtin.append_ #[t, t] o.type #[x.den ρ β, y.den ρ β]).run P w = .ok v' w' → (execOp a.eval o).run P w = .ok (.value v') w' := by
      intro v' w' hr
      obtain ⟨dst, op, type, pos, after, guard⟩ := o
      simp only at hop; subst hop
      simp only [execOp, resolve, hargs, invoke, builtin, hts', Sem.run_bind, Sem.run_pure, Result.andThen_ok, hr]
    split at hvc
    · exact appM_sound hP h hrun hvc hK
    split at hvc
    ·
      unfold holeRun at hvc
      split at hvc
      case h_2 => exact hvc.elim
      rename_i e hty
      obtain ⟨ti, hti, hti'⟩ := Ctx.ty_some hty
      have hty := (hP.tab t ti hti).ty
      simp only [hti'] at hty
      split at hvc
      case h_2 => exact hvc.elim
      rename_i i hi
      split at hvc
      case isFalse => exact hvc.elim
      rename_i hc
      simp only [Bool.and_eq_true, decide_eq_true_eq] at hc
      obtain ⟨hpos, hok⟩ := hc
      split at hvc
      case h_2 => exact hvc.elim
      rename_i z hsrc
      split at hvc
      case isFalse => exact hvc.elim
      rename_i hsok
      have hid : ∀ l, Src.lit [z] = .lit l → l.map (SV.dens ρ β) = l.map (SV.dens ρ id) := fun l hl => by
        simp only [Src.lit.injEq] at hl
        subst hl; exact lit_id hsok
      have hI := hP.tab _ _ hi
      obtain ⟨s1, s2, s3⟩ := src_spec h hsrc (es := [SV.dens ρ id z]) rfl hid
      have fin : ∀ (d : Option Nat) (kk : Nat) (H' : List Blk), VC P Q T (.hole d i.size i.bytes (kont { g with sl := putSV g.sl o.dst (.va (g.nv + 1)), nv := g.nv + 2, H := H' })) ρ s →
          ({ g with nv := g.nv + 1, H := H' } : Cfg).okB = true → (∀ xs, DstIs ρ s i.size xs d → SliceIn s i.size (x.den ρ β) xs) →
          (x.den ρ β = .slice none 0 0 ∨ ∃ g' m cap cur, x.den ρ β = .slice (some ⟨g', 0, none⟩) m cap ∧ w.heap[g']? = some (.cells cur e (0, 0)) ∧ m ≤ cap ∧ cap ≤ maxLen ∧ cur.size = cap * i.size ∧ ∀ o u, s g' o = some u → o < m * i.size) →
          H'[kk]? = some (.row g.nv e i.size) → (∀ k, k ≠ kk → H'[k]? = g.H[k]?) → g.kf kk = false → g.H.length ≤ H'.length →
          (x.den ρ β = .slice none 0 0 ∨ ∃ m, g.H[kk]? = some (.row m e i.size) ∧ ρ.v.getD m vd = x.den ρ β) → o.wp P a w K Qx := by
        intro d kk H' hvc hok' hsl hdst hk1 hk2 hkf hlen hv
        obtain ⟨xs, hd, hb1, hb2, hvc⟩ := hvc
        have hd := hsl xs hd
        obtain ⟨v'', w', s', hr, ha⟩ := run_app (ty := o.type) hI hty h.sb hd hdst s3 s1 s2 (by simpa using hb1) (by simpa using hb2)
        have hlow : ∀ q m cap, x.den ρ β = .slice (some ⟨q, 0, none⟩) m cap → ∀ o u, s q o = some u → o < xs.length * i.size := by
          intro q m cap hq o u hu
          obtain ⟨_, a1, c1, hq1, _⟩ := hd
          rw [hq] at hq1
          simp only [Value.slice.injEq] at hq1
          obtain ⟨_, rfl, _⟩ := hq1
          rcases hdst with h1 | ⟨g', m', cap', cur, h1, _, _, _, _, h6⟩
          · rw [h1] at hq; simp at hq
          · rw [h1] at hq
            simp only [Value.slice.injEq, Option.some.injEq, Addr.mk.injEq] at hq
            obtain ⟨⟨rfl, _⟩, rfl, _⟩ := hq
            exact h6 o u hu
        obtain ⟨v', s'', ha', hext⟩ := ha.trim h.sb hlow
        have h1 := h.app (H' := H') hok hpos ha' hk1 hk2 hkf hv
        have hfine : fineV v'' = true := by obtain ⟨_, _, _, h2, _⟩ := hext; rw [h2]; rfl
        have h2 := h1.push hok' [] [] [v''] (by simp [hfine]) g.ni g.nb (g.nv + 2) (by simp) (by simp) (by simp)
        have hpp : (ρ.push [] [] [v']).push [] [] [v''] = ρ.push [] [] [v', v''] := by simp [Env.push]
        rw [hpp] at h2
        have h3 := h2.put o.dst (.va (g.nv + 1))
        have hv2 : (SV.va (g.nv + 1)).den (ρ.push [] [] [v', v'']) (fun k => if k = kk then blkOf v' else β k) = v'' := by simp [SV.den, Env.push, ← h.cv]
        rw [hv2] at h3
        refine wp_value (hrun _ _ hr) (hK _ _ _ _ _ _ (hvc v' v'' s'' ha'.le ha'.sl hext) h3 (stab_env h hok ?_ hlen [] [] [v', v''] ?_) rfl ha'.le)
        · intro k hk
          by_cases hkk : k = kk
          · subst hkk
            have : getBlk g.H k = none := by simpa [Cfg.kf] using hkf
            rw [this]
            simp only [getBlk, hk1]
          · simp only [getBlk, hk2 k hkk]
        · intro k hk
          exact if_neg (by intro hkk; subst hkk; rw [hkf] at hk; simp at hk)
      split at hvc
      ·
        split at hvc
        case isFalse => exact hvc.elim
        rename_i hok'
        refine fin none g.H.length _ hvc hok' (fun xs hd => ?_) (.inl rfl) (by simp) (fun k hk => ?_) (by simp [Cfg.kf, getBlk]) (by simp) (.inl rfl)
        · simp only [DstIs] at hd
          subst hd
          exact ⟨by simp, none, 0, rfl, by simp, by simp⟩
        · rw [List.getElem?_append]
          split
          · rfl
          · rw [List.getElem?_eq_none (by simp; omega), List.getElem?_eq_none (by omega)]
      ·
        rename_i m
        split at hvc
        case h_2 => exact hvc.elim
        rename_i b T' size' hrow
        split at hvc
        case isFalse => exact hvc.elim
        rename_i hT
        simp only [Bool.and_eq_true, beq_iff_eq] at hT
        obtain ⟨⟨rfl, rfl⟩, hok'⟩ := hT
        have hrow := isRow_spec hrow
        have hbl := (h.bl b _ hrow).2
        have hlt : b < g.H.length := (List.getElem?_eq_some_iff.1 hrow).1
        refine fin (some m) b _ hvc hok' (fun xs hd => hd) ?_ (by simp [hlt]) (fun k hk => by rw [List.getElem?_set_ne (Ne.symm hk)]) (by simp [Cfg.kf, getBlk, hrow]) (by simp) (.inr ⟨m, hrow, rfl⟩)
        rcases hbl with h1 | ⟨m', cap, cur, h1, h2, h3, h4, h5, h6, h7⟩
        · exact .inl h1
        · exact .inr ⟨_, m', cap, cur, h1, h3, h4, h5, h6, h7⟩
      · exact hvc.elim
    unfold appRun at hvc
    split at hvc
    case h_2 => exact hvc.elim
    rename_i e hty
    obtain ⟨ti, hti, hti'⟩ := Ctx.ty_some hty
    have hty := (hP.tab t ti hti).ty
    simp only [hti'] at hty
    split at hvc
    case h_2 => exact hvc.elim
    rename_i i hi
    split at hvc
    case isFalse => exact hvc.elim
    rename_i hc
    simp only [Bool.and_eq_true, decide_eq_true_eq] at hc
    obtain ⟨hpos, hok⟩ := hc
    split at hvc
    case h_2 => exact hvc.elim
    rename_i src hsrc
    split at hvc
    case isFalse => exact hvc.elim
    rename_i hsok
    have hid : ∀ l, src = .lit l → l.map (SV.dens ρ β) = l.map (SV.dens ρ id) := fun l hl => by
      subst hl; exact lit_id hsok
    have hI := hP.tab _ _ hi
    have fin : ∀ (v' : Value) (w' : World) (s' : Hp) (all : List (List Value)) (kk : Nat) (H' : List Blk) (kont' : Cfg → Out), kont' = kont → App P e i.size s w (x.den ρ β) all v' w' s' →
        (Builtin.append_ #[t, t] o.type #[x.den ρ β, y.den ρ β]).run P w = .ok v' w' →
        H'[kk]? = some (.row g.nv e i.size) → (∀ k, k ≠ kk → H'[k]? = g.H[k]?) → g.kf kk = false → g.H.length ≤ H'.length →
        (x.den ρ β = .slice none 0 0 ∨ ∃ m, g.H[kk]? = some (.row m e i.size) ∧ ρ.v.getD m vd = x.den ρ β) →
        VC P Q T (kont { g with sl := putSV g.sl o.dst (.va g.nv), nv := g.nv + 1, H := H' }) (ρ.push [] [] [v']) s' → o.wp P a w K Qx := by
      intro v' w' s' all kk H' _ _ ha hr hk1 hk2 hkf hlen hv hvc
      have h1 := h.app hok hpos ha hk1 hk2 hkf hv
      have h2 := h1.put o.dst (.va g.nv)
      have hv2 : (SV.va g.nv).den (ρ.push [] [] [v']) (fun k => if k = kk then blkOf v' else β k) = v' := by simp [SV.den, Env.push, ← h.cv]
      rw [hv2] at h2
      refine wp_value (hrun _ _ hr) (hK _ _ _ _ _ _ hvc h2 (stab_env h hok ?_ hlen [] [] [v'] ?_) rfl ha.le)
      · intro k hk
        by_cases hkk : k = kk
        · subst hkk
          have : getBlk g.H k = none := by simpa [Cfg.kf] using hkf
          rw [this]
          simp only [getBlk, hk1]
        · simp only [getBlk, hk2 k hkk]
      · intro k hk
        exact if_neg (by intro hkk; subst hkk; rw [hkf] at hk; simp at hk)
    split at hvc
    ·
      split at hvc
      · rename_i b hfind
        obtain ⟨xs, es, hd, hs, hb1, hb2, hvc⟩ := hvc
        simp only [DstIs] at hd
        subst hd
        obtain ⟨s1, s2, s3⟩ := src_spec h hsrc hs hid
        have hx0 : SliceIn s i.size (.slice none 0 0) [] := ⟨by simp, none, 0, rfl, by simp, by simp⟩
        obtain ⟨v', w', s', hr, ha⟩ := run_app (ty := o.type) hI hty h.sb hx0 (.inl rfl) s3 s1 s2 hb1 hb2
        obtain ⟨hlt, hp, _⟩ := List.findIdx?_eq_some_iff_getElem.1 hfind
        have hkf : g.kf b = false := by
          simp only [Cfg.kf, getBlk, List.getElem?_eq_getElem hlt]
          cases hb : g.H[b] with
          | row n T' size' => rfl
          | cells cs T' sh => rw [hb] at hp; simp [deadRow] at hp
        refine fin v' w' s' _ b _ kont rfl ha hr (by simp [hlt]) (fun k hk => by rw [List.getElem?_set_ne (Ne.symm hk)]) hkf (by simp) (.inl rfl) (hvc v' s' ha.le ha.sl)
      · obtain ⟨xs, es, hd, hs, hb1, hb2, hvc⟩ := hvc
        simp only [DstIs] at hd
        subst hd
        obtain ⟨s1, s2, s3⟩ := src_spec h hsrc hs hid
        have hx0 : SliceIn s i.size (.slice none 0 0) [] := ⟨by simp, none, 0, rfl, by simp, by simp⟩
        obtain ⟨v', w', s', hr, ha⟩ := run_app (ty := o.type) hI hty h.sb hx0 (.inl rfl) s3 s1 s2 hb1 hb2
        refine fin v' w' s' _ g.H.length _ kont rfl ha hr (by simp) (fun k hk => ?_) ?_ (by simp) (.inl rfl) (hvc v' s' ha.le ha.sl)
        · rw [List.getElem?_append]
          split
          · rfl
          · rw [List.getElem?_eq_none (by simp; omega), List.getElem?_eq_none (by omega)]
        · simp [Cfg.kf, getBlk]
    ·
      rename_i m
      split at hvc
      case h_2 => exact hvc.elim
      rename_i b T' size' hrow
      split at hvc
      case isFalse => exact hvc.elim
      rename_i hT
      simp only [Bool.and_eq_true, beq_iff_eq] at hT
      obtain ⟨rfl, rfl⟩ := hT
      have hrow := isRow_spec hrow
      obtain ⟨xs, es, hd, hs, hb1, hb2, hvc⟩ := hvc
      simp only [DstIs] at hd
      obtain ⟨s1, s2, s3⟩ := src_spec h hsrc hs hid
      have hbl := (h.bl b _ hrow).2
      have hdst : ρ.v.getD m vd = .slice none 0 0 ∨ ∃ g' m' cap cur, ρ.v.getD m vd = .slice (some ⟨g', 0, none⟩) m' cap ∧ w.heap[g']? = some (.cells cur T' (0, 0)) ∧ m' ≤ cap ∧ cap ≤ maxLen ∧ cur.size = cap * i.size ∧ ∀ o u, s g' o = some u → o < m' * i.size := by
        rcases hbl with h1 | ⟨m', cap, cur, h1, h2, h3, h4, h5, h6, h7⟩
        · exact .inl h1
        · exact .inr ⟨_, m', cap, cur, h1, h3, h4, h5, h6, h7⟩
      obtain ⟨v', w', s', hr, ha⟩ := run_app (ty := o.type) hI hty h.sb hd hdst s3 s1 s2 hb1 hb2
      have hlt : b < g.H.length := (List.getElem?_eq_some_iff.1 hrow).1
      refine fin v' w' s' _ b _ kont rfl ha hr (by simp [hlt]) (fun k hk => by rw [List.getElem?_set_ne (Ne.symm hk)]) ?_ (by simp) (.inr ⟨m, hrow, rfl⟩) (hvc v' s' ha.le ha.sl)
      simp [Cfg.kf, getBlk, hrow]
    · exact hvc.elim
  ·
    rename_i fo args ts hop
    split at hvc
    case h_3 => exact hvc.elim
    case h_2 => rename_i n as hf has; exact callv_sound hP h hop hf has hvc hK
    rename_i f cap as hf has
    unfold callRun at hvc
    split at hvc
    case isFalse => exact hvc.elim
    rename_i hc
    simp only [Bool.and_eq_true] at hc
    obtain ⟨hfok, hok⟩ := hc
    simp only at hvc
    split at hvc
    case isFalse => exact hvc.elim
    rename_i hres
    have hrun := run_call (w := w) hP hop hf has hfok h.tm
    generalize hr : fillSh ((c.rets f).map (shOf c)) g.ni g.nb g.nv = r at hvc hres
    have hle3 := fillSh_le ((c.rets f).map (shOf c)) g.ni g.nb g.nv
    rw [hr] at hle3
    have fin : ∀ (s1 : Hp) (H' : List Blk), s.le s1 → Rel w0 s0 X ρ s1 β { g with H := H' } a w → (∀ k, getBlk H' k = getBlk g.H k) → H'.length = g.H.length → ({ g with H := H' } : Cfg).okB = true →
        (∃ Qc, Ct P f (SV.dens ρ β (as ++ cap)) s1 ρ.m Qc ∧ ∀ v s' m', s1.le s' → Qc v s' m' → ∃ is bs vs, is.length = r.2.1 - g.ni ∧ bs.length = r.2.2.1 - g.nb ∧ vs.length = r.2.2.2 - g.nv ∧ vs.all fineV = true ∧
          v = (tupOf r.1).den (ρ.push is bs vs) id ∧ VC P Q T (kont { g with sl := putSV g.sl o.dst (tupOf r.1), ni := r.2.1, nb := r.2.2.1, nv := r.2.2.2, H := H' }) { ρ.push is bs vs with m := m' } s') → o.wp P a w K Qx := by
      intro s1 H' hs1 hrel hget hlen hok' ⟨Qc, hct, hq⟩
      refine wp_enter hrun ((hct w hrel.sb hrel.mok).mono ?_)
      rintro e w' ⟨v, s', m', rfl, hg, hle, hsb, hnw, hpos, hmk, hqv⟩
      obtain ⟨is, bs, vs, l1, l2, l3, hfv, rfl, hvc⟩ := hq v s' m' hle hqv
      have h1 := hrel.turn hg hle hsb hnw hpos hmk
      have h2 := h1.push hok' is bs vs hfv r.2.1 r.2.2.1 r.2.2.2 (by simp only; omega) (by simp only; omega) (by simp only; omega)
      have h3 := h2.put o.dst (tupOf r.1)
      have hpm : ({ ρ with m := m' } : Env).push is bs vs = { ρ.push is bs vs with m := m' } := rfl
      rw [hpm] at h3
      have hden : (tupOf r.1).den { ρ.push is bs vs with m := m' } β = (tupOf r.1).den (ρ.push is bs vs) id := by
        refine (SV.den_m (ρ.push is bs vs) m' ρ.k β _).trans ?_
        exact SV.den_le (ni := r.2.1) (nb := r.2.2.1) (nv := r.2.2.2) (nj := 0) (kf := fun _ => false) ⟨fun _ _ => rfl, fun _ _ => rfl, fun _ _ => rfl, fun _ _ => rfl⟩ (by simp) _ hres
      rw [hden] at h3
      exact ⟨_, rfl, hK _ _ _ _ _ _ hvc h3 (stab_envm h hok (fun k _ => hget k) (by rw [hlen]; exact Nat.le_refl _) is bs vs m' (fun _ _ => rfl)) rfl (Hp.le_trans hs1 hle)⟩
    by_cases hps : (SV.ptrss (as ++ cap)).isEmpty = true
    · rw [if_pos hps] at hvc
      exact fin s g.H (Hp.le_refl s) h (fun _ => rfl) rfl hok (by simpa [hps] using hvc β s (Hp.le_refl s) (fun k cs T hk => by simp at hk))
    · simp only [hps, Bool.false_eq_true, if_false] at hvc
      obtain ⟨k1, k2, k3, _⟩ := h.shut (SV.ptrss (as ++ cap))
      refine fin _ (shutBlk (SV.ptrss (as ++ cap)) g.H) k2 k1 (fun k => getBlk_shut _ _ k) (by simp [shutBlk]) ?_ (hvc β _ k2 k3)
      simp only [Cfg.okB, Bool.and_eq_true, List.all_eq_true] at hok ⊢
      have hkf : ({ g with H := shutBlk (SV.ptrss (as ++ cap)) g.H } : Cfg).kf = g.kf := by
        funext k; simp only [Cfg.kf, getBlk_shut]
      rw [hkf]
      refine ⟨⟨hok.1.1, fun b hb => ?_⟩, hok.2⟩
      obtain ⟨k, hk⟩ := List.mem_iff_getElem?.1 hb
      rw [shut_get] at hk
      cases hg : g.H[k]? with
      | none => simp [hg] at hk
      | some b' =>
        have := hok.1.2 b' (List.mem_of_getElem? hg)
        cases b' with
        | cells cs T sh => simp only [hg, Option.map_some, Option.some.injEq] at hk; subst hk; simp only [okBlk, hkf] at this ⊢; exact this
        | row n T size => simp only [hg, Option.map_some, Option.some.injEq] at hk; subst hk; exact this
  · exact hvc.elim
end
end Go.Sx
