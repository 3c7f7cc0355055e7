/- SX: the operations that turn the world, in the machine. -/
import Derived.Test.YtbmfegliomkkfaaHTxF
set_option linter.unusedSimpArgs false
set_option linter.unusedVariables false
namespace Go.Sx
open Go.RowKit
section
variable {P : Program} {c : Ctx} {ρ : Env} {β : Nat → Nat}
theorem dens_length (l : List SV) : (SV.dens ρ β l).length = l.length := by simp [SV.dens_map]
/-- An allocation. -/
theorem run_newBlk (hP : ProgOk P c) (hρ : ρ.Ok) {sl : List SV} {k : Nat} {o : Oper} {cs : List SV} {t : Nat} {v : SV} (h : newBlk c sl k o.op = some (cs, t, v))
    {a : Act} (ha : a.tmps = (SV.dens ρ β sl).toArray) (w : World) :
    ∃ v', (execOp a.eval o).run P w = .ok (.value v') (w.alloc (.cells (SV.dens ρ β cs).toArray t)) ∧ ∀ ρ' β', β' k = w.heap.size → v.den ρ' β' = v' := by
  obtain ⟨dst, op, type, pos, after, guard⟩ := o
  simp only at h
  unfold newBlk at h
  split at h
  · simp only [Option.map_eq_some_iff, Prod.mk.injEq] at h
    obtain ⟨i, hi, rfl, rfl, rfl⟩ := h
    obtain ⟨z, hz, hzc⟩ := run_zero (hP.tab _ _ hi) w
    refine ⟨.pointer (some ⟨w.heap.size, 0, none⟩), ?_, fun ρ' β' hb => by simp [SV.den, hb]⟩
    simp [execOp, Instr.alloc, hz, newVar, newRow, hzc ρ β]
  · simp only [Option.bind_eq_some_iff] at h
    obtain ⟨x, hx, h⟩ := h
    split at h
    case isFalse => simp at h
    rename_i hcok
    simp only [Option.some.injEq, Prod.mk.injEq] at h
    obtain ⟨rfl, rfl, rfl⟩ := h
    refine ⟨.pointer (some ⟨w.heap.size, 0, none⟩), ?_, fun ρ' β' hb => by simp [SV.den, hb]⟩
    simp [execOp, Instr.box, newVar, newRow, ev_den hx ha, cells_den' hρ x hcok]
  · rename_i st len parts
    split at h
    case h_2 => simp at h
    rename_i e hty
    obtain ⟨si, hsi, hsi'⟩ := Ctx.ty_some hty
    have hty := (hP.tab _ si hsi).ty
    simp only [hsi'] at hty
    split at h
    case h_2 => simp at h
    rename_i i vs hi hvs
    split at h
    case isFalse => simp at h
    rename_i hc
    simp only [Bool.and_eq_true, decide_eq_true_eq] at hc
    simp only [Option.map_eq_some_iff, Prod.mk.injEq] at h
    obtain ⟨cs', hfill, rfl, rfl, rfl⟩ := h
    have hI := hP.tab _ _ hi
    obtain ⟨z, hz, hzc⟩ := run_zero hI w
    have hfill' := fill_den (ρ := ρ) (β := β) hρ _ _ _ _ hfill
    unfold placeArr at hfill'
    have hparts : (parts.map fun (p : Nat × Operand) => (p.1, a.eval p.2)).toList = ((parts.toList.map (·.1)).zip vs).map fun p => (p.1, p.2.den ρ β) := by
      rw [← zip_den ha _ _ hvs]; simp
    have hzero : (Array.range (len * i.size)).map (fun j => z.cells[j % z.cells.size]!) = (SV.dens ρ β ((List.range (len * i.size)).map fun j => i.zero.getD (j % i.size) .undef)).toArray := by
      apply Array.ext'
      have hsz : z.cells.size = i.size := by rw [hzc ρ β]; simp [dens_length, hI.zlen]
      simp only [Array.toList_map, Array.toList_range, SV.dens_map, List.map_map]
      apply List.map_congr_left
      intro j _
      have hlt : j % i.size < i.size := Nat.mod_lt _ hc.2
      simp only [Function.comp, hsz]
      have h1 : (j % i.size) < i.zero.length := by rw [hI.zlen]; exact hlt
      have h2 : z.cells[j % i.size]! = (SV.dens ρ β i.zero)[j % i.size]'(by rw [dens_length]; exact h1) := by
        have : z.cells = (SV.dens ρ β i.zero).toArray := hzc ρ β
        rw [this]
        simp [SV.dens_map, h1]
      rw [h2]
      simp [SV.dens_map, h1]
    refine ⟨.slice (some ⟨w.heap.size, 0, none⟩) len len, ?_, fun ρ' β' hb => by simp [SV.den, hb]⟩
    have hno : ¬ (len * i.size > 2 ^ 24) := by have := hc.1.1; omega
    have hno0 : ¬ (len * i.size = 0) := by
      have h1 := hc.1.2; have h2 := hc.2
      exact Nat.ne_of_gt (Nat.mul_pos h1 h2)
    have hpm : (parts.map fun (x : Nat × Operand) => (x.1, a.eval x.2)).toList = _ := hparts
    simp only [execOp, Instr.buildSlice, Sem.run_bind, run_underlying hty, Result.andThen_ok, run_sizeOf hI, hno, if_false, hno0, hz, Sem.run_pure, hzero, hpm, hfill', newRow, run_newObj, World.alloc]
  · simp at h
/-- A store into own cells. -/
theorem run_storeOf (hP : ProgOk P c) (hρ : ρ.Ok) {sl : List SV} {H : List Blk} {o : Oper} {k off : Nat} {new cs : List SV} {T : Nat} (h : storeOf c sl H o.op = some (k, off, new))
    (hk : H[k]? = some (.cells cs T false)) {a : Act} (ha : a.tmps = (SV.dens ρ β sl).toArray) (w : World) (hw : w.heap[β k]? = some (.cells (SV.dens ρ β cs).toArray T (0, 0))) :
    (execOp a.eval o).run P w = .ok .skip (w.setRow (β k) (SV.dens ρ β (setCells cs off new)).toArray) := by
  obtain ⟨dst, op, type, pos, after, guard⟩ := o
  simp only at h
  unfold storeOf at h
  split at h
  case h_2 => simp at h
  split at h
  case h_2 => simp at h
  rename_i i k' off' v hi hp hv
  split at h
  case h_2 => simp at h
  rename_i cs' T' hk'
  split at h
  case isFalse => simp at h
  rename_i hc
  simp only [Option.some.injEq, Prod.mk.injEq] at h
  obtain ⟨rfl, rfl, rfl⟩ := h
  rw [hk] at hk'
  simp only [Option.some.injEq, Blk.cells.injEq] at hk'
  obtain ⟨rfl, rfl, _⟩ := hk'
  simp only [Bool.and_eq_true, decide_eq_true_eq] at hc
  obtain ⟨⟨⟨hcok, hlen⟩, hle⟩, hflat⟩ := hc
  have hI := hP.tab _ _ hi
  have hcells := cells_den' (β := β) hρ v hcok
  have hone : ∀ u ∈ SV.dens ρ β (cellsOf v), u.oneCell' = true := by
    intro u hu
    rw [SV.dens_map] at hu
    obtain ⟨s, hs, rfl⟩ := List.mem_map.1 hu
    have := List.all_eq_true.1 hflat s hs
    cases s <;> simp [SV.flat] at this
    case va n => exact oneCell_of_fine (hρ.fine n)
    all_goals rfl
  have hst := run_storeCells_at P (β k') off' T (SV.dens ρ β (cellsOf v)) 0 (SV.dens ρ β cs).toArray w hw (by simp only [List.size_toArray, dens_length]; omega) hone
  simp only [Nat.add_zero, dens_length] at hst
  simp only [execOp, ev_den hp ha, ev_den hv ha, SV.den, Instr.storeAt, Instr.sureAddr, Sem.run_bind, Sem.run_pure, Result.andThen_ok, storeVar, hcells, run_sizeOf hI, List.size_toArray, dens_length, hlen, ne_eq, not_true_eq_false, if_false, hst]
  rw [setCells_den, hlen]
/-- A load through an address that is no own block's. -/
theorem run_loadFar (hP : ProgOk P c) {sl : List SV} {o : Oper} {t : Nat} {x : Operand} (ho : o.op = .load t x) {i : TI} (hi : c.tab t = some i) {xs : SV} (hx : ev sl x = some xs)
    {a : Act} (ha : a.tmps = (SV.dens ρ β sl).toArray) {w : World} {vals : List Value} (hr : ∃ b o, addrOf (xs.den ρ β) = some ⟨b, o, none⟩ ∧ ∀ j u, vals[j]? = some u → w.cell? ⟨b, o + j, none⟩ = some u) (hlen : vals.length = i.size)
    (hxp : ∃ ad, xs.den ρ β = .pointer (some ad)) :
    (execOp a.eval o).run P w = .ok (.value (if i.isAgg then .agg vals.toArray else vals.headD undef)) w := by
  obtain ⟨dst, op, type, pos, after, guard⟩ := o
  simp only at ho; subst ho
  obtain ⟨b, off, hab, hcells⟩ := hr
  obtain ⟨ad, had⟩ := hxp
  rw [had] at hab
  simp only [addrOf, Option.some.injEq] at hab
  subst hab
  have hI := hP.tab _ _ hi
  simp only [execOp, ev_den hx ha, had, Instr.loadAt, Instr.sureAddr, Sem.run_bind, Sem.run_pure, Result.andThen_ok, loadVar, run_isAgg hI]
  have hc : ∀ j u, vals[j]? = some u → w.cell? ((⟨b, off, none⟩ : Addr).add j) = some u := by
    intro j u hj
    have : (⟨b, off, none⟩ : Addr).add j = ⟨b, off + j, none⟩ := by unfold Addr.add; split <;> simp_all
    rw [this]; exact hcells j u hj
  cases hagg : i.isAgg with
  | true =>
    have := run_loadCells_list (P := P) w ⟨b, off, none⟩ vals hc
    rw [hlen] at this
    simp [run_sizeOf hI, this]
  | false =>
    have h1 := hI.one hagg
    rw [h1] at hlen
    match vals, hlen with
    | [u], _ =>
      have h0 := hc 0 u (by simp)
      simp only [Addr.add, if_true] at h0
      simp [h0]
end
end Go.Sx
