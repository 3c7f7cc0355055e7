/- SX: an operation that only computes does in the machine what the executor says. -/
import Derived.Test.YtbmfegliomkkfaaHTxC
import Derived.Laws.StructEq
import Derived.Laws.Cells
set_option linter.unusedSimpArgs false
set_option linter.unusedVariables false
namespace Go.Sx
def cellI : Kd → Int → Value
  | .int k, z => .int k z
  | _, _ => undef
def cellsI : List Kd → List Int → List Value
  | kd :: ks, z :: zs => cellI kd z :: cellsI ks zs
  | _, _ => []
/-- A type's row of the table is true of the program. -/
structure TI.Ok (P : Program) (t : Nat) (i : TI) : Prop where
  inf : ∃ inf z, P.info? t = some inf ∧ inf.size = i.size ∧ inf.bytes = i.bytes ∧ inf.zero = some z ∧ ∀ ρ β, z.cells = (SV.dens ρ β i.zero).toArray
  zlen : i.zero.length = i.size
  ty : match i.ty with
    | .int k => P.underlying t = some (.int k)
    | .bool => P.underlying t = some .bool
    | .str => P.underlying t = some .string
    | .arr n e => P.underlying t = some (.array n e)
    | .st fs => ∃ fields : Array Field, P.underlying t = some (.struct fields) ∧ fields.toList.map (fun f => (f.offset, f.type)) = fs
    | .slice e => P.underlying t = some (.slice e)
    | .ptr e => P.underlying t = some (.pointer e)
    | .func => ∃ p r v, P.underlying t = some (.func p r v)
    | .other => ∃ d, P.underlying t = some d ∧ (match d with | .struct _ | .array _ _ => False | _ => True)
  one : i.isAgg = false → i.size = 1
  eq : i.eq = true → P.eqGuardType P.depth t = false ∧ ∀ (w : World) (zs us : List Int), zs.length = i.ks.length → us.length = i.ks.length →
    (Op.equal t (.agg (cellsI i.ks zs).toArray) (.agg (cellsI i.ks us).toArray)).run P w = .ok (decide (zs = us)) w
structure ProgOk (P : Program) (c : Ctx) : Prop where
  tab : ∀ t i, c.tab t = some i → i.Ok P t
  mixed : P.follows .mixedOrders = true
  call : ∀ f, c.fok f = true → ∀ args w, (callFunc f args).run P w = .ok (.enter f args) w
section
variable {P : Program} {c : Ctx}
theorem run_isAgg {t : Nat} {i : TI} (h : i.Ok P t) (w : World) : (isAgg t).run P w = .ok i.isAgg w := by
  have ht := h.ty
  unfold TI.isAgg
  cases hi : i.ty <;> simp only [hi] at ht ⊢
  case st fs => obtain ⟨fields, h1, _⟩ := ht; simp [isAgg, run_underlying h1]
  case func => obtain ⟨p, r, v, h1⟩ := ht; simp [isAgg, run_underlying h1]
  case other =>
    obtain ⟨d, h1, h2⟩ := ht
    cases d <;> simp at h2 <;> simp [isAgg, run_underlying h1]
  all_goals simp [isAgg, run_underlying ht]
theorem run_sizeOf {t : Nat} {i : TI} (h : i.Ok P t) (w : World) : (sizeOf t).run P w = .ok i.size w := by
  obtain ⟨inf, z, h1, h2, _⟩ := h.inf
  simp [sizeOf, typeInfo, h1, h2]
theorem run_zero {t : Nat} {i : TI} (h : i.Ok P t) (w : World) : ∃ z, (zeroValue t).run P w = .ok z w ∧ ∀ ρ β, z.cells = (SV.dens ρ β i.zero).toArray := by
  obtain ⟨inf, z, h1, _, _, h4, h5⟩ := h.inf
  exact ⟨z, by simp [zeroValue, typeInfo, h1, h4], h5⟩
theorem run_part {t : Nat} {i : TI} (h : i.Ok P t) {ρ : Env} {β : Nat → Nat} {cs : List SV} {off : Nat} {v : SV} (hv : partSV i cs off = some v) (w : World) :
    (part t (SV.dens ρ β cs).toArray off).run P w = .ok (v.den ρ β) w := by
  unfold partSV at hv
  unfold part
  simp only [Sem.run_bind, run_isAgg h, Result.andThen_ok]
  split at hv
  · rename_i hagg
    split at hv
    · simp only [Option.some.injEq] at hv; subst hv
      simp only [hagg, if_true, Sem.run_bind, run_sizeOf h, Result.andThen_ok, Sem.run_pure, SV.den, SV.dens_map, List.map_take, List.map_drop, List.extract_toArray, List.extract_eq_take_drop, Nat.add_sub_cancel_left]
    · simp at hv
  · rename_i hagg
    simp only [hagg]
    have : (SV.dens ρ β cs).toArray[off]? = some (v.den ρ β) := by simp [SV.dens_map, hv]
    simp [this]
/-- The own cells, as the world has them. -/
def HOk (ρ : Env) (β : Nat → Nat) (H : List Blk) (w : World) : Prop :=
  ∀ k cs T, getBlk H k = some (cs, T) → w.heap[β k]? = some (.cells (SV.dens ρ β cs).toArray T (0, 0))
theorem run_own {t : Nat} {i : TI} (h : i.Ok P t) {ρ : Env} {β : Nat → Nat} {cs : List SV} {off b T : Nat} {v : SV} (hv : partSV i cs off = some v) (w : World)
    (hb : w.heap[b]? = some (.cells (SV.dens ρ β cs).toArray T (0, 0))) : (loadVar t ⟨b, off, none⟩).run P w = .ok (v.den ρ β) w := by
  have hcell : ∀ o u, (SV.dens ρ β cs)[o]? = some u → w.cell? ⟨b, o, none⟩ = some u := by
    intro o u hu
    simp only [World.cell?, hb]
    simpa using hu
  unfold partSV at hv
  unfold loadVar
  simp only [Sem.run_bind, run_isAgg h, Result.andThen_ok]
  split at hv
  · rename_i hagg
    split at hv
    · rename_i hle
      simp only [Option.some.injEq] at hv; subst hv
      simp only [hagg, if_true, Sem.run_bind, run_sizeOf h, Result.andThen_ok]
      have hlen : ((SV.dens ρ β cs).drop off |>.take i.size).length = i.size := by simp [SV.dens_map]; omega
      have := run_loadCells_list (P := P) w ⟨b, off, none⟩ ((SV.dens ρ β cs).drop off |>.take i.size) (fun j u hj => by
        rw [List.getElem?_take] at hj
        split at hj
        · rw [List.getElem?_drop] at hj
          have : (⟨b, off, none⟩ : Addr).add j = ⟨b, off + j, none⟩ := by unfold Addr.add; split <;> simp_all
          rw [this]; exact hcell _ _ hj
        · cases hj)
      rw [hlen] at this
      simp only [this, Result.andThen_ok, Sem.run_pure, SV.den, SV.dens_map, List.map_take, List.map_drop]
    · simp at hv
  · rename_i hagg
    simp only [hagg]
    have := hcell off (v.den ρ β) (by simp [SV.dens_map, hv])
    simp [this]
theorem eqCells_den (ρ : Env) (β : Nat → Nat) : ∀ (ks : List Kd) (l m : List SV) (e : BE), eqCells ks l m = some e →
    ∃ zs us : List Int, zs.length = ks.length ∧ us.length = ks.length ∧ SV.dens ρ β l = cellsI ks zs ∧ SV.dens ρ β m = cellsI ks us ∧ e.den ρ = decide (zs = us)
  | [], l, m, e, h => by
    cases l <;> cases m <;> simp [eqCells] at h
    subst h; exact ⟨[], [], rfl, rfl, rfl, rfl, rfl⟩
  | kd :: ks, l, m, e, h => by
    cases l with
    | nil => simp [eqCells] at h
    | cons x l =>
    cases m with
    | nil => simp [eqCells] at h
    | cons y m =>
    cases kd <;> cases x <;> first | (simp [eqCells] at h; done) | skip
    cases y <;> first | (simp [eqCells] at h; done) | skip
    rename_i k0 k x k' y
    simp only [eqCells] at h
    split at h
    case isFalse => simp at h
    rename_i hk
    obtain ⟨rfl, rfl⟩ := hk
    simp only [Option.map_eq_some_iff] at h
    obtain ⟨e', h1, rfl⟩ := h
    obtain ⟨zs, us, a, b, d, f, g⟩ := eqCells_den ρ β ks l m e' h1
    refine ⟨x.den ρ :: zs, y.den ρ :: us, by simp [a], by simp [b], by simp [SV.dens, SV.den, cellsI, cellI, d], by simp [SV.dens, SV.den, cellsI, cellI, f], ?_⟩
    rw [and'_den, eq'_den, g, eqB]
    simp only [List.cons.injEq]
    by_cases h1 : x.den ρ = y.den ρ <;> by_cases h2 : zs = us <;> simp [h1, h2]
theorem run_intOp {nw : Bool} {op : BinOp} {k : IntKind} {x y : IE} {ns : List BE} {v : SV} (h : intOp nw op k x y = some (ns, v)) (ρ : Env) (β : Nat → Nat)
    (hn : ∀ b ∈ ns, b.den ρ = true) (t : Nat) (w : World) : (binOp op t (.int k (x.den ρ)) (.int k (y.den ρ))).run P w = .ok (v.den ρ β) w := by
  unfold intOp at h
  cases op <;> simp only [Option.some.injEq, reduceCtorEq] at h
  case add => have := fit_den h ρ β hn; simp [binOp, Op.intArith, this, add'_den]
  case sub => have := fit_den h ρ β hn; simp [binOp, Op.intArith, this, sub'_den]
  case mul => have := fit_den h ρ β hn; simp [binOp, Op.intArith, this, mul'_den]
  case quo =>
    obtain ⟨e1, e2⟩ := Prod.mk.inj h
    have h0 := hn (BE.not' (BE.eq' y (.l 0))) (by rw [← e1]; simp)
    have := fit_den (nw := nw) (k := k) (e := .tdiv x y) (ns := (fit nw k (.tdiv x y)).1) (v := (fit nw k (.tdiv x y)).2) rfl ρ β (fun b hb => hn b (by rw [← e1]; simp [hb]))
    rw [not'_den, eq'_den, Bool.not_eq_true'] at h0
    have h0' : ¬ y.den ρ = 0 := eqB_false.1 h0
    rw [e2] at this
    simp [binOp, Op.intDiv, h0', this, IE.den]
  case rem =>
    obtain ⟨e1, e2⟩ := Prod.mk.inj h
    have h0 := hn (BE.not' (BE.eq' y (.l 0))) (by rw [← e1]; simp)
    rw [not'_den, eq'_den, Bool.not_eq_true'] at h0
    have h0' : ¬ y.den ρ = 0 := eqB_false.1 h0
    subst e2
    simp [binOp, Op.intDiv, h0', SV.den, IE.den]
  all_goals
    obtain ⟨_, rfl⟩ := Prod.mk.inj h
    simp only [binOp, Op.intCmp, SV.den, ne_eq, not_true_eq_false, if_false, Sem.run_pure, not'_den, eq'_den, lt'_den, le'_den, ltB, leB, eqB]
  case eql => simp [BEq.beq]
  case neq => simp [bne, BEq.beq]
end
end Go.Sx
