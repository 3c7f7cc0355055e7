/- SX: one operation, and what comes behind it. -/
import Derived.Test.YtbmfegliomkkfaaHTxI
set_option linter.unusedSimpArgs false
set_option linter.unusedVariables false
namespace Go.Sx
open Go.RowKit
section
variable {P : Program} {c : Ctx} {w0 : World} {s0 : Hp} {X : Fx} {ρ : Env} {s : Hp} {β : Nat → Nat} {g : Cfg} {a : Act} {w : World} {Q : Value → Hp → MS → Prop} {T : Cfg → Env → Hp → Prop}
theorem wp_value {o : Oper} {K : Act → World → Prop} {Qx : Exit → Act → World → Prop} {v : Value} {w' : World} (hr : (execOp a.eval o).run P w = .ok (.value v) w') (h : K (a.put o.dst v) w') : o.wp P a w K Qx := by
  simp only [Oper.wp, hr, Oper.upon]; exact h
theorem wp_skip' {o : Oper} {K : Act → World → Prop} {Qx : Exit → Act → World → Prop} {w' : World} (hr : (execOp a.eval o).run P w = .ok .skip w') (h : K (a.put o.dst undef) w') : o.wp P a w K Qx := by
  simp only [Oper.wp, hr, Oper.upon]; exact h
theorem wp_enter {o : Oper} {K : Act → World → Prop} {Qx : Exit → Act → World → Prop} {f : FuncId} {args : Array Value} {w' : World} (hr : (execOp a.eval o).run P w = .ok (.enter f args) w')
    (h : Calls P f args w' fun e w'' => ∃ v, e = .returned v ∧ K (a.put o.dst v) w'') : o.wp P a w K Qx := by
  simp only [Oper.wp, hr, Oper.upon]
  exact h.mono fun e w'' ⟨v, he, hv⟩ => by subst he; exact hv
theorem isRow_go (n k T size : Nat) : ∀ (l : List Blk) (i : Nat), isRow.go n l i = some (k, T, size) → ∃ j, k = i + j ∧ l[j]? = some (.row n T size)
  | [], i, h => by simp [isRow.go] at h
  | .cells cs T' sh :: l, i, h => by
    simp only [isRow.go] at h
    obtain ⟨j, h1, h2⟩ := isRow_go n k T size l _ h
    exact ⟨j + 1, by omega, by simpa using h2⟩
  | .row m T' size' :: l, i, h => by
    simp only [isRow.go] at h
    by_cases hm : m = n
    · rw [if_pos hm] at h
      simp only [Option.some.injEq, Prod.mk.injEq] at h
      obtain ⟨rfl, rfl, rfl⟩ := h
      exact ⟨0, by simp, by simp [hm]⟩
    · rw [if_neg hm] at h
      obtain ⟨j, h1, h2⟩ := isRow_go n k T size l _ h
      exact ⟨j + 1, by omega, by simpa using h2⟩
theorem isRow_spec {H : List Blk} {n k T size : Nat} (h : isRow H n = some (k, T, size)) : H[k]? = some (.row n T size) := by
  obtain ⟨j, h1, h2⟩ := isRow_go n k T size H 0 h
  rw [h1, Nat.zero_add]; exact h2
theorem chunk_spec (size : Nat) : ∀ (n : Nat) (l : List SV), l.length = n * size → (chunk size n l).flatten = l ∧ (∀ e ∈ chunk size n l, e.length = size) ∧ (chunk size n l).length = n
  | 0, l, h => by simp at h; subst h; simp [chunk]
  | n + 1, l, h => by
    have h1 : (l.drop size).length = n * size := by rw [List.length_drop, h, Nat.add_mul]; omega
    obtain ⟨a1, a2, a3⟩ := chunk_spec size n _ h1
    refine ⟨by simp [chunk, a1], ?_, by simp [chunk, a3]⟩
    intro e he
    simp only [chunk, List.mem_cons] at he
    rcases he with rfl | he
    · rw [List.length_take, h, Nat.add_mul]; omega
    · exact a2 e he
theorem flat_one (hρ : ρ.Ok) {l : List SV} (h : l.all SV.flat = true) (β : Nat → Nat) : ∀ u ∈ SV.dens ρ β l, u.oneCell' = true := by
  intro u hu
  rw [SV.dens_map] at hu
  obtain ⟨x, hx, rfl⟩ := List.mem_map.1 hu
  have := List.all_eq_true.1 h x hx
  cases x <;> simp [SV.flat] at this
  case va n => exact oneCell_of_fine (hρ.fine n)
  all_goals rfl
/-- What an append's source is in the machine. -/
theorem src_spec (h : Rel w0 s0 X ρ s β g a w) {size : Nat} {y : SV} {src : Src} (hs : srcOf g.H size y = some src) {es : List (List Value)} (he : SrcIs ρ s size es src)
    (hid : ∀ l, src = .lit l → l.map (SV.dens ρ β) = l.map (SV.dens ρ id)) :
    (∀ e ∈ es, e.length = size) ∧ (∀ e ∈ es, ∀ u ∈ e, u.oneCell' = true) ∧
      ((es = [] ∧ ∃ c, y.den ρ β = .slice none 0 c) ∨ ∃ ad c, y.den ρ β = .slice (some ad) es.length c ∧ ∀ j u, es.flatten[j]? = some u → w.cell? (ad.add j) = some u) := by
  unfold srcOf at hs
  split at hs
  · rename_i k len
    split at hs
    case h_2 => simp at hs
    rename_i cs T hk
    split at hs
    case isFalse => simp at hs
    rename_i hc
    simp only [Option.some.injEq] at hs
    subst hs
    simp only [Bool.and_eq_true, beq_iff_eq] at hc
    obtain ⟨a1, a2, a3⟩ := chunk_spec size len cs hc.2
    simp only [SrcIs] at he
    rw [← hid _ rfl] at he
    subst he
    have hH := h.hok k cs T hk
    have hfl : ((chunk size len cs).map (SV.dens ρ β)).flatten = SV.dens ρ β cs := by
      conv => rhs; rw [← a1]
      simp only [SV.dens_map, List.map_flatten]
      congr 1
      apply List.map_congr_left
      intro x _
      exact SV.dens_map ρ β x
    refine ⟨?_, ?_, .inr ⟨⟨β k, 0, none⟩, len, ?_, ?_⟩⟩
    · intro e he
      obtain ⟨x, hx, rfl⟩ := List.mem_map.1 he
      rw [dens_length]; exact a2 x hx
    · intro e he u hu
      obtain ⟨x, hx, rfl⟩ := List.mem_map.1 he
      refine flat_one h.ok (l := cs) hc.1 β u ?_
      rw [← hfl]
      exact List.mem_flatten.2 ⟨_, List.mem_map.2 ⟨x, hx, rfl⟩, hu⟩
    · simp [SV.den, a3]
    · intro j u hj
      rw [hfl] at hj
      rw [addr_add0]
      simp only [World.cell?, hH, Option.isSome_none, Bool.false_eq_true, if_false]
      simpa using hj
  · rename_i n
    simp only [Option.some.injEq] at hs
    subst hs
    obtain ⟨h1, h2⟩ := he
    refine ⟨h1.1, h2, ?_⟩
    obtain ⟨hl, ad, cap, hv, hcap, hc⟩ := h1
    by_cases hnil : es = []
    · subst hnil
      cases ad with
      | none => exact .inl ⟨rfl, cap, by simpa [SV.den] using hv⟩
      | some ad => exact .inr ⟨ad, cap, by simpa [SV.den] using hv, by simp⟩
    · obtain ⟨b, o, rfl, hcells⟩ := hc hnil
      refine .inr ⟨_, cap, by simpa [SV.den] using hv, fun j u hj => ?_⟩
      obtain ⟨i, x, r, b1, b2, rfl⟩ := flat_get size es hl j u hj
      have := h.sb _ _ _ (hcells i x b1 r u b2)
      have e : (⟨b, o, none⟩ : Addr).add (i * size + r) = ⟨b, o + i * size + r, none⟩ := by unfold Addr.add; split <;> simp_all <;> omega
      rw [e]; exact this
  · simp only [Option.some.injEq] at hs
    subst hs
    simp only [SrcIs] at he
    subst he
    exact ⟨by simp, by simp, .inl ⟨rfl, 0, rfl⟩⟩
  · simp at hs
theorem lit_id {l : List (List SV)} (hl : SV.oks g.ni g.nb g.nv g.nj (fun _ => false) l.flatten = true) : l.map (SV.dens ρ β) = l.map (SV.dens ρ id) := by
  have hle : Env.Le g.ni g.nb g.nv g.nj ρ ρ := ⟨fun _ _ => rfl, fun _ _ => rfl, fun _ _ => rfl, fun _ _ => rfl⟩
  have key : ∀ l : List SV, SV.oks g.ni g.nb g.nv g.nj (fun _ => false) l = true → SV.dens ρ β l = SV.dens ρ id l := fun l hl => SV.dens_le hle (by simp) l hl
  have sub : ∀ (l m : List SV), SV.oks g.ni g.nb g.nv g.nj (fun _ => false) (l ++ m) = true → SV.oks g.ni g.nb g.nv g.nj (fun _ => false) l = true ∧ SV.oks g.ni g.nb g.nv g.nj (fun _ => false) m = true := by
    intro l m
    induction l with
    | nil => intro h; exact ⟨rfl, h⟩
    | cons x l ih =>
      intro h
      simp only [List.cons_append, SV.oks, Bool.and_eq_true] at h ⊢
      obtain ⟨h1, h2⟩ := ih h.2
      exact ⟨⟨h.1, h1⟩, h2⟩
  induction l with
  | nil => rfl
  | cons x l ih =>
    simp only [List.flatten_cons] at hl
    obtain ⟨h1, h2⟩ := sub _ _ hl
    simp only [List.map_cons, key x h1, ih h2]
theorem run_call (hP : ProgOk P c) {sl : List SV} {o : Oper} {fo : Operand} {args : Array Operand} {ts : Array TypeId} (ho : o.op = .call { callee := .value fo, args := args, argTypes := ts }) {f : Nat} {cap as : List SV}
    (hf : ev sl fo = some (.fn f cap)) (has : evs sl args.toList = some as) (hok : c.fok f = true) (ha : a.tmps = (SV.dens ρ β sl).toArray) :
    (execOp a.eval o).run P w = .ok (.enter f (SV.dens ρ β (as ++ cap)).toArray) w := by
  obtain ⟨dst, op, type, pos, after, guard⟩ := o
  simp only at ho; subst ho
  have hargs : args.map a.eval = (SV.dens ρ β as).toArray := by rw [← evs_den ha _ _ has]; exact Array.ext' (by simp)
  have hd : (SV.dens ρ β as).toArray ++ (SV.dens ρ β cap).toArray = (SV.dens ρ β (as ++ cap)).toArray := by simp [SV.dens_map]
  simp only [execOp, resolve, ev_den hf ha, hargs, SV.den, Deferred.ofValue, Sem.run_bind, Sem.run_pure, Result.andThen_ok, invoke, Array.empty_append, hd]
  exact hP.call f hok _ w
/-- The store of an element that was left open. -/
theorem run_fill (hP : ProgOk P c) {o : Oper} {t : TypeId} {ax vx : Operand} (ho : o.op = .store t ax vx) {n : Nat} {i : IE} {y : SV} {ti : TI} (hi : c.tab t = some ti)
    (hax : ev g.sl ax = some (.ea n i ti.size 0)) (hvx : ev g.sl vx = some y) (hcok : y.cok = true) (hlen : (cellsOf y).length = ti.size) (hflat : (cellsOf y).all SV.flat = true)
    (h : Rel w0 s0 X ρ s β g a w) {b m : Nat} (hb : g.H[b]? = some (.row m t ti.size)) {xs : List (List Value)} (hx : SliceIn s ti.size (ρ.v.getD m vd) xs) (hE : Ext (ρ.v.getD m vd) (ρ.v.getD n vd) xs.length) (hin : i.den ρ = xs.length) :
    ∃ w' s', (execOp a.eval o).run P w = .ok .skip w' ∧ App P t ti.size s w (ρ.v.getD m vd) (xs ++ [SV.dens ρ β (cellsOf y)]) (ρ.v.getD n vd) w' s' := by
  obtain ⟨dst, op, type, pos, after, guard⟩ := o
  simp only at ho; subst ho
  obtain ⟨q, cap, hm, hn, hcap⟩ := hE
  have hbl := (h.bl b _ hb).2
  rw [hm] at hbl hx
  rcases hbl with hbl | ⟨m', cap', cur, e1, e2, e3, e4, e5, e6, e7⟩
  · simp at hbl
  simp only [Value.slice.injEq, Option.some.injEq, Addr.mk.injEq] at e1
  obtain ⟨⟨rfl, _, _⟩, rfl, rfl⟩ := e1
  have hI := hP.tab _ _ hi
  have hcells := cells_den' (β := β) h.ok y hcok
  have hone := flat_one h.ok hflat β
  have hall : ∀ x ∈ xs ++ [SV.dens ρ β (cellsOf y)], x.length = ti.size := by
    intro x hx'
    rcases List.mem_append.1 hx' with h1 | h1
    · exact hx.1 x h1
    · rw [List.mem_singleton.1 h1, dens_length, hlen]
  have holds : ∀ j u, xs.flatten[j]? = some u → s (β b) j = some u := by
    intro j u hj
    obtain ⟨i', x, r, a1, a2, rfl⟩ := flat_get ti.size xs hx.1 j u hj
    obtain ⟨_, a, cap2, he, _, hcell⟩ := hx
    simp only [Value.slice.injEq] at he
    obtain ⟨b2, o2, hb2, hcell⟩ := hcell (by intro h; subst h; simp at a1)
    rw [hb2] at he
    simp only [Option.some.injEq, Addr.mk.injEq] at he
    obtain ⟨⟨rfl, rfl, _⟩, _⟩ := he
    simpa using hcell i' x a1 r u a2
  have hxl : xs.flatten.length = xs.length * ti.size := flat_len _ _ hx.1
  have hpre : cur.toList.take (xs.length * ti.size) = xs.flatten := by
    apply List.ext_getElem?
    intro j
    rw [List.getElem?_take]
    by_cases hj : j < xs.length * ti.size
    · rw [if_pos hj]
      have hjx : j < xs.flatten.length := by rw [hxl]; exact hj
      have := h.sb _ _ _ (holds j _ (List.getElem?_eq_getElem hjx))
      simp only [World.cell?, e3, Option.isSome_none, Bool.false_eq_true, if_false] at this
      rw [List.getElem?_eq_getElem hjx, ← this, Array.getElem?_toList]
    · rw [if_neg hj, List.getElem?_eq_none (by rw [hxl]; omega)]
  have hfit : xs.length * ti.size + (SV.dens ρ β (cellsOf y)).length ≤ cur.size := by
    rw [dens_length, hlen, e6]
    have : (xs.length + 1) * ti.size ≤ cap * ti.size := Nat.mul_le_mul_right _ hcap
    rw [Nat.add_mul] at this
    omega
  have hst := run_storeCells_at P (β b) (xs.length * ti.size) t (SV.dens ρ β (cellsOf y)) 0 cur w e3 (by simpa using hfit) hone
  have happ := app_room (P := P) h.sb hall e3 (by simpa using hcap) e5 e6 e7 holds
  simp only [List.flatten_cons, List.flatten_nil, List.append_nil, List.length_cons, List.length_nil, Nat.zero_add] at happ
  rw [hm, hn]
  refine ⟨_, _, ?_, happ⟩
  simp only [Nat.add_zero, hpre] at hst
  have had : (SV.ea n i ti.size 0).den ρ β = .pointer (some ⟨β b, xs.length * ti.size, none⟩) := by
    simp only [SV.den, hn, addrOf, Option.getD_some, hin, Int.toNat_natCast, Addr.add]
    simp
    exact fun h => h.symm
  simp only [execOp, ev_den hax h.tm, ev_den hvx h.tm, had, Instr.storeAt, Instr.sureAddr, Sem.run_bind, Sem.run_pure, Result.andThen_ok, storeVar, hcells, run_sizeOf hI, List.size_toArray, dens_length, hlen, ne_eq, not_true_eq_false, if_false, hst]
theorem shut_get (ks : List Nat) (H : List Blk) (k : Nat) : (shutBlk ks H)[k]? = (H[k]?).map fun b => match b with | .cells cs T s => .cells cs T (s || ks.contains k) | b => b := by
  unfold shutBlk
  simp only [List.getElem?_map, List.getElem?_zipIdx]
  cases H[k]? with
  | none => rfl
  | some b => simp; cases b <;> rfl
theorem getBlk_shut (ks : List Nat) (H : List Blk) (k : Nat) : getBlk (shutBlk ks H) k = getBlk H k := by
  unfold getBlk
  rw [shut_get]
  cases H[k]? with
  | none => rfl
  | some b => cases b <;> rfl
/-- The cells of shut blocks are told. -/
noncomputable def shutHp (H : List Blk) (β : Nat → Nat) (s : Hp) (w : World) : Hp := fun b o =>
  @ite _ (∃ k cs T, H[k]? = some (Blk.cells cs T true) ∧ β k = b) (Classical.propDecidable _) (w.cell? ⟨b, o, none⟩) (s b o)
theorem Rel.shut (h : Rel w0 s0 X ρ s β g a w) (ks : List Nat) :
    Rel w0 s0 X ρ (shutHp (shutBlk ks g.H) β s w) β { g with H := shutBlk ks g.H } a w ∧ s.le (shutHp (shutBlk ks g.H) β s w) ∧ HShut ρ β (shutBlk ks g.H) (shutHp (shutBlk ks g.H) β s w) ∧ New w0.heap.size s (shutHp (shutBlk ks g.H) β s w) := by
  have hcell : ∀ (k : Nat) (cs : List SV) (T : Nat) (sh : Bool), (shutBlk ks g.H)[k]? = some (Blk.cells cs T sh) → ∃ sh', g.H[k]? = some (Blk.cells cs T sh') := by
    intro k cs T sh hk
    rw [shut_get] at hk
    cases hg : g.H[k]? with
    | none => simp [hg] at hk
    | some b =>
      cases b with
      | cells cs' T' sh' => simp only [hg, Option.map_some, Option.some.injEq, Blk.cells.injEq] at hk; obtain ⟨rfl, rfl, _⟩ := hk; exact ⟨_, rfl⟩
      | row n T' size => simp [hg] at hk
  have hle : s.le (shutHp (shutBlk ks g.H) β s w) := by
    intro b o u hu
    simp only [shutHp]
    split
    · exact h.sb b o u hu
    · exact hu
  have hshut : HShut ρ β (shutBlk ks g.H) (shutHp (shutBlk ks g.H) β s w) := by
    intro k cs T hk o u hu
    simp only [shutHp]
    rw [if_pos ⟨k, cs, T, hk, rfl⟩]
    obtain ⟨sh', hk'⟩ := hcell _ _ _ _ hk
    have := (h.bl k _ hk').2.1
    simp only [World.cell?, this, Option.isSome_none, Bool.false_eq_true, if_false]
    simpa using hu
  have hnew : New w0.heap.size s (shutHp (shutBlk ks g.H) β s w) := by
    intro b o u hu hn
    simp only [shutHp] at hu
    split at hu
    · rename_i hx
      obtain ⟨k, cs, T, hk, rfl⟩ := hx
      obtain ⟨sh', hk'⟩ := hcell _ _ _ _ hk
      exact (h.bl k _ hk').1
    · rw [hu] at hn; simp at hn
  have hkey : ∀ (i : Nat) (b : Blk), (shutBlk ks g.H)[i]? = some b → act ρ b → ∃ b', g.H[i]? = some b' ∧ act ρ b' := by
    intro i b hi hb
    rw [shut_get] at hi
    cases hg : g.H[i]? with
    | none => simp [hg] at hi
    | some b' =>
      cases b' with
      | cells cs T sh => exact ⟨_, rfl, trivial⟩
      | row n T size => simp only [hg, Option.map_some, Option.some.injEq] at hi; subst hi; exact ⟨_, rfl, hb⟩
  have hkp : ∀ x, X.K x ∨ x ∈ ρ.m → Kept (shutHp (shutBlk ks g.H) β s w) ρ β (shutBlk ks g.H) w x := fun x hx => by
    obtain ⟨k1, k2, k3⟩ := h.kp x hx
    refine ⟨k1, fun k b hk hb => ?_, fun o => ?_⟩
    · obtain ⟨b', e1, e2⟩ := hkey k b hk hb
      exact k2 k b' e1 e2
    · simp only [shutHp]
      rw [if_neg]
      · exact k3 o
      · rintro ⟨k, cs2, T2, hk2, he⟩
        obtain ⟨sh2, hk2'⟩ := hcell _ _ _ _ hk2
        exact k2 k _ hk2' trivial he
  refine ⟨⟨h.tm, h.df, h.sz, hkp, h.ms, h.fs, h.ci, h.cb, h.cv, h.cj, h.ok, h.bel, ?_, ?_, Hp.le_trans h.le hle, ?_, ?_⟩, hle, hshut, hnew⟩
  · intro b o u hu
    simp only [shutHp] at hu
    split at hu
    · exact hu
    · exact h.sb b o u hu
  · intro b o u hu hn
    cases hs : s b o with
    | some v => exact h.nw b o v hs hn
    | none => exact hnew b o u hu hs
  · intro k b hk
    cases b with
    | cells cs T sh =>
      obtain ⟨sh', hk'⟩ := hcell _ _ _ _ hk
      obtain ⟨h1, h2, h3, h4⟩ := h.bl k _ hk'
      refine ⟨h1, h2, ?_, ?_⟩
      · intro hf o
        subst hf
        simp only [shutHp]
        rw [if_neg]
        · apply h3
          simp only [shut_get, hk', Option.map_some, Option.some.injEq, Blk.cells.injEq, Bool.or_eq_false_iff] at hk
          exact hk.2.2.1
        · rintro ⟨k2, cs2, T2, hk2, he⟩
          obtain ⟨sh2, hk2'⟩ := hcell _ _ _ _ hk2
          by_cases hkk : k2 = k
          · subst hkk; rw [hk] at hk2; simp at hk2
          · exact h.sp k2 k _ _ hkk hk2' hk' trivial trivial he
      · intro hf o u hu
        subst hf
        exact hshut k cs T hk o u hu
    | row n T size =>
      have hk' : g.H[k]? = some (.row n T size) := by
        rw [shut_get] at hk
        cases hg : g.H[k]? with
        | none => simp [hg] at hk
        | some b => cases b <;> simp [hg] at hk; rw [hk.1, hk.2.1, hk.2.2]
      have hbl := h.bl k _ hk'
      refine ⟨hbl.1, ?_⟩
      rcases hbl.2 with e | ⟨m, cap, cur, e1, e2, e3, e4, e5, e6, e7⟩
      · exact .inl e
      · refine .inr ⟨m, cap, cur, e1, e2, e3, e4, e5, e6, fun o u hu => ?_⟩
        simp only [shutHp] at hu
        rw [if_neg] at hu
        · exact e7 o u hu
        · rintro ⟨k2, cs2, T2, hk2, he⟩
          obtain ⟨sh2, hk2'⟩ := hcell _ _ _ _ hk2
          have hkk : k2 ≠ k := by intro hkk; subst hkk; rw [hk'] at hk2'; simp at hk2'
          exact h.sp k2 k _ _ hkk hk2' hk' trivial (by show ρ.v.getD n vd ≠ _; rw [e1]; simp) he
  · intro j k bj bk hjk hj hk aj ak
    have key : ∀ (i : Nat) (b : Blk), (shutBlk ks g.H)[i]? = some b → act ρ b → ∃ b', g.H[i]? = some b' ∧ act ρ b' := by
      intro i b hi hb
      rw [shut_get] at hi
      cases hg : g.H[i]? with
      | none => simp [hg] at hi
      | some b' =>
        cases b' with
        | cells cs T sh => exact ⟨_, rfl, trivial⟩
        | row n T size => simp only [hg, Option.map_some, Option.some.injEq] at hi; subst hi; exact ⟨_, rfl, hb⟩
    obtain ⟨b1, c1, c2⟩ := key j bj hj aj
    obtain ⟨b2, d1, d2⟩ := key k bk hk ak
    exact h.sp j k b1 b2 hjk c1 d1 c2 d2
/-- The cells of objects are told. -/
noncomputable def tellM (m : MS) (s : Hp) (w : World) : Hp := fun b o => @ite _ (b ∈ blks m) (Classical.propDecidable _) (w.cell? ⟨b, o, none⟩) (s b o)
theorem tellM_le {m : MS} {s : Hp} {w : World} (h : Sub s w) : s.le (tellM m s w) := fun b o u hu => by
  simp only [tellM]; split
  · exact h b o u hu
  · exact hu
theorem tellM_sub {m : MS} {s : Hp} {w : World} (h : Sub s w) : Sub (tellM m s w) w := fun b o u hu => by
  simp only [tellM] at hu; split at hu
  · exact hu
  · exact h b o u hu
theorem tellM_told {m : MS} {s : Hp} {w : World} (h : ∀ x ∈ m, w.heap[x.1]? = some x.2) : Told m (tellM m s w) := fun x hx cur T fr hc o u hu => by
  have h1 := h x hx
  rw [hc] at h1
  simp only [tellM]
  rw [if_pos (show x.1 ∈ blks m from List.mem_map.2 ⟨x, hx, rfl⟩)]
  simp only [World.cell?, h1, Option.isSome_none, Bool.false_eq_true, if_false]
  exact hu
theorem HShut.mono {H : List Blk} {s t : Hp} (h : HShut ρ β H s) (hst : s.le t) : HShut ρ β H t := fun k cs T hk o u hu => hst _ _ _ (h k cs T hk o u hu)
/-- What a frame that ends leaves of the objects: those handed in, the new ones' cells told. -/
theorem Rel.tell (h : Rel w0 s0 X ρ s β g a w) : s.le (tellM (ρ.m.drop ρ.k) s w) ∧ Sub (tellM (ρ.m.drop ρ.k) s w) w ∧ Told (ρ.m.drop ρ.k) (tellM (ρ.m.drop ρ.k) s w) ∧ New w0.heap.size s0 (tellM (ρ.m.drop ρ.k) s w) ∧
    MOk (tellM (ρ.m.drop ρ.k) s w) (ρ.m.take ρ.k) w := by
  refine ⟨tellM_le h.sb, tellM_sub h.sb, tellM_told (fun x hx => (h.kp x (.inr (List.mem_of_mem_drop hx))).is), ?_, ?_, ?_, ?_⟩
  · intro b o u hu hn
    simp only [tellM] at hu
    split at hu
    · rename_i hb
      obtain ⟨x, hx, rfl⟩ := List.mem_map.1 hb
      obtain ⟨i, hi⟩ := List.mem_iff_getElem?.1 hx
      rw [List.getElem?_drop] at hi
      exact h.ms.nw _ x (by omega) hi
    · exact h.nw b o u hu hn
  · have := h.ms.nd
    simp only [blks, List.map_take]
    exact this.sublist (List.take_sublist _ _)
  · exact fun x hx => (h.kp x (.inr (List.mem_of_mem_take hx))).is
  · intro x hx o
    simp only [tellM]
    rw [if_neg]
    · exact (h.kp x (.inr (List.mem_of_mem_take hx))).un o
    · intro hb
      obtain ⟨y, hy, he⟩ := List.mem_map.1 hb
      have hnd : ((blks (ρ.m.take ρ.k)) ++ blks (ρ.m.drop ρ.k)).Nodup := by
        simp only [blks]; rw [← List.map_append, List.take_append_drop]; exact h.ms.nd
      exact (List.nodup_append.1 hnd).2.2 _ (List.mem_map.2 ⟨x, hx, rfl⟩) _ (List.mem_map.2 ⟨y, hy, rfl⟩) he.symm
end
end Go.Sx
