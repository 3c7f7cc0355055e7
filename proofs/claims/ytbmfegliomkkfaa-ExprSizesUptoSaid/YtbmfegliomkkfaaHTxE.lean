/- SX: the operations that only compute, one by one. -/
import Derived.Test.YtbmfegliomkkfaaHTxD
set_option linter.unusedSimpArgs false
set_option linter.unusedVariables false
namespace Go.Sx
section
variable {P : Program} {c : Ctx} {ρ : Env} {β : Nat → Nat}
theorem Ctx.ty_some {t : Nat} {y : Ty} (h : c.ty t = some y) : ∃ i, c.tab t = some i ∧ i.ty = y := by
  simpa [Ctx.ty] using h
theorem cells_den' (hρ : ρ.Ok) (v : SV) (hv : v.cok = true) : (v.den ρ β).cells = (SV.dens ρ β (cellsOf v)).toArray := by
  cases v
  case junk => simp [SV.cok] at hv
  case va n =>
    simp only [SV.den, cellsOf, SV.dens]
    have := hρ.getD n
    generalize ρ.v.getD n vd = x at *
    cases x <;> first | rfl | exact absurd rfl (this _)
  all_goals simp [SV.den, cellsOf, SV.dens, Value.cells]
  case undef => rfl
theorem setCells_den (cs new : List SV) (off : Nat) :
    SV.dens ρ β (setCells cs off new) = (SV.dens ρ β cs).take off ++ SV.dens ρ β new ++ (SV.dens ρ β cs).drop (off + new.length) := by
  simp [setCells, SV.dens_map]
theorem foldl_set (off : Nat) : ∀ (new : List Value) (k : Nat) (cs : Array Value), off + k + new.length ≤ cs.size →
    (new.zipIdx k).foldl (fun cs (x : Value × Nat) => cs.setIfInBounds (off + x.2) x.1) cs = (cs.toList.take (off + k) ++ new ++ cs.toList.drop (off + k + new.length)).toArray
  | [], k, cs, _ => by simp
  | v :: new, k, cs, h => by
    simp only [List.length_cons] at h
    simp only [List.zipIdx_cons, List.foldl_cons]
    rw [foldl_set off new (k + 1) (cs.setIfInBounds (off + k) v) (by simp; omega)]
    apply congrArg List.toArray
    simp only [Array.toList_setIfInBounds, List.length_cons]
    apply List.ext_getElem?
    intro j
    simp only [List.getElem?_append, List.length_take, List.length_append, List.length_set, Array.length_toList, List.getElem?_take, List.getElem?_drop, List.getElem?_set, List.length_cons, List.getElem?_cons]
    by_cases h1 : j < off + k
    · have a : j < min (off + (k + 1)) cs.size := by omega
      have b : j < min (off + k) cs.size := by omega
      have d : ¬ off + k = j := by omega
      have e : j < off + (k + 1) := by omega
      have f : j < min (off + (k + 1)) cs.size + new.length := by omega
      have g : j < min (off + k) cs.size + (new.length + 1) := by omega
      simp [a, b, d, e, f, g, h1]
    · by_cases h2 : j = off + k
      · subst h2
        have a : off + k < min (off + (k + 1)) cs.size := by omega
        have b : ¬ off + k < min (off + k) cs.size := by omega
        have f : off + k < min (off + (k + 1)) cs.size + new.length := by omega
        have g : off + k < min (off + k) cs.size + (new.length + 1) := by omega
        have e : off + k < off + (k + 1) := by omega
        have m : off + k - min (off + k) cs.size = 0 := by omega
        have q : off + k < cs.size := by omega
        simp [a, b, e, f, g, m, q]
      · by_cases h3 : j < off + k + 1 + new.length
        · have a : ¬ j < min (off + (k + 1)) cs.size := by omega
          have b : ¬ j < min (off + k) cs.size := by omega
          have f : j < min (off + (k + 1)) cs.size + new.length := by omega
          have g : j < min (off + k) cs.size + (new.length + 1) := by omega
          have m : ¬ j - min (off + k) cs.size = 0 := by omega
          have q : j - min (off + (k + 1)) cs.size = j - min (off + k) cs.size - 1 := by omega
          simp [a, b, f, g, m, q]
        · have f : ¬ j < min (off + (k + 1)) cs.size + new.length := by omega
          have g : ¬ j < min (off + k) cs.size + (new.length + 1) := by omega
          have q : off + (k + 1) + new.length + (j - (min (off + (k + 1)) cs.size + new.length)) = j := by omega
          have q' : off + k + (new.length + 1) + (j - (min (off + k) cs.size + (new.length + 1))) = j := by omega
          have d : ¬ off + k = j := by omega
          simp only [f, g, if_false, q, q', d]
theorem fill_den (hρ : ρ.Ok) (place : Nat → Option (Nat × Nat)) : ∀ (parts : List (Nat × SV)) (cs out : List SV), fillSV place cs parts = some out →
    Instr.fill place (SV.dens ρ β cs).toArray (parts.map fun p => (p.1, p.2.den ρ β)) = some (SV.dens ρ β out).toArray
  | [], cs, out, h => by simp only [fillSV, Option.some.injEq] at h; subst h; rfl
  | (j, v) :: l, cs, out, h => by
    simp only [fillSV] at h
    split at h
    · rename_i off size hp
      split at h
      · rename_i hc
        simp only [Bool.and_eq_true, decide_eq_true_eq] at hc
        have ih := fill_den hρ place l _ _ h
        simp only [List.map_cons, Instr.fill, hp]
        have e1 : (v.den ρ β).cells = (SV.dens ρ β (cellsOf v)).toArray := cells_den' hρ v hc.1.1
        have hs : (SV.dens ρ β (cellsOf v)).length = size := by simp [SV.dens_map, hc.1.2]
        have hcl : (SV.dens ρ β cs).length = cs.length := by simp [SV.dens_map]
        have hle : off + (SV.dens ρ β (cellsOf v)).length ≤ (SV.dens ρ β cs).length := by rw [hs, hcl]; exact hc.2
        have hcond : ¬ ((decide ((v.den ρ β).cells.size ≠ size) || decide (off + (v.den ρ β).cells.size > (SV.dens ρ β cs).toArray.size)) = true) := by
          rw [e1]
          simp only [List.size_toArray, Bool.or_eq_true, decide_eq_true_eq]
          omega
        have hfold : (v.den ρ β).cells.zipIdx.foldl (fun cs (x : Value × Nat) => cs.setIfInBounds (off + x.2) x.1) (SV.dens ρ β cs).toArray = (SV.dens ρ β (setCells cs off (cellsOf v))).toArray := by
          rw [e1, setCells_den, ← Array.foldl_toList, Array.toList_zipIdx]
          have := foldl_set off (SV.dens ρ β (cellsOf v)) 0 (SV.dens ρ β cs).toArray (by simpa using hle)
          simp only [Nat.add_zero] at this
          rw [show (cellsOf v).length = (SV.dens ρ β (cellsOf v)).length by simp [SV.dens_map]]
          exact this
        rw [if_neg hcond]
        rw [← ih]
        exact congrArg (fun x => Instr.fill place x (l.map fun p => (p.1, p.2.den ρ β))) hfold
      · simp at h
    · simp at h
theorem zip_den {sl : List SV} {a : Act} (ha : a.tmps = (SV.dens ρ β sl).toArray) : ∀ (ps : List (Nat × Operand)) (vs : List SV), evs sl (ps.map (·.2)) = some vs →
    ps.map (fun p => (p.1, a.eval p.2)) = ((ps.map (·.1)).zip vs).map fun p => (p.1, p.2.den ρ β)
  | [], vs, h => by simp
  | p :: ps, vs, h => by
    simp only [List.map_cons, evs] at h
    split at h
    · rename_i v vs' h1 h2
      simp only [Option.some.injEq] at h; subst h
      simp only [List.map_cons, List.zip_cons_cons, ev_den h1 ha, zip_den ha ps vs' h2]
    · simp at h
theorem mapM_places (hP : ProgOk P c) : ∀ (fields : List Field) (w : World), (∀ f ∈ fields, ∃ i, c.tab f.type = some i) →
    (fields.mapM fun f => (do pure (f.offset, ← sizeOf f.type) : Sem (Nat × Nat))).run P w = .ok (fields.map fun f => (f.offset, ((c.tab f.type).map (·.size)).getD 0)) w
  | [], w, _ => by simp
  | f :: fs, w, h => by
    obtain ⟨i, hi⟩ := h f (by simp)
    have ih := mapM_places hP fs w (fun g hg => h g (by simp [hg]))
    simp only [Sem.run_bind, List.mapM_cons, run_sizeOf (hP.tab _ _ hi), Result.andThen_ok, Sem.run_pure, ih, List.map_cons, hi, Option.map_some, Option.getD_some]
theorem run_build (hP : ProgOk P c) (hρ : ρ.Ok) {sl : List SV} {t : Nat} {parts : Array (Nat × Operand)} {v : SV} (h : pvBuild c sl t parts.toList = some v) {a : Act} (ha : a.tmps = (SV.dens ρ β sl).toArray) (w : World) :
    (Instr.build t (parts.map fun (i, x) => (i, a.eval x))).run P w = .ok (v.den ρ β) w := by
  unfold pvBuild at h
  split at h
  case h_2 => simp at h
  rename_i i hi
  split at h
  case h_2 => simp at h
  rename_i vs hvs
  have hI := hP.tab t i hi
  obtain ⟨z, hz, hzc⟩ := run_zero hI w
  have hparts : (parts.map fun (p : Nat × Operand) => (p.1, a.eval p.2)).toList = ((parts.toList.map (·.1)).zip vs).map fun p => (p.1, p.2.den ρ β) := by
    rw [← zip_den ha _ _ hvs]; simp
  have hty := hI.ty
  split at h
  · rename_i fs hfs
    simp only [hfs] at hty
    obtain ⟨fields, hu, hf⟩ := hty
    split at h
    case isFalse => simp at h
    rename_i hall
    have hall := List.all_eq_true.1 hall
    simp only [Option.map_eq_some_iff] at h
    obtain ⟨cs, hfill, rfl⟩ := h
    have hfill' := fill_den (ρ := ρ) (β := β) hρ _ _ _ _ hfill
    have hpl := mapM_places hP fields.toList w (by
      intro f hfm
      have := hall (f.offset, f.type) (by rw [← hf]; exact List.mem_map.2 ⟨f, hfm, rfl⟩)
      exact Option.isSome_iff_exists.1 this)
    have hplA : (fields.mapM fun f => (do pure (f.offset, ← sizeOf f.type) : Sem (Nat × Nat))).run P w = .ok (fields.toList.map fun f => (f.offset, ((c.tab f.type).map (·.size)).getD 0)).toArray w := by
      rw [Array.mapM_eq_mapM_toList]
      simp only [Sem.run_map, hpl, Result.andThen_ok]
    have hplace : (fun (j : Nat) => (fields.toList.map fun f => (f.offset, ((c.tab f.type).map (·.size)).getD 0)).toArray[j]?) =
        placeSt c fs := by
      funext j
      unfold placeSt
      subst hf
      simp only [List.getElem?_toArray, List.getElem?_map]
      cases hj : fields.toList[j]? with
      | none => rfl
      | some f =>
        have := hall (f.offset, f.type) (List.mem_map.2 ⟨f, List.mem_of_getElem? hj, rfl⟩)
        obtain ⟨fi, hfi⟩ := Option.isSome_iff_exists.1 this
        simp only [Option.map_some, hfi, Option.getD_some]
    simp only [Instr.build, Sem.run_bind, hz, Result.andThen_ok, run_underlying hu, hplA, hzc ρ β]
    rw [hplace]
    have : (parts.map fun (x : Nat × Operand) => (x.1, a.eval x.2)).toList = _ := hparts
    simp only [this, hfill', Sem.run_pure, SV.den]
  · rename_i n e he
    simp only [he] at hty
    split at h
    case h_2 => simp at h
    rename_i fi hfi
    simp only [Option.map_eq_some_iff] at h
    obtain ⟨cs, hfill, rfl⟩ := h
    have hfill' := fill_den (ρ := ρ) (β := β) hρ _ _ _ _ hfill
    unfold placeArr at hfill'
    simp only [Instr.build, Sem.run_bind, hz, Result.andThen_ok, run_underlying hty, run_sizeOf (hP.tab _ _ hfi), hzc ρ β]
    have : (parts.map fun (x : Nat × Operand) => (x.1, a.eval x.2)).toList = _ := hparts
    simp only [this, hfill', Sem.run_pure, SV.den]
  · simp at h
theorem run_pvLoad (hP : ProgOk P c) {H : List Blk} {t : Nat} {x v : SV} (h : pvLoad c H t x = some v) {w : World} (hH : HOk ρ β H w) :
    (Instr.loadAt t (x.den ρ β)).run P w = .ok (v.den ρ β) w := by
  unfold pvLoad at h
  split at h
  case h_2 => simp at h
  rename_i k off
  split at h
  case h_2 => simp at h
  rename_i i cs T h1 h2
  have := run_own (hP.tab t i h1) h w (hH _ _ _ h2)
  simp [Instr.loadAt, Instr.sureAddr, SV.den, this]
theorem run_pvConvert (hP : ProgOk P c) {src dst : Nat} {x v : SV} {ns : List BE} (h : pvConvert c dst x = some (ns, v)) (hn : ∀ b ∈ ns, b.den ρ = true) {w : World}
    (hs : ∃ d, P.underlying src = some d) : (convert src dst (x.den ρ β)).run P w = .ok (v.den ρ β) w := by
  unfold pvConvert at h
  split at h
  case h_2 => simp at h
  rename_i k k' e hty
  obtain ⟨i, hi, hi'⟩ := Ctx.ty_some hty
  have hty := (hP.tab dst i hi).ty
  simp only [hi'] at hty
  obtain ⟨d, hd⟩ := hs
  simp only [Option.some.injEq] at h
  have := fit_den h ρ β hn
  rw [this]
  simp only [convert, Sem.run_bind, run_underlying hd, run_underlying hty, Result.andThen_ok, SV.den, Conv.intToInt]
  cases d <;> rfl
theorem run_pvUn {op : UnOp} {x v : SV} {ns : List BE} (h : pvUn c op x = some (ns, v)) (hn : ∀ b ∈ ns, b.den ρ = true) {w : World} :
    (Op.unary op (x.den ρ β)).run P w = .ok (v.den ρ β) w := by
  unfold pvUn at h
  split at h
  · simp only [Option.some.injEq, Prod.mk.injEq] at h
    obtain ⟨_, rfl⟩ := h
    simp [Op.unary, SV.den, not'_den]
  · simp only [Option.some.injEq] at h
    have := fit_den h ρ β hn
    rw [this, sub'_den]
    simp [Op.unary, SV.den, Op.intArith, IE.den]
  · simp at h
theorem Addr.add_add0 (x : Addr) (a b : Nat) : (x.add a).add b = x.add (a + b) := by
  unfold Addr.add
  by_cases h1 : a = 0 <;> by_cases h2 : b = 0 <;> simp [h1, h2, Nat.add_assoc]
theorem run_pvFieldAddr (hP : ProgOk P c) {s f : Nat} {x v : SV} (h : pvFieldAddr c s f x = some v) {w : World} :
    (Instr.fieldAt s (x.den ρ β) f).run P w = .ok (v.den ρ β) w := by
  unfold pvFieldAddr at h
  split at h
  case h_2 => simp at h
  rename_i fs hty
  obtain ⟨i, hi, hi'⟩ := Ctx.ty_some hty
  have hty := (hP.tab s i hi).ty
  simp only [hi'] at hty
  obtain ⟨fields, hu, hf⟩ := hty
  split at h
  case h_2 => simp at h
  rename_i off ft hft
  split at h
  case h_2 => simp at h
  rename_i fi hfi
  split at h
  case isTrue => simp at h
  rename_i hsz
  have hsz : ¬ fi.size = 0 := by simpa using hsz
  have hfield : ∃ fd, fields[f]? = some fd ∧ fd.offset = off ∧ fd.type = ft := by
    rw [← hf] at hft
    simp only [List.getElem?_map, Option.map_eq_some_iff, Array.getElem?_toList] at hft
    obtain ⟨fd, h1, h2⟩ := hft
    exact ⟨fd, h1, (Prod.mk.inj h2).1, (Prod.mk.inj h2).2⟩
  obtain ⟨fd, hfd, rfl, rfl⟩ := hfield
  have main : ∀ ad, (Instr.fieldAt s (.pointer (some ad)) f).run P w = .ok (.pointer (some (ad.add fd.offset))) w := by
    intro ad
    simp [Instr.fieldAt, run_underlying hu, hfd, Instr.sureAddr, fieldPlace, run_sizeOf (hP.tab _ _ hfi), hsz]
  split at h <;> simp only [Option.some.injEq, reduceCtorEq] at h <;> subst h <;> simp only [SV.den, main]
  · simp only [Addr.add]
    split <;> simp_all
  · simp only [Addr.add_add0, Nat.add_assoc]
  · simp only [Addr.add_add0]
theorem run_pvField (hP : ProgOk P c) {s f : Nat} {x v : SV} (h : pvField c s f x = some v) {w : World} :
    (Instr.field s (x.den ρ β) f).run P w = .ok (v.den ρ β) w := by
  unfold pvField at h
  split at h
  case h_2 => simp at h
  rename_i fs cs hty
  obtain ⟨i, hi, hi'⟩ := Ctx.ty_some hty
  have hty := (hP.tab s i hi).ty
  simp only [hi'] at hty
  obtain ⟨fields, hu, hf⟩ := hty
  split at h
  case h_2 => simp at h
  rename_i off ft hft
  split at h
  case h_2 => simp at h
  rename_i fi hfi
  rw [← hf] at hft
  simp only [List.getElem?_map, Option.map_eq_some_iff, Array.getElem?_toList] at hft
  obtain ⟨fd, h1, h2⟩ := hft
  obtain ⟨rfl, rfl⟩ := Prod.mk.inj h2
  have := run_part (hP.tab _ _ hfi) (ρ := ρ) (β := β) h w
  simp [Instr.field, run_underlying hu, h1, asAgg, SV.den, this]
theorem selIE_den : ∀ (i : IE) (cs : List SV) (k : Nat) (r : IE), selIE i k cs = some r → ∀ j : Nat, j < cs.length → i.den ρ = k + j → ∃ v, cs[j]? = some v ∧ v.den ρ β = .int .i64 (r.den ρ)
  | i, [], k, r, _, j, hj, _ => by simp at hj
  | i, x :: cs, k, r, h, j, hj, hi => by
    cases x <;> first | (simp [selIE] at h; done) | skip
    rename_i kd e
    cases kd <;> first | (simp [selIE] at h; done) | skip
    simp only [selIE, Option.map_eq_some_iff] at h
    obtain ⟨r', h', rfl⟩ := h
    simp only [IE.den]
    cases j with
    | zero => refine ⟨.int .i64 e, by simp, ?_⟩; rw [ifEq, if_pos (by simpa using hi)]; rfl
    | succ j =>
      obtain ⟨v, h1, h2⟩ := selIE_den i cs (k + 1) r' h' j (by simpa using hj) (by rw [hi]; push_cast; omega)
      refine ⟨v, by simpa using h1, ?_⟩
      rw [ifEq, if_neg (by rw [hi]; push_cast; omega)]
      exact h2
theorem run_pvIndex (hP : ProgOk P c) {t : Nat} {x ix v : SV} {ns : List BE} (h : pvIndex c t x ix = some (ns, v)) (hn : ∀ b ∈ ns, b.den ρ = true) {w : World} :
    (Instr.index t (x.den ρ β) (ix.den ρ β)).run P w = .ok (v.den ρ β) w := by
  unfold pvIndex at h
  split at h
  case h_2 => simp at h
  rename_i n e hty
  obtain ⟨i, hi, hi'⟩ := Ctx.ty_some hty
  have hty := (hP.tab t i hi).ty
  simp only [hi'] at hty
  split at h
  · rename_i fi cs k z hfi
    split at h
    · rename_i hc
      simp only [Bool.and_eq_true, decide_eq_true_eq] at hc
      simp only [Option.map_eq_some_iff, Prod.mk.injEq] at h
      obtain ⟨v', hv, rfl, rfl⟩ := h
      have := run_part (hP.tab _ _ hfi) (ρ := ρ) (β := β) hv w
      simp [Instr.index, asIntOf, SV.den, IE.den, run_underlying hty, hc, run_sizeOf (hP.tab _ _ hfi), this]
    · simp at h
  · rename_i fi cs k i' hne hfi
    split at h
    · rename_i hc
      simp only [Bool.and_eq_true, beq_iff_eq, Bool.not_eq_true'] at hc
      simp only [Option.map_eq_some_iff, Prod.mk.injEq] at h
      obtain ⟨r, hr, rfl, rfl⟩ := h
      have h0 := hn _ (List.mem_singleton.2 rfl)
      rw [and'_den, le'_den, lt'_den, Bool.and_eq_true] at h0
      have h1 : (0 : Int) ≤ i'.den ρ := leB_true.1 h0.1
      have h2 : i'.den ρ < (n : Int) := ltB_true.1 h0.2
      obtain ⟨v', hv1, hv2⟩ := selIE_den (ρ := ρ) (β := β) i' cs 0 r hr (i'.den ρ).toNat (by omega) (by omega)
      have hpart := run_part (hP.tab _ _ hfi) (ρ := ρ) (β := β) (cs := cs) (off := (i'.den ρ).toNat) (v := v') (by simp [partSV, hc.2, hv1]) w
      rw [hv2] at hpart
      simp [Instr.index, asIntOf, SV.den, run_underlying hty, h1, h2, run_sizeOf (hP.tab _ _ hfi), hc.1.1, hpart]
    · simp at h
  · simp at h
theorem run_pvIndexAddr (hP : ProgOk P c) (hρ : ρ.Ok) {t : Nat} {x ix v : SV} {ns : List BE} (h : pvIndexAddr c t x ix = some (ns, v)) (hn : ∀ b ∈ ns, b.den ρ = true) {w : World} :
    (Instr.indexAt t (x.den ρ β) (ix.den ρ β)).run P w = .ok (v.den ρ β) w := by
  unfold pvIndexAddr at h
  split at h
  · rename_i n e hty
    obtain ⟨i, hi, hi'⟩ := Ctx.ty_some hty
    have hty := (hP.tab t i hi).ty
    simp only [hi'] at hty
    split at h
    · rename_i fi b off k z hfi
      split at h
      · rename_i hc
        simp only [Bool.and_eq_true, decide_eq_true_eq] at hc
        simp only [Option.some.injEq, Prod.mk.injEq] at h
        obtain ⟨rfl, rfl⟩ := h
        simp only [Instr.indexAt, asIntOf, SV.den, IE.den, Sem.run_bind, Sem.run_pure, Result.andThen_ok, run_underlying hty, Instr.sureAddr, run_sizeOf (hP.tab _ _ hfi), hc, and_self, if_true]
        simp only [Addr.add]
        split <;> simp_all
      · simp at h
    · rename_i fi m i' s off k z hfi
      split at h
      · rename_i hc
        simp only [Bool.and_eq_true, decide_eq_true_eq] at hc
        simp only [Option.some.injEq, Prod.mk.injEq] at h
        obtain ⟨rfl, rfl⟩ := h
        simp only [Instr.indexAt, asIntOf, SV.den, IE.den, Sem.run_bind, Sem.run_pure, Result.andThen_ok, run_underlying hty, Instr.sureAddr, run_sizeOf (hP.tab _ _ hfi), hc, and_self, if_true, Addr.add_add0, Nat.add_assoc]
      · simp at h
    · rename_i fi m off k z hfi
      split at h
      · rename_i hc
        simp only [Bool.and_eq_true, decide_eq_true_eq] at hc
        simp only [Option.some.injEq, Prod.mk.injEq] at h
        obtain ⟨rfl, rfl⟩ := h
        simp only [Instr.indexAt, asIntOf, SV.den, IE.den, Sem.run_bind, Sem.run_pure, Result.andThen_ok, run_underlying hty, Instr.sureAddr, run_sizeOf (hP.tab _ _ hfi), hc, and_self, if_true, Addr.add_add0, Nat.add_assoc]
      · simp at h
    · simp at h
  · rename_i e hty
    obtain ⟨i, hi, hi'⟩ := Ctx.ty_some hty
    have hty := (hP.tab t i hi).ty
    simp only [hi'] at hty
    split at h
    · rename_i fi n k i' hfi
      simp only [Option.some.injEq, Prod.mk.injEq] at h
      obtain ⟨rfl, rfl⟩ := h
      have h0 := hn _ (List.mem_singleton.2 rfl)
      rw [and'_den, le'_den, lt'_den, Bool.and_eq_true] at h0
      have h1 : (0 : Int) ≤ i'.den ρ := leB_true.1 h0.1
      have h2 : i'.den ρ < sliceLen (ρ.v.getD n vd) := ltB_true.1 h0.2
      have h5 := hρ.nil n
      simp only [SV.den]
      generalize ρ.v.getD n vd = x at *
      cases x <;> simp only [sliceLen] at h2 <;> first | omega | skip
      rename_i a len cap
      have h3 : 0 ≤ i'.den ρ ∧ i'.den ρ < (len : Int) := ⟨h1, h2⟩
      simp only [Instr.indexAt, asIntOf, Sem.run_bind, Sem.run_pure, Result.andThen_ok, run_underlying hty]
      cases a with
      | none => have := h5 _ _ rfl; omega
      | some a => simp [h3, run_sizeOf (hP.tab _ _ hfi), addrOf, Addr.add]
    · rename_i fi b len k z hfi
      split at h
      · rename_i hc
        simp only [Bool.and_eq_true, decide_eq_true_eq] at hc
        simp only [Option.some.injEq, Prod.mk.injEq] at h
        obtain ⟨rfl, rfl⟩ := h
        simp only [Instr.indexAt, asIntOf, SV.den, IE.den, Sem.run_bind, Sem.run_pure, Result.andThen_ok, run_underlying hty, run_sizeOf (hP.tab _ _ hfi), hc, and_self, if_true]
        simp only [Addr.add]
        split <;> simp_all
      · simp at h
    · simp at h
  · simp at h
theorem run_eqGuard_plain (op : BinOp) (t : TypeId) (x y : Operand) {a b : Value} (h1 : ∀ l, a ≠ .agg l) (h2 : a ≠ .nilIface) (w : World) : (eqGuard op t x y a b).run P w = .ok () w := by
  cases op <;> simp only [eqGuard, Bool.not_true, Bool.not_false, if_true, Sem.run_pure, Bool.false_eq_true, if_false]
  all_goals (cases a <;> first | exact absurd rfl h2 | exact absurd rfl (h1 _) | rfl | (cases b <;> rfl))
theorem equal_succ (t : TypeId) (a b : Value) : Op.equal t a b = Op.equalIn (9999 + 1) t a b := rfl
theorem equal_slice_nil {t el : TypeId} (h : P.underlying t = some (.slice el)) (a : Option Addr) (n m : Nat) (w : World) : (Op.equal t (.slice a n m) (.slice none 0 0)).run P w = .ok a.isNone w := by
  rw [equal_succ]; generalize 9999 = d
  cases a <;> simp [Op.equalIn, run_underlying h]
theorem equal_func_nil {t : TypeId} {p r : Array TypeId} {v : Bool} (h : P.underlying t = some (.func p r v)) (f : Fn) (a b : Array Value) (w : World) : (Op.equal t (.func f a b) .nilFunc).run P w = .ok false w := by
  rw [equal_succ]; generalize 9999 = d
  simp [Op.equalIn, run_underlying h]
theorem equal_nil_nil {t : TypeId} {p r : Array TypeId} {v : Bool} (h : P.underlying t = some (.func p r v)) (w : World) : (Op.equal t .nilFunc .nilFunc).run P w = .ok true w := by
  rw [equal_succ]; generalize 9999 = d
  simp [Op.equalIn, run_underlying h]
theorem equal_bool {t : TypeId} (h : P.underlying t = some .bool) (a b : Bool) (w : World) : (Op.equal t (.bool a) (.bool b)).run P w = .ok (a == b) w := by
  rw [equal_succ]; generalize 9999 = d
  simp [Op.equalIn, run_underlying h]
theorem run_binV_eq {op : BinOp} {t : TypeId} {a b : Value} {e : Bool} {w : World} (ha : ∀ k n, a ≠ .int k n) (ha2 : ∀ k n, a ≠ .float k n) (ha3 : ∀ k n m, a ≠ .complex k n m) (ha4 : ∀ s, a ≠ .string s)
    (he : (Op.equal t a b).run P w = .ok e w) : (op = .eql → (binOp op t a b).run P w = .ok (.bool e) w) ∧ (op = .neq → (binOp op t a b).run P w = .ok (.bool (!e)) w) := by
  constructor <;> intro h <;> subst h
  · cases a <;> first | exact absurd rfl (ha _ _) | exact absurd rfl (ha2 _ _) | exact absurd rfl (ha3 _ _ _) | exact absurd rfl (ha4 _) | simp [binOp, he]
  · cases a <;> first | exact absurd rfl (ha _ _) | exact absurd rfl (ha2 _ _) | exact absurd rfl (ha3 _ _ _) | exact absurd rfl (ha4 _) | simp [binOp, he]
theorem run_nilEq (hP : ProgOk P c) {t : Nat} {a b : SV} {ns : List BE} {e : BE} (h : nilEq (c.ty t) a b = some (ns, e)) (hn : ∀ b ∈ ns, b.den ρ = true) (w : World) :
    (Op.equal t (a.den ρ β) (b.den ρ β)).run P w = .ok (e.den ρ) w ∧ (∀ l, a.den ρ β ≠ .agg l) ∧ (a.den ρ β ≠ .nilIface) ∧ (∀ k n, a.den ρ β ≠ .int k n) ∧ (∀ k n, a.den ρ β ≠ .float k n) ∧ (∀ k n m, a.den ρ β ≠ .complex k n m) ∧ (∀ s, a.den ρ β ≠ .string s) := by
  unfold nilEq at h
  split at h
  · rename_i el hty
    obtain ⟨i, hi, hi'⟩ := Ctx.ty_some hty
    have hty := (hP.tab t i hi).ty
    simp only [hi'] at hty
    split at h <;> simp only [Option.some.injEq, Prod.mk.injEq, reduceCtorEq] at h <;> obtain ⟨rfl, rfl⟩ := h
    · have h0 := hn _ (List.mem_singleton.2 rfl)
      simp only [BE.den, SV.den] at h0 ⊢
      generalize ρ.v.getD _ vd = x at *
      cases x <;> simp only [isKindV, Bool.false_eq_true] at h0
      rename_i ad n cap
      cases ad <;> simp [equal_slice_nil hty, isNilV]
    · simp [SV.den, BE.den, equal_slice_nil hty]
    · simp [SV.den, BE.den, equal_slice_nil hty]
  · rename_i hty
    obtain ⟨i, hi, hi'⟩ := Ctx.ty_some hty
    have hty := (hP.tab t i hi).ty
    simp only [hi'] at hty
    obtain ⟨p, r, vr, hty⟩ := hty
    split at h <;> simp only [Option.some.injEq, Prod.mk.injEq, reduceCtorEq] at h <;> obtain ⟨rfl, rfl⟩ := h
    · have h0 := hn _ (List.mem_singleton.2 rfl)
      simp only [BE.den, SV.den] at h0 ⊢
      generalize ρ.v.getD _ vd = x at *
      cases x <;> simp only [isKindV, Bool.false_eq_true] at h0
      · simp [equal_func_nil hty, isNilV]
      · simp [equal_nil_nil hty, isNilV]
    · simp [SV.den, BE.den, equal_func_nil hty]
    · simp [SV.den, BE.den, equal_nil_nil hty]
  · rename_i hty
    obtain ⟨i, hi, hi'⟩ := Ctx.ty_some hty
    have hty := (hP.tab t i hi).ty
    simp only [hi'] at hty
    split at h <;> simp only [Option.some.injEq, Prod.mk.injEq, reduceCtorEq] at h
    obtain ⟨rfl, rfl⟩ := h
    rename_i a b
    simp only [SV.den, or'_den, and'_den, not'_den]
    cases a.den ρ <;> cases b.den ρ <;> simp [equal_bool hty]
  · simp at h
theorem run_pvBin (hP : ProgOk P c) {op : BinOp} {t : Nat} {a b v : SV} {ns : List BE} (h : pvBin c op t a b = some (ns, v)) (hn : ∀ b ∈ ns, b.den ρ = true) (x y : Operand) (w : World) :
    ((eqGuard op t x y (a.den ρ β) (b.den ρ β) >>= fun _ => binOp op t (a.den ρ β) (b.den ρ β)) : Sem Value).run P w = .ok (v.den ρ β) w := by
  unfold pvBin at h
  split at h
  · rename_i ns' e hne
    split at h <;> simp only [Option.some.injEq, Prod.mk.injEq, reduceCtorEq] at h <;> obtain ⟨rfl, rfl⟩ := h
    all_goals
      obtain ⟨h1, h2, h3, h4, h5, h6, h7⟩ := run_nilEq (β := β) hP hne hn w
      simp only [Sem.run_bind, run_eqGuard_plain _ t x y h2 h3 w, Result.andThen_ok, SV.den, not'_den]
    · exact (run_binV_eq h4 h5 h6 h7 h1).1 rfl
    · exact (run_binV_eq h4 h5 h6 h7 h1).2 rfl
  · unfold binV at h
    split at h
    · rename_i k x1 k' y1
      split at h
      · rename_i hk
        subst hk
        have := run_intOp (P := P) h ρ β hn t w
        simp only [SV.den] at this ⊢
        simp only [Sem.run_bind, run_eqGuard_plain op t x y (a := .int _ _) (by simp) (by simp) w, Result.andThen_ok, this]
      · simp at h
    · rename_i l m
      split at h
      case h_2 => simp at h
      rename_i i hi
      split at h
      case isFalse => simp at h
      rename_i hieq
      obtain ⟨hg, heq⟩ := (hP.tab t i hi).eq hieq
      split at h <;> simp only [Option.some.injEq, Prod.mk.injEq, reduceCtorEq] at h <;> obtain ⟨rfl, rfl⟩ := h
      all_goals
        rename_i e he
        obtain ⟨zs, us, a1, a2, a3, a4, a5⟩ := eqCells_den ρ β _ _ _ _ he
        have h1 := heq w zs us a1 a2
        simp only [SV.den, a3, a4, Sem.run_bind, run_eqGuard_agg w _ t x y _ _ hg, Result.andThen_ok, not'_den, a5]
      · exact (run_binV_eq (by simp) (by simp) (by simp) (by simp) h1).1 rfl
      · exact (run_binV_eq (by simp) (by simp) (by simp) (by simp) h1).2 rfl
    · simp at h
/-- What an operation that only computes, or reads own cells, does: the executor's value, the world as it was. -/
theorem run_bound (v : Value) (n : Int) (y : Nat) (code : BoundsCode) (w : World) (hv : ∃ k, v = .int k n) (h : 0 ≤ n ∧ n ≤ (y : Int)) : (Instr.sliceBound v y code).run P w = .ok n.toNat w := by
  obtain ⟨k, rfl⟩ := hv
  simp [Instr.sliceBound, asIntOf, h]
theorem run_pv (hP : ProgOk P c) (hρ : ρ.Ok) {sl : List SV} {H : List Blk} {o : Oper} {v : SV} {ns : List BE} (h : pv c sl H o.op = some (ns, v)) (hn : ∀ b ∈ ns, b.den ρ = true)
    {a : Act} (ha : a.tmps = (SV.dens ρ β sl).toArray) {w : World} (hH : HOk ρ β H w) : (execOp a.eval o).run P w = .ok (.value (v.den ρ β)) w := by
  obtain ⟨dst, op, type, pos, after, guard⟩ := o
  simp only at h
  unfold pv at h
  split at h <;> simp only [execOp]
  · simp only [Option.map_eq_some_iff, Prod.mk.injEq] at h
    obtain ⟨s, h1, _, rfl⟩ := h
    simp [ev_den h1 ha]
  · simp only [Option.map_eq_some_iff, Prod.mk.injEq] at h
    obtain ⟨s, h1, _, rfl⟩ := h
    simp [ev_den h1 ha]
  · split at h
    case h_2 => simp at h
    rename_i k x y h1 h2 h3
    simp only [Option.some.injEq, Prod.mk.injEq] at h
    obtain ⟨_, rfl⟩ := h
    simp only [ev_den h1 ha, ev_den h2 ha, ev_den h3 ha, SV.den, BE.den]
    cases k <;> simp [asBool]
  · simp only [Option.map_eq_some_iff, Prod.mk.injEq] at h
    obtain ⟨s, h1, _, rfl⟩ := h
    have := run_build hP hρ h1 ha w
    simp [this]
  · split at h
    case h_2 => simp at h
    rename_i x h1
    simp only [Option.map_eq_some_iff, Prod.mk.injEq] at h
    obtain ⟨s, h2, _, rfl⟩ := h
    have := run_pvLoad hP h2 hH
    simp [ev_den h1 ha, this]
  · rename_i bop t x y yt
    split at h
    case h_2 => simp at h
    rename_i x' y' h1 h2
    have := run_pvBin (β := β) hP h hn x y w
    simp only [ev_den h1 ha, ev_den h2 ha]
    rw [Sem.run_bind, this]; rfl
  · split at h
    case h_2 => simp at h
    rename_i x h1
    have := run_pvUn (P := P) (β := β) (w := w) h hn
    simp [ev_den h1 ha, this]
  · split at h
    case h_2 => simp at h
    rename_i src _ _ _ _ x i h1 h2
    have hd : ∃ d, P.underlying src = some d := by
      have := (hP.tab _ _ h2).ty
      cases hi : i.ty <;> simp only [hi] at this
      case st => obtain ⟨f, h, _⟩ := this; exact ⟨_, h⟩
      case func => obtain ⟨p, r, v, h⟩ := this; exact ⟨_, h⟩
      case other => obtain ⟨d, h, _⟩ := this; exact ⟨_, h⟩
      all_goals exact ⟨_, this⟩
    have := run_pvConvert (β := β) (w := w) hP h hn hd
    simp [ev_den h1 ha, this]
  · split at h <;> simp only [Option.some.injEq, Prod.mk.injEq, reduceCtorEq] at h <;> obtain ⟨rfl, rfl⟩ := h
    all_goals rename_i h1; simp only [ev_den h1 ha]
    · have h0 := hn _ (List.mem_singleton.2 rfl)
      simp only [BE.den, SV.den] at h0 ⊢
      generalize ρ.v.getD _ vd = x at *
      cases x <;> simp only [isKindV, Bool.false_eq_true] at h0
      rename_i ad
      cases ad with
      | none => exact absurd h0 (by simp [isKindV])
      | some ad => simp [addrOf, Addr.add]
    all_goals simp [SV.den]
  · split at h
    case h_2 => simp at h
    rename_i x h1
    simp only [Option.map_eq_some_iff, Prod.mk.injEq] at h
    obtain ⟨s, h2, _, rfl⟩ := h
    have := run_pvFieldAddr (ρ := ρ) (β := β) (w := w) hP h2
    simp [ev_den h1 ha, this]
  · split at h
    case h_2 => simp at h
    rename_i x h1
    simp only [Option.map_eq_some_iff, Prod.mk.injEq] at h
    obtain ⟨s, h2, _, rfl⟩ := h
    have := run_pvField (ρ := ρ) (β := β) (w := w) hP h2
    simp [ev_den h1 ha, this]
  · split at h
    case h_2 => simp at h
    rename_i x i h1 h2
    have := run_pvIndex (β := β) (w := w) hP h hn
    simp [ev_den h1 ha, ev_den h2 ha, this]
  · split at h
    case h_2 => simp at h
    rename_i x i h1 h2
    have := run_pvIndexAddr (β := β) (w := w) hP hρ h hn
    simp [ev_den h1 ha, ev_den h2 ha, this]
  · split at h
    case h_2 => simp at h
    rename_i vs h1
    simp only [Option.map_eq_some_iff, Prod.mk.injEq] at h
    obtain ⟨s, h2, _, rfl⟩ := h
    simp [ev_den h1 ha, SV.den, Instr.extract, SV.dens_map, h2]
  · rename_i f first cap
    split at h
    case isFalse => simp at h
    rename_i hsz
    simp only [Option.map_eq_some_iff, Prod.mk.injEq] at h
    obtain ⟨s, h2, _, rfl⟩ := h
    have he := evs_den ha _ _ h2
    have h1 : first = #[] := Array.eq_empty_of_size_eq_zero hsz
    have h2' : cap.map a.eval = (SV.dens ρ β s).toArray := by rw [← he]; exact Array.ext' (by simp)
    simp [Instr.makeFunc, h1, h2', SV.den]
  · rename_i b args ts
    have main : ∀ vs, evs sl args.toList = some vs → args.map a.eval = (SV.dens ρ β vs).toArray := by
      intro vs hvs
      rw [← evs_den ha _ _ hvs]; exact Array.ext' (by simp)
    split at h
    · rename_i x t h1 h2
      split at h <;> simp only [Option.some.injEq, Prod.mk.injEq, reduceCtorEq] at h
      obtain ⟨rfl, rfl⟩ := h
      rename_i el ns e hty hs
      obtain ⟨i, hi, hi'⟩ := Ctx.ty_some hty
      have hty := (hP.tab _ i hi).ty
      simp only [hi'] at hty
      have h2' : ts = #[t] := by rw [← Array.toList_inj]; simpa using h2
      have hm := main _ h1
      simp only [resolve, hm, Sem.run_bind, Sem.run_pure, Result.andThen_ok, invoke, builtin, h2', Builtin.len_, SV.dens]
      cases x <;> simp only [slenOf, Option.some.injEq, reduceCtorEq, Prod.mk.injEq] at hs <;> obtain ⟨rfl, rfl⟩ := hs
      · have h0 := hn _ (List.mem_singleton.2 rfl)
        simp only [BE.den, SV.den, IE.den] at h0 ⊢
        generalize ρ.v.getD _ vd = x at *
        cases x <;> simp only [isKindV, Bool.false_eq_true] at h0
        simp [run_underlying hty, goInt, sliceLen]
      all_goals simp [run_underlying hty, SV.den, IE.den, goInt]
    · rename_i k x k' y h1
      simp only [Option.some.injEq, Prod.mk.injEq] at h
      obtain ⟨_, rfl⟩ := h
      have hm := main _ h1
      simp [resolve, hm, invoke, builtin, Builtin.min_, SV.dens, SV.den, Builtin.min2, IE.den, mnI]
    · rename_i k x k' y h1
      simp only [Option.some.injEq, Prod.mk.injEq] at h
      obtain ⟨_, rfl⟩ := h
      have hm := main _ h1
      simp [resolve, hm, invoke, builtin, Builtin.max_, SV.dens, SV.den, Builtin.max2, IE.den, mxI]
    · simp at h
  · rename_i t x hh
    split at h
    case h_2 => simp at h
    rename_i k n kd z e h1 h2 h3
    split at h
    case isFalse => simp at h
    rename_i hc
    simp only [Bool.and_eq_true, decide_eq_true_eq, Option.isSome_iff_exists] at hc
    obtain ⟨⟨⟨ie, hie⟩, hz0⟩, hzn⟩ := hc
    simp only [Option.some.injEq, Prod.mk.injEq] at h
    obtain ⟨_, rfl⟩ := h
    obtain ⟨ti, hti, hti'⟩ := Ctx.ty_some h3
    have hty := (hP.tab t ti hti).ty
    simp only [hti'] at hty
    have hb : (Instr.sliceBounds true n n none (some ((SV.int kd (.l z)).den ρ β)) none).run P w = .ok (0, z.toNat, n) w := by
      unfold Instr.sliceBounds
      simp [run_bound (P := P) ((SV.int kd (.l z)).den ρ β) z n _ w ⟨kd, rfl⟩ ⟨hz0, hzn⟩]
    have e2 : a.eval hh = (SV.int kd (.l z)).den ρ β := ev_den h2 ha
    simp only [ev_den h1 ha, Option.map_none, Option.map_some, e2]
    simp [SV.den, Instr.sliceAt, run_underlying hty, Instr.slice, run_sizeOf (hP.tab _ _ hie)]
    simp only [SV.den] at hb
    simp [hb, Addr.add]
  · simp at h
end
end Go.Sx
