/- SX: the loop over an iterator, within an iterator. -/
import Derived.Test.YtfbhgmnbndlipaaHSxY
namespace Go.Sx
open Go.RowKit
variable {P : Program}
section
variable {c : Ctx} {F : FuncId} {fn : FnC} {fnc : Func} {s : Hp} {B : Nat}

/-- What a round may lean on. -/
structure RoundKit (P : Program) (F : FuncId) (fn : FnC) (L : Nat) (L0 : Nat) (p : List Bool) (sp : Hp) (Bp : Nat) (R : Ending → World → Prop) (vals : Option (List Value)) (J Jb Jt Jf : (Nat → Prop) → World → Prop) : Prop where
  sj : StabJ J
  sb : StabJ Jb
  st : StabJ Jt
  sf : StabJ Jf
  begin : ∀ g' ρ', g'.todo = [.begin, .code (true :: p)] → GoesF P (F, some L) fn.body sp Bp R Jb { g' with todo := [.code (true :: p)] } ρ' → GoesF P (F, some L) fn.body sp Bp R J g' ρ'
  yld : ∀ g' ρ' gt gf m' avs v, yStep fn.body g' true = some (m', avs, gt) → yStep fn.body g' false = some (m', avs, gf) → ρ'.v.getD m' vd = yv L0 → (∀ β, SV.dens ρ' β avs = v) → vals = some v →
    GoesF P (F, some L) fn.body sp Bp R Jt gt ρ' → GoesF P (F, some L) fn.body sp Bp R Jf gf ρ' → GoesF P (F, some L) fn.body sp Bp R Jb g' ρ'
  last : ∀ g' ρ', g'.todo = [] → GoesF P (F, some L) fn.body sp Bp R Jt g' ρ'
  ret : ∀ g' ρ' q k', g'.todo = .code q :: k' → sub fn.body q = .ret → GoesF P (F, some L) fn.body sp Bp R Jf g' ρ'

/-- Where the iterator has not yielded yet: all blocks from B on are its own. -/
def GoesB (P : Program) (F : FuncId) (body : Code) (s : Hp) (B : Nat) (R : Ending → World → Prop) (J : (Nat → Prop) → World → Prop) (g : Cfg) (ρ : Env) (s' : Hp) : Prop :=
  ∀ β a w, RelI s B ρ β g a w → s.le s' → Sub s' w → New B s s' → J (fun i => B ≤ i ∧ i < w.heap.size) w → GoesG P (F, none) R body ρ β s g a w

theorem iter_ct1 (hP : ProgOk P c) (hc : c.leaf = true) (hf : P.funcs[F]? = some fnc) (hb : fnc.body = some fn.body) {ys : List (List Value)} {caps : List Value} {args : List SV} {is : List Int} {bs : List Bool} {vs : List Value} {Q : Value → Hp → Prop} (n : Nat)
    (hargs : ∀ L, SV.dens ⟨is, bs, yv L :: vs, []⟩ id args = yv L :: caps) (hok : vs.all fineV = true)
    (h : ∀ L JJ Z B, Yielder P L ys s JJ Z → VC P Q (fun g' ρ' s' => okStop g' = true ∧ GoesB P F fn.body s B (fun e w' => ∃ v, e = .returned v ∧ ∃ E, JJ ys.length E w' ∨ Z E w') (JJ 0) g' ρ' s')
      (run c fn n (startCfg fnc.ntmps args is.length bs.length (vs.length + 1))) ⟨is, bs, yv L :: vs, []⟩ s) : IterCt P F caps s ys := by
  intro L JJ Z w hY hj
  have hsub := hY.sub _ _ _ hj
  refine calls_of_goes hf hb ?_
  have hr : Rel w s {} ⟨is, bs, yv L :: vs, []⟩ s id (startCfg fnc.ntmps args is.length bs.length (vs.length + 1)) { tmps := (SV.dens ⟨is, bs, yv L :: vs, []⟩ id args).toArray ++ Array.replicate (fnc.ntmps - (SV.dens ⟨is, bs, yv L :: vs, []⟩ id args).toArray.size) undef, defers := [] } w := by
    refine ⟨?_, rfl, Nat.zero_le _, fun x hx => hx.elim, rfl, rfl, rfl, by simp [startCfg], rfl, ?_, Below.refl _ _, hsub, fun b o u h1 h2 => by rw [h1] at h2; simp at h2, Hp.le_refl _, fun k b hk => by simp [startCfg] at hk, fun j k bj bk _ hj => by simp [startCfg] at hj⟩
    · simp only [startCfg, dens_append, dens_replicate, List.size_toArray, dens_length]
      apply Array.ext'
      simp
    · intro x hx
      simp only [List.mem_cons] at hx
      rcases hx with rfl | hx
      · rfl
      · exact List.all_eq_true.1 hok x hx
  have key := runX_sound (c := c) (f := (F, none)) (X := {}) (R := fun e w' => ∃ v, e = .returned v ∧ ∃ E, JJ ys.length E w' ∨ Z E w') (w0 := w) (s0 := s) hP (.inl hc) (.inl rfl) (fun g' ρ' s' ht => ?_) n _ _ _ (h L JJ Z w.heap.size hY) id _ w hr
  · rw [hargs L] at key
    have e : (#[yv L] ++ caps.toArray : Array Value) = (yv L :: caps).toArray := by simp
    rw [e]
    exact key
  · intro β' a' w' h'
    refine goesG_congr (t := g') (ρ := ρ') (β := β') (s := s) rfl (okStop_head ht.1) ?_
    refine ht.2 β' a' w' (relI_of h' rfl rfl (okStop_shut ht.1) (Nat.le_refl _) (fun b o u hu => h'.sb b o u (h'.le b o u hu)) (fun b o u hu => hsub.lt hu)) h'.le h'.sb h'.nw ?_
    exact hY.stab 0 _ _ _ _ hj (Grows.of_below h'.bel) (fun i hi => ⟨.inr hi.1, _, Array.getElem?_eq_getElem hi.2⟩)
theorem goesB_ret {Q : Value → Hp → Prop} (hf : P.funcs[F]? = some fnc) (hres : fnc.results = #[]) {R : Ending → World → Prop} {J : (Nat → Prop) → World → Prop} {g : Cfg} {ρ : Env} {s' : Hp} (htd : g.todo = [] ∨ ∃ q k, g.todo = .code q :: k ∧ sub fn.body q = .ret)
    (hR : ∀ E w, J E w → R (.returned (.tuple #[])) w) : GoesB P F fn.body s B R J g ρ s' := by
  intro β a w hI _ _ _ hj
  exact goesI_ret (fn := fn) (J := fun _ w => J (fun i => B ≤ i ∧ i < w.heap.size) w) hf hres htd (fun E w h => hR _ w h) β a w hI hj

theorem goesB_range (hf : P.funcs[F]? = some fnc) (hres : fnc.results = #[])
    {L0 : Nat} {ys : List (List Value)} {JJ : Nat → (Nat → Prop) → World → Prop} {Z : (Nat → Prop) → World → Prop} (hY : Yielder P L0 ys s JJ Z) {g : Cfg} {ρ : Env} {p : List Bool} {bid : Nat} {gop : Operand} {ps : Array Tmp} {assign bodyc : Code}
    (hsub : sub fn.body p = .rangeFunc gop ps assign bodyc) (htd : g.todo = [.code p, .inBlock bid]) {m T : Nat} (hH : g.H = [.cells [.va m] T false]) (hm : ρ.v.getD m vd = yv L0)
    {n : Nat} (hev : ev g.sl gop = some (.va n)) {ys' : List (List Value)} {s' : Hp} (hseq : SeqIs P s' (ρ.v.getD n vd) ys') (hlen : ys'.length = ys.length)
    (yvs : List SV) (di db dv : Nat) (hyl : yvs.length = ps.toList.length) (hok : g.okB = true) (gp : Cfg)
    (hgp : gp = { todo := [.code (false :: p), .begin, .code (true :: p)], sl := setPs (cvt g.nv g.sl) ps.toList yvs, H := [], ni := g.ni + di, nb := g.nb + db, nv := g.nv + 1 + dv, nj := g.nj })
    (hcv : SV.oks g.ni g.nb (g.nv + 1) g.nj (fun _ => false) (cvt g.nv g.sl) = true)
    (round : ∀ (k : Nat) (args : List Value), ys'[k]? = some args → ∃ is' bs' vs', is'.length = di ∧ bs'.length = db ∧ vs'.length = dv ∧ vs'.all fineV = true ∧
      ∀ (b0 : Nat) (sp : Hp) (Bp L : Nat) (R : Ending → World → Prop) (J Jb Jt Jf : (Nat → Prop) → World → Prop), s'.le sp → sp b0 0 = some (yv L0) → RoundKit P F fn L L0 p sp Bp R (ys[k]?) J Jb Jt Jf →
        (∀ β, SV.dens ⟨ρ.i ++ is', ρ.b ++ bs', ρ.v ++ [.pointer (some ⟨b0, 0, none⟩)] ++ vs', ρ.j⟩ β yvs = args) ∧
        GoesF P (F, some L) fn.body sp Bp R J gp ⟨ρ.i ++ is', ρ.b ++ bs', ρ.v ++ [.pointer (some ⟨b0, 0, none⟩)] ++ vs', ρ.j⟩) :
    GoesB P F fn.body s B (fun e w' => ∃ v, e = .returned v ∧ ∃ E, JJ ys.length E w' ∨ Z E w') (JJ 0) g ρ s' := by
  intro β a w hI hss' hsw hnw hj
  have hst : ∀ k, StabJ (JJ k) := fun k => hY.stab k
  have hzst : StabJ Z := hY.zstab
  unfold GoesG
  rw [htd]
  show Goes P (F, none) _ (.code (sub fn.body p) :: [.inBlock bid]) a w
  rw [hsub]
  obtain ⟨F2, caps, hv, eg, hit⟩ := hseq
  have hadf : a.defers = [] := hI.rel.df
  have hb0 := hI.rel.bl 0 (.cells [.va m] T false) (by rw [hH]; rfl)
  rw [cutW_size hI.sz] at hb0
  simp only [BOk, SV.dens, SV.den, hm] at hb0
  have hbD : β 0 < w.heap.size := lt_of_heap hb0.2.1
  refine goes_rangeFunc (gf := F2) (lb := caps.toArray) (by rw [ev_den hev hI.rel.tm]; exact hv) eg ?_
  generalize hr0 : recOf F a.tmps ps assign bodyc w.heap.size .ready none = r0
  have r0fn : r0.fn = F := by rw [← hr0]; rfl
  have r0tmps : r0.tmps = a.tmps := by rw [← hr0]; rfl
  have r0ps : r0.params = ps := by rw [← hr0]; rfl
  have r0as : r0.assign = assign := by rw [← hr0]; rfl
  have r0body : r0.body = bodyc := by rw [← hr0]; rfl
  have r0st : r0.state = .ready := by rw [← hr0]; rfl
  have r0pe : r0.pending = none := by rw [← hr0]; rfl
  have hs1 : (w.alloc (.deferred (some []))).heap.size = w.heap.size + 1 := by simp
  have hw1 : Below w.heap.size w ((w.alloc (.deferred (some []))).alloc (.loop r0)) := ((Below.refl _ _).alloc (Nat.le_refl _) _).alloc (by rw [hs1]; omega) _
  have hD1 : ((w.alloc (.deferred (some []))).alloc (.loop r0)).heap[w.heap.size]? = some (.deferred (some [])) := by
    rw [Below.heap_alloc _ _ _ (by rw [hs1]; omega)]; exact World.alloc_heap_new _ _
  have hL1 : ((w.alloc (.deferred (some []))).alloc (.loop r0)).heap[w.heap.size + 1]? = some (.loop r0) := by
    rw [← hs1]; exact World.alloc_heap_new _ _
  have hbusy : ∀ (x : Loop), x = { r0 with state := .busy } → ({ x with state := if (none : Option Code).isNone then .ready else .done, pending := none } : Loop) = r0 := by
    rintro x rfl
    rw [← hr0]; rfl
  have hlow : ∀ b o u, s' b o = some u → b < w.heap.size := fun b o u hu => hsw.lt hu
  have hBD : B ≤ w.heap.size := hI.sz
  generalize hD : w.heap.size = D at *
  have hL1s : D + 2 ≤ ((w.alloc (.deferred (some []))).alloc (.loop r0)).heap.size := by have := lt_of_heap hL1; omega
  generalize (w.alloc (.deferred (some []))).alloc (.loop r0) = w1 at *
  generalize hb0e : β 0 = b0 at *
  have hj1 : Btw (JJ 0) B D w (.loop r0) noE w1 := by
    have hl : Laid B D w (.loop r0) w1 := ⟨fun i _ h2 => hw1.block i h2, by rw [hD]; exact Nat.le_refl _, hD1, hL1⟩
    refine ⟨hst 0 _ _ _ _ hj (Grows.of_below (by rw [hD]; exact hw1)) (fun i hi => ?_), hl, fun i hi => hi.elim, fun i hi => hi.elim⟩
    rcases hi with hi | hi
    · exact hi.elim
    · refine ⟨?_, hl.some hi⟩
      by_cases h1 : i < D
      · exact .inl ⟨hi.1, h1⟩
      · exact .inr (by omega)
  have hsubL : ∀ (w3 : World) (rec : Obj), Sub s w3 → Laid B D w rec w3 → Sub s' w3 := by
    intro w3 rec h1 h2 b o u hu
    cases hs : s b o with
    | some u' =>
      have := hss' b o u' hs
      rw [hu] at this
      simp only [Option.some.injEq] at this
      subst this
      exact h1 b o _ hs
    | none =>
      have hB := hnw b o u hu hs
      have hlt := hlow b o u hu
      rw [← hsw b o u hu]
      exact World.cell?_of_block (h2.b b hB hlt)
  have hYi : Yielder P (D + 1) ys' s' (fun k => Btw (JJ k) B D w (.loop r0)) (Btw Z B D w (.loop { r0 with state := .done, pending := some .ret })) := by
    refine ⟨fun k E w' h => hsubL _ _ (hY.sub _ _ _ h.j) h.laid, fun E w' h => hsubL _ _ (hY.zsub _ _ h.j) h.laid, fun k => Btw.stab (hst k) hBD, Btw.stab hzst hBD, ?_⟩
    intro k E' w2 args hargs hB
    obtain ⟨is', bs', vs', l1, l2, l3, hfv, hround⟩ := round k args hargs
    -- what is known in the round
    let sp : Hp := fun b o => if b = b0 ∧ o = 0 then some (yv L0) else s' b o
    have hssp : s'.le sp := fun b o u hu => by
      simp only [sp]
      by_cases he : b = b0 ∧ o = 0
      · obtain ⟨rfl, rfl⟩ := he
        have h1 := hsw _ _ _ hu
        simp [World.cell?, hb0.2.1] at h1
        simp [h1]
      · rw [if_neg he]; exact hu
    have hspb : sp b0 0 = some (yv L0) := by simp [sp]
    have hsub2 : ∀ (w3 : World) (rec : Obj), Sub s w3 → Laid B D w rec w3 → Sub sp w3 := by
      intro w3 rec h1 h2 b o u hu
      have hb3 : w3.heap[b0]? = some (.cells #[yv L0] T (0, 0)) := (h2.b b0 hb0.1 hbD).trans hb0.2.1
      simp only [sp] at hu
      split at hu
      · rename_i he
        obtain ⟨rfl, rfl⟩ := he
        simp only [Option.some.injEq] at hu
        subst hu
        simp [World.cell?, hb3]
      · exact hsubL w3 rec h1 h2 b o u hu
    have hspl : ∀ b o u, sp b o = some u → b < D + 2 := fun b o u hu => by
      simp only [sp] at hu
      split at hu
      · rename_i he; obtain ⟨rfl, _⟩ := he; omega
      · have := hlow b o u hu; omega
    let J := Rnd (JJ k) B D w (.loop r0) E' w2
    let Jb := Rnd (JJ k) B D w (.loop { r0 with state := .busy }) E' w2
    let Jt := Rnd (JJ (k + 1)) B D w (.loop { r0 with state := .busy }) E' w2
    let Jf := Rnd Z B D w (.loop { r0 with state := .busy }) E' w2
    let R : Ending → World → Prop := fun e w' => EKept E' w2 w' ∧ ((e = .returned (.bool true) ∧ Btw (JJ (k + 1)) B D w (.loop r0) E' w') ∨ (e = .returned (.bool false) ∧ Btw Z B D w (.loop { r0 with state := .done, pending := some .ret }) E' w'))
    have kit : RoundKit P F fn (D + 1) L0 p sp (D + 2) R (ys[k]?) J Jb Jt Jf := by
      refine ⟨Rnd.stab (hst k) hBD, Rnd.stab (hst k) hBD, Rnd.stab (hst (k + 1)) hBD, Rnd.stab hzst hBD, ?_, ?_, ?_, ?_⟩
      · intro g' ρ' htd' hgo β' a' w3 hI3 hj3
        unfold GoesG
        rw [htd']
        refine goes_beginRound (run_beginRound hj3.laid.l r0st) ?_
        have hj4 := hj3.turn (rec' := .loop { r0 with state := .busy }) (hst k) hBD hI3.ex
        have hI4 : RelI sp (D + 2) ρ' β' { g' with todo := [.code (true :: p)] } a' (w3.putObj (D + 1) (.loop { r0 with state := .busy })) := by
          have h5 := relI_move hI3 (w' := w3.putObj (D + 1) (.loop { r0 with state := .busy })) ⟨by simp, fun i hi => World.putObj_heap_other (fun he => (hj3.dis i hi).2 (by subst he; exact ⟨by omega, Nat.le_refl _⟩))⟩ (hsub2 _ _ (hY.sub _ _ _ hj4.j) hj4.laid)
          exact ⟨h5.sz, h5.lo, h5.rel.todo _⟩
        exact hgo β' a' _ hI4 hj4
      · intro g' ρ' gt gf m' avs v h1 h2 hmv hav hvals ht hf' β' a' w3 hI3 hj3
        obtain ⟨r, hLr, hsz, hgo⟩ := hY.call k _ w3 v hvals hj3.j
        unfold yStep at h1 h2
        split at h1
        case h_2 => simp at h1
        rename_i p' i is k' htd'
        split at h1
        case h_2 => simp at h1
        rename_i o ho
        split at h1
        case h_2 => simp at h1
        rename_i hg
        split at h1
        case h_2 => simp at h1
        rename_i fop args' ts hop
        split at h1
        case h_2 => simp at h1
        rename_i m2 avs2 hf2 ha2
        simp only [Option.some.injEq, Prod.mk.injEq] at h1
        obtain ⟨rfl, rfl, rfl⟩ := h1
        simp only [htd', ho, hg, hop, hf2, ha2, Option.some.injEq, Prod.mk.injEq, true_and] at h2
        subst h2
        unfold GoesG
        rw [htd']
        show Goes P (F, some (D + 1)) R (.inRegion (opsAt (sub fn.body p')) (i :: is) :: k'.map (itemOf fn.body)) a' w3
        have hargs' : args'.map a'.eval = v.toArray := by
          have := evs_den hI3.rel.tm _ _ ha2
          rw [hav β'] at this
          rw [← this]
          apply Array.ext'
          simp
        have hfv' : a'.eval fop = yv L0 := by rw [ev_den hf2 hI3.rel.tm]; exact hmv
        have hnd : isDefer o = false := by simp [isDefer, hop]
        refine goes_yield (fn := r.fn) (tmps := (r.params.zip v.toArray).foldl (fun tmps (t, a) => tmps.setIfInBounds t a) r.tmps) (assign := r.assign) (body := r.body) ho (.inr hnd) (guard_known hg hI3.rel.tm) ?_ (hgo.mono ?_)
        · simp only [execOp, hop, resolve, hargs', hfv', yv, Deferred.ofValue, Sem.run_bind, Sem.run_pure, Result.andThen_ok, invoke, Array.empty_append]
          exact run_yield hLr (by simpa using hsz)
        · rintro e w4 ⟨hk, hh⟩
          have hlaid := hj3.laid.keep hBD (w' := w4) (fun i hi => hk.2 i (.inr (.inr hi)))
          have hkeptE : ∀ i, E' i → w4.heap[i]? = w2.heap[i]? ∧ i < w2.heap.size ∧ ¬ own3 B D i := fun i hi => ⟨(hk.2 i (.inr (.inl hi))).trans (hj3.kept i hi).1, (hj3.kept i hi).2⟩
          have hmove : ∀ (hsb : Sub s w4) (b : Bool), RelI sp (D + 2) ρ' β' { g' with todo := .reg p' is :: k', sl := putSV g'.sl o.dst (.bool (.t b)) } (a'.put o.dst (.bool b)) w4 := fun hsb b => by
            have h5 := relI_move hI3 (w' := w4) ⟨hk.1, fun i hi => hk.2 i (.inl hi)⟩ (hsub2 _ _ hsb hlaid)
            exact ⟨h5.sz, h5.lo, (h5.rel.put o.dst (.bool (.t b))).todo _⟩
          rcases hh with ⟨rfl, hj4⟩ | ⟨rfl, hz4⟩
          · exact ⟨_, rfl, ht β' _ w4 (hmove (hY.sub _ _ _ hj4) true) ⟨hj4, hlaid, Nat.le_trans hj3.sz hk.1, hkeptE, hj3.dis⟩⟩
          · exact ⟨_, rfl, hf' β' _ w4 (hmove (hY.zsub _ _ hz4) false) ⟨hz4, hlaid, Nat.le_trans hj3.sz hk.1, hkeptE, hj3.dis⟩⟩
      · intro g' ρ' htd' β' a' w3 hI3 hj3
        unfold GoesG
        rw [htd']
        refine goes_roundEnd (run_endRound none hj3.laid.l) ?_
        rw [hbusy _ rfl]
        have hj4 := hj3.turn (rec' := .loop r0) (hst (k + 1)) hBD hI3.ex
        obtain ⟨q1, q2⟩ := hj4.over (hst (k + 1))
        exact ⟨q1, .inl ⟨rfl, q2⟩⟩
      · intro g' ρ' q k' htd' hq β' a' w3 hI3 hj3
        unfold GoesG
        rw [htd']
        show Goes P _ _ (.code (sub fn.body q) :: k'.map (itemOf fn.body)) a' w3
        rw [hq]
        refine goes_roundRet (run_endRound (some .ret) hj3.laid.l) ?_
        have hj4 := hj3.turn (rec' := .loop { r0 with state := .done, pending := some .ret }) hzst hBD hI3.ex
        obtain ⟨q1, q2⟩ := hj4.over hzst
        exact ⟨q1, .inr ⟨rfl, q2⟩⟩
    obtain ⟨hyv, hgo⟩ := hround b0 sp (D + 2) (D + 1) R J Jb Jt Jf hssp hspb kit
    have hal : args.length = ps.toList.length := by rw [← hyv id, SV.dens_map, List.length_map, hyl]
    refine ⟨r0, hB.laid.l, by rw [r0ps, ← Array.length_toList]; exact hal, ?_⟩
    have hsz2 : D + 2 ≤ w2.heap.size := by have := lt_of_heap hB.laid.l; omega
    -- the round's frame
    have hT0 : a.tmps = (SV.dens ⟨ρ.i ++ is', ρ.b ++ bs', ρ.v ++ [.pointer (some ⟨b0, 0, none⟩)] ++ vs', ρ.j⟩ id (cvt g.nv g.sl)).toArray := by
      have e1 := cvt_den (β := β) (β' := id) (kf := g.kf) hI.rel.ci hI.rel.cb hI.rel.cv hI.rel.cj g.sl (okB_sl hok) hcv
      rw [hb0e] at e1
      rw [hI.rel.tm, ← e1]
      have hle : Env.Le g.ni g.nb (g.nv + 1) g.nj (ρ.push [] [] [.pointer (some ⟨b0, 0, none⟩)]) ⟨ρ.i ++ is', ρ.b ++ bs', ρ.v ++ [.pointer (some ⟨b0, 0, none⟩)] ++ vs', ρ.j⟩ := by
        have := Env.le_push (ρ.push [] [] [.pointer (some ⟨b0, 0, none⟩)]) is' bs' vs'
        simp only [Env.push, List.append_nil, List.length_append, List.length_cons, List.length_nil, hI.rel.ci, hI.rel.cb, hI.rel.cv, hI.rel.cj] at this ⊢
        exact this
      rw [SV.dens_le hle (β := id) (β' := id) (kf := fun _ => false) (fun _ _ => rfl) _ hcv]
    have htm : (ps.zip args.toArray).foldl (fun tmps (x : Tmp × Value) => tmps.setIfInBounds x.1 x.2) a.tmps = (SV.dens ⟨ρ.i ++ is', ρ.b ++ bs', ρ.v ++ [.pointer (some ⟨b0, 0, none⟩)] ++ vs', ρ.j⟩ id (setPs (cvt g.nv g.sl) ps.toList yvs)).toArray := by
      rw [← setPs_den _ _ ps.toList yvs (cvt g.nv g.sl) a.tmps hT0, ← Array.foldl_toList, Array.toList_zip, hyv id]
    have hB2 : (cutW w2 (D + 2)).heap.size = D + 2 := cutW_size hsz2
    have hown2 : ∀ (E : Nat → Prop), E = ownE ⟨ρ.i ++ is', ρ.b ++ bs', ρ.v ++ [.pointer (some ⟨b0, 0, none⟩)] ++ vs', ρ.j⟩ id gp.H → ∀ i, ¬ E i := by
      rintro E rfl i ⟨k', b, hk, _⟩
      rw [hgp] at hk; simp at hk
    have hI2 : RelI sp (D + 2) ⟨ρ.i ++ is', ρ.b ++ bs', ρ.v ++ [.pointer (some ⟨b0, 0, none⟩)] ++ vs', ρ.j⟩ id gp { tmps := (ps.zip args.toArray).foldl (fun tmps (x : Tmp × Value) => tmps.setIfInBounds x.1 x.2) a.tmps, defers := [] } w2 := by
      refine ⟨hsz2, hspl, ⟨?_, rfl, Nat.le_refl _, fun x hx => ⟨hx.2.2, fun k' b hk => ?_, fun o => ?_⟩, ?_, ?_, ?_, ?_, ?_, ?_, ?_, hsub2 _ _ (hY.sub _ _ _ hB.j) hB.laid, fun b o u h1 h2 => by rw [h1] at h2; simp at h2, Hp.le_refl _, fun k' b hk => ?_, fun j' k' bj bk _ hj' => ?_⟩⟩
      · rw [hgp]; exact htm
      · rw [hgp] at hk; simp at hk
      · cases hs' : sp x.1 o with
        | none => rfl
        | some u => have := hspl _ _ _ hs'; have := hx.1; omega
      · rw [hgp]; rfl
      · rw [hgp]; simp [hI.rel.ci, l1]
      · rw [hgp]; simp [hI.rel.cb, l2]
      · rw [hgp]; simp [hI.rel.cv, l3]; omega
      · rw [hgp]; exact hI.rel.cj
      · intro x hx
        simp only [List.mem_append, List.mem_singleton] at hx
        rcases hx with (hx | rfl) | hx
        · exact hI.rel.ok x hx
        · rfl
        · exact List.all_eq_true.1 hfv x hx
      · rw [hB2]; exact cutW_below hsz2
      · rw [hgp] at hk; simp at hk
      · rw [hgp] at hj'; simp at hj'
    have hJ2 : J (ownE ⟨ρ.i ++ is', ρ.b ++ bs', ρ.v ++ [.pointer (some ⟨b0, 0, none⟩)] ++ vs', ρ.j⟩ id gp.H) w2 := by
      have hno := hown2 _ rfl
      have hexE : ∀ i, E' i ∨ own3 B D i → ∃ x, w2.heap[i]? = some x := fun i hi => hi.elim (hB.ex i) hB.laid.some
      refine ⟨hst k _ _ _ _ hB.j (Grows.refl _ _) (fun i hi => ?_), hB.laid, Nat.le_refl _, fun i hi => ⟨rfl, ?_, hB.dis i hi⟩, fun i hi => absurd hi (hno i)⟩
      · rcases hi with hi | hi
        · exact absurd hi (hno i)
        · exact ⟨.inl hi, hexE i hi⟩
      · obtain ⟨x, hx⟩ := hexE i (.inl hi); exact lt_of_heap hx
    have := hgo id _ w2 hI2 hJ2
    unfold GoesG at this
    rw [hgp] at this
    simp only [List.map_cons, List.map_nil, itemOf] at this
    have e1 : sub fn.body (false :: p) = assign := by simp [sub, hsub, child]
    have e2 : sub fn.body (true :: p) = bodyc := by simp [sub, hsub, child]
    rw [e1, e2] at this
    subst hr0
    exact this
  refine (hit (D + 1) _ _ w1 hYi hj1).mono ?_
  have hfin : ∀ (JJ' : (Nat → Prop) → World → Prop) (hs' : StabJ JJ') (E : Nat → Prop) (w' : World) (rec : Loop), Btw JJ' B D w (.loop rec) E w' → (∀ w'' E', JJ' E' w'' → ∃ E, JJ ys.length E w'' ∨ Z E w'') →
      ∀ (rec' : Loop) (td : List Item), (td = [] ∨ ∃ k, td = .code .ret :: k) → Goes P (F, none) (fun e w' => ∃ v, e = .returned v ∧ ∃ E, JJ ys.length E w' ∨ Z E w') td { a with defers := markOf D :: a.defers } (w'.putObj (D + 1) (.loop rec')) := by
    intro JJ' hs' E w' rec hB hto rec' td htd'
    have hlaid := hB.laid.turn (rec' := .loop rec')
    refine goes_retMarks (Ds := [D]) (v := .tuple #[]) htd' hf (by rw [hadf]; rfl) (by simp) (fun D' hD' => by rw [List.mem_singleton.1 hD']; exact hlaid.d) (by rw [results_eq, hres]; simp) ⟨_, rfl, ?_⟩
    simp only [shutMarks]
    refine hto _ (fun i => E i ∨ own3 B D i) (hs' _ _ _ _ (hs' _ _ _ _ hB.j (Grows.put (.inr ⟨by omega, Nat.le_refl _⟩)) (fun i hi => ⟨.inl hi, ?_⟩)) (Grows.put (.inr ⟨hBD, by omega⟩)) (fun i hi => ⟨.inl hi, ?_⟩))
    all_goals
      have : ∃ x, w'.heap[i]? = some x := by
        rcases hi with hi | hi
        · exact hB.ex i hi
        · exact hB.laid.some hi
      obtain ⟨x, hx⟩ := this
      have hlt := lt_of_heap hx
    · exact ⟨_, Array.getElem?_eq_getElem (show i < (w'.putObj (D + 1) (.loop rec')).heap.size by rw [World.putObj_size]; exact hlt)⟩
    · exact ⟨_, Array.getElem?_eq_getElem (show i < ((w'.putObj (D + 1) (.loop rec')).putObj D (.deferred none)).heap.size by rw [World.putObj_size, World.putObj_size]; exact hlt)⟩
  rintro e w' ⟨v, rfl, E, hJ | hZ⟩
  · refine ⟨v, rfl, none, w'.putObj (D + 1) (.loop { r0 with state := .exhausted }), ?_, ?_⟩
    · have := run_endLoop (P := P) hJ.laid.l (by rw [r0st]; simp)
      simp only [r0pe] at this ⊢
      exact this
    · simp only [Option.map_none, Option.toList_none, List.nil_append]
      exact Goes.step (todo' := []) (fun cs => .one stepR_inBlock) (hfin (JJ ys'.length) (hst _) E w' r0 hJ (fun w'' E' h => ⟨E', .inl (by rw [← hlen]; exact h)⟩) _ [] (.inl rfl))
  · refine ⟨v, rfl, some .ret, w'.putObj (D + 1) (.loop { r0 with state := .exhausted, pending := some .ret }), ?_, ?_⟩
    · exact run_endLoop (P := P) hZ.laid.l (by simp)
    · exact hfin Z hzst E w' _ hZ (fun w'' E' h => ⟨E', .inr h⟩) _ _ (.inr ⟨_, rfl⟩)
end

def drawn : Code → Bool | .region _ _ true => true | _ => false
theorem drawn_spec {c : Code} (h : drawn c = true) : ∃ id ops, c = .region id ops true := by
  unfold drawn at h
  split at h
  · exact ⟨_, _, rfl⟩
  · simp at h
theorem goesF_orders {c : Ctx} {f : Fr} {fn : FnC} {s : Hp} {B : Nat} {R : Ending → World → Prop} {J : (Nat → Prop) → World → Prop} (hP : ProgOk P c) (hJ : StabJ J) {g : Cfg} {ρ : Env} {p : List Bool} {k : List PI} (htd : g.todo = .code p :: k) (hs : drawn (sub fn.body p) = true)
    (h : ∀ l ∈ ordersOf (opsAt (sub fn.body p)), GoesF P f fn.body s B R J { g with todo := .reg p l :: k } ρ) : GoesF P f fn.body s B R J g ρ := by
  obtain ⟨id, ops, he⟩ := drawn_spec hs
  refine goesF_brute hP hJ htd he ?_
  rw [he] at h
  exact h
end Go.Sx
