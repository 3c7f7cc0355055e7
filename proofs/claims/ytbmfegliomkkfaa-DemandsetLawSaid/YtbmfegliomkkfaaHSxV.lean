/- SX: the walk through an iterator. -/
import Derived.Test.YtbmfegliomkkfaaHSxU
namespace Go.Sx
open Go.RowKit
variable {P : Program}

/-- The world's first blocks alone. -/
def cutW (w : World) (B : Nat) : World := { w with heap := w.heap.extract 0 B }
theorem cutW_size {w : World} {B : Nat} (h : B ≤ w.heap.size) : (cutW w B).heap.size = B := by simp [cutW]; omega
theorem cutW_below {w : World} {B : Nat} (h : B ≤ w.heap.size) : Below B (cutW w B) w :=
  ⟨rfl, rfl, rfl, by simp [cutW]; omega, fun k hk => by simp [cutW, Array.getElem?_extract]; omega⟩

def ownE (ρ : Env) (β : Nat → Nat) (H : List Blk) : Nat → Prop := fun i => ∃ k b, H[k]? = some b ∧ act ρ b ∧ β k = i
def XB (w : World) (B : Nat) (E : Nat → Prop) : Fx := { K := fun x => B ≤ x.1 ∧ ¬ E x.1 ∧ w.heap[x.1]? = some x.2, sz := w.heap.size }
def noShut (H : List Blk) : Bool := H.all fun b => match b with | .cells _ _ sh => !sh | _ => true
theorem noShut_get {H : List Blk} (h : noShut H = true) {k : Nat} {cs : List SV} {T : Nat} {sh : Bool} (hk : H[k]? = some (.cells cs T sh)) : sh = false := by
  have := List.all_eq_true.1 h _ (List.mem_of_getElem? hk)
  simpa using this

/-- What the iterator knows of the world, whatever the rounds did. -/
structure RelI (s : Hp) (B : Nat) (ρ : Env) (β : Nat → Nat) (g : Cfg) (a : Act) (w : World) : Prop where
  sz : B ≤ w.heap.size
  lo : ∀ b o u, s b o = some u → b < B
  rel : Rel (cutW w B) s (XB w B (ownE ρ β g.H)) ρ s β g a w

theorem relI_of {w0 : World} {s0 : Hp} {X : Fx} {ρ : Env} {s s1 : Hp} {β : Nat → Nat} {g : Cfg} {a : Act} {w : World} {B : Nat} (h : Rel w0 s0 X ρ s1 β g a w) (hd : X.ds = []) (hz : X.zs = []) (hns : noShut g.H = true) (hsz : B ≤ w0.heap.size)
    (hsub : Sub s w) (hlo : ∀ b o u, s b o = some u → b < B) : RelI s B ρ β g a w := by
  have hB : B ≤ w.heap.size := Nat.le_trans hsz h.bel.size
  have hnone : ∀ i, B ≤ i → ∀ o, s i o = none := fun i hi o => by
    cases hs : s i o with
    | none => rfl
    | some u => have := hlo _ _ _ hs; omega
  refine ⟨hB, hlo, ⟨h.tm, h.df.trans hd, Nat.le_refl _, fun x hx => ?_, ?_, h.ci, h.cb, h.cv, h.cj, h.ok, ?_, hsub, fun b o u h1 h2 => by rw [h1] at h2; simp at h2, Hp.le_refl _, fun k b hk => ?_, h.sp⟩⟩
  · obtain ⟨h1, h2, h3⟩ := hx
    exact ⟨h3, fun k b hk hb he => h2 ⟨k, b, hk, hb, he⟩, hnone _ h1⟩
  · have := h.fs; rw [hz] at this; exact this
  · rw [cutW_size hB]; exact cutW_below hB
  · have hb := h.bl k b hk
    rw [cutW_size hB]
    cases b with
    | cells cs T sh =>
      simp only [BOk] at hb ⊢
      refine ⟨by omega, hb.2.1, fun _ => hnone _ (by omega), fun hf => ?_⟩
      rw [noShut_get hns hk] at hf; simp at hf
    | row n T size =>
      simp only [BOk] at hb ⊢
      refine ⟨hb.1, hb.2.imp id ?_⟩
      rintro ⟨m, cap, cur, c1, c2, c3, c4, c5, c6, c7⟩
      exact ⟨m, cap, cur, c1, by omega, c3, c4, c5, c6, fun o u hu => by rw [hnone _ (by omega)] at hu; simp at hu⟩

theorem relI_move {s : Hp} {B : Nat} {ρ : Env} {β : Nat → Nat} {g : Cfg} {a : Act} {w w' : World} (h : RelI s B ρ β g a w) (hk : EKept (ownE ρ β g.H) w w') (hsub : Sub s w') : RelI s B ρ β g a w' := by
  have hB : B ≤ w'.heap.size := Nat.le_trans h.sz hk.1
  have hr := h.rel
  have hnone : ∀ i, B ≤ i → ∀ o, s i o = none := fun i hi o => by
    cases hs : s i o with
    | none => rfl
    | some u => have := h.lo _ _ _ hs; omega
  refine ⟨hB, h.lo, ⟨hr.tm, hr.df, Nat.le_refl _, fun x hx => ?_, hr.fs, hr.ci, hr.cb, hr.cv, hr.cj, hr.ok, ?_, hsub, fun b o u h1 h2 => by rw [h1] at h2; simp at h2, Hp.le_refl _, fun k b hb => ?_, hr.sp⟩⟩
  · obtain ⟨h1, h2, h3⟩ := hx
    exact ⟨h3, fun k b hk hb he => h2 ⟨k, b, hk, hb, he⟩, hnone _ h1⟩
  · rw [cutW_size hB]; exact cutW_below hB
  · have hbl := hr.bl k b hb
    rw [cutW_size h.sz] at hbl
    rw [cutW_size hB]
    cases b with
    | cells cs T sh =>
      simp only [BOk] at hbl ⊢
      exact ⟨hbl.1, by rw [hk.2 _ ⟨k, _, hb, trivial, rfl⟩]; exact hbl.2.1, hbl.2.2⟩
    | row n T size =>
      simp only [BOk] at hbl ⊢
      refine ⟨hbl.1, hbl.2.imp id ?_⟩
      rintro ⟨m, cap, cur, c1, c2, c3, c4, c5, c6, c7⟩
      exact ⟨m, cap, cur, c1, c2, by rw [hk.2 _ ⟨k, _, hb, by show ρ.v.getD n vd ≠ _; rw [c1]; simp, rfl⟩]; exact c3, c4, c5, c6, c7⟩

theorem relI_seg {s : Hp} {B : Nat} {ρ : Env} {β : Nat → Nat} {g : Cfg} {a : Act} {w : World} (h0 : RelI s B ρ β g a w) {ρ' : Env} {s' : Hp} {β' : Nat → Nat} {g' : Cfg} {a' : Act} {w' : World}
    (h : Rel (cutW w B) s (XB w B (ownE ρ β g.H)) ρ' s' β' g' a' w') : Grows (ownE ρ β g.H) w w' ∧ ENew (ownE ρ β g.H) (ownE ρ' β' g'.H) w w' := by
  have hbel := h.bel
  rw [cutW_size h0.sz] at hbel
  have hkp : ∀ i o, B ≤ i → ¬ ownE ρ β g.H i → w.heap[i]? = some o → Kept s' ρ' β' g'.H w' (i, o) := fun i o h1 h2 h3 => h.kp (i, o) ⟨h1, h2, h3⟩
  refine ⟨⟨hbel.os, hbel.tape, hbel.output, h.sz, fun k hk hE => ?_⟩, fun i hi => ?_⟩
  · rcases Nat.lt_or_ge k B with h1 | h1
    · rw [hbel.block k h1, (cutW_below h0.sz).block k h1]
    · obtain ⟨o, ho⟩ : ∃ o, w.heap[k]? = some o := ⟨_, Array.getElem?_eq_getElem hk⟩
      rw [ho]; exact (hkp k o h1 hE ho).is
  · obtain ⟨k, b, hk, hb, rfl⟩ := hi
    have hbl := h.bl k b hk
    rw [cutW_size h0.sz] at hbl
    have hex : B ≤ β' k ∧ ∃ o, w'.heap[β' k]? = some o := by
      cases b with
      | cells cs T sh => exact ⟨hbl.1, _, hbl.2.1⟩
      | row n T size =>
        simp only [BOk] at hbl
        rcases hbl.2 with c | ⟨m, cap, cur, c1, c2, c3, _⟩
        · exact absurd c hb
        · exact ⟨c2, _, c3⟩
    refine ⟨?_, hex.2⟩
    rcases Nat.lt_or_ge (β' k) w.heap.size with h1 | h1
    · by_cases hE : ownE ρ β g.H (β' k)
      · exact .inl hE
      · obtain ⟨o, ho⟩ : ∃ o, w.heap[β' k]? = some o := ⟨_, Array.getElem?_eq_getElem h1⟩
        exact absurd rfl ((hkp _ o hex.1 hE ho).own k b hk hb)
    · exact .inr h1

section
variable (P : Program) (F : FuncId) (body : Code) (s : Hp) (B : Nat) (R : Ending → World → Prop)
/-- The iterator goes on from g, the world being as J says. -/
def GoesI (J : (Nat → Prop) → World → Prop) (g : Cfg) (ρ : Env) : Prop := ∀ β a w, RelI s B ρ β g a w → J (ownE ρ β g.H) w → GoesG P (F, none) R body ρ β s g a w
end

def StabJ (J : (Nat → Prop) → World → Prop) : Prop := ∀ E E' w w', J E w → Grows E w w' → ENew E E' w w' → J E' w'
theorem Grows.refl (E : Nat → Prop) (w : World) : Grows E w w := ⟨rfl, rfl, rfl, Nat.le_refl _, fun _ _ _ => rfl⟩

section
variable {c : Ctx} {F : FuncId} {fn : FnC} {s : Hp} {B : Nat} {R : Ending → World → Prop} {J : (Nat → Prop) → World → Prop} {Q : Value → Hp → Prop}

def okStop (g : Cfg) : Bool := noShut g.H && match g.todo with | .dreg _ _ _ :: _ => false | _ => true
theorem okStop_head {g : Cfg} (h : okStop g = true) : ∀ p d ks k, g.todo ≠ .dreg p d ks :: k := by
  intro p d ks k he
  simp [okStop, he] at h
theorem okStop_shut {g : Cfg} (h : okStop g = true) : noShut g.H = true := by
  simp only [okStop, Bool.and_eq_true] at h; exact h.1

theorem goesI_run (hP : ProgOk P c) (hc : c.leaf = true) (hJ : StabJ J) (n : Nat) {g : Cfg} {ρ : Env}
    (h : VC P Q (fun g' ρ' _ => okStop g' = true ∧ GoesI P F fn.body s B R J g' ρ') (run c fn n g) ρ s) : GoesI P F fn.body s B R J g ρ := by
  intro β a w hI hj
  refine runX_sound hP (.inl hc) (.inl rfl) (fun g' ρ' s' ht => ?_) n g ρ s h β a w hI.rel
  intro β' a' w' h'
  obtain ⟨e1, e2⟩ := relI_seg hI h'
  refine goesG_congr (t := g') (ρ := ρ') (β := β') (s := s) rfl (okStop_head ht.1) ?_
  exact ht.2 β' a' w' (relI_of h' rfl rfl (okStop_shut ht.1) (by rw [cutW_size hI.sz]; exact Nat.le_refl _) (fun b o u hu => h'.sb b o u (h'.le b o u hu)) hI.lo) (hJ _ _ _ _ hj e1 e2)

theorem goesI_fit (hJ : StabJ J) {t : Cfg} {A : Asg} {g : Cfg} {ρ : Env} (hfit : Sx.fits ⟨0, 0, 0, 0⟩ A t g = true) (hns : noShut t.H = true) (hhead : ∀ p d ks k, t.todo ≠ .dreg p d ks :: k)
    (h : ∀ js, js.length = A.js.length → GoesI P F fn.body s B R J t ⟨A.is.map (IE.den ρ), A.bs.map (BE.den ρ), SV.dens ρ id A.vs, js⟩) : GoesI P F fn.body s B R J g ρ := by
  intro β a w hI hj
  obtain ⟨hr', htd⟩ := hI.rel.fits hfit
  obtain ⟨_, e2⟩ := relI_seg hI hr'
  have hI' := relI_of hr' rfl rfl hns (B := B) (by rw [cutW_size hI.sz]; exact Nat.le_refl _) hI.rel.sb hI.lo
  rw [asg_zero hfit] at hI' e2
  exact goesG_congr htd hhead (h _ (by simp [dens_length]) β a w hI' (hJ _ _ _ _ hj (Grows.refl _ _) e2))

theorem Goes.mono {f : Fr} {R R' : Ending → World → Prop} {todo : List Item} {a : Act} {w : World} (h : Goes P f R todo a w) (hr : ∀ e w', R e w' → R' e w') : Goes P f R' todo a w := fun cs hcs => by
  obtain ⟨e, w', m, r, x⟩ := h cs hcs
  exact ⟨e, w', m, hr _ _ r, x⟩

theorem goesI_yield {L : Nat} {ys : List (List Value)} {JJ : Nat → (Nat → Prop) → World → Prop} {Z : (Nat → Prop) → World → Prop} (hY : Yielder P L ys s JJ Z) {g : Cfg} {ρ : Env} {p : List Bool} {i : Nat} {is : List Nat} {k : List PI}
    (htd : g.todo = .reg p (i :: is) :: k) {o : Oper} (ho : (opsAt (sub fn.body p))[i]? = some o) (hg : guardOf (opsAt (sub fn.body p)) g.sl o = .known true) {fop : Operand} {args : Array Operand} {ts : Array Nat} (hop : o.op = .call { callee := .value fop, args, argTypes := ts })
    {m : Nat} (hf : ev g.sl fop = some (.va m)) (hm : ρ.v.getD m vd = yv L) {avs : List SV} (ha : evs g.sl args.toList = some avs) {kk : Nat} {vals : List Value} (hv : ∀ β, SV.dens ρ β avs = vals) (hys : ys[kk]? = some vals)
    (ht : GoesI P F fn.body s B R (JJ (kk + 1)) { g with todo := .reg p is :: k, sl := putSV g.sl o.dst (.bool (.t true)) } ρ)
    (hz : GoesI P F fn.body s B R Z { g with todo := .reg p is :: k, sl := putSV g.sl o.dst (.bool (.t false)) } ρ) : GoesI P F fn.body s B R (JJ kk) g ρ := by
  intro β a w hI hj
  obtain ⟨r, hL, hsz, hgo⟩ := hY.call kk _ w vals hys hj
  have hsub' : ∀ w', JJ (kk + 1) (ownE ρ β g.H) w' → Sub s w' := fun w' hw => hY.sub _ _ _ hw
  unfold GoesG
  rw [htd]
  show Goes P (F, none) R (.inRegion (opsAt (sub fn.body p)) (i :: is) :: k.map (itemOf fn.body)) a w
  have hargs : args.map a.eval = vals.toArray := by
    have := evs_den hI.rel.tm _ _ ha
    rw [hv β] at this
    rw [← this]
    apply Array.ext'
    simp
  have hfv : a.eval fop = yv L := by rw [ev_den hf hI.rel.tm]; exact hm
  refine goes_yield (fn := r.fn) (tmps := (r.params.zip vals.toArray).foldl (fun tmps (t, a) => tmps.setIfInBounds t a) r.tmps) (assign := r.assign) (body := r.body) ho (.inl rfl) (guard_known hg hI.rel.tm) ?_ (hgo.mono ?_)
  · simp only [execOp, hop, resolve, hargs, hfv, yv, Deferred.ofValue, Sem.run_bind, Sem.run_pure, Result.andThen_ok, invoke, Array.empty_append]
    exact run_yield hL (by simpa using hsz)
  · rintro e w' ⟨hk, ⟨rfl, hj'⟩ | ⟨rfl, hz'⟩⟩
    · refine ⟨_, rfl, ?_⟩
      have h1 := relI_move hI hk (hsub' w' hj')
      have h2 : RelI s B ρ β { g with todo := .reg p is :: k, sl := putSV g.sl o.dst (.bool (.t true)) } (a.put o.dst (.bool true)) w' := ⟨h1.sz, h1.lo, (h1.rel.put o.dst (.bool (.t true))).todo _⟩
      exact ht β _ w' h2 hj'
    · refine ⟨_, rfl, ?_⟩
      have h1 := relI_move hI hk (hY.zsub _ _ hz')
      have h2 : RelI s B ρ β { g with todo := .reg p is :: k, sl := putSV g.sl o.dst (.bool (.t false)) } (a.put o.dst (.bool false)) w' := ⟨h1.sz, h1.lo, (h1.rel.put o.dst (.bool (.t false))).todo _⟩
      exact hz β _ w' h2 hz'

/-- The iterator returns. -/
theorem goesI_ret {fnc : Func} (hf : P.funcs[F]? = some fnc) (hres : fnc.results = #[]) {g : Cfg} {ρ : Env} (htd : g.todo = [] ∨ ∃ q k, g.todo = .code q :: k ∧ sub fn.body q = .ret)
    (hR : ∀ E w, J E w → R (.returned (.tuple #[])) w) : GoesI P F fn.body s B R J g ρ := by
  intro β a w hI hj
  have hr : (results fnc a.tmps).run P w = .ok (.tuple #[]) w := by
    rw [results_eq, hres]; simp
  unfold GoesG
  rcases htd with htd | ⟨q, k, htd, hq⟩
  · rw [htd]
    exact goes_ret (.inl rfl) hf hI.rel.df hr (hR _ _ hj)
  · rw [htd]
    exact goes_ret (.inr ⟨k.map (itemOf fn.body), by simp [itemOf, hq]⟩) hf hI.rel.df hr (hR _ _ hj)

/-- An iterator's contract. -/
theorem iter_ct {fnc : Func} (hf : P.funcs[F]? = some fnc) (hb : fnc.body = some fn.body) {ys : List (List Value)} {caps : List Value} (hlo : s.le s) {args : List SV} {is : List Int} {bs : List Bool} {vs : List Value}
    (hargs : ∀ L, SV.dens ⟨is, bs, yv L :: vs, []⟩ id args = yv L :: caps) (hok : vs.all fineV = true)
    (h : ∀ L JJ Z B, Yielder P L ys s JJ Z → GoesI P F fn.body s B (fun e w' => ∃ v, e = .returned v ∧ ∃ E, JJ ys.length E w' ∨ Z E w') (JJ 0) (startCfg fnc.ntmps args is.length bs.length (vs.length + 1)) ⟨is, bs, yv L :: vs, []⟩) : IterCt P F caps s ys := by
  intro L JJ Z w hY hj
  have hsub := hY.sub _ _ _ hj
  refine calls_of_goes hf hb ?_
  have hr : Rel w s {} ⟨is, bs, yv L :: vs, []⟩ s id (startCfg fnc.ntmps args is.length bs.length (vs.length + 1)) { tmps := (SV.dens ⟨is, bs, yv L :: vs, []⟩ id args).toArray ++ Array.replicate (fnc.ntmps - (SV.dens ⟨is, bs, yv L :: vs, []⟩ id args).toArray.size) undef, defers := [] } w := by
    refine ⟨?_, rfl, Nat.zero_le _, fun x hx => hx.elim, rfl, rfl, rfl, by simp [startCfg], rfl, ?_, Below.refl _ _, hsub, fun b o u h1 h2 => by rw [h1] at h2; simp at h2, Hp.le_refl _, fun k b hk => by simp [startCfg] at hk, fun j k bj bk _ hj => by simp [startCfg] at hj⟩
    · simp only [startCfg, dens_append, dens_replicate, List.size_toArray, dens_length]
      apply Array.ext'
      simp
    · intro x hx
      simp only [List.mem_cons] at hx
      rcases hx with rfl | hx
      · rfl
      · exact List.all_eq_true.1 hok x hx
  have hI : RelI s w.heap.size _ _ _ _ w := relI_of hr rfl rfl rfl (Nat.le_refl _) hsub (fun b o u hu => hsub.lt hu)
  rw [hargs L] at hI
  have hE : ownE ⟨is, bs, yv L :: vs, []⟩ id (startCfg fnc.ntmps args is.length bs.length (vs.length + 1)).H = noE := by
    funext i
    apply propext
    constructor
    · rintro ⟨k, b, hk, _⟩; simp [startCfg] at hk
    · exact fun h => h.elim
  have := h L JJ Z w.heap.size hY id _ w hI (by rw [hE]; exact hj)
  have e : (#[yv L] ++ caps.toArray : Array Value) = (yv L :: caps).toArray := by simp
  rw [e]
  exact this
end
end Go.Sx
