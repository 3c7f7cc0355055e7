/- SX: an iterator that goes through another one. -/
import Derived.Test.YtfbhgmnbndlipaaHSxX
namespace Go.Sx
open Go.RowKit
variable {P : Program}

/-- All orders of a region. -/
def allGo (ops : Array Oper) : Nat → Array Bool → List (List Nat)
  | 0, _ => [[]]
  | f + 1, listed => match Region.ready .any ops listed with
    | [] => [[]]
    | i :: rs => (i :: rs).flatMap fun i => (allGo ops f (listed.setIfInBounds i true)).map (i :: ·)
theorem go_mem (ops : Array Oper) : ∀ (fuel t : Nat) (listed : Array Bool), Region.linearise.go .any ops fuel t listed [] ∈ allGo ops fuel listed := by
  intro fuel
  induction fuel with
  | zero => intro t listed; simp [Region.linearise.go, allGo]
  | succ fuel ih =>
    intro t listed
    simp only [Region.linearise.go]
    change (match (Region.ready .any ops listed)[t % (Region.ready .any ops listed).length]? with
      | some i => Region.linearise.go .any ops fuel (t / (Region.ready .any ops listed).length) (listed.setIfInBounds i true) [i]
      | none => [].reverse) ∈ _
    unfold allGo
    cases hr : Region.ready .any ops listed with
    | nil => simp
    | cons x xs =>
      have hlt : t % (x :: xs).length < (x :: xs).length := Nat.mod_lt _ (by simp)
      rw [List.getElem?_eq_getElem hlt]
      simp only
      rw [linearise_go_acc]
      refine List.mem_flatMap.2 ⟨_, List.getElem_mem hlt, ?_⟩
      exact List.mem_map.2 ⟨_, ih _ _, rfl⟩

def ordersOf (ops : Array Oper) : List (List Nat) := allGo ops ops.size (Array.replicate ops.size false)
theorem goes_brute {f : Fr} {R : Ending → World → Prop} {id : Nat} {ops : Array Oper} {k : List Item} {a : Act} {w : World} (hm : P.follows .mixedOrders = true)
    (h : ∀ l ∈ ordersOf ops, Goes P f R (.inRegion ops l :: k) a { w with drawn := w.drawn + 1 }) : Goes P f R (.code (.region id ops true) :: k) a w := by
  intro cs hcs
  have h3 : ∀ t, Goes P f R (.inRegion ops (Region.schedule (P.follows .mixedOrders) ops t) :: k) a { w with drawn := w.drawn + 1 } := fun t => by
    simp only [Region.schedule, hm, Bool.true_or, if_true]
    exact h _ (go_mem ops ops.size t _)
  obtain ⟨e, w1, m, r, c, hl⟩ := h3 (w.tape w.drawn (.order (atF f).fn id)) cs hcs
  exact ⟨e, w1, m, r, .of_steps (.one stepR_region_draw) c, hl⟩

section
variable (P : Program) (f : Fr) (body : Code) (s : Hp) (B : Nat) (R : Ending → World → Prop)
/-- A frame of an iterator, a round's too, goes on from g, the world being as J says. -/
def GoesF (J : (Nat → Prop) → World → Prop) (g : Cfg) (ρ : Env) : Prop := ∀ β a w, RelI s B ρ β g a w → J (ownE ρ β g.H) w → GoesG P f R body ρ β s g a w
end

section
variable {c : Ctx} {f : Fr} {fn : FnC} {s : Hp} {B : Nat} {R : Ending → World → Prop} {J : (Nat → Prop) → World → Prop} {Q : Value → Hp → Prop}

theorem goesF_run (hP : ProgOk P c) (hc : c.leaf = true) (hnd : noDefer fn.body = true) (hJ : StabJ J) (n : Nat) {g : Cfg} {ρ : Env}
    (h : VC P Q (fun g' ρ' _ => okStop g' = true ∧ GoesF P f fn.body s B R J g' ρ') (run c fn n g) ρ s) : GoesF P f fn.body s B R J g ρ := by
  intro β a w hI hj
  refine runX_sound hP (.inl hc) (.inr (noDefer_all hnd)) (fun g' ρ' s' ht => ?_) n g ρ s h β a w hI.rel
  intro β' a' w' h'
  obtain ⟨e1, e2⟩ := relI_seg hI h'
  refine goesG_congr (t := g') (ρ := ρ') (β := β') (s := s) rfl (okStop_head ht.1) ?_
  exact ht.2 β' a' w' (relI_of h' rfl rfl (okStop_shut ht.1) (by rw [cutW_size hI.sz]; exact Nat.le_refl _) (fun b o u hu => h'.sb b o u (h'.le b o u hu)) hI.lo) (hJ _ _ _ _ hj e1 e2)

/-- A region in all its orders. -/
theorem goesF_brute (hP : ProgOk P c) (hJ : StabJ J) {g : Cfg} {ρ : Env} {p : List Bool} {k : List PI} (htd : g.todo = .code p :: k) {id : Nat} {ops : Array Oper} (hs : sub fn.body p = .region id ops true)
    (h : ∀ l ∈ ordersOf ops, GoesF P f fn.body s B R J { g with todo := .reg p l :: k } ρ) : GoesF P f fn.body s B R J g ρ := by
  intro β a w hI hj
  unfold GoesG
  rw [htd]
  show Goes P f R (.code (sub fn.body p) :: k.map (itemOf fn.body)) a w
  rw [hs]
  refine goes_brute hP.mixed (fun l hl => ?_)
  have hops : opsAt (sub fn.body p) = ops := by rw [hs]; rfl
  have hI' : RelI s B ρ β { g with todo := .reg p l :: k } a { w with drawn := w.drawn + 1 } := by
    have h1 := (hI.rel.drew).todo (.reg p l :: k)
    exact ⟨hI.sz, hI.lo, ⟨h1.tm, h1.df, h1.sz, h1.kp, h1.fs, h1.ci, h1.cb, h1.cv, h1.cj, h1.ok, by
      have e : (cutW { w with drawn := w.drawn + 1 } B).heap.size = B := cutW_size (w := { w with drawn := w.drawn + 1 }) hI.sz
      rw [e]; exact cutW_below (w := { w with drawn := w.drawn + 1 }) hI.sz, h1.sb, h1.nw, h1.le, h1.bl, h1.sp⟩⟩
  have := h l hl β a _ hI' (hJ _ _ _ _ hj ⟨rfl, rfl, rfl, Nat.le_refl _, fun _ _ _ => rfl⟩ (fun i hi => ⟨.inl hi, by
    obtain ⟨k', b, hk, hb, rfl⟩ := hi
    exact ⟨_, Array.getElem?_eq_getElem (hI.rel.lt hk hb)⟩⟩))
  simp only [GoesG, List.map_cons, itemOf, hops] at this
  exact this
end

/- The loop over another iterator. -/
def cvt (q : Nat) (sl : List SV) : List SV := sl.map fun v => match v with | .ptr 0 off => .pa q off | v => v
theorem cvt_den {ρ : Env} {β β' : Nat → Nat} {ni nb nv nj : Nat} {kf : Nat → Bool} (h1 : ρ.i.length = ni) (h2 : ρ.b.length = nb) (h3 : ρ.v.length = nv) (h4 : ρ.j.length = nj) : ∀ (sl : List SV), SV.oks ni nb nv nj kf sl = true → SV.oks ni nb (nv + 1) nj (fun _ => false) (cvt nv sl) = true →
    SV.dens (ρ.push [] [] [.pointer (some ⟨β 0, 0, none⟩)]) β' (cvt nv sl) = SV.dens ρ β sl
  | [], _, _ => rfl
  | v :: l, a, b => by
    simp only [cvt, List.map_cons, SV.oks, Bool.and_eq_true] at a b ⊢
    have ih := cvt_den (β := β) (β' := β') (kf := kf) h1 h2 h3 h4 l a.2 b.2
    simp only [cvt] at ih
    simp only [SV.dens, ih, List.cons.injEq, and_true]
    have hle : Env.Le ni nb nv nj ρ (ρ.push [] [] [.pointer (some ⟨β 0, 0, none⟩)]) := by
      rw [← h1, ← h2, ← h3, ← h4]; exact Env.le_push _ _ _ _
    split at b
    · subst h3
      simp [SV.den, Env.push, addrOf, Addr.add]
      intro h0; exact h0.symm
    · rename_i hne
      · rw [SV.den_le (β := β) (β' := β') (ρ := ρ.push [] [] [.pointer (some ⟨β 0, 0, none⟩)]) ⟨fun _ _ => rfl, fun _ _ => rfl, fun _ _ => rfl, fun _ _ => rfl⟩ (by simp) _ b.1]
        exact SV.den_le hle (fun _ _ => rfl) _ a.1

def own3 (B D : Nat) (i : Nat) : Prop := B ≤ i ∧ i ≤ D + 1
/-- What the iterator has laid lies as it lay. -/
structure Laid (B D : Nat) (wR : World) (rec : Obj) (w : World) : Prop where
  b : ∀ i, B ≤ i → i < D → w.heap[i]? = wR.heap[i]?
  sz : D ≤ wR.heap.size
  d : w.heap[D]? = some (.deferred (some []))
  l : w.heap[D + 1]? = some rec
theorem Laid.some {B D : Nat} {wR : World} {rec : Obj} {w : World} (h : Laid B D wR rec w) {i : Nat} (hi : own3 B D i) : ∃ x, w.heap[i]? = some x := by
  by_cases h1 : i < D
  · rw [h.b i hi.1 h1]
    have := h.sz
    exact ⟨_, Array.getElem?_eq_getElem (show i < wR.heap.size by omega)⟩
  · have h2 := hi.2
    by_cases h3 : i = D
    · subst h3; exact ⟨_, h.d⟩
    · obtain rfl : i = D + 1 := by omega
      exact ⟨_, h.l⟩
theorem Laid.keep {B D : Nat} {wR : World} {rec : Obj} {w w' : World} (hBD : B ≤ D) (h : Laid B D wR rec w) (hk : ∀ i, own3 B D i → w'.heap[i]? = w.heap[i]?) : Laid B D wR rec w' :=
  ⟨fun i h1 h2 => (hk i ⟨h1, by omega⟩).trans (h.b i h1 h2), h.sz, (hk _ ⟨hBD, by omega⟩).trans h.d, (hk _ ⟨by omega, by omega⟩).trans h.l⟩
theorem Laid.turn {B D : Nat} {wR : World} {rec rec' : Obj} {w : World} (h : Laid B D wR rec w) : Laid B D wR rec' (w.putObj (D + 1) rec') :=
  ⟨fun i h1 h2 => (World.putObj_heap_other (by omega)).trans (h.b i h1 h2), h.sz, (World.putObj_heap_other (by omega)).trans h.d, World.putObj_heap_same (lt_of_heap h.l)⟩

/-- Between the rounds. -/
structure Btw (JJ : (Nat → Prop) → World → Prop) (b0 D : Nat) (o : World) (rec : Obj) (E : Nat → Prop) (w : World) : Prop where
  j : JJ (fun i => E i ∨ own3 b0 D i) w
  laid : Laid b0 D o rec w
  dis : ∀ i, E i → ¬ own3 b0 D i
  ex : ∀ i, E i → ∃ x, w.heap[i]? = some x
theorem Btw.stab {JJ : (Nat → Prop) → World → Prop} (hs : StabJ JJ) {b0 D : Nat} (hBD : b0 ≤ D) {o : World} {rec : Obj} : StabJ (Btw JJ b0 D o rec) := fun E E' w w' h hg hn => by
  have hk : ∀ i, own3 b0 D i → w'.heap[i]? = w.heap[i]? := fun i hi => by
    obtain ⟨x, hx⟩ := h.laid.some hi
    exact hg.block i (lt_of_heap hx) (fun he => h.dis i he hi)
  refine ⟨hs _ _ _ _ h.j ⟨hg.os, hg.tape, hg.output, hg.size, fun k hk' hE => hg.block k hk' (fun he => hE (.inl he))⟩ (fun i hi => ?_), h.laid.keep hBD hk, fun i hi ho => ?_, fun i hi => (hn i hi).2⟩
  · rcases hi with hi | hi
    · obtain ⟨h1, h2⟩ := hn i hi
      exact ⟨h1.imp .inl id, h2⟩
    · obtain ⟨x, hx⟩ := h.laid.some hi
      exact ⟨.inl (.inr hi), x, (hk i hi).trans hx⟩
  · obtain ⟨h1, _⟩ := hn i hi
    rcases h1 with h1 | h1
    · exact h.dis i h1 ho
    · obtain ⟨x, hx⟩ := h.laid.some ho
      have := lt_of_heap hx; omega

/-- Within a round that began in w2, E' being what the inner iterator has. -/
structure Rnd (JJ : (Nat → Prop) → World → Prop) (b0 D : Nat) (o : World) (rec : Obj) (E' : Nat → Prop) (w2 : World) (E : Nat → Prop) (w : World) : Prop where
  j : JJ (fun i => E i ∨ E' i ∨ own3 b0 D i) w
  laid : Laid b0 D o rec w
  sz : w2.heap.size ≤ w.heap.size
  kept : ∀ i, E' i → w.heap[i]? = w2.heap[i]? ∧ i < w2.heap.size ∧ ¬ own3 b0 D i
  dis : ∀ i, E i → ¬ E' i ∧ ¬ own3 b0 D i
theorem Rnd.stab {JJ : (Nat → Prop) → World → Prop} (hs : StabJ JJ) {b0 D : Nat} (hBD : b0 ≤ D) {o : World} {rec : Obj} {E' : Nat → Prop} {w2 : World} : StabJ (Rnd JJ b0 D o rec E' w2) := fun E E1 w w' h hg hn => by
  have hk : ∀ i, own3 b0 D i → w'.heap[i]? = w.heap[i]? := fun i hi => by
    obtain ⟨x, hx⟩ := h.laid.some hi
    exact hg.block i (lt_of_heap hx) (fun he => (h.dis i he).2 hi)
  have hk' : ∀ i, E' i → w'.heap[i]? = w.heap[i]? := fun i hi => hg.block i (by have := (h.kept i hi).2.1; have := h.sz; omega) (fun he => (h.dis i he).1 hi)
  have hex : ∀ i, E' i → ∃ x, w'.heap[i]? = some x := fun i hi => by
    have h1 := (h.kept i hi).2.1
    have h2 := h.sz
    have h3 := hg.size
    exact ⟨_, Array.getElem?_eq_getElem (show i < w'.heap.size by omega)⟩
  refine ⟨hs _ _ _ _ h.j ⟨hg.os, hg.tape, hg.output, hg.size, fun k hk' hE => hg.block k hk' (fun he => hE (.inl he))⟩ (fun i hi => ?_), h.laid.keep hBD hk, Nat.le_trans h.sz hg.size, fun i hi => ⟨(hk' i hi).trans (h.kept i hi).1, (h.kept i hi).2⟩, fun i hi => ?_⟩
  · rcases hi with hi | hi | hi
    · obtain ⟨h1, h2⟩ := hn i hi
      exact ⟨h1.imp .inl id, h2⟩
    · exact ⟨.inl (.inr (.inl hi)), hex i hi⟩
    · obtain ⟨x, hx⟩ := h.laid.some hi
      exact ⟨.inl (.inr (.inr hi)), x, (hk i hi).trans hx⟩
  · obtain ⟨h1, _⟩ := hn i hi
    rcases h1 with h1 | h1
    · exact h.dis i h1
    · refine ⟨fun he => ?_, fun ho => ?_⟩
      · have := (h.kept i he).2.1; have := h.sz; omega
      · obtain ⟨x, hx⟩ := h.laid.some ho
        have := lt_of_heap hx; omega
/-- The record is turned. -/
theorem Rnd.turn {JJ : (Nat → Prop) → World → Prop} (hs : StabJ JJ) {b0 D : Nat} {o : World} {rec rec' : Obj} {E' : Nat → Prop} {w2 : World} {E : Nat → Prop} {w : World} (hb : b0 ≤ D) (h : Rnd JJ b0 D o rec E' w2 E w) (hex : ∀ i, E i → ∃ x, w.heap[i]? = some x) :
    Rnd JJ b0 D o rec' E' w2 E (w.putObj (D + 1) rec') := by
  have hne : ∀ i, E' i → i ≠ D + 1 := fun i hi he => (h.kept i hi).2.2 (by subst he; exact ⟨by omega, Nat.le_refl _⟩)
  refine ⟨hs _ _ _ _ h.j (Grows.put (.inr (.inr ⟨by omega, Nat.le_refl _⟩))) (fun i hi => ⟨.inl hi, ?_⟩), h.laid.turn, by simpa using h.sz, fun i hi => ⟨(World.putObj_heap_other (hne i hi)).trans (h.kept i hi).1, (h.kept i hi).2⟩, h.dis⟩
  have hlt : i < (w.putObj (D + 1) rec').heap.size := by
    rw [World.putObj_size]
    rcases hi with hi | hi | hi
    · obtain ⟨x, hx⟩ := hex i hi; exact lt_of_heap hx
    · have := (h.kept i hi).2.1; have := h.sz; omega
    · obtain ⟨x, hx⟩ := h.laid.some hi; exact lt_of_heap hx
  exact ⟨_, Array.getElem?_eq_getElem hlt⟩
/-- The round is over. -/
theorem Rnd.over {JJ : (Nat → Prop) → World → Prop} (hs : StabJ JJ) {b0 D : Nat} {o : World} {rec : Obj} {E' : Nat → Prop} {w2 : World} {E : Nat → Prop} {w : World} (h : Rnd JJ b0 D o rec E' w2 E w) : EKept E' w2 w ∧ Btw JJ b0 D o rec E' w := by
  have hex : ∀ i, E' i → ∃ x, w.heap[i]? = some x := fun i hi => by
    have h1 := (h.kept i hi).2.1
    have h2 := h.sz
    exact ⟨_, Array.getElem?_eq_getElem (show i < w.heap.size by omega)⟩
  refine ⟨⟨h.sz, fun i hi => (h.kept i hi).1⟩, hs _ _ _ _ h.j (Grows.refl _ _) (fun i hi => ⟨.inl (.inr hi), ?_⟩), h.laid, fun i hi => (h.kept i hi).2.2, hex⟩
  rcases hi with hi | hi
  · exact hex i hi
  · exact h.laid.some hi
theorem RelI.ex {s : Hp} {B : Nat} {ρ : Env} {β : Nat → Nat} {g : Cfg} {a : Act} {w : World} (h : RelI s B ρ β g a w) : ∀ i, ownE ρ β g.H i → ∃ x, w.heap[i]? = some x := fun i hi => by
  obtain ⟨k', b, hk, hb, rfl⟩ := hi
  exact ⟨_, Array.getElem?_eq_getElem (h.rel.lt hk hb)⟩
end Go.Sx
