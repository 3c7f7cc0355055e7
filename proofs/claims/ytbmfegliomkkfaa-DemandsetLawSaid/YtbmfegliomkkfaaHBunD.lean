/- Offers and demand: plain. -/
import Derived.Test.YtbmfegliomkkfaaHBunN
namespace Go.Bun
open Go.Sx

structure Of where
  n : Int
  w : Bd
  v : Int
  deriving DecidableEq, Inhabited
namespace Of
def l (o : Of) : List Int := [o.n, o.w.a, o.w.b, o.w.c, o.w.d, o.w.e, o.w.f, o.v]
def cs (o : Of) : List Value := [.int .i64 o.n, .int .i64 o.w.a, .int .i64 o.w.b, .int .i64 o.w.c, .int .i64 o.w.d, .int .i64 o.w.e, .int .i64 o.w.f, .int .i64 o.v]
def good (o : Of) : Prop := o.w.Ok ∧ 1 ≤ o.v ∧ o.v ≤ 1000000
instance (o : Of) : Decidable o.good := by unfold good; exact inferInstance
end Of
def counting (L : List Of) : List Of := L.filter fun o => decide o.good
def vstep (b : Bd) (best : Int) (o : Of) : Int := if best < o.v ∧ o.w.Le b then o.v else best
def rstep (b : Bd) (best : Int) (o : Of) : Int := if o.good ∧ o.w.Le b ∧ best < o.v then o.v else best
def val (L : List Of) (b : Bd) : Int := L.foldl (vstep b) 0
def rval (L : List Of) (b : Bd) : Int := L.foldl (rstep b) 0
theorem rval_acc (b : Bd) : ∀ (L : List Of) (x : Int), L.foldl (rstep b) x = (counting L).foldl (vstep b) x
  | [], x => rfl
  | o :: L, x => by
    simp only [List.foldl_cons, counting, List.filter_cons]
    by_cases h : o.good
    · simp only [h, decide_true, if_true, List.foldl_cons]
      rw [rval_acc b L]
      have : rstep b x o = vstep b x o := by
        unfold rstep vstep
        by_cases h1 : x < o.v <;> by_cases h2 : o.w.Le b <;> simp [h, h1, h2]
      rw [this]; rfl
    · simp only [h, decide_false, Bool.false_eq_true, if_false]
      rw [rval_acc b L]
      have : rstep b x o = x := by unfold rstep; rw [if_neg (by intro hh; exact h hh.1)]
      rw [this]; rfl
theorem rval_eq (L : List Of) (b : Bd) : rval L b = val (counting L) b := rval_acc b L 0
theorem val_acc (b : Bd) : ∀ (L : List Of) (x : Int), (∀ o ∈ L, o.good) → 0 ≤ x ∧ x ≤ 1000000 → 0 ≤ L.foldl (vstep b) x ∧ L.foldl (vstep b) x ≤ 1000000
  | [], x, _, h => h
  | o :: L, x, hL, h => by
    simp only [List.foldl_cons]
    apply val_acc b L _ (fun o' ho' => hL o' (by simp [ho']))
    have := hL o (by simp)
    unfold Of.good at this
    unfold vstep
    split <;> omega
theorem counting_good (L : List Of) : ∀ o ∈ counting L, o.good := fun o ho => by
  simpa using (List.mem_filter.1 ho).2
theorem val_range (L : List Of) (b : Bd) : 0 ≤ val (counting L) b ∧ val (counting L) b ≤ 1000000 := val_acc b _ 0 (counting_good L) (by omega)
theorem counting_len (L : List Of) : (counting L).length ≤ L.length := List.length_filter_le _ _
def pok (p : Bd) : Prop := p.all fun x => 0 ≤ x ∧ x ≤ 1000000
instance (p : Bd) : Decidable (pok p) := by unfold pok Bd.all; exact inferInstance
def util (L : List Of) (p b : Bd) : Int := val (counting L) b - p.cost b
def utility (L : List Of) (p b : Bd) : Int := if pok p ∧ b.Ok then util L p b else 0
theorem cost_range {p b : Bd} (hp : pok p) (hb : b.Ok) : 0 ≤ p.cost b ∧ p.cost b ≤ 24000000 := by
  unfold pok Bd.all at hp
  unfold Bd.Ok at hb
  have h1 := mulB (x := p.a) (y := b.a) (A := 1000000) (B := 4) hp.1 hb.1
  have h2 := mulB (x := p.b) (y := b.b) (A := 1000000) (B := 4) hp.2.1 hb.2.1
  have h3 := mulB (x := p.c) (y := b.c) (A := 1000000) (B := 4) hp.2.2.1 hb.2.2.1
  have h4 := mulB (x := p.d) (y := b.d) (A := 1000000) (B := 4) hp.2.2.2.1 hb.2.2.2.1
  have h5 := mulB (x := p.e) (y := b.e) (A := 1000000) (B := 4) hp.2.2.2.2.1 hb.2.2.2.2.1
  have h6 := mulB (x := p.f) (y := b.f) (A := 1000000) (B := 4) hp.2.2.2.2.2 hb.2.2.2.2.2
  unfold Bd.cost
  omega
theorem util_range (L : List Of) {p b : Bd} (hp : pok p) (hb : b.Ok) : -24000000 ≤ util L p b ∧ util L p b ≤ 1000000 := by
  have h1 := val_range L b
  have h2 := cost_range hp hb
  unfold util; omega

/- The bundles within a supply. -/
def Bd.bds (S : Bd) : List Bd := (List.range S.list.length).map fun (n : Nat) => S.unr (n : Int)
theorem Bd.bds_len (S : Bd) : S.bds.length = S.list.length := by simp [Bd.bds]
theorem Bd.bds_l (S : Bd) : S.list = S.bds.map Bd.l := by
  apply List.ext_getElem?
  intro n
  rw [List.getElem?_map]
  by_cases h : n < S.list.length
  · have hc : (n : Int) < S.cnt := by have := list_len S; omega
    rw [list_unr hc]
    simp [Bd.bds, h]
  · rw [List.getElem?_eq_none (by omega), List.getElem?_eq_none (by rw [Bd.bds_len]; omega)]; rfl
theorem Bd.bds_ok {S : Bd} : ∀ b ∈ S.bds, b.Ok ∧ b.Le S := by
  intro b hb
  simp only [Bd.bds, List.mem_map, List.mem_range] at hb
  obtain ⟨n, hn, rfl⟩ := hb
  have hc : S.cnt ≠ 0 := by have := list_len S; omega
  exact unr_in (Bd.ok_of_cnt hc) n
theorem Bd.bds_head {S : Bd} (h : S.list ≠ []) : ∃ r, S.bds = Bd.zero :: r := by
  have hl : 0 < S.list.length := List.length_pos_iff.2 h
  have hc : S.cnt ≠ 0 := by have := list_len S; omega
  obtain ⟨m, hm⟩ : ∃ m, S.list.length = m + 1 := ⟨S.list.length - 1, by omega⟩
  refine ⟨(List.range m).map fun (n : Nat) => S.unr ((n + 1 : Nat) : Int), ?_⟩
  have h0 := Lk_zero S (Bd.ok_of_cnt hc)
  simp only [Bd.bds, hm, List.range_succ_eq_map, List.map_cons, List.map_map, h0]
  rfl

/- Best and Demand. -/
def bstepD (u : Bd → Int) (x : Bd × Int) (b : Bd) : Bd × Int := if x.2 < u b then (b, u b) else x
def bestOf (u : Bd → Int) (W : List Bd) : Bd × Int := W.foldl (bstepD u) (Bd.zero, 0)
def dstep (u : Bd → Int) (x : Int × List Bd) (b : Bd) : Int × List Bd :=
  if x.1 < u b then (u b, [b]) else if u b = x.1 then (x.1, x.2 ++ [b]) else x
def demOf (u : Bd → Int) (W : List Bd) : Int × List Bd := W.foldl (dstep u) (-1, [])

structure DInv (u : Bd → Int) (done : List Bd) (p : Bd × Int) (r : Int × List Bd) : Prop where
  eq : r.1 = p.2
  ub : u p.1 = p.2
  out : r.2 = done.filter fun b => decide (u b = p.2)
  le : ∀ b ∈ done, u b ≤ p.2
  hd : ∃ t, r.2 = p.1 :: t
theorem dinv_step {u : Bd → Int} {done : List Bd} {p : Bd × Int} {r : Int × List Bd} (h : DInv u done p r) (b : Bd) : DInv u (done ++ [b]) (bstepD u p b) (dstep u r b) := by
  obtain ⟨h1, h2, h3, h4, t, h5⟩ := h
  unfold bstepD dstep
  rw [h1]
  by_cases hlt : p.2 < u b
  · simp only [hlt, if_true]
    refine ⟨rfl, rfl, ?_, ?_, [], rfl⟩
    · simp only [List.filter_append, List.filter_cons, decide_true, if_true, List.filter_nil]
      rw [List.filter_eq_nil_iff.2]
      · rfl
      · intro x hx; have := h4 x hx; simp; omega
    · intro x hx
      rcases List.mem_append.1 hx with hx | hx
      · have := h4 x hx; omega
      · simp only [List.mem_singleton] at hx; subst hx; exact Int.le_refl _
  · simp only [hlt, if_false]
    by_cases he : u b = p.2
    · simp only [he, if_true]
      refine ⟨rfl, h2, ?_, ?_, t ++ [b], by rw [h5]; rfl⟩
      · rw [h3]; simp [he]
      · intro x hx
        rcases List.mem_append.1 hx with hx | hx
        · exact h4 x hx
        · simp only [List.mem_singleton] at hx; subst hx; omega
    · simp only [he, if_false]
      refine ⟨h1, h2, ?_, ?_, t, h5⟩
      · rw [h3]; simp [he]
      · intro x hx
        rcases List.mem_append.1 hx with hx | hx
        · exact h4 x hx
        · simp only [List.mem_singleton] at hx; subst hx; omega
theorem dinv_fold {u : Bd → Int} : ∀ (W done : List Bd) (p : Bd × Int) (r : Int × List Bd), DInv u done p r → DInv u (done ++ W) (W.foldl (bstepD u) p) (W.foldl (dstep u) r)
  | [], done, p, r, h => by simpa using h
  | b :: W, done, p, r, h => by
    have := dinv_fold W (done ++ [b]) _ _ (dinv_step h b)
    simpa using this
/-- What both come to, if the first bundle is the empty one, whose utility is not negative. -/
theorem dem_best {u : Bd → Int} {r : List Bd} (h0 : 0 ≤ u Bd.zero) : DInv u (Bd.zero :: r) (bestOf u (Bd.zero :: r)) (demOf u (Bd.zero :: r)) ∧ 0 ≤ (bestOf u (Bd.zero :: r)).2 := by
  have hs : bstepD u (Bd.zero, 0) Bd.zero = (Bd.zero, u Bd.zero) := by
    unfold bstepD
    simp only
    split
    · rfl
    · have : u Bd.zero = 0 := by omega
      rw [this]
  have hd : dstep u (-1, []) Bd.zero = (u Bd.zero, [Bd.zero]) := by
    unfold dstep
    rw [if_pos (by simp only; omega)]
  have hi : DInv u [Bd.zero] (Bd.zero, u Bd.zero) (u Bd.zero, [Bd.zero]) :=
    ⟨rfl, rfl, by simp, by simp, [], rfl⟩
  have h := dinv_fold r _ _ _ hi
  have hb : bestOf u (Bd.zero :: r) = r.foldl (bstepD u) (Bd.zero, u Bd.zero) := by unfold bestOf; rw [List.foldl_cons, hs]
  have hdm : demOf u (Bd.zero :: r) = r.foldl (dstep u) (u Bd.zero, [Bd.zero]) := by unfold demOf; rw [List.foldl_cons, hd]
  rw [hb, hdm]
  refine ⟨h, ?_⟩
  have := h.le Bd.zero (by simp)
  omega
theorem foldl_congr' {α β : Type} {f g : β → α → β} : ∀ (l : List α) (x : β), (∀ a ∈ l, ∀ y, f y a = g y a) → l.foldl f x = l.foldl g x
  | [], _, _ => rfl
  | a :: l, x, h => by
    simp only [List.foldl_cons]
    rw [h a (by simp) x]
    exact foldl_congr' l _ (fun b hb y => h b (by simp [hb]) y)
theorem demOf_congr {u u' : Bd → Int} {W : List Bd} (h : ∀ b ∈ W, u b = u' b) : demOf u W = demOf u' W :=
  foldl_congr' _ _ (fun b hb y => by unfold dstep; rw [h b hb])
theorem zero_ok : Bd.zero.Ok := by unfold Bd.Ok Bd.zero; simp
theorem cost_zero (p : Bd) : p.cost Bd.zero = 0 := by simp [Bd.cost, Bd.zero]

def best (L : List Of) (S p : Bd) : Bd × Int := if pok p then bestOf (util L p) S.bds else (Bd.zero, 0)
def demand (L : List Of) (S p : Bd) : List Bd := if pok p then S.bds.filter fun b => decide (util L p b = (best L S p).2) else []
def rdemand (L : List Of) (S p : Bd) : List Bd := if pok p then (demOf (utility L p) S.bds).2 else []

theorem demand_spec (L : List Of) (S p : Bd) (hp : pok p) (hS : S.list ≠ []) :
    rdemand L S p = demand L S p ∧ (∃ t, demand L S p = (best L S p).1 :: t) ∧ util L p (best L S p).1 = (best L S p).2 ∧ 0 ≤ (best L S p).2 ∧ (∀ b ∈ S.bds, util L p b ≤ (best L S p).2) ∧ (best L S p).1 ∈ S.bds := by
  obtain ⟨r, hr⟩ := Bd.bds_head hS
  have hu0 : 0 ≤ util L p Bd.zero := by
    have := (val_range L Bd.zero).1
    unfold util; rw [cost_zero]; omega
  obtain ⟨h, h0⟩ := dem_best (u := util L p) (r := r) hu0
  rw [← hr] at h h0
  have hc : demOf (utility L p) S.bds = demOf (util L p) S.bds := demOf_congr (fun b hb => by unfold utility; rw [if_pos ⟨hp, (Bd.bds_ok b hb).1⟩])
  have hb : best L S p = bestOf (util L p) S.bds := by unfold best; rw [if_pos hp]
  have hd : demand L S p = (demOf (util L p) S.bds).2 := by
    unfold demand; rw [if_pos hp, hb]; exact h.out.symm
  obtain ⟨t, ht⟩ := h.hd
  refine ⟨by unfold rdemand; rw [if_pos hp, hc, hd], ⟨t, by rw [hd, hb, ht]⟩, by rw [hb]; exact h.ub, by rw [hb]; exact h0, by rw [hb]; exact h.le, ?_⟩
  have : (best L S p).1 ∈ demand L S p := by rw [hd, ht, hb]; simp
  unfold demand at this
  rw [if_pos hp] at this
  exact (List.mem_filter.1 this).1
theorem bds_nil {S : Bd} (h : S.list = []) : S.bds = [] := by
  have := Bd.bds_len S
  rw [h] at this
  exact List.length_eq_zero_iff.1 this
theorem best_nil (L : List Of) (S p : Bd) (h : S.list = []) : best L S p = (Bd.zero, 0) := by
  unfold best; split
  · rw [bds_nil h]; rfl
  · rfl
theorem demand_nil (L : List Of) (S p : Bd) (h : S.list = []) : demand L S p = [] ∧ rdemand L S p = [] := by
  unfold demand rdemand
  rw [bds_nil h]; constructor <;> split <;> rfl
theorem demand_eq (L : List Of) (S p : Bd) : rdemand L S p = demand L S p := by
  by_cases hp : pok p
  · by_cases hS : S.list = []
    · rw [(demand_nil L S p hS).1, (demand_nil L S p hS).2]
    · exact (demand_spec L S p hp hS).1
  · unfold demand rdemand; rw [if_neg hp, if_neg hp]
/-- The reference's Best. -/
theorem rbest_eq (L : List Of) (S p : Bd) : best L S p = match demand L S p with | [] => (Bd.zero, 0) | b :: _ => (b, utility L p b) := by
  by_cases hp : pok p
  · by_cases hS : S.list = []
    · rw [(demand_nil L S p hS).1, best_nil L S p hS]
    · obtain ⟨_, ⟨t, ht⟩, h1, h2, h3, h4⟩ := demand_spec L S p hp hS
      rw [ht]
      simp only
      unfold utility
      rw [if_pos ⟨hp, (Bd.bds_ok _ h4).1⟩, h1]
  · have : demand L S p = [] := by unfold demand; rw [if_neg hp]
    rw [this]; unfold best; rw [if_neg hp]
theorem best_ok (L : List Of) (S p : Bd) : (best L S p).1.Ok := by
  by_cases hp : pok p
  · by_cases hS : S.list = []
    · rw [best_nil L S p hS]; exact zero_ok
    · obtain ⟨_, _, _, _, _, h4⟩ := demand_spec L S p hp hS
      exact (Bd.bds_ok _ h4).1
  · unfold best; rw [if_neg hp]; exact zero_ok
end Go.Bun
