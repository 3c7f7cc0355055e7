/- What the map of an expression is worth within a bundle: by the kinds of expressions (plain). -/
import Derived.Test.YthmkfeiapdbojaaHVn
import Derived.Test.YthmkfeiapdbojaaHGx
set_option linter.unusedSimpArgs false
set_option linter.unusedVariables false
open Go.Sx.PT renaming ev → ξ1
open Go.Sx.BE renaming safe → ξ2, pe → ξ3, all → ξz
open Go.Sx.IE renaming pe → ξ4
open Go.Sx renaming PEnv.at → ξ5
open Go.Sx.PEnv renaming push → ξt
open List renaming getD_cons_zero → ξ6, getD_cons_succ → ξ7, getElem?_cons_zero → ξ8, getElem?_cons_succ → ξ9, drop_zero → ξf, length_cons → ξg, length_nil → ξh, take_succ_cons → ξm, take_zero → ξn, cons_append → ξu, nil_append → ξv, append_nil → ξw, map_cons → ξD, map_nil → ξE
open Go.Sx renaming a0g → ξa, a0h → ξb, a0b → ξc, a0f → ξd, a0c → ξo, a0a → ξp, a0d → ξq, a0T → ξF, a0W → ξG, a0N → ξH, a0K → ξI, a0X → ξJ, a0V → ξK, a0P → ξL, a0Y → ξM, a0J → ξN, a0O → ξO, a0j → ξP, a0Q → ξQ, a0U → ξR, a0s → ξS, a0M → ξT, a0B → ξU, a0t → ξV, a0u → ξW, a0v → ξX, a0L → ξY
open Nat renaming add_zero → ξe, le_refl → ξi
open Bool renaming false_eq_true → ξl, and_self → ξA, not_true → ξB, not_false → ξC
open Option renaming map_some → ξr, bind_some → ξs
open Go.Sx.SV renaming pvs → ξx, pv → ξy
open Option renaming bind_some → Q0, map_some → Q7
open Bool renaming and_eq_true → Q1, false_eq_true → Qw
open List renaming mem_map → Q2, getElem?_eq_none → Q3, getD_eq_getElem?_getD → Q4, replicate → Q6, append_nil → Q8, nil_append → Q9, cons_append → Qa, mem_cons → Qb, all_cons → Qd, ext_getElem? → Qf, getElem?_eq_some_iff → Qh, zipWith_cons_cons → Qj, mem_of_getElem? → Qm, map_cons → Qn, mem_flatMap → Qp, range → Qq, foldl_cons → Qt, getElem?_set → Qu, getElem?_eq_getElem → Qv, headD_cons → Qy, getElem?_append_left → Qz, getElem?_set_self → QA, length_set → QB, set_append_right → QC, length_append → QD
open Int renaming le_trans → Q5, le_refl → Qe, toNat_natCast → Qk, le_antisymm → Qr
open Nat renaming lt_or_ge → Qg, add_mul → Qs
set_option maxRecDepth 100000
namespace Go.Proofs.Ythmkfeiapdbojaa
open Go.Sx Go.Kv Go.Bun
section
variable {lim B : List Int} {c : Int}
theorem a3d {v : Int} (h : v <= 1000000) : mnM v = v := by unfold mnM; rw [if_pos h]
theorem a4y : a0Z [] B <= c ↔ 0 <= c := by rw [a4x]; simp
theorem a2S {kv x : KV} (h : KvOk lim kv) (g : KvOk lim x) (hB : leL B lim = true) : a0Z (raises lim kv x) B <= c ↔ a0Z kv B <= c /\ a0Z x B <= c := by
 rw [a5i h (fun p hp => (g.all p hp).2.2.2) hB]
 refine and_congr_right fun h1 => ?_
 rw [a4x (kv := x)]
 constructor
 ·intro h2
  refine ⟨Q5 (a1r _ _) h1, fun p hp hl => ?_⟩
  have := h2 p hp hl
  rwa [a3d (g.all p hp).2.1] at this
 ·rintro ⟨_, h2⟩ p hp hl
  rw [a3d (g.all p hp).2.1]
  exact h2 p hp hl
theorem b2X (lim : List Int) (kv : KV) (b : List Int) (v : Int) : a2q lim kv b v = raises lim kv [(b, v)] := rfl
theorem b5R {w : List Int} {v : Int} (hw : nnL w = true) (hB : leL B lim = true) : a0Z (a2q lim [] w v) B <= c ↔ 0 <= c /\ (leL w B = true -> mnM v <= c) := by
 rw [b2X, a5i (.nil lim) (by simpa using hw) hB, a4y]
 simp
theorem b7L (hB : leL B lim = true) : ∀ {l : List KV} {a : KV}, KvOk lim a -> (∀ x ∈ l, KvOk lim x) -> (a0Z (l.foldl (raises lim) a) B <= c ↔ a0Z a B <= c /\ ∀ x ∈ l, a0Z x B <= c)
 | [], a, _, _ => by simp
 | x :: l, a, h, hl => by
  have hx := hl x (by simp)
  rw [Qt, b7L hB (a2O h hx) (fun y hy => hl y (by simp [hy])), a2S h hx hB]
  simp only [Qb, forall_eq_or_imp]
  exact and_assoc
theorem b3U {kv : KV} (h : KvOk lim kv) {p : List Int × Int} (hp : p ∈ kv) : p.1.length = lim.length := a9f (h.all p hp).2.2.1
theorem c2J : ∀ {a b : List Int}, nnL a = true -> nnL b = true -> nnL (a2y a b) = true
 | [], _, _, _ => rfl
 | _ :: _, [], _, _ => rfl
 | x :: a, y :: b, ha, hb => by
  simp only [nnL, Qd, Q1, decide_eq_true_eq] at ha hb
  have := c2J (a := a) (b := b) ha.2 hb.2
  simp only [nnL, a2y, Qj, Qd, Q1, decide_eq_true_eq] at *
  exact ⟨by omega, this⟩
theorem b8f : ∀ {B : List Int}, nnL B = true -> leL (B.map fun _ => 0) B = true
 | [], _ => rfl
 | x :: B, h => by
  simp only [nnL, Qd, Q1, decide_eq_true_eq] at h
  simp only [Qn, leL, Q1, decide_eq_true_eq]
  exact ⟨h.1, b8f h.2⟩
theorem c3M : ∀ B : List Int, nnL (B.map fun _ => (0 : Int)) = true
 | [] => rfl
 | x :: B => by simp only [Qn, nnL, Qd, Q1, decide_eq_true_eq]; exact ⟨Qe _, c3M B⟩
theorem c0B : ∀ B : List Int, a3n B (B.map fun _ => 0) = B
 | [] => rfl
 | x :: B => by have := c0B B; simp only [a3n, Qn, Qj] at *; rw [this]; simp
theorem a8W : ∀ {D B : List Int}, nnL D = true -> leL D B = true -> leL (a3n B D) B = true
 | [], [], _, _ => rfl
 | x :: D, y :: B, h, k => by
  simp only [nnL, Qd, Q1, decide_eq_true_eq] at h
  simp only [leL, Q1, decide_eq_true_eq] at k
  simp only [a3n, Qj, leL, Q1, decide_eq_true_eq]
  exact ⟨by omega, a8W h.2 k.2⟩
 | [], _ :: _, _, k => by simp [leL] at k
 | _ :: _, [], _, k => by simp [leL] at k
theorem b4X {x y : KV} (gx : KvOk lim x) (gy : KvOk lim y) (hB : leL B lim = true) (hn : nnL B = true) :
  a0Z (a2R lim x y) B <= c ↔ 0 <= c /\ ∀ D, leL D B = true -> nnL D = true -> mnM (a0Z x D + a0Z y (a3n B D)) <= c := by
 unfold a2R
 have h1 := a2O (.nil lim) gx
 have h2 := a2O h1 gy
 have hpn : ∀ p ∈ a5D x y, nnL p.1 = true := by
  intro p hp
  simp only [a5D, Qp, Q2] at hp
  obtain ⟨a, ha, b, hb, rfl⟩ := hp
  exact c2J (gx.all a ha).2.2.2 (gy.all b hb).2.2.2
 rw [a5i h2 hpn hB, a2S h1 gy hB, a2S (.nil lim) gx hB, a4y]
 have hBl := a9f hB
 constructor
 ·rintro ⟨⟨⟨h0, hx⟩, hy⟩, hp⟩
  refine ⟨h0, fun D hD hDn => ?_⟩
  rw [a2o]
  rcases b4w x D with e1 | ⟨p, p1, p2, p3⟩
  ·rcases b4w y (a3n B D) with e2 | ⟨q, q1, q2, q3⟩
   ·left; omega
   ·left
    have := a8x q1 (a2j q2 (a8W hDn hD))
    omega
  ·rcases b4w y (a3n B D) with e2 | ⟨q, q1, q2, q3⟩
   ·left
    have := a8x p1 (a2j p2 hD)
    omega
   ·have := hp (a6q p q) (by simp only [a5D, Qp, Q2]; exact ⟨p, p1, q, q1, rfl⟩) (by
     simp only [a6q]
     have := c2d p2 q2
     rwa [c2E hD] at this)
    simp only [a6q] at this
    rw [a2o] at this
    omega
 ·rintro ⟨h0, h⟩
  refine ⟨⟨⟨h0, ?_⟩, ?_⟩, ?_⟩
  ·have := h B (a8S B) hn
   rw [a2o] at this
   have h3 := a1r y (a3n B B)
   have h4 := b4J gx B
   omega
  ·have := h (B.map fun _ => 0) (b8f hn) (c3M B)
   rw [c0B, a2o] at this
   have h3 := a1r x (B.map fun _ => 0)
   have h4 := b4J gy B
   omega
  ·intro p hp hl
   simp only [a5D, Qp, Q2] at hp
   obtain ⟨a, ha, b, hb, rfl⟩ := hp
   simp only [a6q] at hl ⊢
   have l1 := b3U gx ha
   have l2 := b3U gy hb
   have k1 := c1U hl (gy.all b hb).2.2.2 (by omega) (by omega)
   have k2 := c4W hl (by omega) (by omega)
   have := h a.1 k1 (gx.all a ha).2.2.2
   rw [a2o] at this ⊢
   have h3 := a8x ha (a8S a.1)
   have h4 := a8x hb k2
   omega
theorem b5Y : ∀ {a b B : List Int}, a.length = b.length -> (leL (a2b a b) B = true ↔ leL a B = true /\ leL b B = true)
 | [], [], [], _ => by simp [a2b, leL]
 | [], [], _ :: _, _ => by simp [a2b, leL]
 | x :: a, y :: b, [], _ => by simp [a2b, leL]
 | x :: a, y :: b, z :: B, h => by
  have := b5Y (a := a) (b := b) (B := B) (by simpa using h)
  simp only [a2b, Qj, leL, Q1, decide_eq_true_eq] at *
  rw [this]
  constructor
  ·rintro ⟨h1, h2, h3⟩
   split at h1
   ·exact ⟨⟨by omega, h2⟩, by omega, h3⟩
   ·exact ⟨⟨by omega, h2⟩, by omega, h3⟩
  ·rintro ⟨⟨h1, h2⟩, h3, h4⟩
   exact ⟨by split <;> omega, h2, h4⟩
 | [], _ :: _, _, h => by simp at h
 | _ :: _, [], _, h => by simp at h
theorem b4q {w : List Int} {v : Int} {x : KV} (gx : KvOk lim x) (hw : nnL w = true) (hwl : w.length = lim.length) (hv : 0 <= v) (hB : leL B lim = true) :
  a0Z (a8G lim w v x) B <= c ↔ 0 <= c /\ mnM (a0Z x B + if leL w B = true then v else 0) <= c := by
 unfold a8G
 have h1 := a2O (.nil lim) gx
 have h2 : KvOk lim (a2q lim (raises lim [] x) w v) := h1.raise hw
 have hpn : ∀ p ∈ x.map fun p => (a2b p.1 w, p.2 + v), nnL p.1 = true := by
  intro p hp
  obtain ⟨a, ha, rfl⟩ := Q2.1 hp
  exact b4O (gx.all a ha).2.2.2 hw
 rw [a5i h2 hpn hB, b2X, a5i h1 (by simpa using hw) hB, a2S (.nil lim) gx hB, a4y]
 have hM := b4J gx B
 have h0 := a1r x B
 constructor
 ·rintro ⟨⟨⟨g0, g1⟩, g2⟩, g3⟩
  refine ⟨g0, ?_⟩
  rw [a2o]
  split
  ·rename_i hwB
   rcases b4w x B with e1 | ⟨p, p1, p2, p3⟩
   ·have := g2 (w, v) (by simp) hwB
    rw [a2o] at this
    simp only at this
    omega
   ·have := g3 (a2b p.1 w, p.2 + v) (Q2.2 ⟨p, p1, rfl⟩) ((b5Y (by rw [b3U gx p1, hwl])).2 ⟨p2, hwB⟩)
    rw [a2o] at this
    simp only at this
    omega
  ·omega
 ·rintro ⟨g0, g⟩
  rw [a2o] at g
  refine ⟨⟨⟨g0, by split at g <;> omega⟩, ?_⟩, ?_⟩
  ·intro p hp hl
   rw [List.mem_singleton] at hp
   subst hp
   simp only at hl ⊢
   rw [if_pos hl] at g
   rw [a2o]; omega
  ·intro p hp hl
   obtain ⟨a, ha, rfl⟩ := Q2.1 hp
   simp only at hl ⊢
   obtain ⟨k1, k2⟩ := (b5Y (by rw [b3U gx ha, hwl])).1 hl
   rw [if_pos k2] at g
   have := a8x ha k1
   rw [a2o]; omega
theorem b4b {v : Int} {x : KV} (gx : KvOk lim x) (hv : 0 <= v) (hB : leL B lim = true) : a0Z (a7r lim v x) B <= c ↔ 0 <= c /\ mnI (a0Z x B) v <= c := by
 unfold a7r
 have hpn : ∀ p ∈ x.map fun p => (p.1, mnI p.2 v), nnL p.1 = true := by
  intro p hp
  obtain ⟨a, ha, rfl⟩ := Q2.1 hp
  exact (gx.all a ha).2.2.2
 rw [a5i (.nil lim) hpn hB, a4y]
 refine and_congr_right fun h0 => ?_
 constructor
 ·intro h
  rcases b4w x B with e1 | ⟨p, p1, p2, p3⟩
  ·rw [e1]; unfold mnI; split <;> omega
  ·have := h _ (Q2.2 ⟨p, p1, rfl⟩) p2
   simp only at this
   have hm := (gx.all p p1).2.1
   rw [a3d (by unfold mnI; split <;> omega)] at this
   rwa [<- p3]
 ·intro h p hp hl
  obtain ⟨a, ha, rfl⟩ := Q2.1 hp
  simp only at hl ⊢
  have := a8x ha hl
  have hm := (gx.all a ha).2.1
  rw [a3d (by unfold mnI; split <;> omega)]
  unfold mnI at *
  split at h <;> split <;> omega
end
end Go.Proofs.Ythmkfeiapdbojaa
set_option maxRecDepth 100000
namespace Go.Proofs.Ythmkfeiapdbojaa
open Go.Sx Go.Kv Go.Bun
theorem a7w (lim : List Int) : ∀ l : List Ex, a1i lim l = l.map (a0o lim)
 | [] => rfl
 | e :: l => by rw [a1i, a7w lim l]; rfl
theorem b6b : ∀ {l : List Ex}, a2J l = true -> ∀ e ∈ l, okX e = true
 | x :: l, h, e, he => by
  simp only [a2J, Q1] at h
  rcases Qb.1 he with rfl | he
  ·exact h.1
  ·exact b6b h.2 e he
 | [], _, e, he => by simp at he
theorem a7u {lim : List Int} {l : List Ex} (h : a2J l = true) : ∀ x ∈ a1i lim l, KvOk lim x := b6a lim l h
def b2C (lim lim' : List Int) (x y : KV) : Prop := ∀ B, leL B lim = true -> leL B lim' = true -> nnL B = true -> a0Z x B = a0Z y B
theorem c5O {lim lim' : List Int} {x y x' y' : KV} (gx : KvOk lim x) (gy : KvOk lim y) (gx' : KvOk lim' x') (gy' : KvOk lim' y') (h1 : b2C lim lim' x x') (h2 : b2C lim lim' y y') : b2C lim lim' (a2R lim x y) (a2R lim' x' y') := by
 intro B b1 b2 b3
 refine a1C fun c => ?_
 rw [b4X gx gy b1 b3, b4X gx' gy' b2 b3]
 refine and_congr_right fun _ => forall_congr' fun D => ?_
 constructor
 ·intro h d1 d2
  have := h d1 d2
  rwa [h1 D (a2j d1 b1) (a2j d1 b2) d2, h2 (a3n B D) (a2j (a8W d2 d1) b1) (a2j (a8W d2 d1) b2) (c0v d1)] at this
 ·intro h d1 d2
  have := h d1 d2
  rwa [<- h1 D (a2j d1 b1) (a2j d1 b2) d2, <- h2 (a3n B D) (a2j (a8W d2 d1) b1) (a2j (a8W d2 d1) b2) (c0v d1)] at this
theorem b8X {lim lim' : List Int} : ∀ {l : List Ex} {x x' : KV}, a2J l = true -> KvOk lim x -> KvOk lim' x' -> b2C lim lim' x x' -> (∀ e ∈ l, b2C lim lim' (a0o lim e) (a0o lim' e)) ->
  b2C lim lim' ((a1i lim l).foldl (a2R lim) x) ((a1i lim' l).foldl (a2R lim') x')
 | [], _, _, _, _, _, h, _ => h
 | e :: l, x, x', ho, gx, gx', h, he => by
  simp only [a2J, Q1] at ho
  simp only [a1i, Qt]
  have k1 := a2i lim e ho.1
  have k2 := a2i lim' e ho.1
  exact b8X ho.2 (b1n gx k1) (b1n gx' k2) (c5O gx k1 gx' k2 h (he e (by simp))) (fun y hy => he y (by simp [hy]))
mutual
theorem c2M {lim lim' : List Int} (hl : lim.length = 6) (hl' : lim'.length = 6) : ∀ e : Ex, okX e = true -> b2C lim lim' (a0o lim e) (a0o lim' e)
 | .node op a b c d e f v l, h => by
  have hx := h
  simp only [okX, Q1, decide_eq_true_eq, Bool.or_eq_true, Bool.not_eq_true', decide_eq_false_iff_not] at h
  obtain ⟨⟨⟨⟨h1, h2⟩, h3⟩, h4⟩, h5⟩ := h
  have ih := c0J hl hl' l h5
  intro B b1 b2 b3
  have hhd : ∀ lm : List Int, KvOk lm ((a1i lm l).headD []) := fun lm => by
   cases hk : a1i lm l with
   | nil => exact .nil lm
   | cons x r => exact a7u h5 x (by rw [hk]; simp)
  have hsh : b2C lim lim' ((a1i lim l).headD []) ((a1i lim' l).headD []) := by
   cases l with
   | nil => intro B _ _ _; rfl
   | cons x r => exact ih x (by simp)
  simp only [a0o]
  split
  ·refine a1C fun c => ?_
   rw [b5R h1 b1, b5R h1 b2]
  split
  ·refine a1C fun c => ?_
   rw [b7L b1 (.nil lim) (a7u h5), b7L b2 (.nil lim') (a7u h5), a7w, a7w]
   refine and_congr Iff.rfl ?_
   simp only [Q2, forall_exists_index, and_imp, forall_apply_eq_imp_iff₂]
   constructor
   ·intro hh e he; rw [<- ih e he B b1 b2 b3]; exact hh e he
   ·intro hh e he; rw [ih e he B b1 b2 b3]; exact hh e he
  split
  ·exact b8X h5 (.nil lim) (.nil lim') (fun _ _ _ _ => rfl) ih B b1 b2 b3
  split
  ·refine a1C fun c => ?_
   rw [b4q (hhd lim) h1 (by rw [hl]; rfl) h2 b1, b4q (hhd lim') h1 (by rw [hl']; rfl) h2 b2, hsh B b1 b2 b3]
  split
  ·refine a1C fun c => ?_
   rw [b4b (hhd lim) h2 b1, b4b (hhd lim') h2 b2, hsh B b1 b2 b3]
  ·rfl
theorem c0J {lim lim' : List Int} (hl : lim.length = 6) (hl' : lim'.length = 6) : ∀ l : List Ex, a2J l = true -> ∀ e ∈ l, b2C lim lim' (a0o lim e) (a0o lim' e)
 | [], _ => by simp
 | x :: l, h => by
  simp only [a2J, Q1] at h
  have i1 := c2M hl hl' x h.1
  have i2 := c0J hl hl' l h.2
  intro e he
  rcases Qb.1 he with rfl | he
  ·exact i1
  ·exact i2 e he
end
def a1n : List Int := [4, 4, 4, 4, 4, 4]
def vX (e : Ex) (B : List Int) : Int := a0Z (a0o a1n e) B
theorem c6B {lim : List Int} {kv : KV} (h : KvOk lim kv) : a6A kv = a0Z kv lim := a1C fun c => by
 rw [b8i, a4x]
 exact and_congr_right fun _ => ⟨fun h1 p hp _ => h1 p hp, fun h1 p hp => h1 p hp (h.all p hp).2.2.1⟩
theorem c7o {s : Bd} (h : s.Ok) : leL s.l a1n = true := by
 simp only [Bd.Ok] at h
 simp only [a1n, Bd.l, leL, Q1, decide_eq_true_eq, and_true]
 omega
theorem c9r {e : Ex} (h : okX e = true) {s : Bd} (hs : s.Ok) : a6A (a0o s.l e) = vX e s.l := by
 rw [c6B (a2i s.l e h)]
 exact c2M rfl rfl e h s.l (a8S _) (c7o hs) (c3s hs)
theorem c7G {e : Ex} {s : Bd} : b4c e s.l = if chk e = 0 /\ s.Ok then vX e s.l else 0 := by
 have hb : a4B (b5Q s.l) = s.check := by
  have hiff : (b5Q s.l).ok ↔ s.Ok := by
   show (⟨s.a, s.b, s.c, s.d, s.e, s.f⟩ : W6).ok ↔ _
   simp only [W6.ok, Bd.Ok]
   constructor <;> intro h <;> omega
  unfold a4B Bd.check
  by_cases h : s.Ok
  ·rw [if_pos h, if_pos (hiff.2 h)]
  ·rw [if_neg h, if_neg (fun k => h (hiff.1 k))]
 unfold b4c
 rw [hb]
 by_cases h1 : chk e = 0
 ·rw [if_pos h1]
  by_cases h2 : s.Ok
  ·rw [if_pos (Bd.check_zero.2 h2), if_pos ⟨h1, h2⟩, c9r (b0G h1) h2]
  ·rw [if_neg (fun h => h2 (Bd.check_zero.1 h)), if_neg (fun h => h2 h.2)]
 ·rw [if_neg h1, if_neg (fun h => h1 h.1)]
theorem b4n (e : Ex) (B : List Int) : 0 <= vX e B := a1r _ _
theorem c6z {e : Ex} (h : okX e = true) (B : List Int) : vX e B <= 1000000 := b4J (a2i a1n e h) B
end Go.Proofs.Ythmkfeiapdbojaa
set_option maxRecDepth 100000
namespace Go.Proofs.Ythmkfeiapdbojaa
open Go.Sx Go.Kv Go.Bun
def a1M (f : Nat -> Int -> Int) (A : List Int) (k : Nat) : List Int := (Qq A.length).map fun (j : Nat) => if j < k then f j (A.getD j 0) else A.getD j 0
section
variable {f : Nat -> Int -> Int} {A : List Int} {k : Nat}
theorem a4u : (a1M f A k).length = A.length := by simp [a1M]
theorem a6P {j : Nat} (h : j < A.length) : (a1M f A k)[j]? = some (if j < k then f j (A.getD j 0) else A.getD j 0) := by simp [a1M, h]
theorem c2I (h : k < A.length) : (a1M f A k)[k]? = some (A.getD k 0) := by rw [a6P h, if_neg (Nat.lt_irrefl k)]
theorem c0q {v : Int} (h : k < A.length) (hv : v = f k (A.getD k 0)) : (a1M f A k).set k v = a1M f A (k + 1) := by
 apply Qf
 intro j
 rcases Qg j A.length with hj | hj
 ·rw [a6P hj, Qu]
  split
  ·rename_i he; subst he
   rw [if_pos (by rw [a4u]; exact hj), if_pos (by omega), hv]
  ·rw [a6P hj]
   by_cases h1 : j < k
   ·rw [if_pos h1, if_pos (by omega)]
   ·rw [if_neg h1, if_neg (by omega)]
 ·rw [Q3 (by simp [a4u]; exact hj), Q3 (by simp [a4u]; exact hj)]
theorem b8M : a1M f A 0 = A := by
 apply Qf
 intro j
 rcases Qg j A.length with hj | hj
 ·rw [a6P hj, if_neg (by omega), Q4, Qv hj]; rfl
 ·rw [Q3 (by simp [a4u]; exact hj), Q3 hj]
end
structure TabOk (s : Bd) (N : Nat) (X : KV) (b : Int) (A : List Int) : Prop where
 len : A.length = N
 all : ∀ j : Nat, j < N -> 0 <= A.getD j 0 /\ A.getD j 0 <= b /\ mnM (A.getD j 0) = a0Z X (s.unr j).l
def a2d (e : Ex) (s : Bd) (N : Nat) : List Int := (Qq N).map fun (j : Nat) => vX e (s.unr j).l
theorem b5G (e : Ex) (s : Bd) (N : Nat) : (a2d e s N).length = N := by simp [a2d]
theorem c0i {e : Ex} {s : Bd} {N j : Nat} (h : j < N) : (a2d e s N).getD j 0 = vX e (s.unr j).l := by simp [a2d, Q4, h]
section
variable {s : Bd} {N : Nat}
theorem b7A {s : Bd} (hs : s.Ok) (j : Nat) : leL (s.unr j).l a1n = true /\ nnL (s.unr j).l = true := ⟨c7o (a4c hs j).1, c3s (a4c hs j).1⟩
theorem c7S (hs : s.Ok) : TabOk s N [] 1000000 (Q6 N 0) := by
 refine ⟨by simp, fun j hj => ?_⟩
 have : (Q6 N (0 : Int)).getD j 0 = 0 := by simp [Q4, hj]
 rw [this]
 refine ⟨by omega, by omega, ?_⟩
 exact Qr (by rw [a3d (by omega)]; exact a1r _ _) (a4y.2 (by rw [a3d (by omega)]; exact Qe _))
def mxT (T : List Int) (j : Nat) (a : Int) : Int := mxI a (T.getD j 0)
theorem c5z (hs : s.Ok) {X : KV} {e : Ex} (he : okX e = true) (gX : KvOk a1n X) {A : List Int} (h : TabOk s N X 1000000 A) : TabOk s N (raises a1n X (a0o a1n e)) 1000000 (a1M (mxT (a2d e s N)) A N) := by
 refine ⟨by rw [a4u, h.len], fun j hj => ?_⟩
 obtain ⟨h1, h2, h3⟩ := h.all j hj
 have e1 : (a1M (mxT (a2d e s N)) A N).getD j 0 = mxI (A.getD j 0) (vX e (s.unr j).l) := by
  rw [Q4, a6P (by rw [h.len]; exact hj), if_pos hj]
  show mxT _ _ _ = _
  unfold mxT
  rw [c0i hj]
 rw [e1]
 have hv0 := b4n e (s.unr j).l
 have hv1 := c6z he (s.unr j).l
 refine ⟨by unfold mxI; split <;> omega, by unfold mxI; split <;> omega, a1C fun c => ?_⟩
 rw [a2S gX (a2i a1n e he) (b7A hs j).1, <- h3]
 show _ ↔ _ /\ vX e _ <= c
 unfold mxI mnM
 repeat' split
 all_goals omega
theorem c1C {B : List Int} {x : KV} (gx : KvOk a1n x) (hB : leL B a1n = true) (hn : nnL B = true) : a0Z (a2R a1n [] x) B = a0Z x B := by
 refine a1C fun c => ?_
 rw [b4X (.nil _) gx hB hn]
 have h0 : ∀ D, a0Z [] D = 0 := fun D => Qr (a4y.2 (Qe _)) (a1r _ _)
 constructor
 ·rintro ⟨_, h⟩
  have := h (B.map fun _ => 0) (b8f hn) (c3M B)
  rw [c0B, h0, a2o] at this
  have := b4J gx B
  omega
 ·intro h
  refine ⟨Q5 (a1r _ _) h, fun D d1 d2 => ?_⟩
  rw [h0, a2o]
  have := c1h (kv := x) (a8W d2 d1)
  omega
theorem c5T (hs : s.Ok) {e : Ex} (he : okX e = true) {A : List Int} (h : TabOk s N [] 1000000 A) : TabOk s N (a2R a1n [] (a0o a1n e)) 1000000 (a1M (mxT (a2d e s N)) A N) := by
 have h1 := c5z hs he (.nil a1n) h
 refine ⟨h1.len, fun j hj => ?_⟩
 obtain ⟨a, b, c⟩ := h1.all j hj
 obtain ⟨o1, o2⟩ := b7A hs j
 refine ⟨a, b, c.trans ?_⟩
 rw [c1C (a2i a1n e he) o1 o2]
 refine a1C fun c => ?_
 rw [a2S (.nil a1n) (a2i a1n e he) o1, a4y]
 exact ⟨fun h => h.2, fun h => ⟨Q5 (a1r _ _) h, h⟩⟩
theorem c9u (u w : Bd) : (u.sub w).l = a3n u.l w.l := rfl
theorem c1T {s : Bd} (hc : s.cnt ≠ 0) {i k : Nat} (hi : (i : Int) < s.cnt) (hk : (k : Int) < s.cnt) (h : (s.unr k).Le (s.unr i)) : k <= i := by
 have h1 := b3A hi
 have h2 := b3A hk
 have hs := Bd.ok_of_cnt hc
 have : s.horner (s.unr k) <= s.horner (s.unr i) := by
  generalize s.unr k = x at *
  generalize s.unr i = y at *
  simp only [Bd.Le] at h
  simp only [Bd.Ok] at hs
  have st : ∀ p q r t m : Int, p <= q -> r <= t -> 0 <= m -> p * m + r <= q * m + t := fun p q r t m h1 h2 h3 => by
   have := Int.mul_le_mul_of_nonneg_right h1 h3
   omega
  unfold Bd.horner
  exact st _ _ _ _ _ (st _ _ _ _ _ (st _ _ _ _ _ (st _ _ _ _ _ (st _ _ _ _ _ (st _ _ _ _ _ (Qe 0) h.1 (by omega)) h.2.1 (by omega)) h.2.2.1 (by omega)) h.2.2.2.1 (by omega)) h.2.2.2.2.1 (by omega)) h.2.2.2.2.2 (by omega)
 omega
theorem c9x (hc : s.cnt ≠ 0) (hN : (N : Int) = s.cnt) {X : KV} {e : Ex} (he : okX e = true) (gX : KvOk a1n X) {A : List Int} {b : Int} (hb : 0 <= b) (h : TabOk s N X b A) : TabOk s N (a2R a1n X (a0o a1n e)) (b + 1000000) (orT s A (a2d e s N) N) := by
 have hs := Bd.ok_of_cnt hc
 refine ⟨by unfold orT; rw [a4M], fun j hj => ?_⟩
 have e1 : (orT s A (a2d e s N) N).getD j 0 = a3l s A (a2d e s N) j (j + 1) := by rw [Q4, c7U hj]; rfl
 rw [e1]
 have hsub : ∀ k : Nat, (s.unr k).Le (s.unr j) -> ∃ r : Nat, s.horner ((s.unr j).sub (s.unr k)) = r /\ r < N /\ s.unr r = (s.unr j).sub (s.unr k) := by
  intro k hk
  have h1 := (a4c hs k).1
  have h2 := (a4c hs j)
  obtain ⟨r, r1, r2, r3⟩ := b4u hc (b := (s.unr j).sub (s.unr k)) (by
   generalize s.unr k = x at *
   generalize s.unr j = y at *
   simp only [Bd.Ok, Bd.Le, Bd.sub, Bd.map2] at *
   omega) (by
   generalize s.unr k = x at *
   generalize s.unr j = y at *
   simp only [Bd.Ok, Bd.Le, Bd.sub, Bd.map2] at *
   omega)
  exact ⟨r, r1, by omega, r3⟩
 have hterm : ∀ k : Nat, k < N -> (s.unr k).Le (s.unr j) -> A.getD k 0 + (a2d e s N).getD (s.horner ((s.unr j).sub (s.unr k))).toNat 0 = A.getD k 0 + vX e (a3n (s.unr j).l (s.unr k).l) := by
  intro k hk hkl
  obtain ⟨r, r1, r2, r3⟩ := hsub k hkl
  rw [r1, Qk, c0i r2, r3, c9u]
 refine ⟨c0R, ?_, a1C fun c => ?_⟩
 ·rw [b2G]
  refine ⟨by omega, fun k hk hkl => ?_⟩
  rw [hterm k (by omega) hkl]
  have := (h.all k (by omega)).2.1
  have := c6z he (a3n (s.unr j).l (s.unr k).l)
  omega
 ·obtain ⟨o1, o2⟩ := b7A hs j
  rw [b4X gX (a2i a1n e he) o1 o2, a2o, b2G]
  constructor
  ·intro hh
   have h0 : 0 <= c := by
    rcases hh with hh | hh
    ·exact hh.1
    ·omega
   refine ⟨h0, fun D d1 d2 => ?_⟩
   rw [a2o]
   rcases hh with ⟨_, hh⟩ | hh
   ·have hDl : D.length = 6 := by rw [a9f d1]; rfl
    obtain ⟨x, rfl⟩ := c1g hDl
    have hxo := c7h d2 (a6v.1 d1) (a4c hs j).1
    have hxs : x.Le s := by
     have h1 := a6v.1 d1
     have h2 := (a4c hs j).2
     generalize s.unr j = y at *
     simp only [Bd.Le] at *
     omega
    obtain ⟨k, k1, k2, k3⟩ := b4u hc hxo hxs
    have hle : (s.unr k).Le (s.unr j) := by rw [k3]; exact a6v.1 d1
    have hkj := c1T hc (i := j) (k := k) (by omega) k2 hle
    have := hh k (by omega) hle
    rw [hterm k (by omega) hle] at this
    have h3 := (h.all k (by omega)).2.2
    rw [k3] at h3 this
    show a0Z X x.l + vX e _ <= c \/ _
    rw [<- h3]
    have : mnM (A.getD k 0) <= A.getD k 0 := by rw [a2o]; omega
    omega
   ·omega
  ·rintro ⟨h0, hh⟩
   rcases Int.lt_or_le c 1000000 with hc1 | hc1
   ·refine .inl ⟨h0, fun k hk hkl => ?_⟩
    rw [hterm k (by omega) hkl]
    have := hh (s.unr k).l (a6v.2 hkl) (c3s (a4c hs k).1)
    rw [a2o, <- (h.all k (by omega)).2.2] at this
    have hv : a0Z (a0o a1n e) (a3n (s.unr j).l (s.unr k).l) = vX e (a3n (s.unr j).l (s.unr k).l) := rfl
    rw [hv] at this
    have h4 := b4n e (a3n (s.unr j).l (s.unr k).l)
    have h5 : mnM (A.getD k 0) < 1000000 := by omega
    have h6 : mnM (A.getD k 0) = A.getD k 0 := by
     unfold mnM at h5 ⊢
     split
     ·rfl
     ·rename_i h7; rw [if_neg h7] at h5; omega
    omega
   ·exact .inr hc1
end
end Go.Proofs.Ythmkfeiapdbojaa
set_option maxRecDepth 100000
namespace Go.Proofs.Ythmkfeiapdbojaa
open Go.Sx Go.Kv Go.Bun
def b2q (op v : Int) (ins : Bool) (a : Int) : Int := if (op = 1 \/ op = 4) /\ ins = true then a + v else a
def b2K (op v a : Int) : Int := if op = 5 then mnI a v else a
def b0f (op v : Int) (ins : Bool) (a : Int) : Int := mnM (b2K op v (b2q op v ins a))
def b9z (op : Int) : KV -> KV -> KV := if op = 3 then a2R a1n else raises a1n
def a4t (op : Int) (l : List Ex) : KV := (a1i a1n l).foldl (b9z op) []
theorem c2L {op a b c d e f v : Int} {l : List Ex} (h : a2p (.node op a b c d e f v l) = 0) : (op = 1 /\ l = [] /\ 1 <= v /\ v <= 1000000) \/ ((op = 2 \/ op = 3) /\ 1 <= l.length /\ l.length <= 8) \/ (op = 4 /\ (∃ x, l = [x]) /\ 1 <= v /\ v <= 1000000) \/ (op = 5 /\ (∃ x, l = [x]) /\ 1 <= v /\ v <= 1000000) := by
 unfold a2p at h
 split at h
 case isFalse => cases h
 rename_i hf
 split at h
 case isFalse => cases h
 rename_i hr
 simp only [Ex.form] at hf
 simp only [Ex.rng] at hr
 have hf := of_decide_eq_true hf
 have hr := of_decide_eq_true hr
 unfold b2M at hf
 unfold b2f at hr
 have one : (l.length : Int) = 1 -> ∃ x, l = [x] := fun h1 => List.length_eq_one_iff.1 (by omega)
 have nil : (l.length : Int) = 0 -> l = [] := fun h1 => List.eq_nil_of_length_eq_zero (by omega)
 rcases hf with ⟨h1, h2⟩ | ⟨h1, h2, h3, _⟩ | ⟨h1, h2⟩ | ⟨h1, h2, _⟩
 ·exact .inl ⟨h1, nil h2, by omega, by omega⟩
 ·exact .inr (.inl ⟨h1, by omega, by omega⟩)
 ·exact .inr (.inr (.inl ⟨h1, one h2, by omega, by omega⟩))
 ·exact .inr (.inr (.inr ⟨h1, one h2, by omega, by omega⟩))
theorem c8S {a : Int} (h : mnM a < 1000000) : mnM a = a := by
 unfold mnM at h ⊢
 split
 ·rfl
 ·rename_i h7; rw [if_neg h7] at h; omega
theorem c9h {s : Bd} {N : Nat} {op a b c0 d e f v : Int} {l : List Ex} (hok : okX (.node op a b c0 d e f v l) = true) (hnd : a2p (.node op a b c0 d e f v l) = 0) (hs : s.Ok) {A : List Int} {bb : Int} (hb : op ≠ 3 -> bb <= 1000000) (h : TabOk s N (a4t op l) bb A) {j : Nat} (hj : j < N) :
  b0f op v (decide ((⟨a, b, c0, d, e, f⟩ : Bd).Le (s.unr j))) (A.getD j 0) = vX (.node op a b c0 d e f v l) (s.unr j).l := by
 obtain ⟨h1, h2, h3⟩ := h.all j hj
 obtain ⟨o1, o2⟩ := b7A hs j
 have hok' := hok
 simp only [okX, Q1, decide_eq_true_eq] at hok'
 obtain ⟨⟨⟨⟨k1, k2⟩, k3⟩, _⟩, k5⟩ := hok'
 have hll := a7u (lim := a1n) k5
 have hw : ∀ u : Bd, leL [a, b, c0, d, e, f] u.l = true ↔ (⟨a, b, c0, d, e, f⟩ : Bd).Le u := fun u => a6v (x := ⟨a, b, c0, d, e, f⟩)
 unfold vX
 rcases c2L hnd with ⟨rfl, rfl, v1, v2⟩ | ⟨ho, l1, l2⟩ | ⟨rfl, ⟨x, rfl⟩, v1, v2⟩ | ⟨rfl, ⟨x, rfl⟩, v1, v2⟩
 ·have hz : A.getD j 0 = 0 := by
   have h0 : a0Z (a4t 1 []) (s.unr j).l = 0 := Qr (a4y.2 (Qe _)) (a1r _ _)
   rw [h0] at h3
   have := c8S (a := A.getD j 0) (by rw [h3]; omega)
   rw [h3] at this
   exact this.symm
  rw [hz]
  refine a1C fun c => ?_
  simp only [a0o, if_true]
  rw [b5R k1 o1, hw]
  unfold b0f b2K b2q
  by_cases hl : (⟨a, b, c0, d, e, f⟩ : Bd).Le (s.unr j)
  ·simp only [hl, decide_true, and_self, or_false, true_or, if_true, Int.reduceEq, if_false, true_implies, Int.zero_add]
   rw [a3d v2]
   omega
  ·simp only [hl, decide_false, Qw, and_false, if_false, Int.reduceEq, false_imp_iff, and_true]
   rw [a3d (by omega)]
 ·have hop : ¬ ((op = 1 \/ op = 4) /\ decide ((⟨a, b, c0, d, e, f⟩ : Bd).Le (s.unr j)) = true) := by omega
  have hop5 : op ≠ 5 := by omega
  unfold b0f b2K b2q
  rw [if_neg hop, if_neg hop5, h3]
  rcases ho with rfl | rfl
  ·rfl
  ·rfl
 ·have hx := b6b k5 x (by simp)
  have gx := a2i a1n x hx
  have hfold : a0Z (a4t 4 [x]) (s.unr j).l = a0Z (a0o a1n x) (s.unr j).l := by
   refine a1C fun c => ?_
   show a0Z (raises a1n [] (a0o a1n x)) _ <= c ↔ _
   rw [a2S (.nil a1n) gx o1, a4y]
   exact ⟨fun h => h.2, fun h => ⟨Q5 (a1r _ _) h, h⟩⟩
  have hA : A.getD j 0 = a0Z (a0o a1n x) (s.unr j).l := by
   rw [<- hfold, <- h3, a3d (Q5 h2 (hb (by decide)))]
  rw [hA]
  refine a1C fun c => ?_
  simp only [a0o, a1i, Int.reduceEq, if_false, if_true, Qy]
  rw [b4q gx k1 rfl k2 o1]
  have h0 := a1r (a0o a1n x) (s.unr j).l
  unfold b0f b2K b2q
  by_cases hl : (⟨a, b, c0, d, e, f⟩ : Bd).Le (s.unr j)
  ·rw [if_pos ((hw _).2 hl)]
   simp only [hl, decide_true, and_self, or_true, if_true, Int.reduceEq, if_false]
   simp only [a2o]
   omega
  ·rw [if_neg (fun hh => hl ((hw _).1 hh))]
   simp only [hl, decide_false, Qw, and_false, if_false, Int.reduceEq]
   simp only [a2o]
   omega
 ·have hx := b6b k5 x (by simp)
  have gx := a2i a1n x hx
  have hfold : a0Z (a4t 5 [x]) (s.unr j).l = a0Z (a0o a1n x) (s.unr j).l := by
   refine a1C fun c => ?_
   show a0Z (raises a1n [] (a0o a1n x)) _ <= c ↔ _
   rw [a2S (.nil a1n) gx o1, a4y]
   exact ⟨fun h => h.2, fun h => ⟨Q5 (a1r _ _) h, h⟩⟩
  have hA : A.getD j 0 = a0Z (a0o a1n x) (s.unr j).l := by
   rw [<- hfold, <- h3, a3d (Q5 h2 (hb (by decide)))]
  rw [hA]
  refine a1C fun c => ?_
  simp only [a0o, a1i, Int.reduceEq, if_false, if_true, Qy]
  rw [b4b gx k2 o1]
  have h0 := a1r (a0o a1n x) (s.unr j).l
  have hM := b4J gx (s.unr j).l
  unfold b0f b2K b2q
  simp only [Int.reduceEq, or_self, false_and, if_false, if_true]
  rw [a3d (by unfold mnI; split <;> omega)]
  constructor
  ·intro h; exact ⟨by unfold mnI at h; split at h <;> omega, h⟩
  ·exact fun h => h.2
theorem c3S {op : Int} {l : List Ex} {i : Nat} {e : Ex} (h : l[i]? = some e) : a4t op (l.take (i + 1)) = b9z op (a4t op (l.take i)) (a0o a1n e) := by
 unfold a4t
 rw [a7w, a7w, List.take_add_one, h]
 simp
theorem c6f {op : Int} {l : List Ex} (h : a2J l = true) : KvOk a1n (a4t op l) := by
 unfold a4t
 refine b2Q (fun a b ha hb => ?_) (.nil a1n) (a7u h)
 unfold b9z
 split
 ·exact b1n ha hb
 ·exact a2O ha hb
end Go.Proofs.Ythmkfeiapdbojaa
set_option maxRecDepth 100000
namespace Go.Proofs.Ythmkfeiapdbojaa
open Go.Sx Go.Kv Go.Bun
theorem b8y (s : Bd) (hs : s.Ok) (σ : List MO) (n : Nat) : a0e Tab (n + 1) 83 [.agg (bpv s)] σ = some (.int .i64 s.prod, σ) := by
 obtain ⟨p1, p2, p3, p4, p5, p6, e1, e2, e3, e4, e5, e6, b1, b2, b3, b4, b5, b6, hp⟩ := b6d hs
 rw [hp]
 obtain ⟨a, b, c, d, e, f⟩ := s
 simp only [Bd.Ok] at hs
 simp only at e1 e2 e3 e4 e5 e6
 simp only [bpv]
 rw [a0e, a9r]
 simp only [Q0, Sys.run]
 show ((a0i [.sh (.agg [_, _, _, _, _, _])] _).bind _) = _
 simp only [a0i, a0d, a0c, Q7, Q0, Q8, Q9, Qa, if_true]
 show (PT.ev _ a3W _).bind _ = _
 have n1 : (leB (-9223372036854775808) (a + 1) && leB (a + 1) 9223372036854775807) = true := a0z (by omega)
 have n2 : (leB (-9223372036854775808) (b + 1) && leB (b + 1) 9223372036854775807) = true := a0z (by omega)
 have n3 : (leB (-9223372036854775808) (c + 1) && leB (c + 1) 9223372036854775807) = true := a0z (by omega)
 have n4 : (leB (-9223372036854775808) (d + 1) && leB (d + 1) 9223372036854775807) = true := a0z (by omega)
 have n5 : (leB (-9223372036854775808) (e + 1) && leB (e + 1) 9223372036854775807) = true := a0z (by omega)
 have n6 : (leB (-9223372036854775808) (f + 1) && leB (f + 1) 9223372036854775807) = true := a0z (by omega)
 have m1 : (leB (-9223372036854775808) p1 && leB p1 9223372036854775807) = true := a0z (by omega)
 have m2 : (leB (-9223372036854775808) p2 && leB p2 9223372036854775807) = true := a0z (by omega)
 have m3 : (leB (-9223372036854775808) p3 && leB p3 9223372036854775807) = true := a0z (by omega)
 have m4 : (leB (-9223372036854775808) p4 && leB p4 9223372036854775807) = true := a0z (by omega)
 have m5 : (leB (-9223372036854775808) p5 && leB p5 9223372036854775807) = true := a0z (by omega)
 have m6 : (leB (-9223372036854775808) p6 && leB p6 9223372036854775807) = true := a0z (by omega)
 simp -implicitDefEqProofs only [a3W, ↓reduceIte,eq_self,ξ1,ξ2,ξ3,ξ4,ξ5,ξ6,ξ7,ξ8,ξ9,ξa,ξb,ξc,ξd,ξe,ξf,ξg,ξh,Nat.reduceAdd,ξi,if_true,if_false,ξl,ξm,ξn,ξo,ξp,ξq,ξr,ξs,ξt,ξu,ξv,ξw,ξx,ξy,ξz,ξA,ξB,ξC,ξD,ξE, a0k, or_true, n1, n2, n3, n4, n5, n6, e1, e2, e3, e4, e5, e6, m1, m2, m3, m4, m5, m6]
theorem c7b (s : Bd) (hs : s.Ok) {i : Int} (hi : 0 <= i /\ i <= 1000000) (σ : List MO) (n : Nat) : a0e Tab (n + 1) 58 [.agg (bpv s), .int .i64 i] σ = some (.agg (bpv (s.unr i)), σ) := by
 obtain ⟨a, b, c, d, e, f⟩ := s
 simp only [Bd.Ok] at hs
 simp only [bpv, Bd.unr]
 have ne : ∀ x : Int, 0 <= x -> (!eqB (x + 1) 0) = true := fun x hx => by simp [eqB]; omega
 have ok1 : ∀ x : Int, 0 <= x /\ x <= 4 -> (leB (-9223372036854775808) (x + 1) && leB (x + 1) 9223372036854775807) = true := fun x hx => a0z (by omega)
 have q1 := b4W (x := i) (y := f + 1) hi.1 (by omega)
 have q2 := b4W (x := i.tdiv (f + 1)) (y := e + 1) q1.1 (by omega)
 have q3 := b4W (x := (i.tdiv (f + 1)).tdiv (e + 1)) (y := d + 1) q2.1 (by omega)
 have q4 := b4W (x := ((i.tdiv (f + 1)).tdiv (e + 1)).tdiv (d + 1)) (y := c + 1) q3.1 (by omega)
 have q5 := b4W (x := (((i.tdiv (f + 1)).tdiv (e + 1)).tdiv (d + 1)).tdiv (c + 1)) (y := b + 1) q4.1 (by omega)
 have q6 := b4W (x := ((((i.tdiv (f + 1)).tdiv (e + 1)).tdiv (d + 1)).tdiv (c + 1)).tdiv (b + 1)) (y := a + 1) q5.1 (by omega)
 have ok2 : ∀ x : Int, 0 <= x /\ x <= 1000000 -> (leB (-9223372036854775808) x && leB x 9223372036854775807) = true := fun x hx => a0z (by omega)
 have k1 := ok2 _ ⟨q1.1, by omega⟩
 have k2 := ok2 _ ⟨q2.1, by omega⟩
 have k3 := ok2 _ ⟨q3.1, by omega⟩
 have k4 := ok2 _ ⟨q4.1, by omega⟩
 have k5 := ok2 _ ⟨q5.1, by omega⟩
 have k6 := ok2 _ ⟨q6.1, by omega⟩
 rw [a0e, b2i]
 simp only [Q0, Sys.run]
 show ((a0i [.sh (.agg [_, _, _, _, _, _]), .sh (.one _)] _).bind _) = _
 simp only [a0i, a0d, a0c, Q7, Q0, Q8, Q9, Qa, if_true]
 show (PT.ev _ a4Z _).bind _ = _
 simp -implicitDefEqProofs only [a4Z, ↓reduceIte,eq_self,ξ1,ξ2,ξ3,ξ4,ξ5,ξ6,ξ7,ξ8,ξ9,ξa,ξb,ξc,ξd,ξe,ξf,ξg,ξh,Nat.reduceAdd,ξi,if_true,if_false,ξl,ξm,ξn,ξo,ξp,ξq,ξr,ξs,ξt,ξu,ξv,ξw,ξx,ξy,ξz,ξA,ξB,ξC,ξD,ξE, a0k, or_true, ne a hs.1.1, ne b hs.2.1.1, ne c hs.2.2.1.1, ne d hs.2.2.2.1.1, ne e hs.2.2.2.2.1.1, ne f hs.2.2.2.2.2.1, ok1 a hs.1, ok1 b hs.2.1, ok1 c hs.2.2.1, ok1 d hs.2.2.2.1, ok1 e hs.2.2.2.2.1, ok1 f hs.2.2.2.2.2, k1, k2, k3, k4, k5, k6]
theorem c5M (s : Bd) (hs : s.Ok) (x : Bd) (hx : x.Ok) (σ : List MO) (n : Nat) : a0e Tab (n + 1) 94 [.agg (bpv s), .agg (bpv x)] σ = some (.int .i64 (s.horner x), σ) := by
 obtain ⟨a, b, c, d, e, f⟩ := s
 obtain ⟨x0, x1, x2, x3, x4, x5⟩ := x
 simp only [Bd.Ok] at hs hx
 simp only [bpv, Bd.horner]
 have ok1 : ∀ x : Int, 0 <= x /\ x <= 4 -> (leB (-9223372036854775808) (x + 1) && leB (x + 1) 9223372036854775807) = true := fun x hx => a0z (by omega)
 have ok2 : ∀ x : Int, 0 <= x /\ x <= 1000000 -> (leB (-9223372036854775808) x && leB x 9223372036854775807) = true := fun x hx => a0z (by omega)
 obtain ⟨z1, hz1⟩ : ∃ z, z = 0 * (a + 1) := ⟨_, rfl⟩
 have hz1' : z1 = 0 := by rw [hz1]; omega
 have u2 := a1T (x := z1 + x0) (y := b + 1) (A := 4) (B := 5) (by omega) (by omega)
 have u3 := a1T (x := (z1 + x0) * (b + 1) + x1) (y := c + 1) (A := 24) (B := 5) (by omega) (by omega)
 have u4 := a1T (x := ((z1 + x0) * (b + 1) + x1) * (c + 1) + x2) (y := d + 1) (A := 124) (B := 5) (by omega) (by omega)
 have u5 := a1T (x := (((z1 + x0) * (b + 1) + x1) * (c + 1) + x2) * (d + 1) + x3) (y := e + 1) (A := 624) (B := 5) (by omega) (by omega)
 have u6 := a1T (x := ((((z1 + x0) * (b + 1) + x1) * (c + 1) + x2) * (d + 1) + x3) * (e + 1) + x4) (y := f + 1) (A := 3124) (B := 5) (by omega) (by omega)
 rw [<- hz1]
 have j1 := ok2 z1 (by omega)
 have j1' := ok2 (z1 + x0) (by omega)
 have j2 := ok2 _ ⟨u2.1, by omega⟩
 have j2' := ok2 ((z1 + x0) * (b + 1) + x1) (by omega)
 have j3 := ok2 _ ⟨u3.1, by omega⟩
 have j3' := ok2 (((z1 + x0) * (b + 1) + x1) * (c + 1) + x2) (by omega)
 have j4 := ok2 _ ⟨u4.1, by omega⟩
 have j4' := ok2 ((((z1 + x0) * (b + 1) + x1) * (c + 1) + x2) * (d + 1) + x3) (by omega)
 have j5 := ok2 _ ⟨u5.1, by omega⟩
 have j5' := ok2 (((((z1 + x0) * (b + 1) + x1) * (c + 1) + x2) * (d + 1) + x3) * (e + 1) + x4) (by omega)
 have j6 := ok2 _ ⟨u6.1, by omega⟩
 have j6' := ok2 ((((((z1 + x0) * (b + 1) + x1) * (c + 1) + x2) * (d + 1) + x3) * (e + 1) + x4) * (f + 1) + x5) (by omega)
 rw [a0e, a9o]
 simp only [Q0, Sys.run]
 show ((a0i [.sh (.agg [_, _, _, _, _, _]), .sh (.agg [_, _, _, _, _, _])] _).bind _) = _
 simp only [a0i, a0d, a0c, Q7, Q0, Q8, Q9, Qa, if_true]
 show (PT.ev _ a3S _).bind _ = _
 simp -implicitDefEqProofs only [a3S, ↓reduceIte,eq_self,ξ1,ξ2,ξ3,ξ4,ξ5,ξ6,ξ7,ξ8,ξ9,ξa,ξb,ξc,ξd,ξe,ξf,ξg,ξh,Nat.reduceAdd,ξi,if_true,if_false,ξl,ξm,ξn,ξo,ξp,ξq,ξr,ξs,ξt,ξu,ξv,ξw,ξx,ξy,ξz,ξA,ξB,ξC,ξD,ξE, a0k, or_true, ok1 a hs.1, ok1 b hs.2.1, ok1 c hs.2.2.1, ok1 d hs.2.2.2.1, ok1 e hs.2.2.2.2.1, ok1 f hs.2.2.2.2.2, <- hz1, j1, j1', j2, j2', j3, j3', j4, j4', j5, j5', j6, j6']
theorem a5r (x y : Bd) (σ : List MO) (n : Nat) : a0e Tab (n + 1) a9V [.agg (bpv x), .agg (bpv y)] σ = some (.bool (decide (x.Le y)), σ) := by
 obtain ⟨a, b, c, d, e, f⟩ := y
 obtain ⟨x0, x1, x2, x3, x4, x5⟩ := x
 simp only [bpv]
 rw [a0e, a8J]
 simp only [Q0, Sys.run]
 show ((a0i [.sh (.agg [_, _, _, _, _, _]), .sh (.agg [_, _, _, _, _, _])] _).bind _) = _
 simp only [a0i, a0d, a0c, Q7, Q0, Q8, Q9, Qa, if_true]
 show (PT.ev _ a3H _).bind _ = _
 simp -implicitDefEqProofs only [a3H, ↓reduceIte,eq_self,ξ1,ξ2,ξ3,ξ4,ξ5,ξ6,ξ7,ξ8,ξ9,ξa,ξb,ξc,ξd,ξe,ξf,ξg,ξh,Nat.reduceAdd,ξi,if_true,if_false,ξl,ξm,ξn,ξo,ξp,ξq,ξr,ξs,ξt,ξu,ξv,ξw,ξx,ξy,ξz,ξA,ξB,ξC,ξD,ξE, a0k, or_true, a1k]
 have hd : ∀ (p q : Prop) [Decidable p] [Decidable q], (p ↔ q) -> decide p = decide q := fun p q _ _ h => by simp [h]
 repeat' split
 all_goals first
  | (rw [decide_eq_true (p := Bd.Le _ _) (by simp only [Bd.Le]; omega)]; rfl)
  | (rw [decide_eq_false (p := Bd.Le _ _) (by simp only [Bd.Le]; omega)]; rfl)
theorem c8h (v : Int) (σ : List MO) (n : Nat) : a0e Tab (n + 1) 85 [.int .i64 v] σ = some (.int .i64 (mnM v), σ) := by
 rw [a0e, b0n]
 simp only [Q0, Sys.run]
 show ((a0i [.sh (.one _)] _).bind _) = _
 simp only [a0i, a0d, a0c, Q7, Q0, Q8, Q9, Qa, if_true]
 show (PT.ev _ a4r _).bind _ = _
 simp -implicitDefEqProofs only [a4r, ↓reduceIte,eq_self,ξ1,ξ2,ξ3,ξ4,ξ5,ξ6,ξ7,ξ8,ξ9,ξa,ξb,ξc,ξd,ξe,ξf,ξg,ξh,Nat.reduceAdd,ξi,if_true,if_false,ξl,ξm,ξn,ξo,ξp,ξq,ξr,ξs,ξt,ξu,ξv,ξw,ξx,ξy,ξz,ξA,ξB,ξC,ξD,ξE, a0k, or_true, a1k]
 unfold mnM
 split
 ·rw [if_neg (by omega)]; rfl
 ·rw [if_pos (by omega)]; rfl
end Go.Proofs.Ythmkfeiapdbojaa
set_option maxRecDepth 100000
namespace Go.Proofs.Ythmkfeiapdbojaa
open Go.Sx Go.Kv Go.Bun
def a0R (s : Bd) (N i : Nat) : List (List PV) := (Qq N).map fun (j : Nat) => if j < i then bpv (s.unr j) else bpv Bd.zero
theorem a5g (s : Bd) (N i : Nat) : (a0R s N i).length = N := by simp [a0R]
theorem a6r {s : Bd} {N i j : Nat} (h : j < N) : (a0R s N i)[j]? = some (if j < i then bpv (s.unr j) else bpv Bd.zero) := by simp [a0R, h]
theorem b1V (s : Bd) (N i : Nat) : ∀ r ∈ a0R s N i, r.length = 6 := by
 intro r hr
 obtain ⟨j, _, rfl⟩ := Q2.1 hr
 split <;> rfl
theorem c3Y {s : Bd} {N i : Nat} (hi : i < N) : (a0R s N i).set i (bpv (s.unr i)) = a0R s N (i + 1) := by
 apply Qf
 intro j
 rcases Qg j N with hj | hj
 ·rw [a6r hj, Qu]
  split
  ·rename_i he; subst he
   rw [if_pos (by rw [a5g]; exact hj), if_pos (by omega)]
  ·rw [a6r hj]
   by_cases h1 : j < i
   ·rw [if_pos h1, if_pos (by omega)]
   ·rw [if_neg h1, if_neg (by omega)]
 ·rw [Q3 (by simp [a5g]; exact hj), Q3 (by simp [a5g]; exact hj)]
theorem c1x (s : Bd) (N : Nat) : a0R s N 0 = Q6 N (bpv Bd.zero) := by
 apply Qf
 intro j
 rcases Qg j N with hj | hj
 ·rw [a6r hj, List.getElem?_replicate, if_pos hj, if_neg (by omega)]
 ·rw [Q3 (by simp [a5g]; exact hj), Q3 (by simp; exact hj)]
def mOr (σ : List MO) (out : List Int) (P : List (List PV)) : List MO := σ ++ [.cells (iPV out) 2, .cells P.flatten 23]
section
variable {σ : List MO} {s : Bd} {N hx hy : Nat} {x y : List Int}
theorem c7f (out : List Int) (P : List (List PV)) : (mOr σ out P)[σ.length]? = some (.cells (iPV out) 2) := c9y _ _ _
theorem c4e (out : List Int) (P : List (List PV)) : (mOr σ out P)[σ.length + 1]? = some (.cells P.flatten 23) := c9n _ _ _ _
theorem c5x {h : Nat} {o : MO} (ho : σ[h]? = some o) (out : List Int) (P : List (List PV)) : (mOr σ out P)[h]? = some o := by
 unfold mOr; rw [Qz (Qh.1 ho).1]; exact ho
theorem c9b (out out' : List Int) (P : List (List PV)) : (mOr σ out P).set σ.length (.cells (iPV out') 2) = mOr σ out' P := c9E _ _ _ _
theorem c8W (out : List Int) (P P' : List (List PV)) : (mOr σ out P).set (σ.length + 1) (.cells P'.flatten 23) = mOr σ out P' := c9B _ _ _ _ _
abbrev orV (σ : List MO) (N hx hy : Nat) : List PV := [.msl hx 0 N N 1, .msl hy 0 N N 1, .msl σ.length 0 N N 1, .msl (σ.length + 1) 0 N N 6]
theorem c9D {q : Nat} {s : Bd} (hs : s.Ok) (hN : (N : Int) = s.cnt) (hN1 : N <= 1024) (out : List Int) : ∀ i, i < N -> ∀ fuel,
  saleroomref13_or_S.loop (a0e Tab (q + 1)) (fuel + 1) 0 { i := [(N : Int), (i : Int), s.a, s.b, s.c, s.d, s.e, s.f], b := [], v := orV σ N hx hy, m := mOr σ out (a0R s N i), k := σ.length } =
  saleroomref13_or_S.loop (a0e Tab (q + 1)) fuel 0 { i := [(N : Int), ((i + 1 : Nat) : Int), s.a, s.b, s.c, s.d, s.e, s.f], b := [], v := orV σ N hx hy, m := mOr σ out (a0R s N (i + 1)), k := σ.length } := by
 intro i hi fuel
 have h1 := c7b s hs (i := i) (by omega) (mOr σ out (a0R s N i)) q
 have gp := c4e (σ := σ) out (a0R s N i)
 have hset : (mOr σ out (a0R s N i)).set (σ.length + 1) (.cells (a1H (a0R s N i).flatten (i * 6) (bpv (s.unr i))) 23) = mOr σ out (a0R s N (i + 1)) := by
  rw [c5F (b1V s N i) (by rw [a5g]; exact hi) rfl, c3Y hi, c8W]
 have hst := c1t (r := bpv (s.unr i)) (b1V s N i) (by rw [a5g]; exact hi) rfl
 generalize a0R s N (i + 1) = P1 at *
 generalize a0R s N i = P at *
 generalize hU : s.unr i = u at *
 obtain ⟨a, b, c, d, e, f⟩ := s
 obtain ⟨u0, u1, u2, u3, u4, u5⟩ := u
 have l1 := a9M (h := σ.length + 1) (c := N) (sz := 6) hi 0
 have q0 : ltB (i : Int) (N : Int) = true := by simp [ltB]; exact hi
 have q1 : (leB 0 (i : Int) && ltB (i : Int) (N : Int)) = true := by simp [leB, ltB]; exact hi
 have q2 := a5p (i := i) (by omega)
 have hlen : ∀ h z, (PV.msl h 0 N N z).len = (N : Int) := fun _ _ => rfl
 simp only [bpv, List.length_cons, List.length_nil, Nat.reduceAdd] at h1 hset hst ⊢
 rw [Sys.loop, show saleroomref13_or_S.loops[0]? = some a2v from rfl]
 simp -implicitDefEqProofs only [Q0, a2v, ↓reduceIte,eq_self,ξ1,ξ2,ξ3,ξ4,ξ5,ξ6,ξ7,ξ8,ξ9,ξa,ξb,ξc,ξd,ξe,ξf,ξg,ξh,Nat.reduceAdd,ξi,if_true,if_false,ξl,ξm,ξn,ξo,ξp,ξq,ξr,ξs,ξt,ξu,ξv,ξw,ξx,ξy,ξz,ξA,ξB,ξC,ξD,ξE, q0, h1, le0, hlen, l1, gp, hst, hset, q2, a0H]
theorem c9m {q : Nat} {s : Bd} (hs : s.Ok) (hN : (N : Int) = s.cnt) (hN1 : N <= 1024) (gx : σ[hx]? = some (.cells (iPV x) 2)) (gy : σ[hy]? = some (.cells (iPV y) 2)) (hxl : x.length = N) (hyl : y.length = N)
  (hxb : ∀ z ∈ x, 0 <= z /\ z <= 1000000000) (hyb : ∀ z ∈ y, 0 <= z /\ z <= 1000000000) {i : Nat} (hi : i < N) {u : Bd} (hu : s.unr i = u) : ∀ j, j < i + 1 -> ∀ fuel,
  saleroomref13_or_S.loop (a0e Tab (q + 1)) (fuel + 1) 2 { i := [(N : Int), (i : Int), (j : Int), s.a, s.b, s.c, s.d, s.e, s.f, u.a, u.b, u.c, u.d, u.e, u.f], b := [], v := orV σ N hx hy, m := mOr σ (a1d s x y N i j) (a0R s N N), k := σ.length } =
  saleroomref13_or_S.loop (a0e Tab (q + 1)) fuel 2 { i := [(N : Int), (i : Int), ((j + 1 : Nat) : Int), s.a, s.b, s.c, s.d, s.e, s.f, u.a, u.b, u.c, u.d, u.e, u.f], b := [], v := orV σ N hx hy, m := mOr σ (a1d s x y N i (j + 1)) (a0R s N N), k := σ.length } := by
 intro j hj fuel
 have hjN : j < N := by omega
 have hw := a5r (s.unr j) u (mOr σ (a1d s x y N i j) (a0R s N N)) q
 have gp := c4e (σ := σ) (a1d s x y N i j) (a0R s N N)
 have go := c7f (σ := σ) (a1d s x y N i j) (a0R s N N)
 have rp := c0z (b1V s N N) (a6r (s := s) (i := N) hjN)
 rw [if_pos hjN] at rp
 have lp := a9M (h := σ.length + 1) (c := N) (sz := 6) hjN 0
 have q0 : leB (j : Int) (i : Int) = true := by simp [leB]; omega
 have qj : ltB (j : Int) (N : Int) = true := by simp [ltB]; exact hjN
 have qi : ltB (i : Int) (N : Int) = true := by simp [ltB]; exact hi
 have q2 := a5p (i := j) (by omega)
 have hlen : ∀ h z, (PV.msl h 0 N N z).len = (N : Int) := fun _ _ => rfl
 have hss := a4c hs j
 have hsu := a4c hs i
 have hOut : a3l s x y i (j + 1) = b3K s x y i (a3l s x y i j) j := b7v _ _ _ _ _
 unfold b3K at hOut
 rw [hu] at hOut hsu
 have hcz : s.cnt ≠ 0 := by omega
 unfold a0f at rp
 rw [Sys.loop, show saleroomref13_or_S.loops[2]? = some a1F from rfl]
 by_cases hle : (s.unr j).Le u
 case neg =>
  rw [if_neg hle] at hOut
  have hsame : a1d s x y N i (j + 1) = a1d s x y N i j := by
   unfold a1d
   rw [hOut]
  rw [hsame]
  rw [decide_eq_false hle] at hw
  generalize a0R s N N = P at *
  generalize a1d s x y N i j = out at *
  generalize hU : s.unr j = w at *
  obtain ⟨a, b, c, d, e, f⟩ := s
  obtain ⟨u0, u1, u2, u3, u4, u5⟩ := u
  obtain ⟨w0, w1, w2, w3, w4, w5⟩ := w
  simp only [bpv] at hw rp
  simp -implicitDefEqProofs only [Q0, a1F, ↓reduceIte,eq_self,ξ1,ξ2,ξ3,ξ4,ξ5,ξ6,ξ7,ξ8,ξ9,ξa,ξb,ξc,ξd,ξe,ξf,ξg,ξh,Nat.reduceAdd,ξi,if_true,if_false,ξl,ξm,ξn,ξo,ξp,ξq,ξr,ξs,ξt,ξu,ξv,ξw,ξx,ξy,ξz,ξA,ξB,ξC,ξD,ξE, q0, hw, qj, le0, hlen, lp, gp, MO.list, rp, q2, a0H]
 rw [if_pos hle] at hOut
 rw [decide_eq_true hle] at hw
 have hsub : (u.sub (s.unr j)).Ok /\ (u.sub (s.unr j)).Le s := by
  have h1 := hss.1
  have h2 := hsu.1
  have h3 := hsu.2
  simp only [Bd.Ok, Bd.Le, Bd.sub, Bd.map2] at *
  omega
 have hix := c5M s hs (u.sub (s.unr j)) hsub.1 (mOr σ (a1d s x y N i j) (a0R s N N)) q
 obtain ⟨r, hr, hrN, _⟩ := b4u hcz hsub.1 hsub.2
 rw [hr] at hix hOut
 rw [Qk] at hOut
 obtain ⟨xv, hxv⟩ := a7n (l := x) (i := j) (by omega)
 obtain ⟨yv, hyv⟩ := a7n (l := y) (i := r) (by omega)
 have e1 : x.getD j 0 = xv := by rw [Q4, hxv]; rfl
 have e2 : y.getD r 0 = yv := by rw [Q4, hyv]; rfl
 rw [e1, e2] at hOut
 have hx1 := hxb xv (Qm hxv)
 have hy1 := hyb yv (Qm hyv)
 have q3 : (leB (-9223372036854775808) (xv + yv) && leB (xv + yv) 9223372036854775807) = true := a0z (by omega)
 have gx' := c5x gx (a1d s x y N i j) (a0R s N N)
 have gy' := c5x gy (a1d s x y N i j) (a0R s N N)
 have ro := a5x (a7s (s := s) (x := x) (y := y) (N := N) (i := i) (j := j) hi)
 rw [if_neg (Nat.lt_irrefl i), if_pos rfl] at ro
 have rx := a5x hxv
 have ry := a5x hyv
 have qr : ltB (r : Int) (N : Int) = true := by simp [ltB]; omega
 have lo := a2B (h := σ.length) (c := N) hi
 have lx := a2B (h := hx) (c := N) hjN
 have ly := a2B (h := hy) (c := N) (i := r) (n := N) (by omega)
 have hset : (mOr σ (a1d s x y N i j) (a0R s N N)).set σ.length (.cells (a1H (iPV (a1d s x y N i j)) i [.int .i64 (mxI (a3l s x y i j) (xv + yv))]) 2) = mOr σ (a1d s x y N i (j + 1)) (a0R s N N) := by
  rw [b4F (by rw [a4M]; exact hi), c5f hOut.symm hi, c9b]
 have hst : i + 1 <= (iPV (a1d s x y N i j)).length := by rw [a8e, a4M]; omega
 have sb : ∀ p q : Int, (0 <= p /\ p <= 4) -> (0 <= q /\ q <= 4) -> (leB (-9223372036854775808) (p - q) && leB (p - q) 9223372036854775807) = true := fun p q h1 h2 => a0z (by omega)
 unfold a0f at ro rx ry
 clear hr
 generalize a3l s x y i j = ov at *
 generalize a1d s x y N i (j + 1) = out2 at *
 generalize a0R s N N = P at *
 generalize a1d s x y N i j = out at *
 generalize hU : s.unr j = w at *
 obtain ⟨a, b, c, d, e, f⟩ := s
 obtain ⟨u0, u1, u2, u3, u4, u5⟩ := u
 obtain ⟨w0, w1, w2, w3, w4, w5⟩ := w
 have hu1 := hsu.1
 have hw1 := hss.1
 simp only [Bd.Ok] at hu1 hw1
 have s0 := sb u0 w0 hu1.1 hw1.1
 have s1 := sb u1 w1 hu1.2.1 hw1.2.1
 have s2 := sb u2 w2 hu1.2.2.1 hw1.2.2.1
 have s3 := sb u3 w3 hu1.2.2.2.1 hw1.2.2.2.1
 have s4 := sb u4 w4 hu1.2.2.2.2.1 hw1.2.2.2.2.1
 have s5 := sb u5 w5 hu1.2.2.2.2.2 hw1.2.2.2.2.2
 simp only [bpv, Bd.sub, Bd.map2] at hw rp hix
 have key : a1F.ev (a0e Tab (q + 1)) { i := [(N : Int), (i : Int), (j : Int), a, b, c, d, e, f, u0, u1, u2, u3, u4, u5], b := [], v := orV σ N hx hy, m := mOr σ out P, k := σ.length } =
   some (.jump 2 { i := [(N : Int), (i : Int), ((j + 1 : Nat) : Int), a, b, c, d, e, f, u0, u1, u2, u3, u4, u5], b := [], v := orV σ N hx hy, m := mOr σ out2 P, k := σ.length }) := by
  unfold a1F
  simp -implicitDefEqProofs only [↓reduceIte,eq_self,ξF,ξG,ξH,ξI,ξJ,ξK,ξL,ξM,ξN,ξO,ξP,ξQ,ξR,ξS,ξT,ξU,ξV,ξW,ξX,ξY,ξ2,ξ3,ξ4,ξ5,ξ6,ξ7,ξ8,ξ9,ξa,ξb,ξc,ξd,ξe,ξf,ξg,ξh,Nat.reduceAdd,ξi,if_true,if_false,ξl,ξm,ξn,ξo,ξp,ξq,ξr,ξs,ξt,ξu,ξv,ξw,ξx,ξy,ξz,ξA,ξB,ξC,ξD,ξE, q0, hw, qj, qi, le0, hlen, lp, gp, MO.list, rp, s0, s1, s2, s3, s4, s5]
  repeat' (first
   | with_reducible rfl
   | apply c2N
   | (unfold a3I; simp -implicitDefEqProofs only [↓reduceIte,eq_self,ξF,ξG,ξH,ξI,ξJ,ξK,ξL,ξM,ξN,ξO,ξP,ξQ,ξR,ξS,ξT,ξU,ξV,ξW,ξX,ξY,ξ2,ξ3,ξ4,ξ5,ξ6,ξ7,ξ8,ξ9,ξa,ξb,ξc,ξd,ξe,ξf,ξg,ξh,Nat.reduceAdd,ξi,if_true,if_false,ξl,ξm,ξn,ξo,ξp,ξq,ξr,ξs,ξt,ξu,ξv,ξw,ξx,ξy,ξz,ξA,ξB,ξC,ξD,ξE, go, gx', gy', lo, lx, ly, ro, rx, ry, hix, qr, qi, qj, q3, le0, hlen, MO.list, hst, hset, q2, a0H]; done)
   | (unfold a3I; simp -implicitDefEqProofs only [↓reduceIte,eq_self,ξF,ξG,ξH,ξI,ξJ,ξK,ξL,ξM,ξN,ξO,ξP,ξQ,ξR,ξS,ξT,ξU,ξV,ξW,ξX,ξY,ξ2,ξ3,ξ4,ξ5,ξ6,ξ7,ξ8,ξ9,ξa,ξb,ξc,ξd,ξe,ξf,ξg,ξh,Nat.reduceAdd,ξi,if_true,if_false,ξl,ξm,ξn,ξo,ξp,ξq,ξr,ξs,ξt,ξu,ξv,ξw,ξx,ξy,ξz,ξA,ξB,ξC,ξD,ξE, go, gx', gy', lo, lx, ly, ro, rx, ry, hix, qr, qi, qj, q3, le0, hlen, MO.list, hst, hset, q2, a0H])
   | (unfold a3E; simp -implicitDefEqProofs only [↓reduceIte,eq_self,ξF,ξG,ξH,ξI,ξJ,ξK,ξL,ξM,ξN,ξO,ξP,ξQ,ξR,ξS,ξT,ξU,ξV,ξW,ξX,ξY,ξ2,ξ3,ξ4,ξ5,ξ6,ξ7,ξ8,ξ9,ξa,ξb,ξc,ξd,ξe,ξf,ξg,ξh,Nat.reduceAdd,ξi,if_true,if_false,ξl,ξm,ξn,ξo,ξp,ξq,ξr,ξs,ξt,ξu,ξv,ξw,ξx,ξy,ξz,ξA,ξB,ξC,ξD,ξE, go, gx', gy', lo, lx, ly, ro, rx, ry, hix, qr, qi, qj, q3, le0, hlen, MO.list, hst, hset, q2, a0H]; done)
   | (unfold a3E; simp -implicitDefEqProofs only [↓reduceIte,eq_self,ξF,ξG,ξH,ξI,ξJ,ξK,ξL,ξM,ξN,ξO,ξP,ξQ,ξR,ξS,ξT,ξU,ξV,ξW,ξX,ξY,ξ2,ξ3,ξ4,ξ5,ξ6,ξ7,ξ8,ξ9,ξa,ξb,ξc,ξd,ξe,ξf,ξg,ξh,Nat.reduceAdd,ξi,if_true,if_false,ξl,ξm,ξn,ξo,ξp,ξq,ξr,ξs,ξt,ξu,ξv,ξw,ξx,ξy,ξz,ξA,ξB,ξC,ξD,ξE, go, gx', gy', lo, lx, ly, ro, rx, ry, hix, qr, qi, qj, q3, le0, hlen, MO.list, hst, hset, q2, a0H])
   | (unfold a3J; simp -implicitDefEqProofs only [↓reduceIte,eq_self,ξF,ξG,ξH,ξI,ξJ,ξK,ξL,ξM,ξN,ξO,ξP,ξQ,ξR,ξS,ξT,ξU,ξV,ξW,ξX,ξY,ξ2,ξ3,ξ4,ξ5,ξ6,ξ7,ξ8,ξ9,ξa,ξb,ξc,ξd,ξe,ξf,ξg,ξh,Nat.reduceAdd,ξi,if_true,if_false,ξl,ξm,ξn,ξo,ξp,ξq,ξr,ξs,ξt,ξu,ξv,ξw,ξx,ξy,ξz,ξA,ξB,ξC,ξD,ξE, go, gx', gy', lo, lx, ly, ro, rx, ry, hix, qr, qi, qj, q3, le0, hlen, MO.list, hst, hset, q2, a0H]; done)
   | (unfold a3J; simp -implicitDefEqProofs only [↓reduceIte,eq_self,ξF,ξG,ξH,ξI,ξJ,ξK,ξL,ξM,ξN,ξO,ξP,ξQ,ξR,ξS,ξT,ξU,ξV,ξW,ξX,ξY,ξ2,ξ3,ξ4,ξ5,ξ6,ξ7,ξ8,ξ9,ξa,ξb,ξc,ξd,ξe,ξf,ξg,ξh,Nat.reduceAdd,ξi,if_true,if_false,ξl,ξm,ξn,ξo,ξp,ξq,ξr,ξs,ξt,ξu,ξv,ξw,ξx,ξy,ξz,ξA,ξB,ξC,ξD,ξE, go, gx', gy', lo, lx, ly, ro, rx, ry, hix, qr, qi, qj, q3, le0, hlen, MO.list, hst, hset, q2, a0H])
   | (unfold a3u; simp -implicitDefEqProofs only [↓reduceIte,eq_self,ξF,ξG,ξH,ξI,ξJ,ξK,ξL,ξM,ξN,ξO,ξP,ξQ,ξR,ξS,ξT,ξU,ξV,ξW,ξX,ξY,ξ2,ξ3,ξ4,ξ5,ξ6,ξ7,ξ8,ξ9,ξa,ξb,ξc,ξd,ξe,ξf,ξg,ξh,Nat.reduceAdd,ξi,if_true,if_false,ξl,ξm,ξn,ξo,ξp,ξq,ξr,ξs,ξt,ξu,ξv,ξw,ξx,ξy,ξz,ξA,ξB,ξC,ξD,ξE, go, gx', gy', lo, lx, ly, ro, rx, ry, hix, qr, qi, qj, q3, le0, hlen, MO.list, hst, hset, q2, a0H]; done)
   | (unfold a3u; simp -implicitDefEqProofs only [↓reduceIte,eq_self,ξF,ξG,ξH,ξI,ξJ,ξK,ξL,ξM,ξN,ξO,ξP,ξQ,ξR,ξS,ξT,ξU,ξV,ξW,ξX,ξY,ξ2,ξ3,ξ4,ξ5,ξ6,ξ7,ξ8,ξ9,ξa,ξb,ξc,ξd,ξe,ξf,ξg,ξh,Nat.reduceAdd,ξi,if_true,if_false,ξl,ξm,ξn,ξo,ξp,ξq,ξr,ξs,ξt,ξu,ξv,ξw,ξx,ξy,ξz,ξA,ξB,ξC,ξD,ξE, go, gx', gy', lo, lx, ly, ro, rx, ry, hix, qr, qi, qj, q3, le0, hlen, MO.list, hst, hset, q2, a0H])
   | (unfold a3G; simp -implicitDefEqProofs only [↓reduceIte,eq_self,ξF,ξG,ξH,ξI,ξJ,ξK,ξL,ξM,ξN,ξO,ξP,ξQ,ξR,ξS,ξT,ξU,ξV,ξW,ξX,ξY,ξ2,ξ3,ξ4,ξ5,ξ6,ξ7,ξ8,ξ9,ξa,ξb,ξc,ξd,ξe,ξf,ξg,ξh,Nat.reduceAdd,ξi,if_true,if_false,ξl,ξm,ξn,ξo,ξp,ξq,ξr,ξs,ξt,ξu,ξv,ξw,ξx,ξy,ξz,ξA,ξB,ξC,ξD,ξE, go, gx', gy', lo, lx, ly, ro, rx, ry, hix, qr, qi, qj, q3, le0, hlen, MO.list, hst, hset, q2, a0H]; done)
   | (unfold a3G; simp -implicitDefEqProofs only [↓reduceIte,eq_self,ξF,ξG,ξH,ξI,ξJ,ξK,ξL,ξM,ξN,ξO,ξP,ξQ,ξR,ξS,ξT,ξU,ξV,ξW,ξX,ξY,ξ2,ξ3,ξ4,ξ5,ξ6,ξ7,ξ8,ξ9,ξa,ξb,ξc,ξd,ξe,ξf,ξg,ξh,Nat.reduceAdd,ξi,if_true,if_false,ξl,ξm,ξn,ξo,ξp,ξq,ξr,ξs,ξt,ξu,ξv,ξw,ξx,ξy,ξz,ξA,ξB,ξC,ξD,ξE, go, gx', gy', lo, lx, ly, ro, rx, ry, hix, qr, qi, qj, q3, le0, hlen, MO.list, hst, hset, q2, a0H])
   | (unfold a3L; simp -implicitDefEqProofs only [↓reduceIte,eq_self,ξF,ξG,ξH,ξI,ξJ,ξK,ξL,ξM,ξN,ξO,ξP,ξQ,ξR,ξS,ξT,ξU,ξV,ξW,ξX,ξY,ξ2,ξ3,ξ4,ξ5,ξ6,ξ7,ξ8,ξ9,ξa,ξb,ξc,ξd,ξe,ξf,ξg,ξh,Nat.reduceAdd,ξi,if_true,if_false,ξl,ξm,ξn,ξo,ξp,ξq,ξr,ξs,ξt,ξu,ξv,ξw,ξx,ξy,ξz,ξA,ξB,ξC,ξD,ξE, go, gx', gy', lo, lx, ly, ro, rx, ry, hix, qr, qi, qj, q3, le0, hlen, MO.list, hst, hset, q2, a0H]; done)
   | (unfold a3L; simp -implicitDefEqProofs only [↓reduceIte,eq_self,ξF,ξG,ξH,ξI,ξJ,ξK,ξL,ξM,ξN,ξO,ξP,ξQ,ξR,ξS,ξT,ξU,ξV,ξW,ξX,ξY,ξ2,ξ3,ξ4,ξ5,ξ6,ξ7,ξ8,ξ9,ξa,ξb,ξc,ξd,ξe,ξf,ξg,ξh,Nat.reduceAdd,ξi,if_true,if_false,ξl,ξm,ξn,ξo,ξp,ξq,ξr,ξs,ξt,ξu,ξv,ξw,ξx,ξy,ξz,ξA,ξB,ξC,ξD,ξE, go, gx', gy', lo, lx, ly, ro, rx, ry, hix, qr, qi, qj, q3, le0, hlen, MO.list, hst, hset, q2, a0H])
   | (unfold a3w; simp -implicitDefEqProofs only [↓reduceIte,eq_self,ξF,ξG,ξH,ξI,ξJ,ξK,ξL,ξM,ξN,ξO,ξP,ξQ,ξR,ξS,ξT,ξU,ξV,ξW,ξX,ξY,ξ2,ξ3,ξ4,ξ5,ξ6,ξ7,ξ8,ξ9,ξa,ξb,ξc,ξd,ξe,ξf,ξg,ξh,Nat.reduceAdd,ξi,if_true,if_false,ξl,ξm,ξn,ξo,ξp,ξq,ξr,ξs,ξt,ξu,ξv,ξw,ξx,ξy,ξz,ξA,ξB,ξC,ξD,ξE, go, gx', gy', lo, lx, ly, ro, rx, ry, hix, qr, qi, qj, q3, le0, hlen, MO.list, hst, hset, q2, a0H]; done)
   | (unfold a3w; simp -implicitDefEqProofs only [↓reduceIte,eq_self,ξF,ξG,ξH,ξI,ξJ,ξK,ξL,ξM,ξN,ξO,ξP,ξQ,ξR,ξS,ξT,ξU,ξV,ξW,ξX,ξY,ξ2,ξ3,ξ4,ξ5,ξ6,ξ7,ξ8,ξ9,ξa,ξb,ξc,ξd,ξe,ξf,ξg,ξh,Nat.reduceAdd,ξi,if_true,if_false,ξl,ξm,ξn,ξo,ξp,ξq,ξr,ξs,ξt,ξu,ξv,ξw,ξx,ξy,ξz,ξA,ξB,ξC,ξD,ξE, go, gx', gy', lo, lx, ly, ro, rx, ry, hix, qr, qi, qj, q3, le0, hlen, MO.list, hst, hset, q2, a0H])
   | (unfold a3y; simp -implicitDefEqProofs only [↓reduceIte,eq_self,ξF,ξG,ξH,ξI,ξJ,ξK,ξL,ξM,ξN,ξO,ξP,ξQ,ξR,ξS,ξT,ξU,ξV,ξW,ξX,ξY,ξ2,ξ3,ξ4,ξ5,ξ6,ξ7,ξ8,ξ9,ξa,ξb,ξc,ξd,ξe,ξf,ξg,ξh,Nat.reduceAdd,ξi,if_true,if_false,ξl,ξm,ξn,ξo,ξp,ξq,ξr,ξs,ξt,ξu,ξv,ξw,ξx,ξy,ξz,ξA,ξB,ξC,ξD,ξE, go, gx', gy', lo, lx, ly, ro, rx, ry, hix, qr, qi, qj, q3, le0, hlen, MO.list, hst, hset, q2, a0H]; done)
   | (unfold a3y; simp -implicitDefEqProofs only [↓reduceIte,eq_self,ξF,ξG,ξH,ξI,ξJ,ξK,ξL,ξM,ξN,ξO,ξP,ξQ,ξR,ξS,ξT,ξU,ξV,ξW,ξX,ξY,ξ2,ξ3,ξ4,ξ5,ξ6,ξ7,ξ8,ξ9,ξa,ξb,ξc,ξd,ξe,ξf,ξg,ξh,Nat.reduceAdd,ξi,if_true,if_false,ξl,ξm,ξn,ξo,ξp,ξq,ξr,ξs,ξt,ξu,ξv,ξw,ξx,ξy,ξz,ξA,ξB,ξC,ξD,ξE, go, gx', gy', lo, lx, ly, ro, rx, ry, hix, qr, qi, qj, q3, le0, hlen, MO.list, hst, hset, q2, a0H]))
 rw [Q0, key]
 rfl
theorem c8H {q : Nat} {s : Bd} (hN1 : N <= 1024) {i : Nat} (hi : i < N) {u : Bd} (out : List Int) (P : List (List PV)) (fuel : Nat) :
  saleroomref13_or_S.loop (a0e Tab (q + 1)) (fuel + 1) 2 { i := [(N : Int), (i : Int), ((i + 1 : Nat) : Int), s.a, s.b, s.c, s.d, s.e, s.f, u.a, u.b, u.c, u.d, u.e, u.f], b := [], v := orV σ N hx hy, m := mOr σ out P, k := σ.length } =
  saleroomref13_or_S.loop (a0e Tab (q + 1)) fuel 1 { i := [(N : Int), ((i + 1 : Nat) : Int), s.a, s.b, s.c, s.d, s.e, s.f], b := [], v := orV σ N hx hy, m := mOr σ out P, k := σ.length } := by
 have q0 : leB ((i : Int) + 1) (i : Int) = false := by simp [leB]; omega
 have q2 := a5p (i := i) (by omega)
 rw [Sys.loop, show saleroomref13_or_S.loops[2]? = some a1F from rfl]
 simp -implicitDefEqProofs only [Q0, a1F, ↓reduceIte,eq_self,ξ1,ξ2,ξ3,ξ4,ξ5,ξ6,ξ7,ξ8,ξ9,ξa,ξb,ξc,ξd,ξe,ξf,ξg,ξh,Nat.reduceAdd,ξi,if_true,if_false,ξl,ξm,ξn,ξo,ξp,ξq,ξr,ξs,ξt,ξu,ξv,ξw,ξx,ξy,ξz,ξA,ξB,ξC,ξD,ξE, a0H, q0, q2]
theorem c9q {q : Nat} {s : Bd} (hs : s.Ok) (hN : (N : Int) = s.cnt) (hN1 : N <= 1024) (gx : σ[hx]? = some (.cells (iPV x) 2)) (gy : σ[hy]? = some (.cells (iPV y) 2)) (hxl : x.length = N) (hyl : y.length = N)
  (hxb : ∀ z ∈ x, 0 <= z /\ z <= 1000000000) (hyb : ∀ z ∈ y, 0 <= z /\ z <= 1000000000) : ∀ (d i : Nat), i + d = N -> ∀ fuel, d * (N + 3) + 1 <= fuel ->
  saleroomref13_or_S.loop (a0e Tab (q + 1)) fuel 1 { i := [(N : Int), (i : Int), s.a, s.b, s.c, s.d, s.e, s.f], b := [], v := orV σ N hx hy, m := mOr σ (a1d s x y N i 0) (a0R s N N), k := σ.length } = some (.msl σ.length 0 N N 1, mOr σ (orT s x y N) (a0R s N N)) := by
 intro d
 induction d with
 | zero =>
  intro i hi fuel hf
  obtain ⟨fuel, rfl⟩ : ∃ k, fuel = k + 1 := ⟨fuel - 1, by omega⟩
  obtain rfl : i = N := by omega
  have q0 : ltB (i : Int) (i : Int) = false := by simp [ltB]
  rw [Sys.loop, show saleroomref13_or_S.loops[1]? = some a2w from rfl]
  simp -implicitDefEqProofs only [Q0, a2w, ↓reduceIte,eq_self,ξ1,ξ2,ξ3,ξ4,ξ5,ξ6,ξ7,ξ8,ξ9,ξa,ξb,ξc,ξd,ξe,ξf,ξg,ξh,Nat.reduceAdd,ξi,if_true,if_false,ξl,ξm,ξn,ξo,ξp,ξq,ξr,ξs,ξt,ξu,ξv,ξw,ξx,ξy,ξz,ξA,ξB,ξC,ξD,ξE, q0, a0k, true_or]
  rfl
 | succ d ih =>
  intro i hi fuel hf
  have hiN : i < N := by omega
  obtain ⟨f1, rfl⟩ : ∃ k, fuel = k + 1 + (i + 1) + 1 := ⟨fuel - (i + 3), by rw [Qs] at hf; omega⟩
  have gp := c4e (σ := σ) (a1d s x y N i 0) (a0R s N N)
  have rp := c0z (b1V s N N) (a6r (s := s) (i := N) hiN)
  rw [if_pos hiN] at rp
  have lp := a9M (h := σ.length + 1) (c := N) (sz := 6) hiN 0
  have qi : ltB (i : Int) (N : Int) = true := by simp [ltB]; exact hiN
  have hlen : ∀ h z, (PV.msl h 0 N N z).len = (N : Int) := fun _ _ => rfl
  obtain ⟨u, hu⟩ : ∃ u, s.unr i = u := ⟨_, rfl⟩
  have h2 := a8o (Φ := a0e Tab (q + 1)) (S := saleroomref13_or_S) (q := 2) (fun j => { i := [(N : Int), (i : Int), (j : Int), s.a, s.b, s.c, s.d, s.e, s.f, u.a, u.b, u.c, u.d, u.e, u.f], b := [], v := orV σ N hx hy, m := mOr σ (a1d s x y N i j) (a0R s N N), k := σ.length })
   (c9m (q := q) hs hN hN1 gx gy hxl hyl hxb hyb hiN hu) (i + 1) 0 (by omega) (f1 + 1)
  have h3 := c8H (σ := σ) (hx := hx) (hy := hy) (q := q) (s := s) hN1 hiN (u := u) (a1d s x y N i (i + 1)) (a0R s N N) f1
  have h4 := ih (i + 1) (by omega) f1 (by rw [Qs] at hf; omega)
  rw [<- c3u] at h4
  rw [h3] at h2
  rw [h4] at h2
  rw [Sys.loop, show saleroomref13_or_S.loops[1]? = some a2w from rfl]
  unfold a0f at rp
  rw [hu] at rp
  refine Eq.trans ?_ h2
  generalize a0R s N N = P at *
  generalize a1d s x y N i 0 = out at *
  obtain ⟨a, b, c, d, e, f⟩ := s
  obtain ⟨u0, u1, u2, u3, u4, u5⟩ := u
  simp only [bpv] at rp
  simp -implicitDefEqProofs only [Q0, a2w, ↓reduceIte,eq_self,ξ1,ξ2,ξ3,ξ4,ξ5,ξ6,ξ7,ξ8,ξ9,ξa,ξb,ξc,ξd,ξe,ξf,ξg,ξh,Nat.reduceAdd,ξi,if_true,if_false,ξl,ξm,ξn,ξo,ξp,ξq,ξr,ξs,ξt,ξu,ξv,ξw,ξx,ξy,ξz,ξA,ξB,ξC,ξD,ξE, qi, le0, hlen, lp, gp, MO.list, rp]
  rfl
theorem c9A {s : Bd} (hc : s.cnt ≠ 0) (hN : (N : Int) = s.cnt) (gx : σ[hx]? = some (.cells (iPV x) 2)) (gy : σ[hy]? = some (.cells (iPV y) 2)) (hxl : x.length = N) (hyl : y.length = N)
  (hxb : ∀ z ∈ x, 0 <= z /\ z <= 1000000000) (hyb : ∀ z ∈ y, 0 <= z /\ z <= 1000000000) (n : Nat) (hn : 2000000 <= n) :
  a0e Tab n 84 [.agg (bpv s), .msl hx 0 N N 1, .msl hy 0 N N 1] σ = some (.msl σ.length 0 N N 1, mOr σ (orT s x y N) (a0R s N N)) := by
 obtain ⟨q, rfl⟩ : ∃ k, n = k + 2 := ⟨n - 2, by omega⟩
 have hs := Bd.ok_of_cnt hc
 have hcl := b1t hc
 have hN1 : N <= 1024 := by omega
 have hcn := b8y s hs σ q
 have hp : s.prod = (N : Int) := by rw [hN, a6O hc]
 rw [hp] at hcn
 have hmul : N * (N + 3) <= 1024 * 1027 := Nat.mul_le_mul hN1 (by omega)
 have h1 := c9q (q := q) hs hN hN1 gx gy hxl hyl hxb hyb N 0 (by omega) (q + 1 - N - 1) (by omega)
 have h0 := a8o (Φ := a0e Tab (q + 1)) (S := saleroomref13_or_S) (q := 0) (fun i => { i := [(N : Int), (i : Int), s.a, s.b, s.c, s.d, s.e, s.f], b := [], v := orV σ N hx hy, m := mOr σ (a1d s x y N 0 0) (a0R s N i), k := σ.length })
   (c9D (q := q) hs hN hN1 (a1d s x y N 0 0)) N 0 (by omega) (q + 1 - N)
 have hx0 : saleroomref13_or_S.loop (a0e Tab (q + 1)) (q + 1 - N - 1 + 1) 0 { i := [(N : Int), (N : Int), s.a, s.b, s.c, s.d, s.e, s.f], b := [], v := orV σ N hx hy, m := mOr σ (a1d s x y N 0 0) (a0R s N N), k := σ.length } =
   saleroomref13_or_S.loop (a0e Tab (q + 1)) (q + 1 - N - 1) 1 { i := [(N : Int), ((0 : Nat) : Int), s.a, s.b, s.c, s.d, s.e, s.f], b := [], v := orV σ N hx hy, m := mOr σ (a1d s x y N 0 0) (a0R s N N), k := σ.length } := by
  have q0 : ltB (N : Int) (N : Int) = false := by simp [ltB]
  rw [Sys.loop, show saleroomref13_or_S.loops[0]? = some a2v from rfl]
  simp -implicitDefEqProofs only [Q0, a2v, ↓reduceIte,eq_self,ξ1,ξ2,ξ3,ξ4,ξ5,ξ6,ξ7,ξ8,ξ9,ξa,ξb,ξc,ξd,ξe,ξf,ξg,ξh,Nat.reduceAdd,ξi,if_true,if_false,ξl,ξm,ξn,ξo,ξp,ξq,ξr,ξs,ξt,ξu,ξv,ξw,ξx,ξy,ξz,ξA,ξB,ξC,ξD,ξE, q0]
  rfl
 rw [show q + 1 - N - 1 + 1 = q + 1 - N by omega] at hx0
 rw [hx0, h1] at h0
 rw [show q + 1 - N + N = q + 1 by omega] at h0
 have hP0 : (Q6 N (bpv Bd.zero)).flatten = (a0R s N 0).flatten := by rw [c1x]
 have hO0 : (Q6 N [PV.int .i64 0]).flatten = iPV (a1d s x y N 0 0) := by rw [b4G, c3w]
 rw [a0e, b2U]
 simp only [Q0, Sys.run]
 show ((a0i [.sh (.agg [_, _, _, _, _, _]), .sh (.one _), .sh (.one _)] _).bind _) = _
 have hone : ∀ h z, (PV.msl h 0 N N z).one = true := fun _ _ => rfl
 have hm : σ ++ [MO.cells (iPV (a1d s x y N 0 0)) 2] ++ [MO.cells (a0R s N 0).flatten 23] = mOr σ (a1d s x y N 0 0) (a0R s N 0) := by unfold mOr; simp
 have hsl : (σ ++ [MO.cells (iPV (a1d s x y N 0 0)) 2]).length = σ.length + 1 := by simp
 simp only [bpv, Bd.zero] at hcn hP0 ⊢
 simp only [a0i, a0d, a0c, Q7, Q0, Q8, Q9, Qa, if_true, hone]
 show (PT.ev _ a5c _).bind _ = _
 have hNi : 0 <= (N : Int) /\ (N : Int) <= 1000000 /\ 8 <= 100000000 := by omega
 have hNj : 0 <= (N : Int) /\ (N : Int) <= 1000000 /\ 48 <= 100000000 := by omega
 refine Eq.trans ?_ h0
 simp -implicitDefEqProofs only [a5c, ↓reduceIte,eq_self,ξ1,ξ2,ξ3,ξ4,ξ5,ξ6,ξ7,ξ8,ξ9,ξa,ξb,ξc,ξd,ξe,ξf,ξg,ξh,Nat.reduceAdd,ξi,if_true,if_false,ξl,ξm,ξn,ξo,ξp,ξq,ξr,ξs,ξt,ξu,ξv,ξw,ξx,ξy,ξz,ξA,ξB,ξC,ξD,ξE, hcn, hNi, hNj, and_self, Qk, hO0, hP0, hm, hsl]
 rfl
end
end Go.Proofs.Ythmkfeiapdbojaa
set_option maxRecDepth 100000
namespace Go.Proofs.Ythmkfeiapdbojaa
open Go.Sx Go.Kv Go.Bun
def mA (σ : List MO) (h : Nat) (A : List Int) : List MO := σ.set h (.cells (iPV A) 2)
section
variable {σ : List MO} {h h' k : Nat}
theorem b6L (hl : h < σ.length) (A : List Int) : (mA σ h A)[h]? = some (.cells (iPV A) 2) := QA hl
theorem c9w (hn : h ≠ h') (A : List Int) : (mA σ h A)[h']? = σ[h']? := List.getElem?_set_ne hn
theorem c8N (A A' : List Int) : (mA σ h A).set h (.cells (iPV A') 2) = mA σ h A' := by unfold mA; rw [List.set_set]
theorem c1X {A : List Int} (hg : σ[h]? = some (.cells (iPV A) 2)) : mA σ h A = σ := a6X hg
theorem b5V (A : List Int) (z : Int) (hk : k < A.length) : (mA σ h A).set h (.cells (a1H (iPV A) k [.int .i64 z]) 2) = mA σ h (A.set k z) := by rw [b4F hk, c8N]
theorem c8A {A : List Int} {z : Int} (hk : k < A.length) : a0f 1 ((iPV (A.set k z)).drop k) = some [.int .i64 z] := a5x (QA hk)
variable {N : Nat} {A T : List Int} {x : PV} {op a b c d e f v : Int} {s : Bd} {K : Nat}
abbrev c3q (N i k : Int) (op a b c d e f v : Int) (s : Bd) : List Int := [N, i, k, op, a, b, c, d, e, f, v, s.a, s.b, s.c, s.d, s.e, s.f]
theorem c8Q {q : Nat} (hN1 : N <= 1024) (hA : A.length = N) (hT : T.length = N) (hl : h < σ.length) (hne : h ≠ h') (gT : σ[h']? = some (.cells (iPV T) 2)) (i : Int) : ∀ k, k < N -> ∀ fuel,
  saleroomref13_all_S.loop (a0e Tab q) (fuel + 1) 1 { i := c3q N i k op a b c d e f v s, b := [], v := [.msl h 0 N N 1, .msl h' 0 N N 1, x], m := mA σ h (a1M (mxT T) A k), k := K } =
  saleroomref13_all_S.loop (a0e Tab q) fuel 1 { i := c3q N i ((k + 1 : Nat) : Int) op a b c d e f v s, b := [], v := [.msl h 0 N N 1, .msl h' 0 N N 1, x], m := mA σ h (a1M (mxT T) A (k + 1)), k := K } := by
 intro k hk fuel
 have gA := b6L hl (a1M (mxT T) A k)
 have gT' : (mA σ h (a1M (mxT T) A k))[h']? = _ := (c9w hne _).trans gT
 have l1 := a2B (h := h) (c := N) hk
 have l2 := a2B (h := h') (c := N) hk
 have r1 := a5x (c2I (f := mxT T) (A := A) (k := k) (by omega))
 obtain ⟨t, ht⟩ := a7n (l := T) (i := k) (by omega)
 have r2 := a5x ht
 have et : T.getD k 0 = t := by rw [Q4, ht]; rfl
 have hst : k + 1 <= (iPV (a1M (mxT T) A k)).length := by rw [a8e, a4u]; omega
 have hset : (mA σ h (a1M (mxT T) A k)).set h (.cells (a1H (iPV (a1M (mxT T) A k)) k [.int .i64 (mxI (A.getD k 0) t)]) 2) = mA σ h (a1M (mxT T) A (k + 1)) := by
  rw [b5V _ _ (by rw [a4u]; omega), c0q (by omega) (by unfold mxT; rw [et])]
 have q0 : ltB (k : Int) (N : Int) = true := by simp [ltB]; exact hk
 have q2 := a5p (i := k) (by omega)
 have hlen : ∀ h z, (PV.msl h 0 N N z).len = (N : Int) := fun _ _ => rfl
 unfold a0f at r1 r2
 generalize a1M (mxT T) A (k + 1) = Z2 at *
 generalize a1M (mxT T) A k = Z at *
 rw [Sys.loop, show saleroomref13_all_S.loops[1]? = some a2s from rfl]
 simp -implicitDefEqProofs only [Q0, a2s, ↓reduceIte,eq_self,ξ1,ξ2,ξ3,ξ4,ξ5,ξ6,ξ7,ξ8,ξ9,ξa,ξb,ξc,ξd,ξe,ξf,ξg,ξh,Nat.reduceAdd,ξi,if_true,if_false,ξl,ξm,ξn,ξo,ξp,ξq,ξr,ξs,ξt,ξu,ξv,ξw,ξx,ξy,ξz,ξA,ξB,ξC,ξD,ξE, q0, le0, hlen, l1, l2, gA, gT', r1, r2, MO.list, hst, hset, q2, a0H]
theorem c7D {q : Nat} (i : Nat) (hi : i <= 1000000) (fuel : Nat) :
  saleroomref13_all_S.loop (a0e Tab q) (fuel + 1) 1 { i := c3q N i N op a b c d e f v s, b := [], v := [.msl h 0 N N 1, .msl h' 0 N N 1, x], m := σ, k := K } =
  saleroomref13_all_S.loop (a0e Tab q) fuel 0 { i := [(N : Int), ((i + 1 : Nat) : Int), op, a, b, c, d, e, f, v, s.a, s.b, s.c, s.d, s.e, s.f], b := [], v := [.msl h 0 N N 1, x], m := σ, k := K } := by
 have q0 : ltB (N : Int) (N : Int) = false := by simp [ltB]
 have q2 := a5p (i := i) (by omega)
 rw [Sys.loop, show saleroomref13_all_S.loops[1]? = some a2s from rfl]
 simp -implicitDefEqProofs only [Q0, a2s, ↓reduceIte,eq_self,ξ1,ξ2,ξ3,ξ4,ξ5,ξ6,ξ7,ξ8,ξ9,ξa,ξb,ξc,ξd,ξe,ξf,ξg,ξh,Nat.reduceAdd,ξi,if_true,if_false,ξl,ξm,ξn,ξo,ξp,ξq,ξr,ξs,ξt,ξu,ξv,ξw,ξx,ξy,ξz,ξA,ξB,ξC,ξD,ξE, q0, q2, a0H]
def a6T (op a b c d e f v : Int) (s : Bd) (j : Nat) (z : Int) : Int := b0f op v (decide ((⟨a, b, c, d, e, f⟩ : Bd).Le (s.unr j))) z
theorem c8O {q : Nat} (hs : s.Ok) (hN1 : N <= 1024) (hA : A.length = N) (hAb : ∀ z ∈ A, 0 <= z /\ z <= 1000000000) (hv : 0 <= v /\ v <= 1000000) (hl : h < σ.length) : ∀ k, k < N -> ∀ fuel,
  saleroomref13_all_S.loop (a0e Tab (q + 1)) (fuel + 1) 2 { i := [(N : Int), (k : Int), op, a, b, c, d, e, f, v, s.a, s.b, s.c, s.d, s.e, s.f], b := [], v := [.msl h 0 N N 1, x], m := mA σ h (a1M (a6T op a b c d e f v s) A k), k := K } =
  saleroomref13_all_S.loop (a0e Tab (q + 1)) fuel 2 { i := [(N : Int), ((k + 1 : Nat) : Int), op, a, b, c, d, e, f, v, s.a, s.b, s.c, s.d, s.e, s.f], b := [], v := [.msl h 0 N N 1, x], m := mA σ h (a1M (a6T op a b c d e f v s) A (k + 1)), k := K } := by
 intro k hk fuel
 have hZl : (a1M (a6T op a b c d e f v s) A k).length = N := by rw [a4u, hA]
 have gA := fun t => b6L hl t
 have l1 := a2B (h := h) (c := N) hk
 have r0 := a5x (c2I (f := a6T op a b c d e f v s) (A := A) (k := k) (by omega))
 have hz : A.getD k 0 ∈ A := by
  rw [Q4, Qv (by omega)]
  exact List.getElem_mem _
 have hzb := hAb _ hz
 have hfin : ∀ z, z = a6T op a b c d e f v s k (A.getD k 0) -> (a1M (a6T op a b c d e f v s) A k).set k z = a1M (a6T op a b c d e f v s) A (k + 1) := fun z hz => c0q (by omega) hz
 generalize a1M (a6T op a b c d e f v s) A (k + 1) = Z2 at *
 generalize a1M (a6T op a b c d e f v s) A k = Z at *
 generalize A.getD k 0 = z at *
 have r1 := fun y : Int => c8A (A := Z) (k := k) (z := y) (by omega)
 have st0 : k + 1 <= (iPV Z).length := by rw [a8e]; omega
 have st1 : ∀ y, k + 1 <= (iPV (Z.set k y)).length := fun y => by rw [a8e, QB]; omega
 have se0 := fun y : Int => b5V (σ := σ) (h := h) (k := k) Z y (by omega)
 have se1 : ∀ y y' : Int, (mA σ h (Z.set k y)).set h (.cells (a1H (iPV (Z.set k y)) k [.int .i64 y']) 2) = mA σ h (Z.set k y') := fun y y' => by
  rw [b5V _ _ (by rw [QB]; omega), List.set_set]
 have hat := c7b s hs (i := k) (by omega) (mA σ h Z) q
 have hwi := a5r ⟨a, b, c, d, e, f⟩ (s.unr k) (mA σ h Z) q
 have hhe := fun y σ' => c8h y σ' q
 have q0 : ltB (k : Int) (N : Int) = true := by simp [ltB]; exact hk
 have q2 := a5p (i := k) (by omega)
 have q3 : (leB (-9223372036854775808) (z + v) && leB (z + v) 9223372036854775807) = true := a0z (by omega)
 have hlen : ∀ h z, (PV.msl h 0 N N z).len = (N : Int) := fun _ _ => rfl
 unfold a6T at hfin
 simp only [a0f] at r0 r1
 rw [Sys.loop, show saleroomref13_all_S.loops[2]? = some a1b from rfl]
 by_cases h14 : op = 1 \/ op = 4
 ·have h5 : op ≠ 5 := by omega
  have e5 : eqB op 5 = false := eqF h5
  by_cases hle : (⟨a, b, c, d, e, f⟩ : Bd).Le (s.unr k)
  ·rw [decide_eq_true hle] at hwi
   have hf := hfin (mnM (z + v)) (by unfold b0f b2K b2q; rw [if_neg h5, if_pos ⟨h14, decide_eq_true hle⟩])
   clear hfin
   generalize s.unr k = u at *
   obtain ⟨s0, s1, s2, s3, s4, s5⟩ := s
   obtain ⟨u0, u1, u2, u3, u4, u5⟩ := u
   simp only [bpv] at hat hwi
   rcases h14 with rfl | rfl
   ·simp -implicitDefEqProofs only [Q0, a1b, ↓reduceIte,eq_self,ξ1,ξ2,ξ3,ξ4,ξ5,ξ6,ξ7,ξ8,ξ9,ξa,ξb,ξc,ξd,ξe,ξf,ξg,ξh,Nat.reduceAdd,ξi,if_true,if_false,ξl,ξm,ξn,ξo,ξp,ξq,ξr,ξs,ξt,ξu,ξv,ξw,ξx,ξy,ξz,ξA,ξB,ξC,ξD,ξE, q0, a3e, hat, hwi, le0, hlen, l1, gA, r0, r1, MO.list, q3, st0, st1, se0, se1, e5, hhe, hf, q2, a0H]
   ·have e1 : eqB 4 1 = false := rfl
    simp -implicitDefEqProofs only [Q0, a1b, ↓reduceIte,eq_self,ξ1,ξ2,ξ3,ξ4,ξ5,ξ6,ξ7,ξ8,ξ9,ξa,ξb,ξc,ξd,ξe,ξf,ξg,ξh,Nat.reduceAdd,ξi,if_true,if_false,ξl,ξm,ξn,ξo,ξp,ξq,ξr,ξs,ξt,ξu,ξv,ξw,ξx,ξy,ξz,ξA,ξB,ξC,ξD,ξE, q0, a3e, e1, hat, hwi, le0, hlen, l1, gA, r0, r1, MO.list, q3, st0, st1, se0, se1, e5, hhe, hf, q2, a0H]
  ·rw [decide_eq_false hle] at hwi
   have hf := hfin (mnM z) (by unfold b0f b2K b2q; rw [if_neg h5, if_neg (by rw [decide_eq_false hle]; simp)])
   clear hfin
   generalize s.unr k = u at *
   obtain ⟨s0, s1, s2, s3, s4, s5⟩ := s
   obtain ⟨u0, u1, u2, u3, u4, u5⟩ := u
   simp only [bpv] at hat hwi
   rcases h14 with rfl | rfl
   ·simp -implicitDefEqProofs only [Q0, a1b, ↓reduceIte,eq_self,ξ1,ξ2,ξ3,ξ4,ξ5,ξ6,ξ7,ξ8,ξ9,ξa,ξb,ξc,ξd,ξe,ξf,ξg,ξh,Nat.reduceAdd,ξi,if_true,if_false,ξl,ξm,ξn,ξo,ξp,ξq,ξr,ξs,ξt,ξu,ξv,ξw,ξx,ξy,ξz,ξA,ξB,ξC,ξD,ξE, q0, a3e, hat, hwi, le0, hlen, l1, gA, r0, r1, MO.list, q3, st0, st1, se0, se1, e5, hhe, hf, q2, a0H]
   ·have e1 : eqB 4 1 = false := rfl
    simp -implicitDefEqProofs only [Q0, a1b, ↓reduceIte,eq_self,ξ1,ξ2,ξ3,ξ4,ξ5,ξ6,ξ7,ξ8,ξ9,ξa,ξb,ξc,ξd,ξe,ξf,ξg,ξh,Nat.reduceAdd,ξi,if_true,if_false,ξl,ξm,ξn,ξo,ξp,ξq,ξr,ξs,ξt,ξu,ξv,ξw,ξx,ξy,ξz,ξA,ξB,ξC,ξD,ξE, q0, a3e, e1, hat, hwi, le0, hlen, l1, gA, r0, r1, MO.list, q3, st0, st1, se0, se1, e5, hhe, hf, q2, a0H]
 ·have h1 : op ≠ 1 := by omega
  have h4 : op ≠ 4 := by omega
  have e1 : eqB op 1 = false := eqF h1
  have e4 : eqB op 4 = false := eqF h4
  have hadd : b2q op v (decide ((⟨a, b, c, d, e, f⟩ : Bd).Le (s.unr k))) z = z := by unfold b2q; rw [if_neg (fun hh => h14 hh.1)]
  clear hat hwi
  by_cases h5 : op = 5
  ·have hf := hfin (mnM (mnI z v)) (by unfold b0f b2K; rw [hadd, if_pos h5])
   clear hfin hadd
   subst h5
   simp -implicitDefEqProofs only [Q0, a1b, ↓reduceIte,eq_self,ξ1,ξ2,ξ3,ξ4,ξ5,ξ6,ξ7,ξ8,ξ9,ξa,ξb,ξc,ξd,ξe,ξf,ξg,ξh,Nat.reduceAdd,ξi,if_true,if_false,ξl,ξm,ξn,ξo,ξp,ξq,ξr,ξs,ξt,ξu,ξv,ξw,ξx,ξy,ξz,ξA,ξB,ξC,ξD,ξE, q0, a3e, e1, e4, le0, hlen, l1, gA, r0, r1, MO.list, st0, st1, se0, se1, hhe, hf, q2, a0H]
  ·have e5 : eqB op 5 = false := eqF h5
   have hf := hfin (mnM z) (by unfold b0f b2K; rw [hadd, if_neg h5])
   clear hfin hadd
   simp -implicitDefEqProofs only [Q0, a1b, ↓reduceIte,eq_self,ξ1,ξ2,ξ3,ξ4,ξ5,ξ6,ξ7,ξ8,ξ9,ξa,ξb,ξc,ξd,ξe,ξf,ξg,ξh,Nat.reduceAdd,ξi,if_true,if_false,ξl,ξm,ξn,ξo,ξp,ξq,ξr,ξs,ξt,ξu,ξv,ξw,ξx,ξy,ξz,ξA,ξB,ξC,ξD,ξE, q0, e1, e4, e5, le0, hlen, l1, gA, r0, r1, MO.list, st0, st1, se0, se1, hhe, hf, q2, a0H]
end
end Go.Proofs.Ythmkfeiapdbojaa
set_option maxRecDepth 100000
namespace Go.Proofs.Ythmkfeiapdbojaa
open Go.Sx Go.Kv Go.Bun
theorem b9D : ∀ {l : List Ex} {e y : Ex}, e ∈ l -> y ∈ e.pre -> y ∈ a3v l
 | x :: l, e, y, h, hy => by
  simp only [a3v, List.mem_append]
  rcases Qb.1 h with rfl | h
  ·exact .inl hy
  ·exact .inr (b9D h hy)
 | [], e, y, h, hy => by simp at h
theorem c5k {s : Bd} {N : Nat} {X : KV} {b : Int} {A : List Int} (h : TabOk s N X b A) (hb : b <= 1000000000) : ∀ z ∈ A, 0 <= z /\ z <= 1000000000 := by
 intro z hz
 obtain ⟨j, hj⟩ := List.mem_iff_getElem?.1 hz
 have hl := (Qh.1 hj).1
 have := h.all j (by rw [<- h.len]; exact hl)
 rw [Q4, hj] at this
 simp only [Option.getD_some] at this
 omega
theorem c5P {e : Ex} (he : okX e = true) (s : Bd) (N : Nat) : ∀ z ∈ a2d e s N, 0 <= z /\ z <= 1000000000 := by
 intro z hz
 simp only [a2d, Q2, List.mem_range] at hz
 obtain ⟨j, _, rfl⟩ := hz
 have h1 := b4n e (s.unr j).l
 have h2 := c6z he (s.unr j).l
 omega
theorem c8k {s : Bd} {N : Nat} {op a b c d e f v : Int} {l : List Ex} (hok : okX (.node op a b c d e f v l) = true) (hnd : a2p (.node op a b c d e f v l) = 0) (hs : s.Ok) {A : List Int} {bb : Int} (hb : op ≠ 3 -> bb <= 1000000) (h : TabOk s N (a4t op l) bb A) :
  a1M (a6T op a b c d e f v s) A N = a2d (.node op a b c d e f v l) s N := by
 apply Qf
 intro j
 rcases Qg j N with hj | hj
 ·rw [a6P (by rw [h.len]; exact hj), if_pos hj]
  unfold a6T
  rw [c9h hok hnd hs hb h hj]
  simp [a2d, hj]
 ·rw [Q3 (by rw [a4u, h.len]; exact hj), Q3 (by rw [b5G]; exact hj)]
theorem c7A {s : Bd} (hc : s.cnt ≠ 0) {N : Nat} (hN : (N : Int) = s.cnt) : ∀ (e : Ex), (∀ y ∈ e.pre, a2p y = 0) -> e.size <= 400 -> ∀ (row : List PV), IsE e row -> ∀ n, 3000000 + e.size <= n -> ∀ σ : List MO,
  ∃ (h : Nat) (g : List MO), a0e Tab n 51 [.agg row, .agg (bpv s)] σ = some (.msl h 0 N N 1, σ ++ g) /\ σ.length <= h /\ (σ ++ g)[h]? = some (.cells (iPV (a2d e s N)) 2) := by
 intro e
 induction hM : e.size using Nat.strongRecOn generalizing e with
 | _ M ih =>
  subst hM
  intro hnd hsz row hrow n hn σ
  have hs := Bd.ok_of_cnt hc
  have hcl := b1t hc
  have hN1 : N <= 1024 := by omega
  have hokx := b7s e hnd
  obtain ⟨op, a, b, c, d, e', f, v, l⟩ := e
  simp only [IsE] at hrow
  obtain ⟨x, rows, rfl, hx, hl⟩ := hrow
  obtain ⟨x1, x2, x3⟩ := a0y hx
  simp only [Ex.size] at ih hn hsz
  obtain ⟨n, rfl⟩ : ∃ k, n = k + 2 := ⟨n - 2, by omega⟩
  have hlen := hl.length
  have hn0 := hnd _ (show Ex.node op a b c d e' f v l ∈ (Ex.node op a b c d e' f v l).pre by simp [Ex.pre])
  have hokx' := hokx
  simp only [okX, Q1, decide_eq_true_eq] at hokx'
  obtain ⟨⟨⟨⟨k1, k2⟩, k3⟩, _⟩, k5⟩ := hokx'
  have hll : l.length <= 8 := by
   rcases c2L hn0 with ⟨_, h1, _⟩ | ⟨_, _, h1⟩ | ⟨_, ⟨_, h1⟩, _⟩ | ⟨_, ⟨_, h1⟩, _⟩
   ·rw [h1]; simp
   ·exact h1
   ·rw [h1]; simp
   ·rw [h1]; simp
  have hmul : N * 4 <= 4096 := by omega
  have fin : ∀ (h : Nat) (g : List MO) (A : List Int) (bb : Int) (fuel : Nat), σ.length <= h -> (σ ++ g)[h]? = some (.cells (iPV A) 2) -> TabOk s N (a4t op l) bb A -> bb <= 1000000000 -> (op ≠ 3 -> bb <= 1000000) -> N + 1 <= fuel ->
    ∃ g', saleroomref13_all_S.loop (a0e Tab (n + 1)) fuel 2 { i := [(N : Int), ((0 : Nat) : Int), op, a, b, c, d, e', f, v, s.a, s.b, s.c, s.d, s.e, s.f], b := [], v := [.msl h 0 N N 1, x], m := σ ++ g, k := σ.length } = some (.msl h 0 N N 1, σ ++ g') /\ (σ ++ g')[h]? = some (.cells (iPV (a2d (.node op a b c d e' f v l) s N)) 2) := by
   intro h g A bb fuel h1 h2 h3 h4 h5 h6
   have hlt := (Qh.1 h2).1
   have hA := h3.len
   have hlp := a8o (Φ := a0e Tab (n + 1)) (S := saleroomref13_all_S) (q := 2) (fun k => { i := [(N : Int), (k : Int), op, a, b, c, d, e', f, v, s.a, s.b, s.c, s.d, s.e, s.f], b := [], v := [.msl h 0 N N 1, x], m := mA (σ ++ g) h (a1M (a6T op a b c d e' f v s) A k), k := σ.length })
    (c8O (σ := σ ++ g) hs hN1 hA (c5k h3 h4) ⟨k2, k3⟩ hlt) N 0 (by omega) (fuel - N)
   rw [show fuel - N + N = fuel by omega, b8M, c1X h2, c8k hokx hn0 hs h5 h3] at hlp
   have hset : mA (σ ++ g) h (a2d (.node op a b c d e' f v l) s N) = σ ++ g.set (h - σ.length) (.cells (iPV (a2d (.node op a b c d e' f v l) s N)) 2) := by
    unfold mA; rw [QC _ _ h1]
   refine ⟨g.set (h - σ.length) (.cells (iPV (a2d (.node op a b c d e' f v l) s N)) 2), ?_, ?_⟩
   rotate_left
   ·rw [<- hset]; exact b6L hlt _
   ·rw [<- hset]
    refine hlp.trans ?_
    obtain ⟨fu, hfu⟩ : ∃ k, fuel - N = k + 1 := ⟨fuel - N - 1, by omega⟩
    rw [hfu]
    have q0 : ltB (N : Int) (N : Int) = false := by simp [ltB]
    rw [Sys.loop, show saleroomref13_all_S.loops[2]? = some a1b from rfl]
    simp -implicitDefEqProofs only [Q0, a1b, ↓reduceIte,eq_self,ξ1,ξ2,ξ3,ξ4,ξ5,ξ6,ξ7,ξ8,ξ9,ξa,ξb,ξc,ξd,ξe,ξf,ξg,ξh,Nat.reduceAdd,ξi,if_true,if_false,ξl,ξm,ξn,ξo,ξp,ξq,ξr,ξs,ξt,ξu,ξv,ξw,ξx,ξy,ξz,ξA,ξB,ξC,ξD,ξE, q0, a0k, true_or]
  have loop : ∀ (dd i : Nat), i + dd = l.length -> ∀ (h : Nat) (g : List MO) (A : List Int) (bb : Int) (fuel : Nat), σ.length <= h -> (σ ++ g)[h]? = some (.cells (iPV A) 2) -> TabOk s N (a4t op (l.take i)) bb A -> 0 <= bb -> bb <= 1000000 * ((i : Int) + 1) -> (op ≠ 3 \/ i = 0 -> bb <= 1000000) -> (dd + 1) * (N + 3) <= fuel ->
    ∃ h' g', saleroomref13_all_S.loop (a0e Tab (n + 1)) fuel 0 { i := [(N : Int), (i : Int), op, a, b, c, d, e', f, v, s.a, s.b, s.c, s.d, s.e, s.f], b := [], v := [.msl h 0 N N 1, x], m := σ ++ g, k := σ.length } = some (.msl h' 0 N N 1, σ ++ g') /\ σ.length <= h' /\ (σ ++ g')[h']? = some (.cells (iPV (a2d (.node op a b c d e' f v l) s N)) 2) := by
   intro dd
   induction dd with
   | zero =>
    intro i hi h g A bb fuel h1 h2 h3 h4 h5 h6 h7
    obtain rfl : i = l.length := by omega
    rw [List.take_length] at h3
    obtain ⟨fuel, rfl⟩ : ∃ k, fuel = k + 1 := ⟨fuel - 1, by omega⟩
    obtain ⟨g', e1, e2⟩ := fin h g A bb fuel h1 h2 h3 (by omega) (fun ho => h6 (.inl ho)) (by omega)
    refine ⟨h, g', ?_, h1, e2⟩
    rw [<- e1]
    have q0 : ltB (l.length : Int) (rows.length : Int) = false := by simp [ltB]; omega
    rw [Sys.loop, show saleroomref13_all_S.loops[0]? = some a1B from rfl]
    simp -implicitDefEqProofs only [Q0, a1B, ↓reduceIte,eq_self,ξ1,ξ2,ξ3,ξ4,ξ5,ξ6,ξ7,ξ8,ξ9,ξa,ξb,ξc,ξd,ξe,ξf,ξg,ξh,Nat.reduceAdd,ξi,if_true,if_false,ξl,ξm,ξn,ξo,ξp,ξq,ξr,ξs,ξt,ξu,ξv,ξw,ξx,ξy,ξz,ξA,ξB,ξC,ξD,ξE, q0, x1, x2]
    rfl
   | succ dd ihd =>
    intro i hi h g A bb fuel h1 h2 h3 h4 h5 h6 h7
    have hil : i < l.length := by omega
    obtain ⟨ei, hei⟩ := a7n hil
    obtain ⟨ri, hri, hrow1⟩ := hl.at hei
    have hszi := a2t (Qm hei)
    have hndi : ∀ y ∈ ei.pre, a2p y = 0 := fun y hy => hnd y (by
     simp only [Ex.pre, Qb]
     exact .inr (b9D (Qm hei) hy))
    have hoki := b7s ei hndi
    obtain ⟨hT, gT, ev1, t1, t2⟩ := ih ei.size (by omega) ei rfl hndi (by omega) ri hrow1 (n + 1) (by omega) (σ ++ g)
    have hloc := a3z (off := 0) hx hri
    have q0 : ltB (i : Int) (rows.length : Int) = true := by simp [ltB]; omega
    have qb : (leB 0 (i : Int) && ltB (i : Int) (rows.length : Int)) = true := by simp [leB, ltB]; omega
    have q2 := a5p (i := i) (by omega)
    have hlt := (Qh.1 h2).1
    have hltT := (Qh.1 t2).1
    have hgA : (σ ++ g ++ gT)[h]? = some (.cells (iPV A) 2) := by rw [Qz hlt]; exact h2
    have hsn := c3S (op := op) hei
    have gX := c6f (op := op) (l := l.take i) (by
     have : ∀ {m : List Ex} {j : Nat}, a2J m = true -> a2J (m.take j) = true := by
      intro m
      induction m with
      | nil => intro j _; simp [a2J]
      | cons y m ihm =>
       intro j hm
       cases j with
       | zero => rfl
       | succ j =>
        simp only [a2J, List.take_succ_cons, Q1] at hm ⊢
        exact ⟨hm.1, ihm hm.2⟩
     exact this k5)
    have hone : ∀ h z, (PV.msl h 0 N N z).one = true := fun _ _ => rfl
    rw [Qs] at h7
    obtain ⟨fuel, rfl⟩ : ∃ k, fuel = k + 1 := ⟨fuel - 1, by omega⟩
    obtain ⟨op1, a1, b1, c1, d1, e1', f1, v1, l1⟩ := ei
    have hrow1' := hrow1
    simp only [IsE] at hrow1'
    obtain ⟨y, rows1, rfl, hy, hl1⟩ := hrow1'
    obtain ⟨y1, y2, y3⟩ := a0y hy
    generalize hei0 : Ex.node op1 a1 b1 c1 d1 e1' f1 v1 l1 = ei at *
    have ev1' : a0e Tab (n + 1) 51 [.agg [.int .i64 op1, .int .i64 a1, .int .i64 b1, .int .i64 c1, .int .i64 d1, .int .i64 e1', .int .i64 f1, .int .i64 v1, y], .agg [.int .i64 s.a, .int .i64 s.b, .int .i64 s.c, .int .i64 s.d, .int .i64 s.e, .int .i64 s.f]] (σ ++ g) = _ := ev1
    rw [Sys.loop, show saleroomref13_all_S.loops[0]? = some a1B from rfl]
    by_cases hor : op = 3 /\ 0 < i
    ·obtain ⟨rfl, hi0⟩ := hor
     have ho := c9A hc hN hgA t2 h3.len (b5G _ _ _) (c5k h3 (by omega)) (c5P hoki s N) (n + 1) (by omega)
     have ho' : a0e Tab (n + 1) 84 [.agg [.int .i64 s.a, .int .i64 s.b, .int .i64 s.c, .int .i64 s.d, .int .i64 s.e, .int .i64 s.f], .msl h 0 N N 1, .msl hT 0 N N 1] (σ ++ g ++ gT) = _ := ho
     have h3' := c9x hc hN hoki gX h4 h3
     have hst3 : a4t 3 (l.take (i + 1)) = a2R a1n (a4t 3 (l.take i)) (a0o a1n ei) := hsn
     rw [<- hst3] at h3'
     have hm' : mOr (σ ++ g ++ gT) (orT s A (a2d ei s N) N) (a0R s N N) = σ ++ (g ++ gT ++ [.cells (iPV (orT s A (a2d ei s N) N)) 2, .cells (a0R s N N).flatten 23]) := by unfold mOr; simp
     obtain ⟨h', g', r1, r2, r3⟩ := ihd (i + 1) (by omega) (σ ++ g ++ gT).length _ (orT s A (a2d ei s N) N) (bb + 1000000) fuel (by rw [QD, QD]; omega) (by rw [<- hm']; exact c7f _ _) h3' (by omega) (by omega) (by omega) (by omega)
     refine ⟨h', g', ?_, r2, r3⟩
     rw [<- hm'] at r1
     refine Eq.trans ?_ r1
     have qi : ltB 0 (i : Int) = true := by simp [ltB]; exact hi0
     simp -implicitDefEqProofs only [Q0, a1B, ↓reduceIte,eq_self,ξ1,ξ2,ξ3,ξ4,ξ5,ξ6,ξ7,ξ8,ξ9,ξa,ξb,ξc,ξd,ξe,ξf,ξg,ξh,Nat.reduceAdd,ξi,if_true,if_false,ξl,ξm,ξn,ξo,ξp,ξq,ξr,ξs,ξt,ξu,ξv,ξw,ξx,ξy,ξz,ξA,ξB,ξC,ξD,ξE, q0, x1, x2, qb, hloc, y3, ev1', hone, a3e, qi, ho', q2, a0H]
     rfl
    ·have hmax : TabOk s N (a4t op (l.take (i + 1))) 1000000 (a1M (mxT (a2d ei s N)) A N) := by
      rw [hsn]
      unfold b9z
      split
      ·rename_i h3o
       have hi0 : i = 0 := by omega
       subst hi0
       have hb1 := h6 (.inr rfl)
       exact c5T hs hoki ⟨h3.len, fun j hj => by have := h3.all j hj; exact ⟨this.1, by omega, this.2.2⟩⟩
      ·rename_i h3o
       have hb1 := h6 (.inl h3o)
       exact c5z hs hoki gX ⟨h3.len, fun j hj => by have := h3.all j hj; exact ⟨this.1, by omega, this.2.2⟩⟩
     have hltA : h < (σ ++ g ++ gT).length := by simp at hlt ⊢; omega
     have hlp := a8o (Φ := a0e Tab (n + 1)) (S := saleroomref13_all_S) (q := 1) (fun k => { i := c3q N i k op a b c d e' f v s, b := [], v := [.msl h 0 N N 1, .msl hT 0 N N 1, x], m := mA (σ ++ g ++ gT) h (a1M (mxT (a2d ei s N)) A k), k := σ.length })
      (c8Q (σ := σ ++ g ++ gT) hN1 h3.len (b5G _ _ _) hltA (by omega) t2 (i : Int)) N 0 (by omega) (fuel - N)
     rw [show fuel - N + N = fuel by omega, b8M, c1X hgA] at hlp
     have hxx := c7D (q := n + 1) (σ := mA (σ ++ g ++ gT) h (a1M (mxT (a2d ei s N)) A N)) (h := h) (h' := hT) (N := N) (x := x) (op := op) (a := a) (b := b) (c := c) (d := d) (e := e') (f := f) (v := v) (s := s) (K := σ.length) i (by omega) (fuel - N - 1)
     rw [show fuel - N - 1 + 1 = fuel - N by omega] at hxx
     rw [hxx] at hlp
     have hm' : mA (σ ++ g ++ gT) h (a1M (mxT (a2d ei s N)) A N) = σ ++ (g ++ gT).set (h - σ.length) (.cells (iPV (a1M (mxT (a2d ei s N)) A N)) 2) := by
      unfold mA; rw [List.append_assoc, QC _ _ h1]
     obtain ⟨h', g', r1, r2, r3⟩ := ihd (i + 1) (by omega) h _ _ 1000000 (fuel - N - 1) h1 (by rw [<- hm']; exact b6L hltA _) hmax (by omega) (by omega) (by omega) (by omega)
     refine ⟨h', g', ?_, r2, r3⟩
     rw [<- hm'] at r1
     rw [r1] at hlp
     refine Eq.trans ?_ hlp
     by_cases h3o : op = 3
     ·have hi0 : i = 0 := by omega
      subst hi0 h3o
      have qi : ltB 0 ((0 : Nat) : Int) = false := rfl
      simp -implicitDefEqProofs only [Q0, a1B, ↓reduceIte,eq_self,ξ1,ξ2,ξ3,ξ4,ξ5,ξ6,ξ7,ξ8,ξ9,ξa,ξb,ξc,ξd,ξe,ξf,ξg,ξh,Nat.reduceAdd,ξi,if_true,if_false,ξl,ξm,ξn,ξo,ξp,ξq,ξr,ξs,ξt,ξu,ξv,ξw,ξx,ξy,ξz,ξA,ξB,ξC,ξD,ξE, q0, x1, x2, qb, hloc, y3, ev1', hone, a3e, qi]
      rfl
     ·have e3 : eqB op 3 = false := eqF h3o
      simp -implicitDefEqProofs only [Q0, a1B, ↓reduceIte,eq_self,ξ1,ξ2,ξ3,ξ4,ξ5,ξ6,ξ7,ξ8,ξ9,ξa,ξb,ξc,ξd,ξe,ξf,ξg,ξh,Nat.reduceAdd,ξi,if_true,if_false,ξl,ξm,ξn,ξo,ξp,ξq,ξr,ξs,ξt,ξu,ξv,ξw,ξx,ξy,ξz,ξA,ξB,ξC,ξD,ξE, q0, x1, x2, qb, hloc, y3, ev1', hone, e3]
      rfl
  have hp : s.prod = (N : Int) := by rw [hN, a6O hc]
  have hcn := b8y s hs σ n
  rw [hp] at hcn
  have hmul2 : (l.length + 1) * (N + 3) <= 9 * 1027 := Nat.mul_le_mul (by omega) (by omega)
  obtain ⟨h', g', r1, r2, r3⟩ := loop l.length 0 (by omega) σ.length [.cells (iPV (Q6 N 0)) 2] (Q6 N 0) 1000000 (n + 1) (Nat.le_refl _) (by simp) (c7S hs) (by omega) (by omega) (by omega) (by omega)
  refine ⟨h', g', ?_, r2, r3⟩
  rw [a0e, b0U]
  simp only [Q0, Sys.run]
  show ((a0i [.sh (.agg [_, _, _, _, _, _, _, _, _]), .sh (.agg [_, _, _, _, _, _])] _).bind _) = _
  simp only [bpv] at hcn ⊢
  simp only [a0i, a0d, a0c, Q7, Q0, Q8, Q9, Qa, if_true, x3]
  show (PT.ev _ a4D _).bind _ = _
  have hNi : 0 <= (N : Int) /\ (N : Int) <= 1000000 /\ 8 <= 100000000 := by omega
  refine Eq.trans ?_ r1
  simp -implicitDefEqProofs only [a4D, ↓reduceIte,eq_self,ξ1,ξ2,ξ3,ξ4,ξ5,ξ6,ξ7,ξ8,ξ9,ξa,ξb,ξc,ξd,ξe,ξf,ξg,ξh,Nat.reduceAdd,ξi,if_true,if_false,ξl,ξm,ξn,ξo,ξp,ξq,ξr,ξs,ξt,ξu,ξv,ξw,ξx,ξy,ξz,ξA,ξB,ξC,ξD,ξE, hcn, hNi, and_self, Qk, b4G]
  rfl
end Go.Proofs.Ythmkfeiapdbojaa
