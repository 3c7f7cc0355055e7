/- What the map of an expression is worth within a bundle: by the kinds of expressions (plain). -/
import Derived.Test.YthmkfeiapdbojaaHVn
import Derived.Test.YthmkfeiapdbojaaHGx
set_option linter.unusedSimpArgs false
set_option linter.unusedVariables false
open Bool renaming and_eq_true → Q0
open List renaming mem_map → Q1, all_cons → Q2, mem_cons → Q3, zipWith_cons_cons → Q4, map_cons → Q5, mem_flatMap → Q6, foldl_cons → Q7
set_option maxRecDepth 100000
namespace Go.Proofs.Ythmkfeiapdbojaa
open Go.Sx Go.Kv Go.Bun
section
variable {lim B : List Int} {c : Int}
theorem a9U {v : Int} (h : v <= 1000000) : mnM v = v := by unfold mnM; rw [if_pos h]
theorem b2A : a0Q [] B <= c ↔ 0 <= c := by rw [a4x]; simp
theorem a5Q {kv x : KV} (h : KvOk lim kv) (g : KvOk lim x) (hB : leL B lim = true) : a0Q (raises lim kv x) B <= c ↔ a0Q kv B <= c /\ a0Q x B <= c := by
 rw [a4h h (fun p hp => (g.all p hp).2.2.2) hB]
 refine and_congr_right fun h1 => ?_
 rw [a4x (kv := x)]
 constructor
 ·intro h2
  refine ⟨Int.le_trans (a2j _ _) h1, fun p hp hl => ?_⟩
  have := h2 p hp hl
  rwa [a9U (g.all p hp).2.1] at this
 ·rintro ⟨_, h2⟩ p hp hl
  rw [a9U (g.all p hp).2.1]
  exact h2 p hp hl
theorem b0M (lim : List Int) (kv : KV) (b : List Int) (v : Int) : a1P lim kv b v = raises lim kv [(b, v)] := rfl
theorem b4a {w : List Int} {v : Int} (hw : nnL w = true) (hB : leL B lim = true) : a0Q (a1P lim [] w v) B <= c ↔ 0 <= c /\ (leL w B = true -> mnM v <= c) := by
 rw [b0M, a4h (.nil lim) (by simpa using hw) hB, b2A]
 simp
theorem b2y (hB : leL B lim = true) : ∀ {l : List KV} {a : KV}, KvOk lim a -> (∀ x ∈ l, KvOk lim x) -> (a0Q (l.foldl (raises lim) a) B <= c ↔ a0Q a B <= c /\ ∀ x ∈ l, a0Q x B <= c)
 | [], a, _, _ => by simp
 | x :: l, a, h, hl => by
  have hx := hl x (by simp)
  rw [Q7, b2y hB (a2P h hx) (fun y hy => hl y (by simp [hy])), a5Q h hx hB]
  simp only [Q3, forall_eq_or_imp]
  exact and_assoc
theorem b4S {kv : KV} (h : KvOk lim kv) {p : List Int × Int} (hp : p ∈ kv) : p.1.length = lim.length := a7v (h.all p hp).2.2.1
theorem b9o : ∀ {a b : List Int}, nnL a = true -> nnL b = true -> nnL (a1Z a b) = true
 | [], _, _, _ => rfl
 | _ :: _, [], _, _ => rfl
 | x :: a, y :: b, ha, hb => by
  simp only [nnL, Q2, Q0, decide_eq_true_eq] at ha hb
  have := b9o (a := a) (b := b) ha.2 hb.2
  simp only [nnL, a1Z, Q4, Q2, Q0, decide_eq_true_eq] at *
  exact ⟨by omega, this⟩
theorem b9J : ∀ {B : List Int}, nnL B = true -> leL (B.map fun _ => 0) B = true
 | [], _ => rfl
 | x :: B, h => by
  simp only [nnL, Q2, Q0, decide_eq_true_eq] at h
  simp only [Q5, leL, Q0, decide_eq_true_eq]
  exact ⟨h.1, b9J h.2⟩
theorem c3X : ∀ B : List Int, nnL (B.map fun _ => (0 : Int)) = true
 | [] => rfl
 | x :: B => by simp only [Q5, nnL, Q2, Q0, decide_eq_true_eq]; exact ⟨Int.le_refl _, c3X B⟩
theorem c1l : ∀ B : List Int, a3H B (B.map fun _ => 0) = B
 | [] => rfl
 | x :: B => by have := c1l B; simp only [a3H, Q5, Q4] at *; rw [this]; simp
theorem a8Q : ∀ {D B : List Int}, nnL D = true -> leL D B = true -> leL (a3H B D) B = true
 | [], [], _, _ => rfl
 | x :: D, y :: B, h, k => by
  simp only [nnL, Q2, Q0, decide_eq_true_eq] at h
  simp only [leL, Q0, decide_eq_true_eq] at k
  simp only [a3H, Q4, leL, Q0, decide_eq_true_eq]
  exact ⟨by omega, a8Q h.2 k.2⟩
 | [], _ :: _, _, k => by simp [leL] at k
 | _ :: _, [], _, k => by simp [leL] at k
theorem b5s {x y : KV} (gx : KvOk lim x) (gy : KvOk lim y) (hB : leL B lim = true) (hn : nnL B = true) :
  a0Q (a3e lim x y) B <= c ↔ 0 <= c /\ ∀ D, leL D B = true -> nnL D = true -> mnM (a0Q x D + a0Q y (a3H B D)) <= c := by
 unfold a3e
 have h1 := a2P (.nil lim) gx
 have h2 := a2P h1 gy
 have hpn : ∀ p ∈ a4y x y, nnL p.1 = true := by
  intro p hp
  simp only [a4y, Q6, Q1] at hp
  obtain ⟨a, ha, b, hb, rfl⟩ := hp
  exact b9o (gx.all a ha).2.2.2 (gy.all b hb).2.2.2
 rw [a4h h2 hpn hB, a5Q h1 gy hB, a5Q (.nil lim) gx hB, b2A]
 have hBl := a7v hB
 constructor
 ·rintro ⟨⟨⟨h0, hx⟩, hy⟩, hp⟩
  refine ⟨h0, fun D hD hDn => ?_⟩
  rw [a3X]
  rcases b2f x D with e1 | ⟨p, p1, p2, p3⟩
  ·rcases b2f y (a3H B D) with e2 | ⟨q, q1, q2, q3⟩
   ·left; omega
   ·left
    have := a7d q1 (a1I q2 (a8Q hDn hD))
    omega
  ·rcases b2f y (a3H B D) with e2 | ⟨q, q1, q2, q3⟩
   ·left
    have := a7d p1 (a1I p2 hD)
    omega
   ·have := hp (a5c p q) (by simp only [a4y, Q6, Q1]; exact ⟨p, p1, q, q1, rfl⟩) (by
     simp only [a5c]
     have := b9T p2 q2
     rwa [b9C hD] at this)
    simp only [a5c] at this
    rw [a3X] at this
    omega
 ·rintro ⟨h0, h⟩
  refine ⟨⟨⟨h0, ?_⟩, ?_⟩, ?_⟩
  ·have := h B (a7f B) hn
   rw [a3X] at this
   have h3 := a2j y (a3H B B)
   have h4 := c0j gx B
   omega
  ·have := h (B.map fun _ => 0) (b9J hn) (c3X B)
   rw [c1l, a3X] at this
   have h3 := a2j x (B.map fun _ => 0)
   have h4 := c0j gy B
   omega
  ·intro p hp hl
   simp only [a4y, Q6, Q1] at hp
   obtain ⟨a, ha, b, hb, rfl⟩ := hp
   simp only [a5c] at hl ⊢
   have l1 := b4S gx ha
   have l2 := b4S gy hb
   have k1 := b9X hl (gy.all b hb).2.2.2 (by omega) (by omega)
   have k2 := c2o hl (by omega) (by omega)
   have := h a.1 k1 (gx.all a ha).2.2.2
   rw [a3X] at this ⊢
   have h3 := a7d ha (a7f a.1)
   have h4 := a7d hb k2
   omega
theorem b3r : ∀ {a b B : List Int}, a.length = b.length -> (leL (a1F a b) B = true ↔ leL a B = true /\ leL b B = true)
 | [], [], [], _ => by simp [a1F, leL]
 | [], [], _ :: _, _ => by simp [a1F, leL]
 | x :: a, y :: b, [], _ => by simp [a1F, leL]
 | x :: a, y :: b, z :: B, h => by
  have := b3r (a := a) (b := b) (B := B) (by simpa using h)
  simp only [a1F, Q4, leL, Q0, decide_eq_true_eq] at *
  rw [this]
  constructor
  ·rintro ⟨h1, h2, h3⟩
   split at h1
   ·exact ⟨⟨by omega, h2⟩, by omega, h3⟩
   ·exact ⟨⟨by omega, h2⟩, by omega, h3⟩
  ·rintro ⟨⟨h1, h2⟩, h3, h4⟩
   exact ⟨by split <;> omega, h2, h4⟩
 | [], _ :: _, _, h => by simp at h
 | _ :: _, [], _, h => by simp at h
theorem b1G {w : List Int} {v : Int} {x : KV} (gx : KvOk lim x) (hw : nnL w = true) (hwl : w.length = lim.length) (hv : 0 <= v) (hB : leL B lim = true) :
  a0Q (a6P lim w v x) B <= c ↔ 0 <= c /\ mnM (a0Q x B + if leL w B = true then v else 0) <= c := by
 unfold a6P
 have h1 := a2P (.nil lim) gx
 have h2 : KvOk lim (a1P lim (raises lim [] x) w v) := h1.raise hw
 have hpn : ∀ p ∈ x.map fun p => (a1F p.1 w, p.2 + v), nnL p.1 = true := by
  intro p hp
  obtain ⟨a, ha, rfl⟩ := Q1.1 hp
  exact b2G (gx.all a ha).2.2.2 hw
 rw [a4h h2 hpn hB, b0M, a4h h1 (by simpa using hw) hB, a5Q (.nil lim) gx hB, b2A]
 have hM := c0j gx B
 have h0 := a2j x B
 constructor
 ·rintro ⟨⟨⟨g0, g1⟩, g2⟩, g3⟩
  refine ⟨g0, ?_⟩
  rw [a3X]
  split
  ·rename_i hwB
   rcases b2f x B with e1 | ⟨p, p1, p2, p3⟩
   ·have := g2 (w, v) (by simp) hwB
    rw [a3X] at this
    simp only at this
    omega
   ·have := g3 (a1F p.1 w, p.2 + v) (Q1.2 ⟨p, p1, rfl⟩) ((b3r (by rw [b4S gx p1, hwl])).2 ⟨p2, hwB⟩)
    rw [a3X] at this
    simp only at this
    omega
  ·omega
 ·rintro ⟨g0, g⟩
  rw [a3X] at g
  refine ⟨⟨⟨g0, by split at g <;> omega⟩, ?_⟩, ?_⟩
  ·intro p hp hl
   rw [List.mem_singleton] at hp
   subst hp
   simp only at hl ⊢
   rw [if_pos hl] at g
   rw [a3X]; omega
  ·intro p hp hl
   obtain ⟨a, ha, rfl⟩ := Q1.1 hp
   simp only at hl ⊢
   obtain ⟨k1, k2⟩ := (b3r (by rw [b4S gx ha, hwl])).1 hl
   rw [if_pos k2] at g
   have := a7d ha k1
   rw [a3X]; omega
theorem b1U {v : Int} {x : KV} (gx : KvOk lim x) (hv : 0 <= v) (hB : leL B lim = true) : a0Q (a6f lim v x) B <= c ↔ 0 <= c /\ mnI (a0Q x B) v <= c := by
 unfold a6f
 have hpn : ∀ p ∈ x.map fun p => (p.1, mnI p.2 v), nnL p.1 = true := by
  intro p hp
  obtain ⟨a, ha, rfl⟩ := Q1.1 hp
  exact (gx.all a ha).2.2.2
 rw [a4h (.nil lim) hpn hB, b2A]
 refine and_congr_right fun h0 => ?_
 constructor
 ·intro h
  rcases b2f x B with e1 | ⟨p, p1, p2, p3⟩
  ·rw [e1]; unfold mnI; split <;> omega
  ·have := h _ (Q1.2 ⟨p, p1, rfl⟩) p2
   simp only at this
   have hm := (gx.all p p1).2.1
   rw [a9U (by unfold mnI; split <;> omega)] at this
   rwa [<- p3]
 ·intro h p hp hl
  obtain ⟨a, ha, rfl⟩ := Q1.1 hp
  simp only at hl ⊢
  have := a7d ha hl
  have hm := (gx.all a ha).2.1
  rw [a9U (by unfold mnI; split <;> omega)]
  unfold mnI at *
  split at h <;> split <;> omega
end
end Go.Proofs.Ythmkfeiapdbojaa
set_option maxRecDepth 100000
namespace Go.Proofs.Ythmkfeiapdbojaa
open Go.Sx Go.Kv Go.Bun
theorem a7L (lim : List Int) : ∀ l : List Ex, a0G lim l = l.map (a0r lim)
 | [] => rfl
 | e :: l => by rw [a0G, a7L lim l]; rfl
theorem b3A : ∀ {l : List Ex}, a2G l = true -> ∀ e ∈ l, okX e = true
 | x :: l, h, e, he => by
  simp only [a2G, Q0] at h
  rcases Q3.1 he with rfl | he
  ·exact h.1
  ·exact b3A h.2 e he
 | [], _, e, he => by simp at he
theorem a7T {lim : List Int} {l : List Ex} (h : a2G l = true) : ∀ x ∈ a0G lim l, KvOk lim x := b3Z lim l h
def b0w (lim lim' : List Int) (x y : KV) : Prop := ∀ B, leL B lim = true -> leL B lim' = true -> nnL B = true -> a0Q x B = a0Q y B
theorem c2J {lim lim' : List Int} {x y x' y' : KV} (gx : KvOk lim x) (gy : KvOk lim y) (gx' : KvOk lim' x') (gy' : KvOk lim' y') (h1 : b0w lim lim' x x') (h2 : b0w lim lim' y y') : b0w lim lim' (a3e lim x y) (a3e lim' x' y') := by
 intro B b1 b2 b3
 refine a3r fun c => ?_
 rw [b5s gx gy b1 b3, b5s gx' gy' b2 b3]
 refine and_congr_right fun _ => forall_congr' fun D => ?_
 constructor
 ·intro h d1 d2
  have := h d1 d2
  rwa [h1 D (a1I d1 b1) (a1I d1 b2) d2, h2 (a3H B D) (a1I (a8Q d2 d1) b1) (a1I (a8Q d2 d1) b2) (b7h d1)] at this
 ·intro h d1 d2
  have := h d1 d2
  rwa [<- h1 D (a1I d1 b1) (a1I d1 b2) d2, <- h2 (a3H B D) (a1I (a8Q d2 d1) b1) (a1I (a8Q d2 d1) b2) (b7h d1)] at this
theorem b6a {lim lim' : List Int} : ∀ {l : List Ex} {x x' : KV}, a2G l = true -> KvOk lim x -> KvOk lim' x' -> b0w lim lim' x x' -> (∀ e ∈ l, b0w lim lim' (a0r lim e) (a0r lim' e)) ->
  b0w lim lim' ((a0G lim l).foldl (a3e lim) x) ((a0G lim' l).foldl (a3e lim') x')
 | [], _, _, _, _, _, h, _ => h
 | e :: l, x, x', ho, gx, gx', h, he => by
  simp only [a2G, Q0] at ho
  simp only [a0G, Q7]
  have k1 := a2K lim e ho.1
  have k2 := a2K lim' e ho.1
  exact b6a ho.2 (a9l gx k1) (a9l gx' k2) (c2J gx k1 gx' k2 h (he e (by simp))) (fun y hy => he y (by simp [hy]))
mutual
theorem b9p {lim lim' : List Int} (hl : lim.length = 6) (hl' : lim'.length = 6) : ∀ e : Ex, okX e = true -> b0w lim lim' (a0r lim e) (a0r lim' e)
 | .node op a b c d e f v l, h => by
  have hx := h
  simp only [okX, Q0, decide_eq_true_eq, Bool.or_eq_true, Bool.not_eq_true', decide_eq_false_iff_not] at h
  obtain ⟨⟨⟨⟨h1, h2⟩, h3⟩, h4⟩, h5⟩ := h
  have ih := b7A hl hl' l h5
  intro B b1 b2 b3
  have hhd : ∀ lm : List Int, KvOk lm ((a0G lm l).headD []) := fun lm => by
   cases hk : a0G lm l with
   | nil => exact .nil lm
   | cons x r => exact a7T h5 x (by rw [hk]; simp)
  have hsh : b0w lim lim' ((a0G lim l).headD []) ((a0G lim' l).headD []) := by
   cases l with
   | nil => intro B _ _ _; rfl
   | cons x r => exact ih x (by simp)
  simp only [a0r]
  split
  ·refine a3r fun c => ?_
   rw [b4a h1 b1, b4a h1 b2]
  split
  ·refine a3r fun c => ?_
   rw [b2y b1 (.nil lim) (a7T h5), b2y b2 (.nil lim') (a7T h5), a7L, a7L]
   refine and_congr Iff.rfl ?_
   simp only [Q1, forall_exists_index, and_imp, forall_apply_eq_imp_iff₂]
   constructor
   ·intro hh e he; rw [<- ih e he B b1 b2 b3]; exact hh e he
   ·intro hh e he; rw [ih e he B b1 b2 b3]; exact hh e he
  split
  ·exact b6a h5 (.nil lim) (.nil lim') (fun _ _ _ _ => rfl) ih B b1 b2 b3
  split
  ·refine a3r fun c => ?_
   rw [b1G (hhd lim) h1 (by rw [hl]; rfl) h2 b1, b1G (hhd lim') h1 (by rw [hl']; rfl) h2 b2, hsh B b1 b2 b3]
  split
  ·refine a3r fun c => ?_
   rw [b1U (hhd lim) h2 b1, b1U (hhd lim') h2 b2, hsh B b1 b2 b3]
  ·rfl
theorem b7A {lim lim' : List Int} (hl : lim.length = 6) (hl' : lim'.length = 6) : ∀ l : List Ex, a2G l = true -> ∀ e ∈ l, b0w lim lim' (a0r lim e) (a0r lim' e)
 | [], _ => by simp
 | x :: l, h => by
  simp only [a2G, Q0] at h
  have i1 := b9p hl hl' x h.1
  have i2 := b7A hl hl' l h.2
  intro e he
  rcases Q3.1 he with rfl | he
  ·exact i1
  ·exact i2 e he
end
def a8i : List Int := [4, 4, 4, 4, 4, 4]
def vX (e : Ex) (B : List Int) : Int := a0Q (a0r a8i e) B
theorem c3c {lim : List Int} {kv : KV} (h : KvOk lim kv) : a5k kv = a0Q kv lim := a3r fun c => by
 rw [b5A, a4x]
 exact and_congr_right fun _ => ⟨fun h1 p hp _ => h1 p hp, fun h1 p hp => h1 p hp (h.all p hp).2.2.1⟩
theorem c5T {s : Bd} (h : s.Ok) : leL s.l a8i = true := by
 simp only [Bd.Ok] at h
 simp only [a8i, Bd.l, leL, Q0, decide_eq_true_eq, and_true]
 omega
theorem c6a {e : Ex} (h : okX e = true) {s : Bd} (hs : s.Ok) : a5k (a0r s.l e) = vX e s.l := by
 rw [c3c (a2K s.l e h)]
 exact b9p rfl rfl e h s.l (a7f _) (c5T hs) (c5X hs)
theorem c4V {e : Ex} {s : Bd} : b2h e s.l = if chk e = 0 /\ s.Ok then vX e s.l else 0 := by
 have hb : a4o (b3u s.l) = s.check := by
  have hiff : (b3u s.l).ok ↔ s.Ok := by
   show (⟨s.a, s.b, s.c, s.d, s.e, s.f⟩ : W6).ok ↔ _
   simp only [W6.ok, Bd.Ok]
   constructor <;> intro h <;> omega
  unfold a4o Bd.check
  by_cases h : s.Ok
  ·rw [if_pos h, if_pos (hiff.2 h)]
  ·rw [if_neg h, if_neg (fun k => h (hiff.1 k))]
 unfold b2h
 rw [hb]
 by_cases h1 : chk e = 0
 ·rw [if_pos h1]
  by_cases h2 : s.Ok
  ·rw [if_pos (Bd.check_zero.2 h2), if_pos ⟨h1, h2⟩, c6a (b1t h1) h2]
  ·rw [if_neg (fun h => h2 (Bd.check_zero.1 h)), if_neg (fun h => h2 h.2)]
 ·rw [if_neg h1, if_neg (fun h => h1 h.1)]
theorem c4v {e : Ex} {x y : Bd} (h : x.Le y) : vX e x.l <= vX e y.l := b8k (a9G.2 h)
theorem b6k (e : Ex) (B : List Int) : 0 <= vX e B := a2j _ _
end Go.Proofs.Ythmkfeiapdbojaa
set_option maxRecDepth 100000
namespace Go.Proofs.Ythmkfeiapdbojaa
open Go.Sx Go.Kv Go.Bun
section
variable {f : Nat -> Int -> Int} {A : List Int} {k : Nat}
end
structure TabOk (s : Bd) (N : Nat) (X : KV) (b : Int) (A : List Int) : Prop where
 len : A.length = N
 all : ∀ j : Nat, j < N -> 0 <= A.getD j 0 /\ A.getD j 0 <= b /\ mnM (A.getD j 0) = a0Q X (s.unr j).l
section
variable {s : Bd} {N : Nat}
end
end Go.Proofs.Ythmkfeiapdbojaa
set_option maxRecDepth 100000
namespace Go.Proofs.Ythmkfeiapdbojaa
open Go.Sx Go.Kv Go.Bun
theorem c4L {op a b c d e f v : Int} {l : List Ex} (h : a2k (.node op a b c d e f v l) = 0) : (op = 1 /\ l = [] /\ 1 <= v /\ v <= 1000000) \/ ((op = 2 \/ op = 3) /\ 1 <= l.length /\ l.length <= 8) \/ (op = 4 /\ (∃ x, l = [x]) /\ 1 <= v /\ v <= 1000000) \/ (op = 5 /\ (∃ x, l = [x]) /\ 1 <= v /\ v <= 1000000) := by
 unfold a2k at h
 split at h
 case isFalse => cases h
 rename_i hf
 split at h
 case isFalse => cases h
 rename_i hr
 simp only [Ex.form] at hf
 simp only [Ex.rng] at hr
 have hf := of_decide_eq_true hf
 have hr := of_decide_eq_true hr
 unfold b2s at hf
 unfold b0q at hr
 have one : (l.length : Int) = 1 -> ∃ x, l = [x] := fun h1 => List.length_eq_one_iff.1 (by omega)
 have nil : (l.length : Int) = 0 -> l = [] := fun h1 => List.eq_nil_of_length_eq_zero (by omega)
 rcases hf with ⟨h1, h2⟩ | ⟨h1, h2, h3, _⟩ | ⟨h1, h2⟩ | ⟨h1, h2, _⟩
 ·exact .inl ⟨h1, nil h2, by omega, by omega⟩
 ·exact .inr (.inl ⟨h1, by omega, by omega⟩)
 ·exact .inr (.inr (.inl ⟨h1, one h2, by omega, by omega⟩))
 ·exact .inr (.inr (.inr ⟨h1, one h2, by omega, by omega⟩))
end Go.Proofs.Ythmkfeiapdbojaa
set_option maxRecDepth 100000
namespace Go.Proofs.Ythmkfeiapdbojaa
open Go.Sx Go.Kv Go.Bun
end Go.Proofs.Ythmkfeiapdbojaa
set_option maxRecDepth 100000
namespace Go.Proofs.Ythmkfeiapdbojaa
open Go.Sx Go.Kv Go.Bun
section
variable {σ : List MO} {s : Bd} {N hx hy : Nat} {x y : List Int}
abbrev orV (σ : List MO) (N hx hy : Nat) : List PV := [.msl hx 0 N N 1, .msl hy 0 N N 1, .msl σ.length 0 N N 1, .msl (σ.length + 1) 0 N N 6]
end
end Go.Proofs.Ythmkfeiapdbojaa
set_option maxRecDepth 100000
namespace Go.Proofs.Ythmkfeiapdbojaa
open Go.Sx Go.Kv Go.Bun
section
variable {σ : List MO} {h h' k : Nat}
variable {N : Nat} {A T : List Int} {x : PV} {op a b c d e f v : Int} {s : Bd} {K : Nat}
abbrev c7E (N i k : Int) (op a b c d e f v : Int) (s : Bd) : List Int := [N, i, k, op, a, b, c, d, e, f, v, s.a, s.b, s.c, s.d, s.e, s.f]
end
end Go.Proofs.Ythmkfeiapdbojaa
set_option maxRecDepth 100000
namespace Go.Proofs.Ythmkfeiapdbojaa
open Go.Sx Go.Kv Go.Bun
theorem b7L : ∀ {l : List Ex} {e y : Ex}, e ∈ l -> y ∈ e.pre -> y ∈ a3D l
 | x :: l, e, y, h, hy => by
  simp only [a3D, List.mem_append]
  rcases Q3.1 h with rfl | h
  ·exact .inl hy
  ·exact .inr (b7L h hy)
 | [], e, y, h, hy => by simp at h
end Go.Proofs.Ythmkfeiapdbojaa
