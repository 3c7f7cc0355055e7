/- Which products an expression uses, and how many nodes it has: the reference's. -/
import Derived.Test.YthmkfeiapdbojaaHVq
import Derived.Test.YthmkfeiapdbojaaHVn
import Derived.Test.YthmkfeiapdbojaaHGx
import Derived.Test.YthmkfeiapdbojaaHTxe
set_option linter.unusedSimpArgs false
set_option linter.unusedVariables false
open Go.Sx.PT renaming ev → ξ1
open Go.Sx.BE renaming safe → ξ2, pe → ξ3, all → ξz
open Go.Sx.IE renaming pe → ξ4
open Go.Sx renaming PEnv.at → ξ5
open Go.Sx.PEnv renaming push → ξt
open List renaming getD_cons_zero → ξ6, getD_cons_succ → ξ7, getElem?_cons_zero → ξ8, getElem?_cons_succ → ξ9, drop_zero → ξf, length_cons → ξg, length_nil → ξh, take_succ_cons → ξm, take_zero → ξn, cons_append → ξu, nil_append → ξv, append_nil → ξw, map_cons → ξD, map_nil → ξE
open Go.Sx renaming a0g → ξa, a0h → ξb, a0b → ξc, a0f → ξd, a0c → ξo, a0a → ξp, a0d → ξq, a0T → ξF, a0W → ξG, a0N → ξH, a0K → ξI, a0X → ξJ, a0V → ξK, a0P → ξL, a0Y → ξM, a0J → ξN, a0O → ξO, a0j → ξP, a0Q → ξQ, a0U → ξR, a0s → ξS, a0M → ξT, a0B → ξU, a0t → ξV, a0u → ξW, a0v → ξX, a0L → ξY
open Nat renaming add_zero → ξe, le_refl → ξi
open Bool renaming false_eq_true → ξl, and_self → ξA, not_true → ξB, not_false → ξC
open Option renaming map_some → ξr, bind_some → ξs
open Go.Sx.SV renaming pvs → ξx, pv → ξy
open Option renaming bind_some → Q0, map_some → Q4
open List renaming append_nil → Q1, nil_append → Q2, cons_append → Q3, mem_of_getElem? → Q5, drop_zero → Q7, mem_map → Q8, drop_of_length_le → Qa, drop_eq_getElem?_toList_append → Qb, getD_cons_zero → Qd, getD_cons_succ → Qe, length_append → Qh
open Bool renaming false_eq_true → Q6, and_eq_true → Q9, or_eq_false_iff → Qg
open Int renaming cast_ofNat_Int → Qf
set_option maxRecDepth 100000
namespace Go.Proofs.Ythmkfeiapdbojaa
open Go.Sx Go.Kv Go.Bun
mutual
def a4l : Ex -> Prop | .node _ _ _ _ _ _ _ _ l => l.length <= 9223372036854775807 /\ b0M l
def b0M : List Ex -> Prop | [] => True | e :: l => a4l e /\ b0M l
end
theorem b2O : ∀ {l : List Ex}, b0M l -> ∀ e ∈ l, a4l e
 | x :: l, h, e, he => by
  simp only [b0M] at h
  rcases List.mem_cons.1 he with rfl | he
  ·exact h.1
  ·exact b2O h.2 e he
 | [], _, e, he => by simp at he
mutual
def a1c (k : Nat) : Ex -> Bool | .node _ a b c d e f _ l => decide (0 < [a, b, c, d, e, f].getD k 0) || b0H k l
def b0H (k : Nat) : List Ex -> Bool | [] => false | e :: l => a1c k e || b0H k l
end
mutual
def a2Z (d : Nat) : Ex -> Int | .node _ _ _ _ _ _ _ _ l => if 10 < d \/ 20 < l.length then 1000 else 1 + a2H (d + 1) l
def a2H (d : Nat) : List Ex -> Int | [] => 0 | e :: l => a2Z d e + a2H d l
end
def bN : Nat -> Int
 | 0 => 1000
 | k + 1 => 1 + 20 * bN k
theorem b6D : ∀ k, 1000 <= bN k
 | 0 => Int.le_refl _
 | k + 1 => by have := b6D k; simp only [bN]; omega
mutual
theorem b6w (d : Nat) : ∀ e : Ex, 1 <= a2Z d e /\ a2Z d e <= bN (11 - d)
 | .node op a b c d' e f v l => by
  unfold a2Z
  have hb := b6D (11 - d)
  split
  ·omega
  ·rename_i h
   have := a6i (d + 1) l
   obtain ⟨k, hk⟩ : ∃ k, 11 - d = k + 1 := ⟨10 - d, by omega⟩
   rw [hk]
   rw [show 11 - (d + 1) = k by omega] at this
   simp only [bN]
   have hl : (l.length : Int) * bN k <= 20 * bN k := Int.mul_le_mul_of_nonneg_right (by omega) (by have := b6D k; omega)
   omega
theorem a6i (d : Nat) : ∀ l : List Ex, 0 <= a2H d l /\ a2H d l <= l.length * bN (11 - d)
 | [] => by simp [a2H]
 | e :: l => by
  have h1 := b6w d e
  have h2 := a6i d l
  simp only [a2H, List.length_cons]
  rw [Int.natCast_add, Int.add_mul]
  omega
end
mutual
theorem b5l (d : Nat) : ∀ e : Ex, a2Z d e < 1000 -> a2Z d e = e.size
 | .node op a b c d' e f v l, h => by
  unfold a2Z at h ⊢
  split
  ·rename_i hc; rw [if_pos hc] at h; omega
  ·rename_i hc
   rw [if_neg hc] at h
   have := b3J (d + 1) l (by have := a6i (d + 1) l; omega)
   simp only [Ex.size]; omega
theorem b3J (d : Nat) : ∀ l : List Ex, a2H d l < 1000 -> a2H d l = a1P l
 | [], _ => by simp [a2H, a1P]
 | e :: l, h => by
  have h1 := b6w d e
  have h2 := a6i d l
  simp only [a2H] at h ⊢
  have h3 := b5l d e (by omega)
  have h4 := b3J d l (by omega)
  simp only [a1P]; omega
end
def want (a b c d e f : Int) (k : Nat) : Int := [a, b, c, d, e, f].getD k 0
theorem c2k (σ : List MO) : ∀ (e : Ex), a4l e -> ∀ row, IsE e row -> ∀ n, e.size + 2 <= n -> ∀ k : Nat, k < 6 -> a0e Tab n 45 [.agg row, .int .i64 k] σ = some (.bool (a1c k e), σ) := by
 intro e
 induction hM : e.size using Nat.strongRecOn generalizing e with
 | _ M ih =>
  subst hM
  intro hw row hrow n hn k hk
  obtain ⟨op, a, b, c, d, e', f, v, l⟩ := e
  simp only [IsE] at hrow
  obtain ⟨x, rows, rfl, hx, hl⟩ := hrow
  obtain ⟨x1, x2, x3⟩ := a0y hx
  simp only [Ex.size] at ih hn
  simp only [a4l] at hw
  obtain ⟨n, rfl⟩ : ∃ m, n = m + 1 := ⟨n - 1, by omega⟩
  have hlen := hl.length
  have hsl := a2E l
  have loop : ∀ (dd i : Nat), i + dd = l.length -> ∀ fuel, dd + 1 <= fuel ->
    saleroomref13_Uses_S.loop (a0e Tab n) fuel 0 { i := [(k : Int), (i : Int), op, a, b, c, d, e', f, v], b := [], v := [x], m := σ, k := σ.length } = some (.bool (b0H k (l.drop i)), σ) := by
   intro dd
   induction dd with
   | zero =>
    intro i hi fuel hf
    obtain ⟨fuel, rfl⟩ : ∃ m, fuel = m + 1 := ⟨fuel - 1, by omega⟩
    have q0 : ltB (i : Int) (rows.length : Int) = false := by simp [ltB]; omega
    rw [Sys.loop, show saleroomref13_Uses_S.loops[0]? = some a1I from rfl]
    simp -implicitDefEqProofs only [Q0, a1I, ↓reduceIte,eq_self,ξ1,ξ2,ξ3,ξ4,ξ5,ξ6,ξ7,ξ8,ξ9,ξa,ξb,ξc,ξd,ξe,ξf,ξg,ξh,Nat.reduceAdd,ξi,if_true,if_false,ξl,ξm,ξn,ξo,ξp,ξq,ξr,ξs,ξt,ξu,ξv,ξw,ξx,ξy,ξz,ξA,ξB,ξC,ξD,ξE, q0, x1, x2, a0k, or_true]
    rw [Qa (by omega)]
    rfl
   | succ dd ihd =>
    intro i hi fuel hf
    obtain ⟨fuel, rfl⟩ : ∃ m, fuel = m + 1 := ⟨fuel - 1, by omega⟩
    obtain ⟨ei, hei⟩ := a7n (l := l) (i := i) (by omega)
    obtain ⟨ri, hri, hrow1⟩ := hl.at hei
    have hszi := a2t (Q5 hei)
    have hcall := ih ei.size (by omega) ei rfl (b2O hw.2 ei (Q5 hei)) ri hrow1 n (by omega) k hk
    have hnext := ihd (i + 1) (by omega) fuel (by omega)
    have hloc := a3z (off := 0) hx hri
    have q0 : ltB (i : Int) (rows.length : Int) = true := by simp [ltB]; omega
    have q2 : (leB (-9223372036854775808) ((i : Int) + 1) && leB ((i : Int) + 1) 9223372036854775807) = true := by simp [leB]; omega
    have hdr : l.drop i = ei :: l.drop (i + 1) := by rw [Qb (i := i), hei]; rfl
    rw [hdr, b0H]
    obtain ⟨op1, a1, b1, c1, d1, e1', f1, v1, l1⟩ := ei
    have hrow1' := hrow1
    simp only [IsE] at hrow1'
    obtain ⟨y, rows1, rfl, hy, hl1⟩ := hrow1'
    obtain ⟨y1, y2, y3⟩ := a0y hy
    generalize a1c k (Ex.node op1 a1 b1 c1 d1 e1' f1 v1 l1) = u at *
    rw [Sys.loop, show saleroomref13_Uses_S.loops[0]? = some a1I from rfl]
    cases u with
    | true => simp -implicitDefEqProofs only [Q0, a1I, ↓reduceIte,eq_self,ξ1,ξ2,ξ3,ξ4,ξ5,ξ6,ξ7,ξ8,ξ9,ξa,ξb,ξc,ξd,ξe,ξf,ξg,ξh,Nat.reduceAdd,ξi,if_true,if_false,ξl,ξm,ξn,ξo,ξp,ξq,ξr,ξs,ξt,ξu,ξv,ξw,ξx,ξy,ξz,ξA,ξB,ξC,ξD,ξE, q0, x1, x2, le0, hloc, y3, hcall, a0k, or_true, Bool.true_or]
    | false =>
     rw [Bool.false_or, <- hnext]
     simp -implicitDefEqProofs only [Q0, a1I, ↓reduceIte,eq_self,ξ1,ξ2,ξ3,ξ4,ξ5,ξ6,ξ7,ξ8,ξ9,ξa,ξb,ξc,ξd,ξe,ξf,ξg,ξh,Nat.reduceAdd,ξi,if_true,if_false,ξl,ξm,ξn,ξo,ξp,ξq,ξr,ξs,ξt,ξu,ξv,ξw,ξx,ξy,ξz,ξA,ξB,ξC,ξD,ξE, q0, x1, x2, le0, hloc, y3, hcall, q2, a0H]
  have h0 := loop l.length 0 (by omega) n (by omega)
  rw [Q7] at h0
  rw [a0e, a9W, a1c]
  simp only [Q0, Sys.run]
  show ((a0i [.sh (.agg [_, _, _, _, _, _, _, _, _]), .sh (.one _)] _).bind _) = _
  simp only [a0i, a0d, a0c, Q4, Q0, Q1, Q2, Q3, if_true, x3]
  show (PT.ev _ a4q _).bind _ = _
  have hk6 : k = 0 \/ k = 1 \/ k = 2 \/ k = 3 \/ k = 4 \/ k = 5 := by omega
  rcases hk6 with rfl | rfl | rfl | rfl | rfl | rfl
  all_goals
   simp only [Qd, Qe]
   simp -implicitDefEqProofs only [a4q, ↓reduceIte,eq_self,ξ1,ξ2,ξ3,ξ4,ξ5,ξ6,ξ7,ξ8,ξ9,ξa,ξb,ξc,ξd,ξe,ξf,ξg,ξh,Nat.reduceAdd,ξi,if_true,if_false,ξl,ξm,ξn,ξo,ξp,ξq,ξr,ξs,ξt,ξu,ξv,ξw,ξx,ξy,ξz,ξA,ξB,ξC,ξD,ξE, a2I, Int.reduceEq, Qf, decide_true, decide_false, a1k, a0k, or_true]
   split
   ·rename_i h; rw [decide_eq_true h]; rfl
   ·rename_i h; rw [decide_eq_false h]; exact h0
theorem c4n (σ : List MO) : ∀ (e : Ex), a4l e -> ∀ row, IsE e row -> ∀ n, e.size + 2 <= n -> ∀ d : Nat, d <= 1000000 -> a0e Tab n 46 [.agg row, .int .i64 d] σ = some (.int .i64 (a2Z d e), σ) := by
 intro e
 induction hM : e.size using Nat.strongRecOn generalizing e with
 | _ M ih =>
  subst hM
  intro hw row hrow n hn k hk
  obtain ⟨op, a, b, c, d, e', f, v, l⟩ := e
  simp only [IsE] at hrow
  obtain ⟨x, rows, rfl, hx, hl⟩ := hrow
  obtain ⟨x1, x2, x3⟩ := a0y hx
  simp only [Ex.size] at ih hn
  simp only [a4l] at hw
  obtain ⟨n, rfl⟩ : ∃ m, n = m + 1 := ⟨n - 1, by omega⟩
  have hlen := hl.length
  have hsl := a2E l
  rw [a0e, a9z, a2Z]
  simp only [Q0, Sys.run]
  show ((a0i [.sh (.agg [_, _, _, _, _, _, _, _, _]), .sh (.one _)] _).bind _) = _
  simp only [a0i, a0d, a0c, Q4, Q0, Q1, Q2, Q3, if_true, x3]
  show (PT.ev _ a2k _).bind _ = _
  by_cases h10 : 10 < k
  ·have q : ltB 10 (k : Int) = true := by simp [ltB]; omega
   rw [if_pos (.inl h10)]
   simp -implicitDefEqProofs only [a2k, ↓reduceIte,eq_self,ξ1,ξ2,ξ3,ξ4,ξ5,ξ6,ξ7,ξ8,ξ9,ξa,ξb,ξc,ξd,ξe,ξf,ξg,ξh,Nat.reduceAdd,ξi,if_true,if_false,ξl,ξm,ξn,ξo,ξp,ξq,ξr,ξs,ξt,ξu,ξv,ξw,ξx,ξy,ξz,ξA,ξB,ξC,ξD,ξE, q, a0k, or_true]
  have q : ltB 10 (k : Int) = false := by simp [ltB]; omega
  by_cases h20 : 20 < l.length
  ·have q' : ltB 20 (rows.length : Int) = true := by simp [ltB]; omega
   rw [if_pos (.inr h20)]
   simp -implicitDefEqProofs only [a2k, ↓reduceIte,eq_self,ξ1,ξ2,ξ3,ξ4,ξ5,ξ6,ξ7,ξ8,ξ9,ξa,ξb,ξc,ξd,ξe,ξf,ξg,ξh,Nat.reduceAdd,ξi,if_true,if_false,ξl,ξm,ξn,ξo,ξp,ξq,ξr,ξs,ξt,ξu,ξv,ξw,ξx,ξy,ξz,ξA,ξB,ξC,ξD,ξE, q, x1, x2, q', a0k, or_true]
  have q' : ltB 20 (rows.length : Int) = false := by simp [ltB]; omega
  rw [if_neg (by omega)]
  have hbb : bN 10 <= 100000000000000000 := by decide +kernel
  have hmono : ∀ j, j <= 10 -> bN j <= bN 10 := by decide +kernel
  have hB := hmono (11 - (k + 1)) (by omega)
  have loop : ∀ (dd i : Nat), i + dd = l.length -> ∀ (z : Int), 0 <= z -> z + a2H (k + 1) (l.drop i) <= 5000000000000000000 -> ∀ fuel, dd + 1 <= fuel ->
    saleroomref13_nodes_S.loop (a0e Tab n) fuel 0 { i := [(k : Int), z, (i : Int), op, a, b, c, d, e', f, v], b := [], v := [x], m := σ, k := σ.length } = some (.int .i64 (z + a2H (k + 1) (l.drop i)), σ) := by
   intro dd
   induction dd with
   | zero =>
    intro i hi z hz1 hz2 fuel hf
    obtain ⟨fuel, rfl⟩ : ∃ m, fuel = m + 1 := ⟨fuel - 1, by omega⟩
    have q0 : ltB (i : Int) (rows.length : Int) = false := by simp [ltB]; omega
    rw [Sys.loop, show saleroomref13_nodes_S.loops[0]? = some a1Z from rfl]
    simp -implicitDefEqProofs only [Q0, a1Z, ↓reduceIte,eq_self,ξ1,ξ2,ξ3,ξ4,ξ5,ξ6,ξ7,ξ8,ξ9,ξa,ξb,ξc,ξd,ξe,ξf,ξg,ξh,Nat.reduceAdd,ξi,if_true,if_false,ξl,ξm,ξn,ξo,ξp,ξq,ξr,ξs,ξt,ξu,ξv,ξw,ξx,ξy,ξz,ξA,ξB,ξC,ξD,ξE, q0, x1, x2, a0k, or_true]
    rw [Qa (by omega)]
    simp [a2H]
   | succ dd ihd =>
    intro i hi z hz1 hz2 fuel hf
    obtain ⟨fuel, rfl⟩ : ∃ m, fuel = m + 1 := ⟨fuel - 1, by omega⟩
    obtain ⟨ei, hei⟩ := a7n (l := l) (i := i) (by omega)
    obtain ⟨ri, hri, hrow1⟩ := hl.at hei
    have hszi := a2t (Q5 hei)
    have hcall := ih ei.size (by omega) ei rfl (b2O hw.2 ei (Q5 hei)) ri hrow1 n (by omega) (k + 1) (by omega)
    have hdr : l.drop i = ei :: l.drop (i + 1) := by rw [Qb (i := i), hei]; rfl
    rw [hdr, a2H] at hz2 ⊢
    have hb1 := b6w (k + 1) ei
    have hb2 := a6i (k + 1) (l.drop (i + 1))
    have hnext := ihd (i + 1) (by omega) (z + a2Z (k + 1) ei) (by omega) (by omega) fuel (by omega)
    have hloc := a3z (off := 0) hx hri
    have q0 : ltB (i : Int) (rows.length : Int) = true := by simp [ltB]; omega
    have q2 := a5p (i := i) (by omega)
    have q3 := a5p (i := k) (by omega)
    have q4 : (leB (-9223372036854775808) (z + a2Z (k + 1) ei) && leB (z + a2Z (k + 1) ei) 9223372036854775807) = true := a0z (by omega)
    rw [<- Int.add_assoc, <- hnext]
    obtain ⟨op1, a1, b1, c1, d1, e1', f1, v1, l1⟩ := ei
    have hrow1' := hrow1
    simp only [IsE] at hrow1'
    obtain ⟨y, rows1, rfl, hy, hl1⟩ := hrow1'
    obtain ⟨y1, y2, y3⟩ := a0y hy
    generalize a2Z (k + 1) (Ex.node op1 a1 b1 c1 d1 e1' f1 v1 l1) = u at *
    rw [a0H] at hcall
    rw [Sys.loop, show saleroomref13_nodes_S.loops[0]? = some a1Z from rfl]
    simp -implicitDefEqProofs only [Q0, a1Z, ↓reduceIte,eq_self,ξ1,ξ2,ξ3,ξ4,ξ5,ξ6,ξ7,ξ8,ξ9,ξa,ξb,ξc,ξd,ξe,ξf,ξg,ξh,Nat.reduceAdd,ξi,if_true,if_false,ξl,ξm,ξn,ξo,ξp,ξq,ξr,ξs,ξt,ξu,ξv,ξw,ξx,ξy,ξz,ξA,ξB,ξC,ξD,ξE, q0, x1, x2, le0, hloc, y3, q3, hcall, q4, q2, a0H]
  have hlb := a6i (k + 1) l
  have hmul : (l.length : Int) * bN (11 - (k + 1)) <= 20 * 100000000000000000 := Int.mul_le_mul (by omega) (by omega) (by have := b6D (11 - (k + 1)); omega) (by omega)
  have h0 := loop l.length 0 (by omega) 1 (by omega) (by rw [Q7]; omega) n (by omega)
  rw [Q7] at h0
  refine Eq.trans ?_ h0
  simp -implicitDefEqProofs only [a2k, ↓reduceIte,eq_self,ξ1,ξ2,ξ3,ξ4,ξ5,ξ6,ξ7,ξ8,ξ9,ξa,ξb,ξc,ξd,ξe,ξf,ξg,ξh,Nat.reduceAdd,ξi,if_true,if_false,ξl,ξm,ξn,ξo,ξp,ξq,ξr,ξs,ξt,ξu,ξv,ξw,ξx,ξy,ξz,ξA,ξB,ξC,ξD,ξE, q, x1, x2, q']
  rfl
end Go.Proofs.Ythmkfeiapdbojaa
set_option maxRecDepth 100000
namespace Go.Proofs.Ythmkfeiapdbojaa
open Go.Sx Go.Kv Go.Bun
def Zk (k : Nat) (kv : KV) : Prop := ∀ p ∈ kv, p.1.getD k 0 = 0
section
variable {k : Nat} {lim : List Int}
theorem b3C {kv : KV} (h : Zk k kv) {b : List Int} {v : Int} (hb : b.getD k 0 = 0) : Zk k (a2q lim kv b v) := by
 unfold a2q
 split
 ·intro p hp
  rcases b6g.1 hp with rfl | ⟨hp, _⟩
  ·exact hb
  ·exact h p hp
 ·exact h
theorem a4j : ∀ {L kv : KV}, Zk k kv -> (∀ p ∈ L, p.1.getD k 0 = 0) -> Zk k (raises lim kv L)
 | [], _, h, _ => h
 | p :: L, kv, h, hL => by rw [a7c]; exact a4j (b3C h (hL p (by simp))) (fun q hq => hL q (by simp [hq]))
theorem a7o : Zk k [] := fun p hp => by simp at hp
theorem c0b : ∀ {a b : List Int} {k : Nat}, a.getD k 0 = 0 -> b.getD k 0 = 0 -> (a2y a b).getD k 0 = 0
 | [], _, _, _, _ => by simp [a2y]
 | _ :: _, [], _, _, _ => by simp [a2y]
 | x :: a, y :: b, 0, h, g => by simp [a2y] at *; omega
 | x :: a, y :: b, k + 1, h, g => by
  have := c0b (a := a) (b := b) (k := k) (by simpa using h) (by simpa using g)
  simpa [a2y] using this
theorem b8N : ∀ {a b : List Int} {k : Nat}, a.getD k 0 = 0 -> b.getD k 0 = 0 -> (a2b a b).getD k 0 = 0
 | [], _, _, _, _ => by simp [a2b]
 | _ :: _, [], _, _, _ => by simp [a2b]
 | x :: a, y :: b, 0, h, g => by simp [a2b] at *; omega
 | x :: a, y :: b, k + 1, h, g => by
  have := b8N (a := a) (b := b) (k := k) (by simpa using h) (by simpa using g)
  simpa [a2b] using this
theorem c8L {x y : KV} (hx : Zk k x) (hy : Zk k y) : Zk k (a2R lim x y) := by
 unfold a2R
 refine a4j (a4j (a4j a7o hx) hy) fun p hp => ?_
 simp only [a5D, List.mem_flatMap, Q8] at hp
 obtain ⟨a, ha, b, hb, rfl⟩ := hp
 exact c0b (hx a ha) (hy b hb)
theorem b8e {F : KV -> KV -> KV} (hF : ∀ a b, Zk k a -> Zk k b -> Zk k (F a b)) : ∀ {l : List KV} {a : KV}, Zk k a -> (∀ x ∈ l, Zk k x) -> Zk k (l.foldl F a)
 | [], _, h, _ => h
 | x :: l, a, h, hl => by rw [List.foldl_cons]; exact b8e hF (hF a x h (hl x (by simp))) (fun y hy => hl y (by simp [hy]))
theorem c7y {l : List Int} (h : nnL l = true) (k : Nat) (hu : decide (0 < l.getD k 0) = false) : l.getD k 0 = 0 := by
 have hu := of_decide_eq_false hu
 rw [List.getD_eq_getElem?_getD] at hu ⊢
 cases hk : l[k]? with
 | none => rfl
 | some z =>
  rw [hk] at hu
  have := List.all_eq_true.1 h z (Q5 hk)
  simp only [Option.getD_some, decide_eq_true_eq] at *
  omega
mutual
theorem c6Z : ∀ e : Ex, okX e = true -> a1c k e = false -> Zk k (a0o lim e)
 | .node op a b c d e f v l, h, hu => by
  simp only [okX, Q9] at h
  obtain ⟨⟨⟨⟨h1, h2⟩, h3⟩, h4⟩, h5⟩ := h
  simp only [a1c, Qg] at hu
  have hw := c7y h1 k hu.1
  have hl := c5c l h5 hu.2
  have hhead : Zk k ((a1i lim l).headD []) := by
   cases hk : a1i lim l with
   | nil => exact a7o
   | cons x r => exact hl x (by rw [hk]; simp)
  simp only [a0o]
  split
  ·exact b3C a7o hw
  split
  ·exact b8e (fun a b ha hb => a4j ha hb) a7o hl
  split
  ·exact b8e (fun a b => c8L) a7o hl
  split
  ·unfold a8G
   refine a4j (b3C (a4j a7o hhead) hw) fun p hp => ?_
   obtain ⟨q, hq, rfl⟩ := Q8.1 hp
   exact b8N (hhead q hq) hw
  split
  ·unfold a7r
   refine a4j a7o fun p hp => ?_
   obtain ⟨q, hq, rfl⟩ := Q8.1 hp
   exact hhead q hq
  ·exact a7o
theorem c5c : ∀ l : List Ex, a2J l = true -> b0H k l = false -> ∀ x ∈ a1i lim l, Zk k x
 | [], _, _ => by simp [a1i]
 | e :: l, h, hu => by
  simp only [a2J, Q9] at h
  simp only [b0H, Qg] at hu
  have i1 := c6Z e h.1 hu.1
  have i2 := c5c l h.2 hu.2
  intro x hx
  simp only [a1i, List.mem_cons] at hx
  rcases hx with rfl | hx
  ·exact i1
  ·exact i2 x hx
end
end
def a4H (e : Ex) (b : Bd) : Bd := ⟨if a1c 0 e then b.a else 0, if a1c 1 e then b.b else 0, if a1c 2 e then b.c else 0, if a1c 3 e then b.d else 0, if a1c 4 e then b.e else 0, if a1c 5 e then b.f else 0⟩
theorem c6l {e : Ex} {b : Bd} (h : b.Ok) : (a4H e b).Ok := by
 simp only [Bd.Ok, a4H] at *
 refine ⟨?_, ?_, ?_, ?_, ?_, ?_⟩ <;> split <;> omega
theorem c5U {e : Ex} (he : okX e = true) {b : Bd} (hb : b.Ok) : vX e (a4H e b).l = vX e b.l := by
 refine a1C fun c => ?_
 unfold vX
 rw [a4x, a4x]
 refine and_congr_right fun _ => forall_congr' fun p => ?_
 constructor
 all_goals
  intro h hp hl
  refine h hp ?_
  have h6 := b3U (a2i a1n e he) hp
  obtain ⟨x, hx⟩ := c1g (l := p.1) h6
  have z : ∀ k, a1c k e = false -> p.1.getD k 0 = 0 := fun k hk => c6Z e he hk p hp
  rw [hx] at hl ⊢
  have hl := a6v.1 hl
  rw [a6v]
  have z0 := z 0
  have z1 := z 1
  have z2 := z 2
  have z3 := z 3
  have z4 := z 4
  have z5 := z 5
  rw [hx] at z0 z1 z2 z3 z4 z5
  simp only [Bd.l, Qd, Qe] at z0 z1 z2 z3 z4 z5
  simp only [Bd.Ok] at hb
  simp only [Bd.Le, a4H] at hl ⊢
  cases h0 : a1c 0 e <;> cases h1 : a1c 1 e <;> cases h2 : a1c 2 e <;> cases h3 : a1c 3 e <;> cases h4 : a1c 4 e <;> cases h5 : a1c 5 e <;> simp only [h0, h1, h2, h3, h4, h5, if_true, if_false, Q6, forall_const, true_implies, reduceCtorEq, false_implies] at z0 z1 z2 z3 z4 z5 hl ⊢ <;> omega
def a6Y (e : Ex) (i : Nat) : Nat := ((List.range i).filter fun k => a1c k e).length
theorem c4D (e : Ex) : a6Y e 0 = 0 := rfl
theorem b8L (e : Ex) (i : Nat) : a6Y e (i + 1) = a6Y e i + if a1c i e then 1 else 0 := by
 unfold a6Y
 rw [List.range_succ, List.filter_append, Qh]
 cases h : a1c i e <;> simp [h]
theorem c5b {e : Ex} {b : Bd} (hb : b.Ok) (h : a6Y e 6 <= 2) : (a4H e b).cnt ≠ 0 := by
 have hr := c6l (e := e) hb
 have hb' := hb
 simp only [Bd.Ok] at hb'
 unfold Bd.cnt
 rw [if_pos hr]
 have hprod : (a4H e b).prod <= 1024 := by
  simp only [b8L, c4D] at h
  have up : ∀ (x A y : Int) (u : Bool), 0 <= x /\ x <= A -> 0 <= y /\ y <= 4 -> 0 <= x * ((if u = true then y else 0) + 1) /\ x * ((if u = true then y else 0) + 1) <= A * (if u = true then 5 else 1) := fun x A y u h1 h2 => by
   refine a1T h1 ?_
   split <;> omega
  unfold Bd.prod a4H
  simp only
  have p0 := up 1 1 b.a (a1c 0 e) (by omega) hb'.1
  have p1 := up _ _ b.b (a1c 1 e) p0 hb'.2.1
  have p2 := up _ _ b.c (a1c 2 e) p1 hb'.2.2.1
  have p3 := up _ _ b.d (a1c 3 e) p2 hb'.2.2.2.1
  have p4 := up _ _ b.e (a1c 4 e) p3 hb'.2.2.2.2.1
  have p5 := up _ _ b.f (a1c 5 e) p4 hb'.2.2.2.2.2
  refine Int.le_trans p5.2 ?_
  clear p0 p1 p2 p3 p4 p5 up
  cases h0 : a1c 0 e <;> cases h1 : a1c 1 e <;> cases h2 : a1c 2 e <;> cases h3 : a1c 3 e <;> cases h4 : a1c 4 e <;> cases h5 : a1c 5 e <;> simp only [h0, h1, h2, h3, h4, h5, if_true, if_false, Q6] at h ⊢ <;> omega
 rw [if_neg (by omega)]
 obtain ⟨p1, p2, p3, p4, p5, p6, _, _, _, _, _, _, _, _, _, _, _, b6, hp⟩ := b6d hr
 omega
theorem c5L {s : Bd} (hc : s.cnt ≠ 0) {N : Nat} (hN : (N : Int) = s.cnt) : s.unr ((N - 1 : Nat) : Int) = s := by
 have hs := Bd.ok_of_cnt hc
 have hcl := b1t hc
 obtain ⟨n, _, h2, h3⟩ := b4u hc hs (show s.Le s by simp only [Bd.Le]; omega)
 have hle := c1T hc (i := n) (k := N - 1) h2 (by omega) (by rw [h3]; exact (a4c hs _).2)
 rw [show N - 1 = n by omega, h3]
end Go.Proofs.Ythmkfeiapdbojaa
set_option maxRecDepth 100000
namespace Go.Proofs.Ythmkfeiapdbojaa
open Go.Sx Go.Kv Go.Bun
def b5N (e : Ex) : Bool := decide (a6Y e 6 <= 2) && decide (a2Z 0 e <= 14)
theorem c8d (e : Ex) (i : Nat) : a6Y e i <= i := by
 unfold a6Y
 have := List.length_filter_le (fun k => a1c k e) (List.range i)
 rwa [List.length_range] at this
section
variable {σ : List MO} {e : Ex} {row : List PV}
theorem c8R (hw : a4l e) (hrow : IsE e row) (n : Nat) (hn : e.size + 20 <= n) : a0e Tab n 15 [.agg row] σ = some (.bool (b5N e), σ) := by
 obtain ⟨n, rfl⟩ : ∃ m, n = m + 1 := ⟨n - 1, by omega⟩
 have hu := fun k hk => c2k σ e hw row hrow n (by omega) k hk
 have hnd := c4n σ e hw row hrow n (by omega) 0 (by omega)
 have hcs := b8L e
 have hcl := c8d e
 unfold b5N
 generalize a6Y e = cu at *
 generalize a2Z 0 e = nd at *
 have hus : ∀ k, a1c k e = (fun k => a1c k e) k := fun _ => rfl
 generalize hU : (fun k => a1c k e) = ux at *
 simp only [hus] at hu hcs
 obtain ⟨op, a, b, c, d, e', f, v, l⟩ := e
 simp only [IsE] at hrow
 obtain ⟨x, rows, rfl, hx, hl⟩ := hrow
 obtain ⟨x1, x2, x3⟩ := a0y hx
 have step : ∀ i : Nat, i < 6 -> ∀ fuel, saleroomref13_Few_S.loop (a0e Tab n) (fuel + 1) 0 { i := [(cu i : Int), (i : Int), op, a, b, c, d, e', f, v], b := [], v := [x], m := σ, k := σ.length } =
   saleroomref13_Few_S.loop (a0e Tab n) fuel 0 { i := [(cu (i + 1) : Int), ((i + 1 : Nat) : Int), op, a, b, c, d, e', f, v], b := [], v := [x], m := σ, k := σ.length } := by
  intro i hi fuel
  have h1 := hu i hi
  have h2 := hcs i
  have h3 := hcl i
  have q0 : ltB (i : Int) 6 = true := by simp [ltB]; omega
  have q1 := a5p (i := i) (by omega)
  have q2 := a5p (i := cu i) (by omega)
  rw [Sys.loop, show saleroomref13_Few_S.loops[0]? = some a1A from rfl]
  cases hux : ux i with
  | true =>
   rw [hux] at h1 h2
   simp only [if_true] at h2
   rw [h2]
   simp -implicitDefEqProofs only [Q0, a1A, ↓reduceIte,eq_self,ξ1,ξ2,ξ3,ξ4,ξ5,ξ6,ξ7,ξ8,ξ9,ξa,ξb,ξc,ξd,ξe,ξf,ξg,ξh,Nat.reduceAdd,ξi,if_true,if_false,ξl,ξm,ξn,ξo,ξp,ξq,ξr,ξs,ξt,ξu,ξv,ξw,ξx,ξy,ξz,ξA,ξB,ξC,ξD,ξE, q0, h1, q1, q2, a0H]
  | false =>
   rw [hux] at h1 h2
   simp only [Q6, if_false, Nat.add_zero] at h2
   rw [h2]
   simp -implicitDefEqProofs only [Q0, a1A, ↓reduceIte,eq_self,ξ1,ξ2,ξ3,ξ4,ξ5,ξ6,ξ7,ξ8,ξ9,ξa,ξb,ξc,ξd,ξe,ξf,ξg,ξh,Nat.reduceAdd,ξi,if_true,if_false,ξl,ξm,ξn,ξo,ξp,ξq,ξr,ξs,ξt,ξu,ξv,ξw,ξx,ξy,ξz,ξA,ξB,ξC,ξD,ξE, q0, h1, q1, a0H]
 have h0 := a8o (fun i => { i := [(cu i : Int), (i : Int), op, a, b, c, d, e', f, v], b := [], v := [x], m := σ, k := σ.length }) step 6 0 (by omega) (n - 6)
 have hc0 : cu 0 = 0 := by have := hcl 0; omega
 rw [show n - 6 + 6 = n by omega, hc0] at h0
 rw [a0e, b1k]
 simp only [Q0, Sys.run]
 show ((a0i [.sh (.agg [_, _, _, _, _, _, _, _, _])] _).bind _) = _
 simp only [a0i, a0d, a0c, Q4, Q0, Q1, Q2, Q3, if_true, x3]
 show (PT.ev _ a6G _).bind _ = _
 refine Eq.trans (b := saleroomref13_Few_S.loop (a0e Tab n) n 0 { i := [((0 : Nat) : Int), ((0 : Nat) : Int), op, a, b, c, d, e', f, v], b := [], v := [x], m := σ, k := σ.length }) rfl ?_
 rw [h0]
 obtain ⟨fu, hfu⟩ : ∃ k, n - 6 = k + 1 := ⟨n - 7, by omega⟩
 rw [hfu, Sys.loop, show saleroomref13_Few_S.loops[0]? = some a1A from rfl]
 have q0 : ltB ((6 : Nat) : Int) 6 = false := rfl
 have hnd' : a0e Tab n 46 [.agg [.int .i64 op, .int .i64 a, .int .i64 b, .int .i64 c, .int .i64 d, .int .i64 e', .int .i64 f, .int .i64 v, x], .int .i64 0] σ = some (.int .i64 nd, σ) := hnd
 by_cases h2 : cu 6 <= 2
 ·have q2 : leB (cu 6 : Int) 2 = true := by simp [leB]; omega
  simp -implicitDefEqProofs only [Q0, a1A, ↓reduceIte,eq_self,ξ1,ξ2,ξ3,ξ4,ξ5,ξ6,ξ7,ξ8,ξ9,ξa,ξb,ξc,ξd,ξe,ξf,ξg,ξh,Nat.reduceAdd,ξi,if_true,if_false,ξl,ξm,ξn,ξo,ξp,ξq,ξr,ξs,ξt,ξu,ξv,ξw,ξx,ξy,ξz,ξA,ξB,ξC,ξD,ξE, q0, q2, hnd', a0k, or_true]
  rw [decide_eq_true h2]
  rfl
 ·have q2 : leB (cu 6 : Int) 2 = false := by simp [leB]; omega
  simp -implicitDefEqProofs only [Q0, a1A, ↓reduceIte,eq_self,ξ1,ξ2,ξ3,ξ4,ξ5,ξ6,ξ7,ξ8,ξ9,ξa,ξb,ξc,ξd,ξe,ξf,ξg,ξh,Nat.reduceAdd,ξi,if_true,if_false,ξl,ξm,ξn,ξo,ξp,ξq,ξr,ξs,ξt,ξu,ξv,ξw,ξx,ξy,ξz,ξA,ξB,ξC,ξD,ξE, q0, q2, a0k, or_true]
  rw [decide_eq_false h2]
  rfl
def zp (u : Nat -> Bool) (b : Bd) (i : Nat) : Bd := ⟨if i <= 0 \/ u 0 then b.a else 0, if i <= 1 \/ u 1 then b.b else 0, if i <= 2 \/ u 2 then b.c else 0, if i <= 3 \/ u 3 then b.d else 0, if i <= 4 \/ u 4 then b.e else 0, if i <= 5 \/ u 5 then b.f else 0⟩
theorem c6S (e : Ex) (b : Bd) : zp (fun k => a1c k e) b 6 = a4H e b := by simp [zp, a4H]
theorem c7r (u : Nat -> Bool) (b : Bd) : zp u b 0 = b := by simp [zp]
theorem c4B (hw : a4l e) (hrow : IsE e row) (hsz : e.size <= 400) (hfew : a6Y e 6 <= 2) (hlow : σ.all (MO.low σ.length) = true) (b : Bd) (n : Nat) (hn : 4000000 <= n) :
  a0e Tab n 21 [.agg row, .agg (bpv b)] σ = some (.int .i64 (if chk e = 0 /\ b.Ok then vX e b.l else 0), σ) := by
 obtain ⟨n, rfl⟩ : ∃ m, n = m + 2 := ⟨n - 2, by omega⟩
 have hck := c4c σ e row hrow (n + 1) (by omega) (by omega)
 have hbc := b6B b σ n
 have hu := fun k hk => c2k σ e hw row hrow (n + 1) (by omega) k hk
 have hv : chk e = 0 -> b.Ok -> ∃ (h : Nat) (g : List MO) (N : Nat), a0e Tab (n + 1) 51 [.agg row, .agg (bpv (a4H e b))] σ = some (.msl h 0 N N 1, σ ++ g) /\ 1 <= N /\ N <= 1024 /\ ∃ t : List Int, (σ ++ g)[h]? = some (.cells (iPV t) 2) /\ t[N - 1]? = some (vX e b.l) := by
  intro h1 h2
  have hc := c5b h2 hfew
  have hcl := b1t hc
  obtain ⟨N, hN⟩ : ∃ N : Nat, (N : Int) = (a4H e b).cnt := ⟨(a4H e b).cnt.toNat, by omega⟩
  obtain ⟨h, g, r1, r2, r3⟩ := c7A hc hN e (c0f h1).2.2.2 hsz row hrow (n + 1) (by omega) σ
  refine ⟨h, g, N, r1, by omega, by omega, _, r3, ?_⟩
  have : (a2d e (a4H e b) N)[N - 1]? = some (vX e ((a4H e b).unr ((N - 1 : Nat) : Int)).l) := by
   unfold a2d
   rw [List.getElem?_map, List.getElem?_range (by omega)]; rfl
  rw [this, c5L hc hN, c5U (b0G h1) h2]
 rw [<- c6S] at hv
 generalize chk e = ck at *
 generalize vX e b.l = vv at *
 have hus : ∀ k, a1c k e = (fun k => a1c k e) k := fun _ => rfl
 generalize hU : (fun k => a1c k e) = ux at *
 simp only [hus] at hu
 obtain ⟨op, a, b', c, d, e', f, v, l⟩ := e
 simp only [IsE] at hrow
 obtain ⟨x, rows, rfl, hx, hl⟩ := hrow
 obtain ⟨x1, x2, x3⟩ := a0y hx
 have step : ∀ i : Nat, i < 6 -> ∀ fuel, saleroomref13_Value_S.loop (a0e Tab (n + 1)) (fuel + 1) 0 { i := [(i : Int), op, a, b', c, d, e', f, v, (zp ux b i).a, (zp ux b i).b, (zp ux b i).c, (zp ux b i).d, (zp ux b i).e, (zp ux b i).f], b := [], v := [x], m := σ, k := σ.length } =
   saleroomref13_Value_S.loop (a0e Tab (n + 1)) fuel 0 { i := [((i + 1 : Nat) : Int), op, a, b', c, d, e', f, v, (zp ux b (i + 1)).a, (zp ux b (i + 1)).b, (zp ux b (i + 1)).c, (zp ux b (i + 1)).d, (zp ux b (i + 1)).e, (zp ux b (i + 1)).f], b := [], v := [x], m := σ, k := σ.length } := by
  intro i hi fuel
  have h1 := hu i hi
  have q0 : ltB (i : Int) 6 = true := by simp [ltB]; omega
  have q1 := a5p (i := i) (by omega)
  rw [Sys.loop, show saleroomref13_Value_S.loops[0]? = some a1E from rfl]
  cases hux : ux i with
  | true =>
   rw [hux] at h1
   have hz : zp ux b (i + 1) = zp ux b i := by
    have h6 : i = 0 \/ i = 1 \/ i = 2 \/ i = 3 \/ i = 4 \/ i = 5 := by omega
    rcases h6 with rfl | rfl | rfl | rfl | rfl | rfl <;> simp [zp, hux]
   rw [hz]
   simp -implicitDefEqProofs only [Q0, a1E, ↓reduceIte,eq_self,ξ1,ξ2,ξ3,ξ4,ξ5,ξ6,ξ7,ξ8,ξ9,ξa,ξb,ξc,ξd,ξe,ξf,ξg,ξh,Nat.reduceAdd,ξi,if_true,if_false,ξl,ξm,ξn,ξo,ξp,ξq,ξr,ξs,ξt,ξu,ξv,ξw,ξx,ξy,ξz,ξA,ξB,ξC,ξD,ξE, q0, h1, q1, a0H]
  | false =>
   rw [hux] at h1
   have h6 : i = 0 \/ i = 1 \/ i = 2 \/ i = 3 \/ i = 4 \/ i = 5 := by omega
   rcases h6 with rfl | rfl | rfl | rfl | rfl | rfl
   all_goals
    simp only [Qf, Int.reduceAdd, Nat.reduceAdd] at h1 q0 ⊢
    simp -implicitDefEqProofs only [Q0, a1E, ↓reduceIte,eq_self,ξ1,ξ2,ξ3,ξ4,ξ5,ξ6,ξ7,ξ8,ξ9,ξa,ξb,ξc,ξd,ξe,ξf,ξg,ξh,Nat.reduceAdd,ξi,if_true,if_false,ξl,ξm,ξn,ξo,ξp,ξq,ξr,ξs,ξt,ξu,ξv,ξw,ξx,ξy,ξz,ξA,ξB,ξC,ξD,ξE, q0, h1, a2I, Int.reduceEq, decide_true, decide_false, zp, hux, Nat.reduceLeDiff, Nat.le_zero_eq, Nat.reduceLeDiff, Nat.le_refl, Nat.zero_le, Nat.one_ne_zero, Nat.reduceEqDiff, or_false, or_true, true_or, false_or, if_true, if_false, Q6]
 have h0 := a8o (fun i => { i := [(i : Int), op, a, b', c, d, e', f, v, (zp ux b i).a, (zp ux b i).b, (zp ux b i).c, (zp ux b i).d, (zp ux b i).e, (zp ux b i).f], b := [], v := [x], m := σ, k := σ.length }) step 6 0 (by omega) (n + 1 - 6)
 rw [show n + 1 - 6 + 6 = n + 1 by omega, c7r] at h0
 rw [a0e, a9s]
 simp only [Q0, Sys.run]
 show ((a0i [.sh (.agg [_, _, _, _, _, _, _, _, _]), .sh (.agg [_, _, _, _, _, _])] _).bind _) = _
 simp only [bpv] at hbc hv ⊢
 simp only [a0i, a0d, a0c, Q4, Q0, Q1, Q2, Q3, if_true, x3]
 show (PT.ev _ a2f _).bind _ = _
 by_cases hc0 : ck = 0
 case neg =>
  have q : eqB ck 0 = false := eqF hc0
  rw [if_neg (fun h => hc0 h.1)]
  simp -implicitDefEqProofs only [a2f, ↓reduceIte,eq_self,ξ1,ξ2,ξ3,ξ4,ξ5,ξ6,ξ7,ξ8,ξ9,ξa,ξb,ξc,ξd,ξe,ξf,ξg,ξh,Nat.reduceAdd,ξi,if_true,if_false,ξl,ξm,ξn,ξo,ξp,ξq,ξr,ξs,ξt,ξu,ξv,ξw,ξx,ξy,ξz,ξA,ξB,ξC,ξD,ξE, hck, q, a0k, or_true]
 subst hc0
 have qz : eqB 0 0 = true := rfl
 by_cases hb : b.Ok
 case neg =>
  have hb0 : b.check = 4 := by unfold Bd.check; rw [if_neg hb]
  rw [hb0] at hbc
  have q : eqB 4 0 = false := rfl
  rw [if_neg (fun h => hb h.2)]
  simp -implicitDefEqProofs only [a2f, ↓reduceIte,eq_self,ξ1,ξ2,ξ3,ξ4,ξ5,ξ6,ξ7,ξ8,ξ9,ξa,ξb,ξc,ξd,ξe,ξf,ξg,ξh,Nat.reduceAdd,ξi,if_true,if_false,ξl,ξm,ξn,ξo,ξp,ξq,ξr,ξs,ξt,ξu,ξv,ξw,ξx,ξy,ξz,ξA,ξB,ξC,ξD,ξE, hck, qz, hbc, q, a0k, or_true]
 have hb0 : b.check = 0 := Bd.check_zero.2 hb
 rw [hb0] at hbc
 rw [if_pos ⟨rfl, hb⟩]
 obtain ⟨h, g, N, r1, r2, r2', t, r3, r4⟩ := hv rfl hb
 refine Eq.trans (b := saleroomref13_Value_S.loop (a0e Tab (n + 1)) (n + 1) 0 { i := [((0 : Nat) : Int), op, a, b', c, d, e', f, v, b.a, b.b, b.c, b.d, b.e, b.f], b := [], v := [x], m := σ, k := σ.length }) ?_ ?_
 ·simp -implicitDefEqProofs only [a2f, ↓reduceIte,eq_self,ξ1,ξ2,ξ3,ξ4,ξ5,ξ6,ξ7,ξ8,ξ9,ξa,ξb,ξc,ξd,ξe,ξf,ξg,ξh,Nat.reduceAdd,ξi,if_true,if_false,ξl,ξm,ξn,ξo,ξp,ξq,ξr,ξs,ξt,ξu,ξv,ξw,ξx,ξy,ξz,ξA,ξB,ξC,ξD,ξE, hck, qz, hbc]
  rfl
 rw [h0]
 obtain ⟨fu, hfu⟩ : ∃ k, n + 1 - 6 = k + 1 := ⟨n - 6, by omega⟩
 rw [hfu, Sys.loop, show saleroomref13_Value_S.loops[0]? = some a1E from rfl]
 have q0 : ltB ((6 : Nat) : Int) 6 = false := rfl
 have hone : (PV.msl h 0 N N 1).one = true := rfl
 have hlen : (PV.msl h 0 N N 1).len = (N : Int) := rfl
 have hkind : (PV.msl h 0 N N 1).isKind 0 = true := rfl
 have hn1 : (N : Int) - 1 = ((N - 1 : Nat) : Int) := by omega
 have l1 := a2B (h := h) (c := N) (i := N - 1) (n := N) (by omega)
 have rd := a5x r4
 have q3 : (leB (-9223372036854775808) ((N - 1 : Nat) : Int) && leB ((N - 1 : Nat) : Int) 9223372036854775807) = true := a0z (by omega)
 have q4 : ltB ((N - 1 : Nat) : Int) (N : Int) = true := by simp [ltB]; omega
 unfold a0f at rd
 have hret : ∀ ρ : PEnv, ρ.m = σ ++ g -> ρ.k = σ.length -> a0k ρ false (.int .i64 vv) = some (.int .i64 vv, σ) := by
  intro ρ e1 e2
  unfold a0k
  rw [e1, e2]
  by_cases hg : (σ ++ g).length = σ.length
  ·have : g = [] := by
    rw [Qh] at hg
    exact List.eq_nil_of_length_eq_zero (by omega)
   subst this
   rw [if_pos (.inr hg), Q1]
  ·rw [if_neg (by simp only [Q6, false_or]; exact hg), List.take_left, if_pos hlow]
   rfl
 simp -implicitDefEqProofs only [Q0, a1E, ↓reduceIte,eq_self,ξ1,ξ2,ξ3,ξ4,ξ5,ξ6,ξ7,ξ8,ξ9,ξa,ξb,ξc,ξd,ξe,ξf,ξg,ξh,Nat.reduceAdd,ξi,if_true,if_false,ξl,ξm,ξn,ξo,ξp,ξq,ξr,ξs,ξt,ξu,ξv,ξw,ξx,ξy,ξz,ξA,ξB,ξC,ξD,ξE, q0, r1, hone, hkind, hlen, hn1, q3, q4, le0, l1, r3, MO.list, rd, hret]
end
end Go.Proofs.Ythmkfeiapdbojaa
set_option maxRecDepth 100000
namespace Go.Proofs.Ythmkfeiapdbojaa
open Go.Sx Go.Kv Go.Bun
def b0d (e : Ex) (b : Bd) : Int := if chk e = 0 /\ b.Ok then vX e b.l else 0
section
variable {e : Ex} {row : List PV}
theorem c9a {n : Nat} (hn : 2000 <= n) : a0e a3m n a6e [] [] = some (.bool true, []) := c6M hn c7M
theorem c4Q (hrow : IsE e row) (he : e.size <= 400) (b : Bd) {σ : List MO} (hlow : σ.all (MO.low σ.length) = true) (n : Nat) : a0e a3m (n + 1) 18 [.agg row, .agg (bpv b)] σ = some (.int .i64 (b0d e b), σ) := by
 have hT : a3m 18 = some valueP := rfl
 rw [a0e, hT]
 have hb : a5b (bpv b) = some b.l := a6y b.l
 simp only [Q0, Sys.run, valueP, b6R, b8p 400 e row hrow he, hb]
 rw [if_pos ⟨rfl, he, hlow⟩, c7G]
 rfl
def b2T : Bd := ⟨4, 4, 4, 4, 4, 4⟩
theorem c9v (hrow : IsE e row) (he : e.size <= 400) {σ : List MO} (hlow : σ.all (MO.low σ.length) = true) (n : Nat) : a0e a3m (n + 2) a5Q [.agg row] σ = some (.int .i64 (b0d e b2T), σ) := by
 have h1 := c4Q hrow he b2T hlow n
 obtain ⟨op, a, b, c, d, e', f, v, l⟩ := e
 simp only [IsE] at hrow
 obtain ⟨x, rows, rfl, hx, hl⟩ := hrow
 obtain ⟨x1, x2, x3⟩ := a0y hx
 have hT : a3m a5Q = some valuation_Most_S := b4M _ _ b3y
 rw [a0e, hT]
 simp only [Q0, Sys.run]
 show ((a0i [.sh (.agg [_, _, _, _, _, _, _, _, _])] _).bind _) = _
 simp only [a0i, a0d, a0c, Q4, Q0, Q1, Q2, Q3, if_true, x3]
 show (PT.ev _ a5M _).bind _ = _
 simp only [bpv, b2T] at h1
 simp -implicitDefEqProofs only [a5M, ↓reduceIte,eq_self,ξ1,ξ2,ξ3,ξ4,ξ5,ξ6,ξ7,ξ8,ξ9,ξa,ξb,ξc,ξd,ξe,ξf,ξg,ξh,Nat.reduceAdd,ξi,if_true,if_false,ξl,ξm,ξn,ξo,ξp,ξq,ξr,ξs,ξt,ξu,ξv,ξw,ξx,ξy,ξz,ξA,ξB,ξC,ξD,ξE, h1, a0k, or_true]
 rfl
theorem c2P (hw : a4l e) (hrow : IsE e row) (hsz : e.size <= 400) (hfew : a6Y e 6 <= 2) {σ : List MO} (hlow : σ.all (MO.low σ.length) = true) (b : Bd) (n : Nat) (hn : 4000000 <= n) :
  a0e a3m n 21 [.agg row, .agg (bpv b)] σ = some (.int .i64 (b0d e b), σ) := evH (c4B hw hrow hsz hfew hlow b n hn)
theorem c8U (hw : a4l e) (hrow : IsE e row) (hsz : e.size <= 400) (hfew : a6Y e 6 <= 2) {σ : List MO} (hlow : σ.all (MO.low σ.length) = true) (n : Nat) (hn : 4000000 <= n) :
  a0e a3m (n + 1) a4s [.agg row] σ = some (.int .i64 (b0d e b2T), σ) := by
 have h1 := c2P hw hrow hsz hfew hlow b2T n hn
 obtain ⟨op, a, b, c, d, e', f, v, l⟩ := e
 simp only [IsE] at hrow
 obtain ⟨x, rows, rfl, hx, hl⟩ := hrow
 obtain ⟨x1, x2, x3⟩ := a0y hx
 have hT : a3m a4s = some saleroomref13_Most_S := b4M _ _ a9Y
 rw [a0e, hT]
 simp only [Q0, Sys.run]
 show ((a0i [.sh (.agg [_, _, _, _, _, _, _, _, _])] _).bind _) = _
 simp only [a0i, a0d, a0c, Q4, Q0, Q1, Q2, Q3, if_true, x3]
 show (PT.ev _ a4m _).bind _ = _
 simp only [bpv, b2T] at h1
 simp -implicitDefEqProofs only [a4m, ↓reduceIte,eq_self,ξ1,ξ2,ξ3,ξ4,ξ5,ξ6,ξ7,ξ8,ξ9,ξa,ξb,ξc,ξd,ξe,ξf,ξg,ξh,Nat.reduceAdd,ξi,if_true,if_false,ξl,ξm,ξn,ξo,ξp,ξq,ξr,ξs,ξt,ξu,ξv,ξw,ξx,ξy,ξz,ξA,ξB,ξC,ξD,ξE, h1, a0k, or_true]
 rfl
theorem c6E (h : b5N e = true) : a6Y e 6 <= 2 /\ e.size <= 14 := by
 unfold b5N at h
 simp only [Q9, decide_eq_true_eq] at h
 have := b5l 0 e (by omega)
 omega
theorem c9X (hw : a4l e) (hrow : IsE e row) (n : Nat) (hn : e.size + 20 <= n) {σ : List MO} : a0e a3m n 15 [.agg row] σ = some (.bool (b5N e), σ) := evH (c8R hw hrow n hn)
theorem c1O (hw : a4l e) (hrow : IsE e row) (b : Bd) (n : Nat) (hn : 5000000 + e.size <= n) : a0e a3m (n + 1) a2m [.agg row, .agg (bpv b)] [] = some (.bool true, []) := by
 have ha := c9a (n := n) (by omega)
 have hf := c9X hw hrow n (by omega) (σ := [])
 have hT : a3m a2m = some saleroomlaw13_ValuationValues_S := b4M _ _ a5A
 have hv : b5N e = true -> a0e a3m n 18 [.agg row, .agg (bpv b)] [] = some (.int .i64 (b0d e b), []) /\ a0e a3m n 21 [.agg row, .agg (bpv b)] [] = some (.int .i64 (b0d e b), []) /\
   a0e a3m n a5Q [.agg row] [] = some (.int .i64 (b0d e b2T), []) /\ a0e a3m n a4s [.agg row] [] = some (.int .i64 (b0d e b2T), []) := by
  intro h
  obtain ⟨h1, h2⟩ := c6E h
  obtain ⟨m, rfl⟩ : ∃ m, n = m + 2 := ⟨n - 2, by omega⟩
  exact ⟨c4Q hrow (by omega) b rfl (m + 1), c2P hw hrow (by omega) h1 rfl b _ (by omega), c9v hrow (by omega) rfl m, c8U hw hrow (by omega) h1 rfl (m + 1) (by omega)⟩
 generalize b0d e b = z1 at *
 generalize b0d e b2T = z2 at *
 generalize b5N e = fx at *
 obtain ⟨op, a, b', c, d, e', f, v, l⟩ := e
 simp only [IsE] at hrow
 obtain ⟨x, rows, rfl, hx, hl⟩ := hrow
 obtain ⟨x1, x2, x3⟩ := a0y hx
 rw [a0e, hT]
 simp only [Q0, Sys.run]
 show ((a0i [.sh (.agg [_, _, _, _, _, _, _, _, _]), .sh (.agg [_, _, _, _, _, _])] _).bind _) = _
 simp only [bpv] at hv ⊢
 simp only [a0i, a0d, a0c, Q4, Q0, Q1, Q2, Q3, if_true, x3]
 show (PT.ev _ a1D _).bind _ = _
 cases fx with
 | false => simp -implicitDefEqProofs only [a1D, ↓reduceIte,eq_self,ξ1,ξ2,ξ3,ξ4,ξ5,ξ6,ξ7,ξ8,ξ9,ξa,ξb,ξc,ξd,ξe,ξf,ξg,ξh,Nat.reduceAdd,ξi,if_true,if_false,ξl,ξm,ξn,ξo,ξp,ξq,ξr,ξs,ξt,ξu,ξv,ξw,ξx,ξy,ξz,ξA,ξB,ξC,ξD,ξE, hf, ha, a0k, or_true]
 | true =>
  obtain ⟨v1, v2, v3, v4⟩ := hv rfl
  simp -implicitDefEqProofs only [a1D, ↓reduceIte,eq_self,ξ1,ξ2,ξ3,ξ4,ξ5,ξ6,ξ7,ξ8,ξ9,ξa,ξb,ξc,ξd,ξe,ξf,ξg,ξh,Nat.reduceAdd,ξi,if_true,if_false,ξl,ξm,ξn,ξo,ξp,ξq,ξr,ξs,ξt,ξu,ξv,ξw,ξx,ξy,ξz,ξA,ξB,ξC,ξD,ξE, hf, ha, v1, v2, v3, v4, a3e, a0k, or_true]
end
end Go.Proofs.Ythmkfeiapdbojaa
set_option maxRecDepth 100000
namespace Go.Proofs.Ythmkfeiapdbojaa
open Go.Sx Go.Bun
theorem c5W {rows : List (List PV)} (h : ∀ r ∈ rows, ∃ e, IsE e r /\ a4l e /\ 9 * e.size <= PV.wts r) : ∃ l, a1e l rows /\ b0M l /\ l.length = rows.length /\ 9 * a1P l <= PV.wtss rows := by
 induction rows with
 | nil => exact ⟨[], by simp [a1e], by simp [b0M], rfl, by simp [a1P, PV.wtss]⟩
 | cons r rows ih =>
  obtain ⟨e, he, hw, hs⟩ := h r (by simp)
  obtain ⟨l, hl, hlw, hln, hls⟩ := ih (fun r hr => h r (by simp [hr]))
  exact ⟨e :: l, ⟨r, rows, rfl, he, hl⟩, ⟨hw, hlw⟩, by simp [hln], by simp only [a1P, PV.wtss]; omega⟩
theorem b9P {n : Nat} {ps : List PV} (h : a1m Try.prog n 23 ps) : ∃ b : Bd, ps = bpv b := by
 obtain ⟨m, _, h⟩ := b9I Try.underlying23 h
 simp only [List.replicate, a5k] at h
 obtain ⟨_, _, rfl, h1, _, _, rfl, h2, _, _, rfl, h3, _, _, rfl, h4, _, _, rfl, h5, _, _, rfl, h6, rfl⟩ := h
 obtain ⟨a, rfl, _⟩ := a3q (k := .i64) (by kernel_rfl) h1
 obtain ⟨b, rfl, _⟩ := a3q (k := .i64) (by kernel_rfl) h2
 obtain ⟨c, rfl, _⟩ := a3q (k := .i64) (by kernel_rfl) h3
 obtain ⟨d, rfl, _⟩ := a3q (k := .i64) (by kernel_rfl) h4
 obtain ⟨e, rfl, _⟩ := a3q (k := .i64) (by kernel_rfl) h5
 obtain ⟨f, rfl, _⟩ := a3q (k := .i64) (by kernel_rfl) h6
 exact ⟨⟨a, b, c, d, e, f⟩, rfl⟩
theorem c5e : ∀ (n : Nat) (ps : List PV), a1m Try.prog n 26 ps -> ∃ e, IsE e ps /\ a4l e /\ 9 * e.size <= PV.wts ps := by
 intro n
 induction n using Nat.strongRecOn with
 | _ n ih =>
 intro ps h
 obtain ⟨m, hm, h⟩ := b9h Try.underlying26 h
 simp only [List.map_cons, List.map_nil, a5k] at h
 obtain ⟨_, _, rfl, h1, _, _, rfl, h2, _, _, rfl, h3, _, _, rfl, h4, rfl⟩ := h
 obtain ⟨op, rfl, _⟩ := a3q (k := .i64) (by kernel_rfl) h1
 obtain ⟨w, rfl⟩ := b9P h2
 obtain ⟨v, rfl, _⟩ := a3q (k := .i64) (by kernel_rfl) h3
 obtain ⟨k, rows, hk, rfl, hr, hrl⟩ := b9u (e := 26) (by kernel_rfl) h4
 obtain ⟨l, hl, hw, hln, hs⟩ := c5W (fun r hr' => ih k (by omega) r (hr r hr'))
 have hc : Try.prog.cellsOf 26 = 9 := by kernel_rfl
 rw [hc]
 refine ⟨.node op w.a w.b w.c w.d w.e w.f v l, ?_, ?_, ?_⟩
 ·simp only [IsE]
  exact ⟨_, rows, rfl, by simp [PV.rowsOf], hl⟩
 ·simp only [a4l]; exact ⟨by omega, hw⟩
 ·simp only [Ex.size, bpv, Q3, Q2, Q1, PV.wts, PV.wt]; omega
end Go.Proofs.Ythmkfeiapdbojaa
