/- Which products an expression uses, and how many nodes it has: the reference's. -/
import Derived.Test.YthmkfeiapdbojaaHVq
import Derived.Test.YthmkfeiapdbojaaHVn
import Derived.Test.YthmkfeiapdbojaaHGx
import Derived.Test.YthmkfeiapdbojaaHTxe
set_option linter.unusedSimpArgs false
set_option linter.unusedVariables false
open Go.Sx.PT renaming ev → ξ1
open Go.Sx.BE renaming safe → ξ2, pe → ξ3, all → ξz
open Go.Sx.IE renaming pe → ξ4
open Go.Sx renaming PEnv.at → ξ5
open Go.Sx.PEnv renaming push → ξt
open List renaming getD_cons_zero → ξ6, getD_cons_succ → ξ7, getElem?_cons_zero → ξ8, getElem?_cons_succ → ξ9, drop_zero → ξf, length_cons → ξg, length_nil → ξh, take_succ_cons → ξm, take_zero → ξn, cons_append → ξu, nil_append → ξv, append_nil → ξw, map_cons → ξD, map_nil → ξE
open Go.Sx renaming a0f → ξa, a0h → ξb, a0c → ξc, a0g → ξd, a0b → ξo, a0a → ξp, a0d → ξq, a1W → ξF, a1S → ξG, a1u → ξH, a1y → ξI, a1V → ξJ, a1U → ξK, a1w → ξL, a1R → ξM, a1z → ξN, a1v → ξO, a0u → ξP, a1A → ξQ, a1T → ξR, a0U → ξS, a1s → ξT, a1f → ξU, a0W → ξV, a0S → ξW, a0V → ξX, a1x → ξY
open Nat renaming add_zero → ξe, le_refl → ξi
open Bool renaming false_eq_true → ξl, and_self → ξA, not_true → ξB, not_false → ξC
open Option renaming map_some → ξr, bind_some → ξs
open Go.Sx.SV renaming pvs → ξx, pv → ξy
open Option renaming bind_some → Q0, map_some → Q4
open List renaming append_nil → Q1, nil_append → Q2, cons_append → Q3, mem_of_getElem? → Q7, mem_map → Q8, mem_cons → Q9, drop_zero → Qa, drop_of_length_le → Qb, drop_eq_getElem?_toList_append → Qd, foldl_cons → Qe, headD_cons → Qh
open Bool renaming and_eq_true → Q5, or_eq_false_iff → Qf
open Int renaming le_refl → Q6, le_antisymm → Qg
set_option maxRecDepth 100000
namespace Go.Proofs.Ythmkfeiapdbojaa
open Go.Sx Go.Kv Go.Bun
mutual
def a4z : Ex -> Prop | .node _ _ _ _ _ _ _ _ l => l.length <= 9223372036854775807 /\ a9h l
def a9h : List Ex -> Prop | [] => True | e :: l => a4z e /\ a9h l
end
theorem b0t : ∀ {l : List Ex}, a9h l -> ∀ e ∈ l, a4z e
 | x :: l, h, e, he => by
  simp only [a9h] at h
  rcases Q9.1 he with rfl | he
  ·exact h.1
  ·exact b0t h.2 e he
 | [], _, e, he => by simp at he
mutual
def a4m (k : Nat) : Ex -> Bool | .node _ a b c d e f _ l => decide (0 < [a, b, c, d, e, f].getD k 0) || a9z k l
def a9z (k : Nat) : List Ex -> Bool | [] => false | e :: l => a4m k e || a9z k l
end
mutual
def a2x (d : Nat) : Ex -> Int | .node _ _ _ _ _ _ _ _ l => if 10 < d \/ 20 < l.length then 1000 else 1 + a2f (d + 1) l
def a2f (d : Nat) : List Ex -> Int | [] => 0 | e :: l => a2x d e + a2f d l
end
def bN : Nat -> Int
 | 0 => 1000
 | k + 1 => 1 + 20 * bN k
theorem b4o : ∀ k, 1000 <= bN k
 | 0 => Q6 _
 | k + 1 => by have := b4o k; simp only [bN]; omega
mutual
theorem b3Y (d : Nat) : ∀ e : Ex, 1 <= a2x d e /\ a2x d e <= bN (11 - d)
 | .node op a b c d' e f v l => by
  unfold a2x
  have hb := b4o (11 - d)
  split
  ·omega
  ·rename_i h
   have := a4R (d + 1) l
   obtain ⟨k, hk⟩ : ∃ k, 11 - d = k + 1 := ⟨10 - d, by omega⟩
   rw [hk]
   rw [show 11 - (d + 1) = k by omega] at this
   simp only [bN]
   have hl : (l.length : Int) * bN k <= 20 * bN k := Int.mul_le_mul_of_nonneg_right (by omega) (by have := b4o k; omega)
   omega
theorem a4R (d : Nat) : ∀ l : List Ex, 0 <= a2f d l /\ a2f d l <= l.length * bN (11 - d)
 | [] => by simp [a2f]
 | e :: l => by
  have h1 := b3Y d e
  have h2 := a4R d l
  simp only [a2f, List.length_cons]
  rw [Int.natCast_add, Int.add_mul]
  omega
end
mutual
theorem b2Y (d : Nat) : ∀ e : Ex, a2x d e < 1000 -> a2x d e = e.size
 | .node op a b c d' e f v l, h => by
  unfold a2x at h ⊢
  split
  ·rename_i hc; rw [if_pos hc] at h; omega
  ·rename_i hc
   rw [if_neg hc] at h
   have := b1C (d + 1) l (by have := a4R (d + 1) l; omega)
   simp only [Ex.size]; omega
theorem b1C (d : Nat) : ∀ l : List Ex, a2f d l < 1000 -> a2f d l = a1M l
 | [], _ => by simp [a2f, a1M]
 | e :: l, h => by
  have h1 := b3Y d e
  have h2 := a4R d l
  simp only [a2f] at h ⊢
  have h3 := b2Y d e (by omega)
  have h4 := b1C d l (by omega)
  simp only [a1M]; omega
end
def want (a b c d e f : Int) (k : Nat) : Int := [a, b, c, d, e, f].getD k 0
theorem c4E (σ : List MO) : ∀ (e : Ex), a4z e -> ∀ row, IsE e row -> ∀ n, e.size + 2 <= n -> ∀ k : Nat, k < 6 -> a0e Tab n 45 [.agg row, .int .i64 k] σ = some (.bool (a4m k e), σ) := by
 intro e
 induction hM : e.size using Nat.strongRecOn generalizing e with
 | _ M ih =>
  subst hM
  intro hw row hrow n hn k hk
  obtain ⟨op, a, b, c, d, e', f, v, l⟩ := e
  simp only [IsE] at hrow
  obtain ⟨x, rows, rfl, hx, hl⟩ := hrow
  obtain ⟨x1, x2, x3⟩ := a0E hx
  simp only [Ex.size] at ih hn
  simp only [a4z] at hw
  obtain ⟨n, rfl⟩ : ∃ m, n = m + 1 := ⟨n - 1, by omega⟩
  have hlen := hl.length
  have hsl := a3k l
  have loop : ∀ (dd i : Nat), i + dd = l.length -> ∀ fuel, dd + 1 <= fuel ->
    saleroomref13_Uses_S.loop (a0e Tab n) fuel 0 { i := [(k : Int), (i : Int), op, a, b, c, d, e', f, v], b := [], v := [x], m := σ, k := σ.length } = some (.bool (a9z k (l.drop i)), σ) := by
   intro dd
   induction dd with
   | zero =>
    intro i hi fuel hf
    obtain ⟨fuel, rfl⟩ : ∃ m, fuel = m + 1 := ⟨fuel - 1, by omega⟩
    have q0 : ltB (i : Int) (rows.length : Int) = false := by simp [ltB]; omega
    rw [Sys.loop, show saleroomref13_Uses_S.loops[0]? = some a1h from rfl]
    simp -implicitDefEqProofs only [Q0, a1h, ↓reduceIte,eq_self,ξ1,ξ2,ξ3,ξ4,ξ5,ξ6,ξ7,ξ8,ξ9,ξa,ξb,ξc,ξd,ξe,ξf,ξg,ξh,Nat.reduceAdd,ξi,if_true,if_false,ξl,ξm,ξn,ξo,ξp,ξq,ξr,ξs,ξt,ξu,ξv,ξw,ξx,ξy,ξz,ξA,ξB,ξC,ξD,ξE, q0, x1, x2, a0n, or_true]
    rw [Qb (by omega)]
    rfl
   | succ dd ihd =>
    intro i hi fuel hf
    obtain ⟨fuel, rfl⟩ : ∃ m, fuel = m + 1 := ⟨fuel - 1, by omega⟩
    obtain ⟨ei, hei⟩ := b4G (l := l) (i := i) (by omega)
    obtain ⟨ri, hri, hrow1⟩ := hl.at hei
    have hszi := a2o (Q7 hei)
    have hcall := ih ei.size (by omega) ei rfl (b0t hw.2 ei (Q7 hei)) ri hrow1 n (by omega) k hk
    have hnext := ihd (i + 1) (by omega) fuel (by omega)
    have hloc := a6O (off := 0) hx hri
    have q0 : ltB (i : Int) (rows.length : Int) = true := by simp [ltB]; omega
    have q2 : (leB (-9223372036854775808) ((i : Int) + 1) && leB ((i : Int) + 1) 9223372036854775807) = true := by simp [leB]; omega
    have hdr : l.drop i = ei :: l.drop (i + 1) := by rw [Qd (i := i), hei]; rfl
    rw [hdr, a9z]
    obtain ⟨op1, a1, b1, c1, d1, e1', f1, v1, l1⟩ := ei
    have hrow1' := hrow1
    simp only [IsE] at hrow1'
    obtain ⟨y, rows1, rfl, hy, hl1⟩ := hrow1'
    obtain ⟨y1, y2, y3⟩ := a0E hy
    generalize a4m k (Ex.node op1 a1 b1 c1 d1 e1' f1 v1 l1) = u at *
    rw [Sys.loop, show saleroomref13_Uses_S.loops[0]? = some a1h from rfl]
    cases u with
    | true => simp -implicitDefEqProofs only [Q0, a1h, ↓reduceIte,eq_self,ξ1,ξ2,ξ3,ξ4,ξ5,ξ6,ξ7,ξ8,ξ9,ξa,ξb,ξc,ξd,ξe,ξf,ξg,ξh,Nat.reduceAdd,ξi,if_true,if_false,ξl,ξm,ξn,ξo,ξp,ξq,ξr,ξs,ξt,ξu,ξv,ξw,ξx,ξy,ξz,ξA,ξB,ξC,ξD,ξE, q0, x1, x2, le0, hloc, y3, hcall, a0n, or_true, Bool.true_or]
    | false =>
     rw [Bool.false_or, <- hnext]
     simp -implicitDefEqProofs only [Q0, a1h, ↓reduceIte,eq_self,ξ1,ξ2,ξ3,ξ4,ξ5,ξ6,ξ7,ξ8,ξ9,ξa,ξb,ξc,ξd,ξe,ξf,ξg,ξh,Nat.reduceAdd,ξi,if_true,if_false,ξl,ξm,ξn,ξo,ξp,ξq,ξr,ξs,ξt,ξu,ξv,ξw,ξx,ξy,ξz,ξA,ξB,ξC,ξD,ξE, q0, x1, x2, le0, hloc, y3, hcall, q2, a7r]
  have h0 := loop l.length 0 (by omega) n (by omega)
  rw [Qa] at h0
  rw [a0e, a8h, a4m]
  simp only [Q0, Sys.run]
  show ((a0i [.sh (.agg [_, _, _, _, _, _, _, _, _]), .sh (.one _)] _).bind _) = _
  simp only [a0i, a0d, a0b, Q4, Q0, Q1, Q2, Q3, if_true, x3]
  show (PT.ev _ a3u _).bind _ = _
  have hk6 : k = 0 \/ k = 1 \/ k = 2 \/ k = 3 \/ k = 4 \/ k = 5 := by omega
  rcases hk6 with rfl | rfl | rfl | rfl | rfl | rfl
  all_goals
   simp only [List.getD_cons_zero, List.getD_cons_succ]
   simp -implicitDefEqProofs only [a3u, ↓reduceIte,eq_self,ξ1,ξ2,ξ3,ξ4,ξ5,ξ6,ξ7,ξ8,ξ9,ξa,ξb,ξc,ξd,ξe,ξf,ξg,ξh,Nat.reduceAdd,ξi,if_true,if_false,ξl,ξm,ξn,ξo,ξp,ξq,ξr,ξs,ξt,ξu,ξv,ξw,ξx,ξy,ξz,ξA,ξB,ξC,ξD,ξE, a2s, Int.reduceEq, Int.cast_ofNat_Int, decide_true, decide_false, a1i, a0n, or_true]
   split
   ·rename_i h; rw [decide_eq_true h]; rfl
   ·rename_i h; rw [decide_eq_false h]; exact h0
theorem c2q (σ : List MO) : ∀ (e : Ex), a4z e -> ∀ row, IsE e row -> ∀ n, e.size + 2 <= n -> ∀ d : Nat, d <= 1000000 -> a0e Tab n 46 [.agg row, .int .i64 d] σ = some (.int .i64 (a2x d e), σ) := by
 intro e
 induction hM : e.size using Nat.strongRecOn generalizing e with
 | _ M ih =>
  subst hM
  intro hw row hrow n hn k hk
  obtain ⟨op, a, b, c, d, e', f, v, l⟩ := e
  simp only [IsE] at hrow
  obtain ⟨x, rows, rfl, hx, hl⟩ := hrow
  obtain ⟨x1, x2, x3⟩ := a0E hx
  simp only [Ex.size] at ih hn
  simp only [a4z] at hw
  obtain ⟨n, rfl⟩ : ∃ m, n = m + 1 := ⟨n - 1, by omega⟩
  have hlen := hl.length
  have hsl := a3k l
  rw [a0e, a7I, a2x]
  simp only [Q0, Sys.run]
  show ((a0i [.sh (.agg [_, _, _, _, _, _, _, _, _]), .sh (.one _)] _).bind _) = _
  simp only [a0i, a0d, a0b, Q4, Q0, Q1, Q2, Q3, if_true, x3]
  show (PT.ev _ a1L _).bind _ = _
  by_cases h10 : 10 < k
  ·have q : ltB 10 (k : Int) = true := by simp [ltB]; omega
   rw [if_pos (.inl h10)]
   simp -implicitDefEqProofs only [a1L, ↓reduceIte,eq_self,ξ1,ξ2,ξ3,ξ4,ξ5,ξ6,ξ7,ξ8,ξ9,ξa,ξb,ξc,ξd,ξe,ξf,ξg,ξh,Nat.reduceAdd,ξi,if_true,if_false,ξl,ξm,ξn,ξo,ξp,ξq,ξr,ξs,ξt,ξu,ξv,ξw,ξx,ξy,ξz,ξA,ξB,ξC,ξD,ξE, q, a0n, or_true]
  have q : ltB 10 (k : Int) = false := by simp [ltB]; omega
  by_cases h20 : 20 < l.length
  ·have q' : ltB 20 (rows.length : Int) = true := by simp [ltB]; omega
   rw [if_pos (.inr h20)]
   simp -implicitDefEqProofs only [a1L, ↓reduceIte,eq_self,ξ1,ξ2,ξ3,ξ4,ξ5,ξ6,ξ7,ξ8,ξ9,ξa,ξb,ξc,ξd,ξe,ξf,ξg,ξh,Nat.reduceAdd,ξi,if_true,if_false,ξl,ξm,ξn,ξo,ξp,ξq,ξr,ξs,ξt,ξu,ξv,ξw,ξx,ξy,ξz,ξA,ξB,ξC,ξD,ξE, q, x1, x2, q', a0n, or_true]
  have q' : ltB 20 (rows.length : Int) = false := by simp [ltB]; omega
  rw [if_neg (by omega)]
  have hbb : bN 10 <= 100000000000000000 := by decide +kernel
  have hmono : ∀ j, j <= 10 -> bN j <= bN 10 := by decide +kernel
  have hB := hmono (11 - (k + 1)) (by omega)
  have loop : ∀ (dd i : Nat), i + dd = l.length -> ∀ (z : Int), 0 <= z -> z + a2f (k + 1) (l.drop i) <= 5000000000000000000 -> ∀ fuel, dd + 1 <= fuel ->
    saleroomref13_nodes_S.loop (a0e Tab n) fuel 0 { i := [(k : Int), z, (i : Int), op, a, b, c, d, e', f, v], b := [], v := [x], m := σ, k := σ.length } = some (.int .i64 (z + a2f (k + 1) (l.drop i)), σ) := by
   intro dd
   induction dd with
   | zero =>
    intro i hi z hz1 hz2 fuel hf
    obtain ⟨fuel, rfl⟩ : ∃ m, fuel = m + 1 := ⟨fuel - 1, by omega⟩
    have q0 : ltB (i : Int) (rows.length : Int) = false := by simp [ltB]; omega
    rw [Sys.loop, show saleroomref13_nodes_S.loops[0]? = some a1E from rfl]
    simp -implicitDefEqProofs only [Q0, a1E, ↓reduceIte,eq_self,ξ1,ξ2,ξ3,ξ4,ξ5,ξ6,ξ7,ξ8,ξ9,ξa,ξb,ξc,ξd,ξe,ξf,ξg,ξh,Nat.reduceAdd,ξi,if_true,if_false,ξl,ξm,ξn,ξo,ξp,ξq,ξr,ξs,ξt,ξu,ξv,ξw,ξx,ξy,ξz,ξA,ξB,ξC,ξD,ξE, q0, x1, x2, a0n, or_true]
    rw [Qb (by omega)]
    simp [a2f]
   | succ dd ihd =>
    intro i hi z hz1 hz2 fuel hf
    obtain ⟨fuel, rfl⟩ : ∃ m, fuel = m + 1 := ⟨fuel - 1, by omega⟩
    obtain ⟨ei, hei⟩ := b4G (l := l) (i := i) (by omega)
    obtain ⟨ri, hri, hrow1⟩ := hl.at hei
    have hszi := a2o (Q7 hei)
    have hcall := ih ei.size (by omega) ei rfl (b0t hw.2 ei (Q7 hei)) ri hrow1 n (by omega) (k + 1) (by omega)
    have hdr : l.drop i = ei :: l.drop (i + 1) := by rw [Qd (i := i), hei]; rfl
    rw [hdr, a2f] at hz2 ⊢
    have hb1 := b3Y (k + 1) ei
    have hb2 := a4R (k + 1) (l.drop (i + 1))
    have hnext := ihd (i + 1) (by omega) (z + a2x (k + 1) ei) (by omega) (by omega) fuel (by omega)
    have hloc := a6O (off := 0) hx hri
    have q0 : ltB (i : Int) (rows.length : Int) = true := by simp [ltB]; omega
    have q2 := b4f (i := i) (by omega)
    have q3 := b4f (i := k) (by omega)
    have q4 : (leB (-9223372036854775808) (z + a2x (k + 1) ei) && leB (z + a2x (k + 1) ei) 9223372036854775807) = true := a0L (by omega)
    rw [<- Int.add_assoc, <- hnext]
    obtain ⟨op1, a1, b1, c1, d1, e1', f1, v1, l1⟩ := ei
    have hrow1' := hrow1
    simp only [IsE] at hrow1'
    obtain ⟨y, rows1, rfl, hy, hl1⟩ := hrow1'
    obtain ⟨y1, y2, y3⟩ := a0E hy
    generalize a2x (k + 1) (Ex.node op1 a1 b1 c1 d1 e1' f1 v1 l1) = u at *
    rw [a7r] at hcall
    rw [Sys.loop, show saleroomref13_nodes_S.loops[0]? = some a1E from rfl]
    simp -implicitDefEqProofs only [Q0, a1E, ↓reduceIte,eq_self,ξ1,ξ2,ξ3,ξ4,ξ5,ξ6,ξ7,ξ8,ξ9,ξa,ξb,ξc,ξd,ξe,ξf,ξg,ξh,Nat.reduceAdd,ξi,if_true,if_false,ξl,ξm,ξn,ξo,ξp,ξq,ξr,ξs,ξt,ξu,ξv,ξw,ξx,ξy,ξz,ξA,ξB,ξC,ξD,ξE, q0, x1, x2, le0, hloc, y3, q3, hcall, q4, q2, a7r]
  have hlb := a4R (k + 1) l
  have hmul : (l.length : Int) * bN (11 - (k + 1)) <= 20 * 100000000000000000 := Int.mul_le_mul (by omega) (by omega) (by have := b4o (11 - (k + 1)); omega) (by omega)
  have h0 := loop l.length 0 (by omega) 1 (by omega) (by rw [Qa]; omega) n (by omega)
  rw [Qa] at h0
  refine Eq.trans ?_ h0
  simp -implicitDefEqProofs only [a1L, ↓reduceIte,eq_self,ξ1,ξ2,ξ3,ξ4,ξ5,ξ6,ξ7,ξ8,ξ9,ξa,ξb,ξc,ξd,ξe,ξf,ξg,ξh,Nat.reduceAdd,ξi,if_true,if_false,ξl,ξm,ξn,ξo,ξp,ξq,ξr,ξs,ξt,ξu,ξv,ξw,ξx,ξy,ξz,ξA,ξB,ξC,ξD,ξE, q, x1, x2, q']
  rfl
end Go.Proofs.Ythmkfeiapdbojaa
set_option maxRecDepth 100000
namespace Go.Proofs.Ythmkfeiapdbojaa
open Go.Sx Go.Kv Go.Bun
def Zk (k : Nat) (kv : KV) : Prop := ∀ p ∈ kv, p.1.getD k 0 = 0
section
variable {k : Nat} {lim : List Int}
theorem b1Q {kv : KV} (h : Zk k kv) {b : List Int} {v : Int} (hb : b.getD k 0 = 0) : Zk k (a1P lim kv b v) := by
 unfold a1P
 split
 ·intro p hp
  rcases b3H.1 hp with rfl | ⟨hp, _⟩
  ·exact hb
  ·exact h p hp
 ·exact h
theorem a3l : ∀ {L kv : KV}, Zk k kv -> (∀ p ∈ L, p.1.getD k 0 = 0) -> Zk k (raises lim kv L)
 | [], _, h, _ => h
 | p :: L, kv, h, hL => by rw [a5M]; exact a3l (b1Q h (hL p (by simp))) (fun q hq => hL q (by simp [hq]))
theorem a6a : Zk k [] := fun p hp => by simp at hp
theorem b7V : ∀ {a b : List Int} {k : Nat}, a.getD k 0 = 0 -> b.getD k 0 = 0 -> (a1Z a b).getD k 0 = 0
 | [], _, _, _, _ => by simp [a1Z]
 | _ :: _, [], _, _, _ => by simp [a1Z]
 | x :: a, y :: b, 0, h, g => by simp [a1Z] at *; omega
 | x :: a, y :: b, k + 1, h, g => by
  have := b7V (a := a) (b := b) (k := k) (by simpa using h) (by simpa using g)
  simpa [a1Z] using this
theorem b6c : ∀ {a b : List Int} {k : Nat}, a.getD k 0 = 0 -> b.getD k 0 = 0 -> (a1F a b).getD k 0 = 0
 | [], _, _, _, _ => by simp [a1F]
 | _ :: _, [], _, _, _ => by simp [a1F]
 | x :: a, y :: b, 0, h, g => by simp [a1F] at *; omega
 | x :: a, y :: b, k + 1, h, g => by
  have := b6c (a := a) (b := b) (k := k) (by simpa using h) (by simpa using g)
  simpa [a1F] using this
theorem c5K {x y : KV} (hx : Zk k x) (hy : Zk k y) : Zk k (a3e lim x y) := by
 unfold a3e
 refine a3l (a3l (a3l a6a hx) hy) fun p hp => ?_
 simp only [a4y, List.mem_flatMap, Q8] at hp
 obtain ⟨a, ha, b, hb, rfl⟩ := hp
 exact b7V (hx a ha) (hy b hb)
theorem b5x {F : KV -> KV -> KV} (hF : ∀ a b, Zk k a -> Zk k b -> Zk k (F a b)) : ∀ {l : List KV} {a : KV}, Zk k a -> (∀ x ∈ l, Zk k x) -> Zk k (l.foldl F a)
 | [], _, h, _ => h
 | x :: l, a, h, hl => by rw [Qe]; exact b5x hF (hF a x h (hl x (by simp))) (fun y hy => hl y (by simp [hy]))
theorem c4z {l : List Int} (h : nnL l = true) (k : Nat) (hu : decide (0 < l.getD k 0) = false) : l.getD k 0 = 0 := by
 have hu := of_decide_eq_false hu
 rw [List.getD_eq_getElem?_getD] at hu ⊢
 cases hk : l[k]? with
 | none => rfl
 | some z =>
  rw [hk] at hu
  have := List.all_eq_true.1 h z (Q7 hk)
  simp only [Option.getD_some, decide_eq_true_eq] at *
  omega
mutual
theorem c5Z : ∀ e : Ex, okX e = true -> a4m k e = false -> Zk k (a0r lim e)
 | .node op a b c d e f v l, h, hu => by
  simp only [okX, Q5] at h
  obtain ⟨⟨⟨⟨h1, h2⟩, h3⟩, h4⟩, h5⟩ := h
  simp only [a4m, Qf] at hu
  have hw := c4z h1 k hu.1
  have hl := c1X l h5 hu.2
  have hhead : Zk k ((a0G lim l).headD []) := by
   cases hk : a0G lim l with
   | nil => exact a6a
   | cons x r => exact hl x (by rw [hk]; simp)
  simp only [a0r]
  split
  ·exact b1Q a6a hw
  split
  ·exact b5x (fun a b ha hb => a3l ha hb) a6a hl
  split
  ·exact b5x (fun a b => c5K) a6a hl
  split
  ·unfold a6P
   refine a3l (b1Q (a3l a6a hhead) hw) fun p hp => ?_
   obtain ⟨q, hq, rfl⟩ := Q8.1 hp
   exact b6c (hhead q hq) hw
  split
  ·unfold a6f
   refine a3l a6a fun p hp => ?_
   obtain ⟨q, hq, rfl⟩ := Q8.1 hp
   exact hhead q hq
  ·exact a6a
theorem c1X : ∀ l : List Ex, a2G l = true -> a9z k l = false -> ∀ x ∈ a0G lim l, Zk k x
 | [], _, _ => by simp [a0G]
 | e :: l, h, hu => by
  simp only [a2G, Q5] at h
  simp only [a9z, Qf] at hu
  have i1 := c5Z e h.1 hu.1
  have i2 := c1X l h.2 hu.2
  intro x hx
  simp only [a0G, Q9] at hx
  rcases hx with rfl | hx
  ·exact i1
  ·exact i2 x hx
end
end
def b1o (e : Ex) (i : Nat) : Nat := ((List.range i).filter fun k => a4m k e).length
theorem c2x (e : Ex) (i : Nat) : b1o e (i + 1) = b1o e i + if a4m i e then 1 else 0 := by
 unfold b1o
 rw [List.range_succ, List.filter_append, List.length_append]
 cases h : a4m i e <;> simp [h]
end Go.Proofs.Ythmkfeiapdbojaa
set_option maxRecDepth 100000
namespace Go.Proofs.Ythmkfeiapdbojaa
open Go.Sx Go.Kv Go.Bun
def b1M (e : Ex) : Bool := decide (b1o e 6 <= 2) && decide (a2x 0 e <= 14)
theorem c4M (e : Ex) (i : Nat) : b1o e i <= i := by
 unfold b1o
 have := List.length_filter_le (fun k => a4m k e) (List.range i)
 rwa [List.length_range] at this
section
variable {σ : List MO} {e : Ex} {row : List PV}
theorem c5H (hw : a4z e) (hrow : IsE e row) (n : Nat) (hn : e.size + 20 <= n) : a0e Tab n 15 [.agg row] σ = some (.bool (b1M e), σ) := by
 obtain ⟨n, rfl⟩ : ∃ m, n = m + 1 := ⟨n - 1, by omega⟩
 have hu := fun k hk => c4E σ e hw row hrow n (by omega) k hk
 have hnd := c2q σ e hw row hrow n (by omega) 0 (by omega)
 have hcs := c2x e
 have hcl := c4M e
 unfold b1M
 generalize b1o e = cu at *
 generalize a2x 0 e = nd at *
 have hus : ∀ k, a4m k e = (fun k => a4m k e) k := fun _ => rfl
 generalize hU : (fun k => a4m k e) = ux at *
 simp only [hus] at hu hcs
 obtain ⟨op, a, b, c, d, e', f, v, l⟩ := e
 simp only [IsE] at hrow
 obtain ⟨x, rows, rfl, hx, hl⟩ := hrow
 obtain ⟨x1, x2, x3⟩ := a0E hx
 have step : ∀ i : Nat, i < 6 -> ∀ fuel, saleroomref13_Few_S.loop (a0e Tab n) (fuel + 1) 0 { i := [(cu i : Int), (i : Int), op, a, b, c, d, e', f, v], b := [], v := [x], m := σ, k := σ.length } =
   saleroomref13_Few_S.loop (a0e Tab n) fuel 0 { i := [(cu (i + 1) : Int), ((i + 1 : Nat) : Int), op, a, b, c, d, e', f, v], b := [], v := [x], m := σ, k := σ.length } := by
  intro i hi fuel
  have h1 := hu i hi
  have h2 := hcs i
  have h3 := hcl i
  have q0 : ltB (i : Int) 6 = true := by simp [ltB]; omega
  have q1 := b4f (i := i) (by omega)
  have q2 := b4f (i := cu i) (by omega)
  rw [Sys.loop, show saleroomref13_Few_S.loops[0]? = some a1e from rfl]
  cases hux : ux i with
  | true =>
   rw [hux] at h1 h2
   simp only [if_true] at h2
   rw [h2]
   simp -implicitDefEqProofs only [Q0, a1e, ↓reduceIte,eq_self,ξ1,ξ2,ξ3,ξ4,ξ5,ξ6,ξ7,ξ8,ξ9,ξa,ξb,ξc,ξd,ξe,ξf,ξg,ξh,Nat.reduceAdd,ξi,if_true,if_false,ξl,ξm,ξn,ξo,ξp,ξq,ξr,ξs,ξt,ξu,ξv,ξw,ξx,ξy,ξz,ξA,ξB,ξC,ξD,ξE, q0, h1, q1, q2, a7r]
  | false =>
   rw [hux] at h1 h2
   simp only [Bool.false_eq_true, if_false, Nat.add_zero] at h2
   rw [h2]
   simp -implicitDefEqProofs only [Q0, a1e, ↓reduceIte,eq_self,ξ1,ξ2,ξ3,ξ4,ξ5,ξ6,ξ7,ξ8,ξ9,ξa,ξb,ξc,ξd,ξe,ξf,ξg,ξh,Nat.reduceAdd,ξi,if_true,if_false,ξl,ξm,ξn,ξo,ξp,ξq,ξr,ξs,ξt,ξu,ξv,ξw,ξx,ξy,ξz,ξA,ξB,ξC,ξD,ξE, q0, h1, q1, a7r]
 have h0 := c4x (fun i => { i := [(cu i : Int), (i : Int), op, a, b, c, d, e', f, v], b := [], v := [x], m := σ, k := σ.length }) step 6 0 (by omega) (n - 6)
 have hc0 : cu 0 = 0 := by have := hcl 0; omega
 rw [show n - 6 + 6 = n by omega, hc0] at h0
 rw [a0e, a9n]
 simp only [Q0, Sys.run]
 show ((a0i [.sh (.agg [_, _, _, _, _, _, _, _, _])] _).bind _) = _
 simp only [a0i, a0d, a0b, Q4, Q0, Q1, Q2, Q3, if_true, x3]
 show (PT.ev _ a5s _).bind _ = _
 refine Eq.trans (b := saleroomref13_Few_S.loop (a0e Tab n) n 0 { i := [((0 : Nat) : Int), ((0 : Nat) : Int), op, a, b, c, d, e', f, v], b := [], v := [x], m := σ, k := σ.length }) rfl ?_
 rw [h0]
 obtain ⟨fu, hfu⟩ : ∃ k, n - 6 = k + 1 := ⟨n - 7, by omega⟩
 rw [hfu, Sys.loop, show saleroomref13_Few_S.loops[0]? = some a1e from rfl]
 have q0 : ltB ((6 : Nat) : Int) 6 = false := rfl
 have hnd' : a0e Tab n 46 [.agg [.int .i64 op, .int .i64 a, .int .i64 b, .int .i64 c, .int .i64 d, .int .i64 e', .int .i64 f, .int .i64 v, x], .int .i64 0] σ = some (.int .i64 nd, σ) := hnd
 by_cases h2 : cu 6 <= 2
 ·have q2 : leB (cu 6 : Int) 2 = true := by simp [leB]; omega
  simp -implicitDefEqProofs only [Q0, a1e, ↓reduceIte,eq_self,ξ1,ξ2,ξ3,ξ4,ξ5,ξ6,ξ7,ξ8,ξ9,ξa,ξb,ξc,ξd,ξe,ξf,ξg,ξh,Nat.reduceAdd,ξi,if_true,if_false,ξl,ξm,ξn,ξo,ξp,ξq,ξr,ξs,ξt,ξu,ξv,ξw,ξx,ξy,ξz,ξA,ξB,ξC,ξD,ξE, q0, q2, hnd', a0n, or_true]
  rw [decide_eq_true h2]
  rfl
 ·have q2 : leB (cu 6 : Int) 2 = false := by simp [leB]; omega
  simp -implicitDefEqProofs only [Q0, a1e, ↓reduceIte,eq_self,ξ1,ξ2,ξ3,ξ4,ξ5,ξ6,ξ7,ξ8,ξ9,ξa,ξb,ξc,ξd,ξe,ξf,ξg,ξh,Nat.reduceAdd,ξi,if_true,if_false,ξl,ξm,ξn,ξo,ξp,ξq,ξr,ξs,ξt,ξu,ξv,ξw,ξx,ξy,ξz,ξA,ξB,ξC,ξD,ξE, q0, q2, a0n, or_true]
  rw [decide_eq_false h2]
  rfl
end
end Go.Proofs.Ythmkfeiapdbojaa
set_option maxRecDepth 100000
namespace Go.Proofs.Ythmkfeiapdbojaa
open Go.Sx Go.Kv Go.Bun
def a2H (e : Ex) (b : Bd) : Int := if chk e = 0 /\ b.Ok then vX e b.l else 0
section
variable {e : Ex} {row : List PV}
theorem c5k {n : Nat} (hn : 2000 <= n) : a0e a3M n a4Y [] [] = some (.bool true, []) := c2O hn c5b
theorem c1W (hrow : IsE e row) (he : e.size <= 400) (b : Bd) {σ : List MO} (hlow : σ.all (MO.low σ.length) = true) (n : Nat) : a0e a3M (n + 1) 18 [.agg row, .agg (bpv b)] σ = some (.int .i64 (a2H e b), σ) := by
 have hT : a3M 18 = some valueP := rfl
 rw [a0e, hT]
 have hb : a3I (bpv b) = some b.l := a5j b.l
 simp only [Q0, Sys.run, valueP, b4D, b5F 400 e row hrow he, hb]
 rw [if_pos ⟨rfl, he, hlow⟩, c4V]
 rfl
def b3N : Bd := ⟨4, 4, 4, 4, 4, 4⟩
theorem c5Y (hrow : IsE e row) (he : e.size <= 400) {σ : List MO} (hlow : σ.all (MO.low σ.length) = true) (n : Nat) : a0e a3M (n + 2) a4G [.agg row] σ = some (.int .i64 (a2H e b3N), σ) := by
 have h1 := c1W hrow he b3N hlow n
 obtain ⟨op, a, b, c, d, e', f, v, l⟩ := e
 simp only [IsE] at hrow
 obtain ⟨x, rows, rfl, hx, hl⟩ := hrow
 obtain ⟨x1, x2, x3⟩ := a0E hx
 have hT : a3M a4G = some valuation_Most_S := b5P _ _ b1n
 rw [a0e, hT]
 simp only [Q0, Sys.run]
 show ((a0i [.sh (.agg [_, _, _, _, _, _, _, _, _])] _).bind _) = _
 simp only [a0i, a0d, a0b, Q4, Q0, Q1, Q2, Q3, if_true, x3]
 show (PT.ev _ a4I _).bind _ = _
 simp only [bpv, b3N] at h1
 simp -implicitDefEqProofs only [a4I, ↓reduceIte,eq_self,ξ1,ξ2,ξ3,ξ4,ξ5,ξ6,ξ7,ξ8,ξ9,ξa,ξb,ξc,ξd,ξe,ξf,ξg,ξh,Nat.reduceAdd,ξi,if_true,if_false,ξl,ξm,ξn,ξo,ξp,ξq,ξr,ξs,ξt,ξu,ξv,ξw,ξx,ξy,ξz,ξA,ξB,ξC,ξD,ξE, h1, a0n, or_true]
 rfl
theorem c2M (h : b1M e = true) : b1o e 6 <= 2 /\ e.size <= 14 := by
 unfold b1M at h
 simp only [Q5, decide_eq_true_eq] at h
 have := b2Y 0 e (by omega)
 omega
theorem c7d (hw : a4z e) (hrow : IsE e row) (n : Nat) (hn : e.size + 20 <= n) {σ : List MO} : a0e a3M n 15 [.agg row] σ = some (.bool (b1M e), σ) := evH (c5H hw hrow n hn)
theorem c2P (x y : Bd) (σ : List MO) (n : Nat) : a0e Tab (n + 1) b0k [.agg (bpv x), .agg (bpv y)] σ = some (.agg (bpv (x.meet y)), σ) := by
 obtain ⟨a, b, c, d, e, f⟩ := y
 obtain ⟨x0, x1, x2, x3, x4, x5⟩ := x
 simp only [bpv, Bd.meet, Bd.map2]
 rw [a0e, a8t]
 simp only [Q0, Sys.run]
 show ((a0i [.sh (.agg [_, _, _, _, _, _]), .sh (.agg [_, _, _, _, _, _])] _).bind _) = _
 simp only [a0i, a0d, a0b, Q4, Q0, Q1, Q2, Q3, if_true]
 show (PT.ev _ a3t _).bind _ = _
 simp -implicitDefEqProofs only [a3t, ↓reduceIte,eq_self,ξ1,ξ2,ξ3,ξ4,ξ5,ξ6,ξ7,ξ8,ξ9,ξa,ξb,ξc,ξd,ξe,ξf,ξg,ξh,Nat.reduceAdd,ξi,if_true,if_false,ξl,ξm,ξn,ξo,ξp,ξq,ξr,ξs,ξt,ξu,ξv,ξw,ξx,ξy,ξz,ξA,ξB,ξC,ξD,ξE, a0n, or_true, a1i]
 unfold mnI
 by_cases h0 : a < x0 <;> by_cases h1 : b < x1 <;> by_cases h2 : c < x2 <;> by_cases h3 : d < x3 <;> by_cases h4 : e < x4 <;> by_cases h5 : f < x5 <;> simp only [h0, h1, h2, h3, h4, h5, if_true, if_false, Q0]
theorem b1H {x y : Bd} (hx : x.Ok) (hy : y.Ok) (h : x.Le y) : a2H e x <= a2H e y := by
 unfold a2H
 by_cases hc : chk e = 0
 ·rw [if_pos ⟨hc, hx⟩, if_pos ⟨hc, hy⟩]; exact c4v h
 ·rw [if_neg (fun h => hc h.1), if_neg (fun h => hc h.1)]; exact Q6 _
theorem b8M (b : Bd) : 0 <= a2H e b := by
 unfold a2H; split
 ·exact b6k _ _
 ·exact Q6 _
theorem c4I {D : List Int} (h : leL D Bd.zero.l = true) (hn : nnL D = true) : D = Bd.zero.l := by
 obtain ⟨x, rfl⟩ := c1Y (l := D) (by rw [a7v h]; rfl)
 have h := a9G.1 h
 simp only [nnL, Bd.l, List.all_cons, List.all_nil, Bool.and_true, Q5, decide_eq_true_eq] at hn
 obtain ⟨a, b, c, d, e, f⟩ := x
 simp only [Bd.Le, Bd.zero] at h
 simp only at hn
 simp only [Bd.l, Bd.zero, List.cons.injEq, and_true]
 omega
theorem b2t : leL Bd.zero.l a8i = true /\ nnL Bd.zero.l = true := ⟨rfl, rfl⟩
theorem c1m : ∀ {l : List Ex} {x : KV}, a2G l = true -> KvOk a8i x -> a0Q x Bd.zero.l = 0 -> (∀ e ∈ l, vX e Bd.zero.l = 0) -> a0Q ((a0G a8i l).foldl (a3e a8i) x) Bd.zero.l = 0
 | [], _, _, _, h, _ => h
 | e :: l, x, ho, gx, h, he => by
  simp only [a2G, Q5] at ho
  have gk := a2K a8i e ho.1
  simp only [a0G, Qe]
  refine c1m ho.2 (a9l gx gk) (Qg ((b5s gx gk b2t.1 b2t.2).2 ⟨Q6 _, fun D d1 d2 => ?_⟩) (a2j _ _)) (fun y hy => he y (by simp [hy]))
  rw [c4I d1 d2, show a3H Bd.zero.l Bd.zero.l = Bd.zero.l from rfl, h]
  have := he e (by simp)
  unfold vX at this
  rw [this]
  decide
theorem c4H : ∀ {e : Ex}, (∀ y ∈ e.pre, a2k y = 0) -> vX e Bd.zero.l = 0 := by
 intro e
 induction hM : e.size using Nat.strongRecOn generalizing e with
 | _ M ih =>
  subst hM
  intro h
  have hok := b8b e h
  obtain ⟨op, a, b, c, d, e', f, v, l⟩ := e
  have hn := h (.node op a b c d e' f v l) (by simp [Ex.pre])
  have hok' := hok
  simp only [okX, Q5, decide_eq_true_eq] at hok'
  obtain ⟨⟨⟨⟨k1, k2⟩, k3⟩, _⟩, k5⟩ := hok'
  have hl : ∀ y ∈ l, vX y Bd.zero.l = 0 := fun y hy => ih y.size (by have := a2o hy; simp only [Ex.size]; omega) rfl (fun z hz => h z (by simp only [Ex.pre, Q9]; exact .inr (b7L hy hz)))
  have hw : op = 1 \/ op = 4 -> leL [a, b, c, d, e', f] Bd.zero.l = false := by
   intro ho
   unfold a2k at hn
   split at hn
   case isFalse => cases hn
   split at hn
   case isFalse => cases hn
   rename_i hr
   have hr := of_decide_eq_true (show decide (b0q op v ⟨a, b, c, d, e', f⟩) = true from hr)
   unfold b0q at hr
   have ht : 1 <= (⟨a, b, c, d, e', f⟩ : W6).tot := by
    rcases ho with rfl | rfl <;> omega
   cases hle : leL [a, b, c, d, e', f] Bd.zero.l with
   | false => rfl
   | true =>
    exfalso
    have := a9G (x := ⟨a, b, c, d, e', f⟩) (b := Bd.zero) |>.1 hle
    simp only [Bd.Le, Bd.zero] at this
    simp only [W6.tot] at ht
    omega
  refine Qg ?_ (b6k _ _)
  unfold vX
  rcases c4L hn with ⟨rfl, rfl, v1, v2⟩ | ⟨ho, l1, l2⟩ | ⟨rfl, ⟨x, rfl⟩, v1, v2⟩ | ⟨rfl, ⟨x, rfl⟩, v1, v2⟩
  ·simp only [a0r, if_true]
   rw [b4a k1 b2t.1, hw (.inl rfl)]
   simp
  ·rcases ho with rfl | rfl
   ·simp only [a0r, Int.reduceEq, if_false, if_true]
    rw [b2y b2t.1 (.nil _) (a7T k5), a7L]
    refine ⟨by decide, fun x hx => ?_⟩
    obtain ⟨y, hy, rfl⟩ := Q8.1 hx
    exact Int.le_of_eq (hl y hy)
   ·simp only [a0r, Int.reduceEq, if_false, if_true]
    exact Int.le_of_eq (c1m k5 (.nil _) rfl hl)
  ·have gx := a2K a8i x (b3A k5 x (by simp))
   simp only [a0r, a0G, Int.reduceEq, if_false, if_true, Qh]
   rw [b1G gx k1 rfl k2 b2t.1, hw (.inr rfl)]
   have := hl x (by simp)
   unfold vX at this
   rw [this]
   exact ⟨by decide, by simp [mnM]⟩
  ·have gx := a2K a8i x (b3A k5 x (by simp))
   simp only [a0r, a0G, Int.reduceEq, if_false, if_true, Qh]
   rw [b1U gx k2 b2t.1]
   have := hl x (by simp)
   unfold vX at this
   rw [this]
   unfold mnI
   refine ⟨Q6 _, by split <;> omega⟩
theorem c1K : a2H e Bd.zero = 0 := by
 unfold a2H
 split
 ·rename_i h; exact c4H (b8t h.1).2.2.2
 ·rfl
theorem c1u (hw : a4z e) (hrow : IsE e row) (x y : Bd) (n : Nat) (hn : 5000000 + e.size <= n) : a0e a3M (n + 1) a1D [.agg row, .agg (bpv x), .agg (bpv y)] [] = some (.bool true, []) := by
 have ha := c5k (n := n) (by omega)
 have hf := c7d hw hrow n (by omega) (σ := [])
 have hT : a3M a1D = some saleroomlaw13_ValuationMonotone_S := b5P _ _ a4a
 obtain ⟨m, rfl⟩ : ∃ m, n = m + 2 := ⟨n - 2, by omega⟩
 have c1 := evH (b0g x [] (m + 1))
 have c2 := evH (b0g y [] (m + 1))
 have c3 := evH (c2P x y [] (m + 1))
 have hv : b1M e = true -> (∀ b, a0e a3M (m + 2) 18 [.agg row, .agg (bpv b)] [] = some (.int .i64 (a2H e b), [])) /\ a0e a3M (m + 2) a4G [.agg row] [] = some (.int .i64 (a2H e b3N), []) := by
  intro h
  obtain ⟨h1, h2⟩ := c2M h
  exact ⟨fun b => c1W hrow (by omega) b rfl (m + 1), c5Y hrow (by omega) rfl m⟩
 have hz := c1K (e := e)
 by_cases hfx : b1M e = true
 case neg =>
  have hfx : b1M e = false := by simpa using hfx
  rw [hfx] at hf
  clear hv hz
  obtain ⟨op, a, b', c, d, e', f, v, l⟩ := e
  simp only [IsE] at hrow
  obtain ⟨x, rows, rfl, hx, hl⟩ := hrow
  obtain ⟨x1, x2, x3⟩ := a0E hx
  rw [a0e, hT]
  simp only [Q0, Sys.run]
  show ((a0i [.sh (.agg [_, _, _, _, _, _, _, _, _]), .sh (.agg [_, _, _, _, _, _]), .sh (.agg [_, _, _, _, _, _])] _).bind _) = _
  simp only [bpv, a0i, a0d, a0b, Q4, Q0, Q1, Q2, Q3, if_true, x3]
  show (PT.ev _ a0B _).bind _ = _
  simp -implicitDefEqProofs only [a0B, ↓reduceIte,eq_self,ξ1,ξ2,ξ3,ξ4,ξ5,ξ6,ξ7,ξ8,ξ9,ξa,ξb,ξc,ξd,ξe,ξf,ξg,ξh,Nat.reduceAdd,ξi,if_true,if_false,ξl,ξm,ξn,ξo,ξp,ξq,ξr,ξs,ξt,ξu,ξv,ξw,ξx,ξy,ξz,ξA,ξB,ξC,ξD,ξE, hf, ha, a0n, or_true]
 obtain ⟨hv1, hv2⟩ := hv hfx
 have v1 := hv1 x
 have v2 := hv1 y
 have v3 := hv1 (x.meet y)
 have v4 := hv1 Bd.zero
 rw [hz] at v4
 rw [hfx] at hf
 have meetOk : x.Ok -> y.Ok -> (x.meet y).Ok /\ (x.meet y).Le x /\ (x.meet y).Le y := by
  intro h1 h2
  obtain ⟨x0, x1, x2, x3, x4, x5⟩ := x
  obtain ⟨y0, y1, y2, y3, y4, y5⟩ := y
  simp only [Bd.Ok, Bd.Le, Bd.meet, Bd.map2] at *
  unfold mnI
  refine ⟨⟨?_, ?_, ?_, ?_, ?_, ?_⟩, ⟨?_, ?_, ?_, ?_, ?_, ?_⟩, ⟨?_, ?_, ?_, ?_, ?_, ?_⟩⟩ <;> split <;> omega
 have k1 : x.Ok -> y.Ok -> leB (a2H e (x.meet y)) (a2H e x) = true := fun h1 h2 => by
  obtain ⟨m1, m2, m3⟩ := meetOk h1 h2
  simp only [leB, decide_eq_true_eq]; exact b1H m1 h1 m2
 have k2 : x.Ok -> y.Ok -> leB (a2H e (x.meet y)) (a2H e y) = true := fun h1 h2 => by
  obtain ⟨m1, m2, m3⟩ := meetOk h1 h2
  simp only [leB, decide_eq_true_eq]; exact b1H m1 h2 m3
 have k3 : leB 0 (a2H e x) = true := by simp only [leB, decide_eq_true_eq]; exact b8M x
 have hmax : ∀ z : Bd, z.Ok -> leB (a2H e z) (a2H e b3N) = true := fun z hz => by
  simp only [leB, decide_eq_true_eq]
  refine b1H hz (by decide) ?_
  simp only [Bd.Ok] at hz
  simp only [Bd.Le, b3N]; omega
 have k4 := hmax x
 have k5 := hmax y
 have ck1 : ∀ z : Bd, z.check = if z.Ok then 0 else 4 := fun z => rfl
 have q : eqB 4 0 = false := rfl
 have q0 : eqB 0 0 = true := rfl
 rw [ck1] at c1 c2
 clear hv1 hmax meetOk hz hfx
 generalize a2H e x = z1 at *
 generalize a2H e y = z2 at *
 generalize a2H e (x.meet y) = z3 at *
 generalize a2H e b3N = z4 at *
 generalize x.meet y = mt at *
 obtain ⟨op, a, b', c, d, e', f, v, l⟩ := e
 simp only [IsE] at hrow
 obtain ⟨xx, rows, rfl, hx, hl⟩ := hrow
 obtain ⟨x1, x2, x3⟩ := a0E hx
 rw [a0e, hT]
 simp only [Q0, Sys.run]
 show ((a0i [.sh (.agg [_, _, _, _, _, _, _, _, _]), .sh (.agg [_, _, _, _, _, _]), .sh (.agg [_, _, _, _, _, _])] _).bind _) = _
 simp only [bpv, Bd.zero] at c1 c2 c3 v1 v2 v3 v4 ⊢
 simp only [a0i, a0d, a0b, Q4, Q0, Q1, Q2, Q3, if_true, x3]
 show (PT.ev _ a0B _).bind _ = _
 by_cases h1 : x.Ok
 case neg =>
  rw [if_neg h1] at c1
  simp -implicitDefEqProofs only [a0B, ↓reduceIte,eq_self,ξ1,ξ2,ξ3,ξ4,ξ5,ξ6,ξ7,ξ8,ξ9,ξa,ξb,ξc,ξd,ξe,ξf,ξg,ξh,Nat.reduceAdd,ξi,if_true,if_false,ξl,ξm,ξn,ξo,ξp,ξq,ξr,ξs,ξt,ξu,ξv,ξw,ξx,ξy,ξz,ξA,ξB,ξC,ξD,ξE, hf, ha, c1, q, a0n, or_true]
 rw [if_pos h1] at c1
 by_cases h2 : y.Ok
 case neg =>
  rw [if_neg h2] at c2
  simp -implicitDefEqProofs only [a0B, ↓reduceIte,eq_self,ξ1,ξ2,ξ3,ξ4,ξ5,ξ6,ξ7,ξ8,ξ9,ξa,ξb,ξc,ξd,ξe,ξf,ξg,ξh,Nat.reduceAdd,ξi,if_true,if_false,ξl,ξm,ξn,ξo,ξp,ξq,ξr,ξs,ξt,ξu,ξv,ξw,ξx,ξy,ξz,ξA,ξB,ξC,ξD,ξE, hf, ha, c1, c2, q, q0, a0n, or_true]
 rw [if_pos h2] at c2
 simp -implicitDefEqProofs only [a0B, ↓reduceIte,eq_self,ξ1,ξ2,ξ3,ξ4,ξ5,ξ6,ξ7,ξ8,ξ9,ξa,ξb,ξc,ξd,ξe,ξf,ξg,ξh,Nat.reduceAdd,ξi,if_true,if_false,ξl,ξm,ξn,ξo,ξp,ξq,ξr,ξs,ξt,ξu,ξv,ξw,ξx,ξy,ξz,ξA,ξB,ξC,ξD,ξE, hf, ha, c1, c2, c3, q0, v1, v2, v3, v4, hv2, k1 h1 h2, k2 h1 h2, k3, k4 h1, k5 h2, a0n, or_true]
end
end Go.Proofs.Ythmkfeiapdbojaa
set_option maxRecDepth 100000
namespace Go.Proofs.Ythmkfeiapdbojaa
open Go.Sx Go.Bun
theorem c3e {rows : List (List PV)} (h : ∀ r ∈ rows, ∃ e, IsE e r /\ a4z e /\ 9 * e.size <= PV.wts r) : ∃ l, a0O l rows /\ a9h l /\ l.length = rows.length /\ 9 * a1M l <= PV.wtss rows := by
 induction rows with
 | nil => exact ⟨[], by simp [a0O], by simp [a9h], rfl, by simp [a1M, PV.wtss]⟩
 | cons r rows ih =>
  obtain ⟨e, he, hw, hs⟩ := h r (by simp)
  obtain ⟨l, hl, hlw, hln, hls⟩ := ih (fun r hr => h r (by simp [hr]))
  exact ⟨e :: l, ⟨r, rows, rfl, he, hl⟩, ⟨hw, hlw⟩, by simp [hln], by simp only [a1M, PV.wtss]; omega⟩
theorem b3o {n : Nat} {ps : List PV} (h : a0J Try.prog n 23 ps) : ∃ b : Bd, ps = bpv b := by
 obtain ⟨m, _, h⟩ := b7n Try.underlying23 h
 simp only [List.replicate, a4n] at h
 obtain ⟨_, _, rfl, h1, _, _, rfl, h2, _, _, rfl, h3, _, _, rfl, h4, _, _, rfl, h5, _, _, rfl, h6, rfl⟩ := h
 obtain ⟨a, rfl, _⟩ := a2O (k := .i64) (by kernel_rfl) h1
 obtain ⟨b, rfl, _⟩ := a2O (k := .i64) (by kernel_rfl) h2
 obtain ⟨c, rfl, _⟩ := a2O (k := .i64) (by kernel_rfl) h3
 obtain ⟨d, rfl, _⟩ := a2O (k := .i64) (by kernel_rfl) h4
 obtain ⟨e, rfl, _⟩ := a2O (k := .i64) (by kernel_rfl) h5
 obtain ⟨f, rfl, _⟩ := a2O (k := .i64) (by kernel_rfl) h6
 exact ⟨⟨a, b, c, d, e, f⟩, rfl⟩
theorem c1U : ∀ (n : Nat) (ps : List PV), a0J Try.prog n 26 ps -> ∃ e, IsE e ps /\ a4z e /\ 9 * e.size <= PV.wts ps := by
 intro n
 induction n using Nat.strongRecOn with
 | _ n ih =>
 intro ps h
 obtain ⟨m, hm, h⟩ := b6F Try.underlying26 h
 simp only [List.map_cons, List.map_nil, a4n] at h
 obtain ⟨_, _, rfl, h1, _, _, rfl, h2, _, _, rfl, h3, _, _, rfl, h4, rfl⟩ := h
 obtain ⟨op, rfl, _⟩ := a2O (k := .i64) (by kernel_rfl) h1
 obtain ⟨w, rfl⟩ := b3o h2
 obtain ⟨v, rfl, _⟩ := a2O (k := .i64) (by kernel_rfl) h3
 obtain ⟨k, rows, hk, rfl, hr, hrl⟩ := b6O (e := 26) (by kernel_rfl) h4
 obtain ⟨l, hl, hw, hln, hs⟩ := c3e (fun r hr' => ih k (by omega) r (hr r hr'))
 have hc : Try.prog.cellsOf 26 = 9 := by kernel_rfl
 rw [hc]
 refine ⟨.node op w.a w.b w.c w.d w.e w.f v l, ?_, ?_, ?_⟩
 ·simp only [IsE]
  exact ⟨_, rows, rfl, by simp [PV.rowsOf], hl⟩
 ·simp only [a4z]; exact ⟨by omega, hw⟩
 ·simp only [Ex.size, bpv, Q3, Q2, Q1, PV.wts, PV.wt]; omega
end Go.Proofs.Ythmkfeiapdbojaa
