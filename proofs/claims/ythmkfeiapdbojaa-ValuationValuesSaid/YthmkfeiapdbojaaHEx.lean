/- Trees (bid expressions), and their depth. -/
import Derived.Test.YthmkfeiapdbojaaHSys
import Derived.Test.YthmkfeiapdbojaaHVd
import Derived.Test.YthmkfeiapdbojaaHTxe
set_option linter.unusedSimpArgs false
set_option linter.unusedVariables false
open Go.Sx.PT renaming ev → ξ1
open Go.Sx.BE renaming safe → ξ2, pe → ξ3, all → ξz
open Go.Sx.IE renaming pe → ξ4
open Go.Sx renaming PEnv.at → ξ5
open Go.Sx.PEnv renaming push → ξt
open List renaming getD_cons_zero → ξ6, getD_cons_succ → ξ7, getElem?_cons_zero → ξ8, getElem?_cons_succ → ξ9, drop_zero → ξf, length_cons → ξg, length_nil → ξh, take_succ_cons → ξm, take_zero → ξn, cons_append → ξu, nil_append → ξv, append_nil → ξw, map_cons → ξD, map_nil → ξE
open Go.Sx renaming a0g → ξa, a0h → ξb, a0b → ξc, a0f → ξd, a0c → ξo, a0a → ξp, a0d → ξq, a0T → ξF, a0W → ξG, a0N → ξH, a0K → ξI, a0X → ξJ, a0V → ξK, a0P → ξL, a0Y → ξM, a0J → ξN, a0O → ξO, a0j → ξP, a0Q → ξQ, a0U → ξR, a0s → ξS, a0M → ξT, a0B → ξU, a0t → ξV, a0u → ξW, a0v → ξX, a0L → ξY
open Nat renaming add_zero → ξe, le_refl → ξi
open Bool renaming false_eq_true → ξl, and_self → ξA, not_true → ξB, not_false → ξC
open Option renaming map_some → ξr, bind_some → ξs
open Go.Sx.SV renaming pvs → ξx, pv → ξy
open Option renaming bind_some → Q0, map_some → Q1
open List renaming nil_append → Q2, cons_append → Q3, append_nil → Q4, getD_cons_zero → Q5, getD_cons_succ → Q7, drop_succ_cons → Q9, drop_nil → Qa, getElem?_eq_getElem → Qb, getElem?_cons_zero → Qd, length_cons → Qe, drop_zero → Qk, length_nil → Qm, getElem?_cons_succ → Qn, mem_of_getElem? → Qp, map_cons → Qr, map_nil → Qs, length_append → Qt, drop_length → Qu, take_succ_cons → Qw, take_zero → Qy, append_assoc → Qz, drop_eq_getElem?_toList_append → QA, all_eq_true → QB
open Bool renaming false_eq_true → Q6, and_eq_true → Q8, eq_iff_iff → Qh, and_self → Qj
open Nat renaming zero_le → Qf, zero_add → Qg, lt_succ_of_le → Qq, le_refl → Qv
set_option maxRecDepth 10000
namespace Go.Proofs.Ythmkfeiapdbojaa
open Go.Sx
theorem c5j (σ : List MO) : ∀ (e : Ex) (row : List PV), IsE e row -> ∀ n, e.size + 2 <= n -> e.size <= 1000000 -> a0e Tab n b3z [.agg row] σ = some (.int .i64 e.depth, σ) := by
 intro e
 induction hN : e.size using Nat.strongRecOn generalizing e with
 | _ N ih =>
  subst hN
  intro row hrow n hn hbig
  obtain ⟨op, a, b, c, d, e', f, v, l⟩ := e
  simp only [IsE] at hrow
  obtain ⟨x, rows, rfl, hx, hl⟩ := hrow
  obtain ⟨x1, x2, x3⟩ := a0y hx
  simp only [Ex.size] at ih hn hbig
  obtain ⟨n, rfl⟩ : ∃ k, n = k + 1 := ⟨n - 1, by omega⟩
  have hlen := hl.length
  have loop : ∀ (fuel : Nat) (i : Nat) (acc : Int), l.length - i < fuel -> i <= l.length -> 0 <= acc -> acc <= a1P l ->
    expr_Depth_S.loop (a0e Tab n) fuel 0 { i := [acc, (rows.length : Int), (i : Int)], b := [], v := [x], m := σ, k := σ.length } = some (.int .i64 (a4X acc (l.drop i) + 1), σ) := by
   intro fuel
   induction fuel with
   | zero => intro i acc h; omega
   | succ fuel ihf =>
    intro i acc h1 h2 h3 h4
    rw [Sys.loop, show expr_Depth_S.loops[0]? = some _ from rfl]
    simp only [Q0, b3f]
    simp only [PT.ev, BE.safe, BE.pe, IE.pe, PEnv.at, Q5, Q7, if_true, a8f, decide_eq_true_eq]
    by_cases hlt : i < rows.length
    ·obtain ⟨e1, he1⟩ : ∃ e1, l[i]? = some e1 := ⟨_, Qb (by omega)⟩
     have hd := hl.split i
     rw [QA, he1] at hd
     simp only [Option.toList_some, List.singleton_append, a1e] at hd
     obtain ⟨r, rs, hd1, hd2, hd3⟩ := hd
     have hr : rows[i]? = some r := by
      have := congrArg (fun l => l[0]?) hd1
      simpa using this
     have hloc := a3z (off := 0) hx hr
     rw [if_pos hlt]
     simp only [x1, Qj, if_true]
     obtain ⟨op1, a1, b1, c1, d1, e1', f1, v1, l1⟩ := e1
     have hd2' := hd2
     simp only [IsE] at hd2'
     obtain ⟨y, rows1, rfl, hy, hl1⟩ := hd2'
     obtain ⟨y1, y2, y3⟩ := a0y hy
     have hsz := a2t (Qp he1)
     have hdl := Ex.depth_le (Ex.node op1 a1 b1 c1 d1 e1' f1 v1 l1)
     have hcall := ih _ (Qq hsz) _ rfl _ hd2 n (by omega) (by omega)
     have hi8 : (i : Int) + 1 <= 9223372036854775807 := by have := a2E l; omega
     have q1 : (leB 0 (i : Int) && ltB (i : Int) (rows.length : Int)) = true := by simp [leB, ltB]; omega
     have q2 : (leB (-9223372036854775808) ((i : Int) + 1) && leB ((i : Int) + 1) 9223372036854775807) = true := by simp [leB]; omega
     rw [if_pos q1]
     simp only [a0g, Qd, Q0, IE.pe, Q5, Q7, hloc, a0b, Qk, a0f, Qe, Qm, Nat.reduceAdd, Qv, if_true, Qw, Qy,
      a0c, Q1, y3, PEnv.push, Q3, Q2, SV.pvs, SV.pv, Qn, hcall, a0a, a0d, q2, BE.all, Q0]
     have := ihf (i + 1) (mxI acc (Ex.node op1 a1 b1 c1 d1 e1' f1 v1 l1).depth) (by omega) (by omega) (by simp only [mxI]; split <;> omega) (by simp only [mxI]; split <;> omega)
     have hcast : ((i + 1 : Nat) : Int) = (i : Int) + 1 := by omega
     rw [hcast] at this
     simp only [Qr, Qs, IE.pe, Q5, Q7]
     rw [this]
     have hdr : l.drop i = Ex.node op1 a1 b1 c1 d1 e1' f1 v1 l1 :: l.drop (i + 1) := by
      rw [QA (i := i), he1]; rfl
     rw [hdr, a4X]
    ·have hil : i = l.length := by omega
     rw [if_neg hlt]
     have q2 : (leB (-9223372036854775808) (acc + 1) && leB (acc + 1) 9223372036854775807) = true := by simp [leB]; omega
     simp only [Qj, if_true, q2, SV.pv, Q0, a0k, or_true, Q1, IE.pe, Q5]
     subst hil
     simp [a4X]
  have h0 := loop n 0 0 (by have := a2E l; omega) (Qf _) (Int.le_refl _) (by omega)
  simp only [a0e, b7Q, Q0, Sys.run]
  show ((a0i [.sh (.agg [_, _, _, _, _, _, _, _, _])] _).bind _) = _
  simp only [a0i, a0d, a0c, x3, if_true, Q1, Q0, Q4, Q2]
  show (PT.ev _ (.need (.is 0 0) _) _).bind _ = _
  simp only [PT.ev, BE.safe, BE.pe, PEnv.at, Q5, x2, if_true, IE.pe, Qr, Qs, BE.all, SV.pvs, SV.pv, Qd, Q0, Q1, x1]
  simpa [Ex.depth] using h0
end Go.Proofs.Ythmkfeiapdbojaa
set_option maxRecDepth 10000
namespace Go.Proofs.Ythmkfeiapdbojaa
open Go.Sx
mutual
def Ex.pre : Ex -> List Ex | .node op a b c d e f v l => .node op a b c d e f v l :: a3v l
def a3v : List Ex -> List Ex | [] => [] | e :: l => e.pre ++ a3v l
end
mutual
theorem Ex.pre_len : ∀ e : Ex, e.pre.length = e.size
 | .node _ _ _ _ _ _ _ _ l => by simp only [Ex.pre, Ex.size, Qe, c0r l]
theorem c0r : ∀ l : List Ex, (a3v l).length = a1P l
 | [] => rfl
 | e :: l => by simp only [a3v, a1P, Qt, Ex.pre_len e, c0r l]
end
def a1N (go : List Ex -> Ex -> Bool) : List Ex -> List Ex -> Option (List Ex × Ex)
 | _, [] => none
 | p, x :: l => if go p x then a1N go (p ++ [x]) l else some (p, x)
theorem a7L (go : List Ex -> Ex -> Bool) : ∀ (l p m : List Ex), a1N go p (l ++ m) = match a1N go p l with | none => a1N go (p ++ l) m | some r => some r
 | [], p, m => by simp [a1N]
 | x :: l, p, m => by
  simp only [Q3, a1N]
  split
  ·rw [a7L go l (p ++ [x]) m]; simp
  ·rfl
structure Visits (C : Nat) (caps : List PV) (n0 : Nat) (all : List Ex) (st : List Ex -> List MO) (go : List Ex -> Ex -> Bool) (fin : List Ex -> Ex -> List MO) : Prop where
 at_ : ∀ p x r row, all = p ++ x :: r -> IsE x row -> ∀ n, n0 <= n -> a0e Tab n C (.agg row :: caps) (st p) = some (.bool (go p x), if go p x then st (p ++ [x]) else fin p x)
def a4T (st : List Ex -> List MO) (fin : List Ex -> Ex -> List MO) (q : List Ex) : Option (List Ex × Ex) -> Option (PV × List MO)
 | none => some (.bool true, st q)
 | some (p, x) => some (.bool false, fin p x)
theorem b5J {C : Nat} {caps : List PV} {n0 : Nat} {all : List Ex} {st : List Ex -> List MO} {go : List Ex -> Ex -> Bool} {fin : List Ex -> Ex -> List MO} (hV : Visits C caps n0 all st go fin) :
  ∀ (e : Ex) (row : List PV) (p r : List Ex), all = p ++ e.pre ++ r -> IsE e row -> ∀ n, e.size + n0 + 2 <= n -> e.size <= 1000000 ->
   a0e Tab n a4S [.agg [.fn C caps], .agg row] (st p) = a4T st fin (p ++ e.pre) (a1N go p e.pre) := by
 intro e
 induction hN : e.size using Nat.strongRecOn generalizing e with
 | _ N ih =>
  subst hN
  intro row p0 r0 hall hrow n hn hbig
  obtain ⟨op, a, b, c, d, e', f, v, l⟩ := e
  have hrow0 := hrow
  simp only [IsE] at hrow
  obtain ⟨x, rows, rfl, hx, hl⟩ := hrow
  obtain ⟨x1, x2, x3⟩ := a0y hx
  simp only [Ex.size] at ih hn hbig
  obtain ⟨n, rfl⟩ : ∃ k, n = k + 1 := ⟨n - 1, by omega⟩
  have hlen := hl.length
  have hsl := a2E l
  simp only [Ex.pre] at hall ⊢
  generalize hx0 : Ex.node op a b c d e' f v l = x0 at *
  have loop : ∀ (fuel i : Nat) (k : Nat) (p r : List Ex), l.length - i < fuel -> i <= l.length -> all = p ++ a3v (l.drop i) ++ r ->
    expr_walker_walk_S.loop (a0e Tab n) fuel 0 { i := [(rows.length : Int), (i : Int)], b := [], v := [x, .fn C caps], m := st p, k := k } = a4T st fin (p ++ a3v (l.drop i)) (a1N go p (a3v (l.drop i))) := by
   intro fuel
   induction fuel with
   | zero => intro i k p r h; omega
   | succ fuel ihf =>
    intro i k p r h1 h2 h3
    rw [Sys.loop, show expr_walker_walk_S.loops[0]? = some a4F from rfl]
    simp only [Q0, a4F]
    simp only [PT.ev, BE.safe, BE.pe, IE.pe, PEnv.at, Q5, Q7, if_true, a8f, decide_eq_true_eq]
    by_cases hlt : i < rows.length
    ·obtain ⟨e1, he1⟩ : ∃ e1, l[i]? = some e1 := ⟨_, Qb (by omega)⟩
     have hdc := a5X he1
     have hd := hl.split i
     rw [hdc] at hd h3 ⊢
     simp only [a1e] at hd
     obtain ⟨r1, rs, hd1, hd2, hd3⟩ := hd
     have hr : rows[i]? = some r1 := by
      have := congrArg (fun l => l[0]?) hd1
      simpa using this
     have hloc := a3z (off := 0) hx hr
     rw [if_pos hlt]
     simp only [x1, Qj, if_true]
     have hsz := a2t (Qp he1)
     simp only [a3v] at h3 ⊢
     have hcall := ih _ (Qq hsz) _ rfl _ p (a3v (l.drop (i + 1)) ++ r) (by rw [h3]; simp) hd2 n (by omega) (by omega)
     obtain ⟨op1, a1, b1, c1, d1, e1', f1, v1, l1⟩ := e1
     have hd2' := hd2
     simp only [IsE] at hd2'
     obtain ⟨y, rows1, rfl, hy, hl1⟩ := hd2'
     obtain ⟨y1, y2, y3⟩ := a0y hy
     generalize hy0 : Ex.node op1 a1 b1 c1 d1 e1' f1 v1 l1 = y0 at *
     have hi8 : (i : Int) + 1 <= 9223372036854775807 := by omega
     have q1 : (leB 0 (i : Int) && ltB (i : Int) (rows.length : Int)) = true := by simp [leB, ltB]; omega
     have q2 : (leB (-9223372036854775808) ((i : Int) + 1) && leB ((i : Int) + 1) 9223372036854775807) = true := by simp [leB]; omega
     rw [if_pos q1]
     rw [a7L]
     simp only [a0g, Qd, Q0, IE.pe, Q5, Q7, hloc, a0b, Qk, a0f, Qe, Qm, Nat.reduceAdd, Qv, if_true, Qw, Qy,
      a0c, Q1, y3, PEnv.push, Q3, Q2, SV.pvs, SV.pv, Qn, hcall]
     cases hs : a1N go p y0.pre with
     | none =>
      simp only [a4T, Q0, a0a, a0d, a0c, Q1, Q3, Q2, Q4, BE.safe, BE.pe, Q5, Bool.not_true, Q6, if_false, if_true, Qj, Q7, IE.pe, q2, BE.all, SV.pvs, SV.pv, Qd, Qn]
      have := ihf (i + 1) k (p ++ y0.pre) r (by omega) (by omega) (by rw [h3]; simp)
      have hcast : ((i + 1 : Nat) : Int) = (i : Int) + 1 := by omega
      rw [hcast] at this
      simp only [Qr, Qs, IE.pe, Q5, Q7]
      rw [this, Qz]
      rfl
     | some pr =>
      obtain ⟨p', x'⟩ := pr
      simp only [a4T, Q0, a0a, a0d, a0c, Q1, Q3, Q2, Q4, BE.safe, BE.pe, Q5, Bool.not_false, if_true, SV.pv, a0k, true_or, IE.pe]
    ·have hil : i = l.length := by omega
     rw [if_neg hlt]
     subst hil
     simp [SV.pv, BE.safe, BE.pe, a0k, Qu, a3v, a1N, a4T]
  have hcall := hV.at_ p0 x0 (a3v l ++ r0) _ (by rw [hall]; simp) hrow0 n (by omega)
  simp only [a0e, b2d, Q0, Sys.run]
  show ((a0i [.sh (.agg [_]), .sh (.agg [_, _, _, _, _, _, _, _, _])] _).bind _) = _
  simp only [a0i, a0d, a0c, x3, show (PV.fn C caps).one = true from rfl, if_true, Q1, Q0, Q4, Q2, Q3]
  show (PT.ev _ a4K _).bind _ = _
  simp only [a4K, PT.ev, Qd, Qn, SV.pvs, SV.pv, Q0, Q1, IE.pe, Q5, Q7, Q3, Q2, hcall]
  simp only [a0a, a0d, a0c, Q1, Q0, PEnv.push, Q2, Q4, BE.safe, BE.pe, Q5, if_true]
  rw [show x0 :: a3v l = [x0] ++ a3v l from rfl, a7L]
  cases hg : go p0 x0 with
  | false =>
   simp [hg, SV.pv, BE.safe, BE.pe, a0k, a1N, a4T]
  | true =>
   simp only [Bool.not_true, Q6, if_false, PEnv.at, Q7, Q5, x2, if_true, BE.all, Q0, Q1, Qr, Qs, IE.pe, x1, a1N, hg]
   have := loop n 0 (st p0).length (p0 ++ [x0]) r0 (by omega) (Qf _) (by rw [hall]; simp)
   simp only [Qk, Qz] at this
   simpa using this
end Go.Proofs.Ythmkfeiapdbojaa
set_option maxRecDepth 100000
namespace Go.Proofs.Ythmkfeiapdbojaa
open Go.Sx
theorem c6i : expr_Size_1_S.ps = [.sh (.agg [.int .i64, .int .i64, .int .i64, .int .i64, .int .i64, .int .i64, .int .i64, .int .i64, .val]), .ptr] := rfl
theorem c1A : expr_Size_1_S.start = expr_Size_1_s := rfl
theorem c4f : expr_Size_1_S.prim = none := rfl
theorem c6c : expr_Size_1_S.rg = none := rfl
theorem a6V {α : Type} (l : List α) (a b : α) : (l ++ [a]).set l.length b = l ++ [b] := by simp
theorem c1u (σ : List MO) (all : List Ex) (hb : all.length <= 1000000) :
  Visits b2Z [.ref σ.length 0] 1 all (fun p => σ ++ [.cells [.int .i64 p.length] 3]) (fun _ _ => true) (fun _ _ => []) where
 at_ p x r row hall hrow n hn := by
  obtain ⟨n, rfl⟩ : ∃ k, n = k + 1 := ⟨n - 1, by omega⟩
  obtain ⟨op, a, b, c, d, e', f, v, l⟩ := x
  simp only [IsE] at hrow
  obtain ⟨x, rows, rfl, hx, hl⟩ := hrow
  obtain ⟨x1, x2, x3⟩ := a0y hx
  have hp : (p.length : Int) + 1 <= 1000000 := by
   have := congrArg List.length hall
   simp only [Qt, Qe] at this; omega
  simp only [a0e, b7C, Q0, Sys.run, c6i, c1A, c4f, c6c]
  simp only [a0i, a0d, a0c, x3, PV.isPtr, if_true, Q1, Q0, Q4, Q2, Q3]
  have hcast : (((p ++ [Ex.node op a b c d e' f v l]).length : Nat) : Int) = (p.length : Int) + 1 := by rw [Qt, List.length_singleton]; omega
  have h0 : (0 : Int) <= p.length := by omega
  rw [hcast]
  generalize (p.length : Int) = z at *
  have q2 : leB (-9223372036854775808) (z + 1) = true := by rw [a1J]; omega
  have q3 : leB (z + 1) 9223372036854775807 = true := by rw [a1J]; omega
  have hget : (σ ++ [MO.cells [.int .i64 z] 3])[σ.length]? = some (.cells [.int .i64 z] 3) := by simp
  simp -implicitDefEqProofs only [expr_Size_1_s, PT.ev, a0g, Qn, Qd, Q0, a0h, Nat.add_zero, a0b, Q6, if_false, hget, MO.list, Qk, a0f, Qe, Qm, Nat.reduceAdd, Qv, if_true,
   Qw, Qy, a0c, Q1, PEnv.push, Q4, Q3, Q2, BE.safe, BE.pe, IE.pe, Qj, Q7, Q5, q2, q3, SV.pvs, SV.pv, a1H, Qg, Q9, Qa, a6V, a0k, true_or]
theorem c6e (σ : List MO) (hσ : σ.all (MO.low σ.length) = true) (e : Ex) (row : List PV) (hrow : IsE e row) (n : Nat) (hn : e.size + 5 <= n) (hbig : e.size <= 1000000) :
  a0e Tab n b5p [.agg row] σ = some (.int .i64 e.size, σ) := by
 obtain ⟨n, rfl⟩ : ∃ k, n = k + 1 := ⟨n - 1, by omega⟩
 have hw := b5J (c1u σ e.pre (by rw [Ex.pre_len]; exact hbig)) e row [] [] (by simp) hrow n (by omega) hbig
 have hstop : ∀ (l p : List Ex), a1N (fun _ _ => true) p l = none := by
  intro l
  induction l with
  | nil => intro p; rfl
  | cons x l ih => intro p; simp [a1N, ih]
 rw [hstop] at hw
 simp only [a4T, Q2, Qm, Ex.pre_len, a4S, b2Z, Int.cast_ofNat_Int] at hw
 obtain ⟨op, a, b, c, d, e', f, v, l⟩ := e
 simp only [IsE] at hrow
 obtain ⟨x, rows, rfl, hx, hl⟩ := hrow
 obtain ⟨x1, x2, x3⟩ := a0y hx
 simp only [a0e, b9c, Q0, Sys.run]
 show ((a0i [.sh (.agg [_, _, _, _, _, _, _, _, _])] _).bind _) = _
 simp only [a0i, a0d, a0c, x3, if_true, Q1, Q0, Q4, Q2, Q3]
 show (PT.ev _ b0m _).bind _ = _
 have hσ' : ∀ x ∈ σ, MO.low σ.length x = true := QB.1 hσ
 simp [b0m, PT.ev, SV.pvs, SV.pv, IE.pe, PV.on, hw, a0a, a0d, a0c, PEnv.push, a0g, a0h, a0b, MO.list, a0f, a0k, PV.frz, a1H]
 rw [if_pos hσ']
 rfl
end Go.Proofs.Ythmkfeiapdbojaa
set_option maxRecDepth 100000
namespace Go.Proofs.Ythmkfeiapdbojaa
open Go.Sx
mutual
theorem IsE.lows (k : Nat) : ∀ {e : Ex} {row : List PV}, IsE e row -> PV.lows k row = true
 | .node op a b c d e f v l, row, h => by
  simp only [IsE] at h
  obtain ⟨x, rows, rfl, hx, hl⟩ := h
  have := a1e.lowss k hl
  have hxl : PV.low k x = true := by
   cases x <;> simp only [PV.rowsOf, reduceCtorEq] at hx <;> simp only [PV.low]
   split at hx
   ·simp only [Option.some.injEq] at hx; subst hx; exact this
   ·cases hx
  simp [PV.lows, PV.low, hxl]
theorem a1e.lowss (k : Nat) : ∀ {l : List Ex} {rows : List (List PV)}, a1e l rows -> PV.lowss k rows = true
 | [], rows, h => by simp only [a1e] at h; subst h; rfl
 | e :: l, rows, h => by
  simp only [a1e] at h
  obtain ⟨r, rs, rfl, h1, h2⟩ := h
  simp [PV.lowss, IsE.lows k h1, a1e.lowss k h2]
end
theorem a1e.append : ∀ {l m : List Ex} {rows rows' : List (List PV)}, a1e l rows -> a1e m rows' -> a1e (l ++ m) (rows ++ rows')
 | [], m, rows, rows', h, h' => by simp only [a1e] at h; subst h; exact h'
 | e :: l, m, rows, rows', h, h' => by
  simp only [a1e] at h
  obtain ⟨r, rs, rfl, h1, h2⟩ := h
  exact ⟨r, _, rfl, h1, a1e.append h2 h'⟩
theorem c9i (n : Nat) (rows : List (List PV)) : (PV.sl n rows).one = true := by rw [PV.one] <;> simp
theorem b3x (n : Nat) (rows : List (List PV)) : (PV.sl n rows).rowsOf n = some rows := by simp [PV.rowsOf]
theorem c8l (σ : List MO) : ∀ (e : Ex) (row : List PV), IsE e row -> ∀ n, e.size + 2 <= n -> e.size <= 1000000 -> ∃ rows, a0e Tab n a3i [.agg row] σ = some (.sl 9 rows, σ) /\ a1e e.pre rows := by
 intro e
 induction hN : e.size using Nat.strongRecOn generalizing e with
 | _ N ih =>
  subst hN
  intro row hrow n hn hbig
  obtain ⟨op, a, b, c, d, e', f, v, l⟩ := e
  have hrow0 := hrow
  simp only [IsE] at hrow
  obtain ⟨x, rows, rfl, hx, hl⟩ := hrow
  obtain ⟨x1, x2, x3⟩ := a0y hx
  simp only [Ex.size] at ih hn hbig
  obtain ⟨n, rfl⟩ : ∃ k, n = k + 1 := ⟨n - 1, by omega⟩
  have hlen := hl.length
  have loop : ∀ (fuel : Nat) (i : Nat) (done : List Ex) (acc : List (List PV)), l.length - i < fuel -> i <= l.length -> a1e done acc -> done.length + a1P (l.drop i) <= 1000000 ->
    ∃ out, saleroomref11_Preorder_S.loop (a0e Tab n) fuel 0 { i := [(i : Int), op, a, b, c, d, e', f, v], b := [], v := [.sl 9 acc, x], m := σ, k := σ.length } = some (.sl 9 out, σ) /\ a1e (done ++ a3v (l.drop i)) out := by
   intro fuel
   induction fuel with
   | zero => intro i done acc h; omega
   | succ fuel ihf =>
    intro i done acc h1 h2 h3 h4
    rw [Sys.loop, show saleroomref11_Preorder_S.loops[0]? = some a2N from rfl]
    simp -implicitDefEqProofs only [Q0, a2N, ↓reduceIte,eq_self,ξ1,ξ2,ξ3,ξ4,ξ5,ξ6,ξ7,ξ8,ξ9,ξa,ξb,ξc,ξd,ξe,ξf,ξg,ξh,Nat.reduceAdd,ξi,if_true,if_false,ξl,ξm,ξn,ξo,ξp,ξq,ξr,ξs,ξt,ξu,ξv,ξw,ξx,ξy,ξz,ξA,ξB,ξC,ξD,ξE, a8f, decide_eq_true_eq, x1, x2]
    by_cases hlt : i < rows.length
    ·obtain ⟨e1, he1⟩ : ∃ e1, l[i]? = some e1 := ⟨_, Qb (by omega)⟩
     have hdc := a5X he1
     have hd := hl.split i
     rw [hdc] at hd h4 ⊢
     simp only [a1e] at hd
     obtain ⟨r1, rs, hd1, hd2, hd3⟩ := hd
     have hr : rows[i]? = some r1 := by
      have := congrArg (fun l => l[0]?) hd1
      simpa using this
     have hloc := a3z (off := 0) hx hr
     rw [if_pos hlt]
     have hsz := a2t (Qp he1)
     simp only [a3v, a1P] at h4 ⊢
     obtain ⟨nrows, hcall, hnr⟩ := ih _ (Qq hsz) _ rfl _ hd2 n (by omega) (by omega)
     obtain ⟨op1, a1, b1, c1, d1, e1', f1, v1, l1⟩ := e1
     have hd2' := hd2
     simp only [IsE] at hd2'
     obtain ⟨y, rows1, rfl, hy, hl1⟩ := hd2'
     obtain ⟨y1, y2, y3⟩ := a0y hy
     generalize hy0 : Ex.node op1 a1 b1 c1 d1 e1' f1 v1 l1 = y0 at *
     have hsl := a2E l
     have q1 : (leB 0 (i : Int) && decide (i < rows.length)) = true := by simp [leB, hlt]
     have q2 : (leB (-9223372036854775808) ((i : Int) + 1) && leB ((i : Int) + 1) 9223372036854775807) = true := by simp [leB]; omega
     have h3l := h3.length
     have hnl := hnr.length
     rw [Ex.pre_len] at hnl
     have q4 : acc.length + nrows.length <= 1000000 := by omega
     obtain ⟨out, ho1, ho2⟩ := ihf (i + 1) (done ++ y0.pre) (acc ++ nrows) (by omega) (by omega) (h3.append hnr) (by rw [Qt, Ex.pre_len]; omega)
     rw [show ((i + 1 : Nat) : Int) = (i : Int) + 1 from by omega] at ho1
     refine ⟨out, ?_, by rw [<- Qz]; exact ho2⟩
     simp only [a3i] at hcall
     rw [if_pos q1]
     simp -implicitDefEqProofs only [↓reduceIte,eq_self,ξ1,ξ2,ξ3,ξ4,ξ5,ξ6,ξ7,ξ8,ξ9,ξa,ξb,ξc,ξd,ξe,ξf,ξg,ξh,Nat.reduceAdd,ξi,if_true,if_false,ξl,ξm,ξn,ξo,ξp,ξq,ξr,ξs,ξt,ξu,ξv,ξw,ξx,ξy,ξz,ξA,ξB,ξC,ξD,ξE, hloc, y3, hcall, c9i, b3x, a2l, if_pos q4, if_pos q2]
     exact ho1
    ·have hil : i = l.length := by omega
     rw [if_neg hlt]
     subst hil
     refine ⟨acc, ?_, by simpa [a3v] using h3⟩
     simp -implicitDefEqProofs only [↓reduceIte,eq_self,ξ1,ξ2,ξ3,ξ4,ξ5,ξ6,ξ7,ξ8,ξ9,ξa,ξb,ξc,ξd,ξe,ξf,ξg,ξh,Nat.reduceAdd,ξi,if_true,if_false,ξl,ξm,ξn,ξo,ξp,ξq,ξr,ξs,ξt,ξu,ξv,ξw,ξx,ξy,ξz,ξA,ξB,ξC,ξD,ξE, a0k, PV.frz, h3.lowss, if_pos]
     simp
  obtain ⟨out, ho1, ho2⟩ := loop n 0 [.node op a b c d e' f v l] [_] (by have := a2E l; omega) (Qf _) ⟨_, [], rfl, hrow0, rfl⟩ (by simp only [Qe, Qm, Qk]; omega)
  refine ⟨out, ?_, by simpa [Ex.pre] using ho2⟩
  rw [<- ho1]
  simp only [a0e, a7B, Q0, Sys.run]
  show ((a0i [.sh (.agg [_, _, _, _, _, _, _, _, _])] _).bind _) = _
  simp only [a0i, a0d, a0c, Q1, Q0, Q4, Q2, Q3, if_true, x3]
  show (PT.ev _ a3b _).bind _ = _
  simp -implicitDefEqProofs only [a3b, ↓reduceIte,eq_self,ξ1,ξ2,ξ3,ξ4,ξ5,ξ6,ξ7,ξ8,ξ9,ξa,ξb,ξc,ξd,ξe,ξf,ξg,ξh,Nat.reduceAdd,ξi,if_true,if_false,ξl,ξm,ξn,ξo,ξp,ξq,ξr,ξs,ξt,ξu,ξv,ξw,ξx,ξy,ξz,ξA,ξB,ξC,ξD,ξE, a2l, List.mapM_cons, List.mapM_nil]
  simp
end Go.Proofs.Ythmkfeiapdbojaa
set_option maxRecDepth 100000
namespace Go.Proofs.Ythmkfeiapdbojaa
open Go.Sx
end Go.Proofs.Ythmkfeiapdbojaa
set_option maxRecDepth 100000
namespace Go.Proofs.Ythmkfeiapdbojaa
open Go.Sx
theorem c3e (σ : List MO) : ∀ (e : Ex) (row : List PV), IsE e row -> ∀ n, e.size + 2 <= n -> e.size <= 1000000 -> a0e Tab n a4e [.agg row] σ = some (.int .i64 e.depth, σ) := by
 intro e
 induction hN : e.size using Nat.strongRecOn generalizing e with
 | _ N ih =>
  subst hN
  intro row hrow n hn hbig
  obtain ⟨op, a, b, c, d, e', f, v, l⟩ := e
  simp only [IsE] at hrow
  obtain ⟨x, rows, rfl, hx, hl⟩ := hrow
  obtain ⟨x1, x2, x3⟩ := a0y hx
  simp only [Ex.size] at ih hn hbig
  obtain ⟨n, rfl⟩ : ∃ k, n = k + 1 := ⟨n - 1, by omega⟩
  have hlen := hl.length
  have hsl := a2E l
  have loop : ∀ (fuel : Nat) (i : Nat) (acc : Int), l.length - i < fuel -> i <= l.length -> 0 <= acc -> acc <= a1P l ->
    saleroomref11_Depth_S.loop (a0e Tab n) fuel 0 { i := [acc, (i : Int), op, a, b, c, d, e', f, v], b := [], v := [x], m := σ, k := σ.length } = some (.int .i64 (a4X acc (l.drop i) + 1), σ) := by
   intro fuel
   induction fuel with
   | zero => intro i acc h; omega
   | succ fuel ihf =>
    intro i acc h1 h2 h3 h4
    rw [Sys.loop, show saleroomref11_Depth_S.loops[0]? = some a3x from rfl]
    simp -implicitDefEqProofs only [Q0, a3x, ↓reduceIte,eq_self,ξ1,ξ2,ξ3,ξ4,ξ5,ξ6,ξ7,ξ8,ξ9,ξa,ξb,ξc,ξd,ξe,ξf,ξg,ξh,Nat.reduceAdd,ξi,if_true,if_false,ξl,ξm,ξn,ξo,ξp,ξq,ξr,ξs,ξt,ξu,ξv,ξw,ξx,ξy,ξz,ξA,ξB,ξC,ξD,ξE, a8f, decide_eq_true_eq, x1, x2]
    by_cases hlt : i < rows.length
    ·obtain ⟨e1, he1⟩ : ∃ e1, l[i]? = some e1 := ⟨_, Qb (by omega)⟩
     have hdc := a5X he1
     have hd := hl.split i
     rw [hdc] at hd ⊢
     simp only [a1e] at hd
     obtain ⟨r1, rs, hd1, hd2, hd3⟩ := hd
     have hr : rows[i]? = some r1 := by
      have := congrArg (fun l => l[0]?) hd1
      simpa using this
     have hloc := a3z (off := 0) hx hr
     rw [if_pos hlt]
     have hsz := a2t (Qp he1)
     have hdl := Ex.depth_le e1
     have hcall := ih _ (Qq hsz) _ rfl _ hd2 n (by omega) (by omega)
     obtain ⟨op1, a1, b1, c1, d1, e1', f1, v1, l1⟩ := e1
     have hd2' := hd2
     simp only [IsE] at hd2'
     obtain ⟨y, rows1, rfl, hy, hl1⟩ := hd2'
     obtain ⟨y1, y2, y3⟩ := a0y hy
     generalize hy0 : Ex.node op1 a1 b1 c1 d1 e1' f1 v1 l1 = y0 at *
     have q1 : (leB 0 (i : Int) && decide (i < rows.length)) = true := by simp [leB, hlt]
     have q2 : (leB (-9223372036854775808) ((i : Int) + 1) && leB ((i : Int) + 1) 9223372036854775807) = true := by simp [leB]; omega
     have := ihf (i + 1) (mxI acc y0.depth) (by omega) (by omega) (by simp only [mxI]; split <;> omega) (by simp only [mxI]; split <;> omega)
     rw [show ((i + 1 : Nat) : Int) = (i : Int) + 1 from by omega] at this
     simp only [a4e] at hcall
     rw [if_pos q1]
     simp -implicitDefEqProofs only [↓reduceIte,eq_self,ξ1,ξ2,ξ3,ξ4,ξ5,ξ6,ξ7,ξ8,ξ9,ξa,ξb,ξc,ξd,ξe,ξf,ξg,ξh,Nat.reduceAdd,ξi,if_true,if_false,ξl,ξm,ξn,ξo,ξp,ξq,ξr,ξs,ξt,ξu,ξv,ξw,ξx,ξy,ξz,ξA,ξB,ξC,ξD,ξE, hloc, y3, hcall, if_pos q2]
     exact this
    ·have hil : i = l.length := by omega
     rw [if_neg hlt]
     have q2 : (leB (-9223372036854775808) (acc + 1) && leB (acc + 1) 9223372036854775807) = true := by simp [leB]; omega
     subst hil
     simp -implicitDefEqProofs only [↓reduceIte,eq_self,ξ1,ξ2,ξ3,ξ4,ξ5,ξ6,ξ7,ξ8,ξ9,ξa,ξb,ξc,ξd,ξe,ξf,ξg,ξh,Nat.reduceAdd,ξi,if_true,if_false,ξl,ξm,ξn,ξo,ξp,ξq,ξr,ξs,ξt,ξu,ξv,ξw,ξx,ξy,ξz,ξA,ξB,ξC,ξD,ξE, a0k, or_true, if_pos q2, Qu, a4X]
  have h0 := loop n 0 0 (by omega) (Qf _) (Int.le_refl _) (by omega)
  simp only [a0e, a9v, Q0, Sys.run]
  show ((a0i [.sh (.agg [_, _, _, _, _, _, _, _, _])] _).bind _) = _
  simp only [a0i, a0d, a0c, Q1, Q0, Q4, Q2, Q3, if_true, x3]
  show (PT.ev _ a3Y _).bind _ = _
  simp -implicitDefEqProofs only [a3Y, ↓reduceIte,eq_self,ξ1,ξ2,ξ3,ξ4,ξ5,ξ6,ξ7,ξ8,ξ9,ξa,ξb,ξc,ξd,ξe,ξf,ξg,ξh,Nat.reduceAdd,ξi,if_true,if_false,ξl,ξm,ξn,ξo,ξp,ξq,ξr,ξs,ξt,ξu,ξv,ξw,ξx,ξy,ξz,ξA,ξB,ξC,ξD,ξE]
  simpa [Ex.depth] using h0
end Go.Proofs.Ythmkfeiapdbojaa
set_option maxRecDepth 100000
namespace Go.Proofs.Ythmkfeiapdbojaa
open Go.Sx
end Go.Proofs.Ythmkfeiapdbojaa
set_option maxRecDepth 100000
namespace Go.Proofs.Ythmkfeiapdbojaa
open Go.Sx
structure W6 where
 (a b c d e f : Int)
def W6.mx (x y : W6) : W6 := ⟨mxI x.a y.a, mxI x.b y.b, mxI x.c y.c, mxI x.d y.d, mxI x.e y.e, mxI x.f y.f⟩
def W6.pv (x : W6) : List PV := [.int .i64 x.a, .int .i64 x.b, .int .i64 x.c, .int .i64 x.d, .int .i64 x.e, .int .i64 x.f]
def Ex.want : Ex -> W6 | .node _ a b c d e f _ _ => ⟨a, b, c, d, e, f⟩
end Go.Proofs.Ythmkfeiapdbojaa
set_option maxRecDepth 100000
namespace Go.Proofs.Ythmkfeiapdbojaa
open Go.Sx
end Go.Proofs.Ythmkfeiapdbojaa
set_option maxRecDepth 100000
namespace Go.Proofs.Ythmkfeiapdbojaa
open Go.Sx
def W6.ok (w : W6) : Prop := 0 <= w.a /\ w.a <= 4 /\ 0 <= w.b /\ w.b <= 4 /\ 0 <= w.c /\ w.c <= 4 /\ 0 <= w.d /\ w.d <= 4 /\ 0 <= w.e /\ w.e <= 4 /\ 0 <= w.f /\ w.f <= 4
instance (w : W6) : Decidable w.ok := by unfold W6.ok; infer_instance
def W6.zero (w : W6) : Prop := w.a = 0 /\ w.b = 0 /\ w.c = 0 /\ w.d = 0 /\ w.e = 0 /\ w.f = 0
def a4B (w : W6) : Int := if w.ok then 0 else 4
def W6.tot (w : W6) : Int := w.a + w.b + w.c + w.d + w.e + w.f
theorem b1Z (σ : List MO) (w : W6) (n : Nat) (hn : 1 <= n) : a0e Tab n b0Y [.agg w.pv] σ = some (.int .i64 (a4B w), σ) := by
 obtain ⟨n, rfl⟩ : ∃ k, n = k + 1 := ⟨n - 1, by omega⟩
 simp only [a0e, b6j, Q0, Sys.run, W6.pv]
 show ((a0i [.sh (.agg [_, _, _, _, _, _])] _).bind _) = _
 simp only [a0i, a0d, a0c, Q1, Q0, Q4, Q2, Q3, if_true]
 show (PT.ev _ a6U _).bind _ = _
 simp -implicitDefEqProofs only [a6U, ↓reduceIte,eq_self,ξ1,ξ2,ξ3,ξ4,ξ5,ξ6,ξ7,ξ8,ξ9,ξa,ξb,ξc,ξd,ξe,ξf,ξg,ξh,Nat.reduceAdd,ξi,if_true,if_false,ξl,ξm,ξn,ξo,ξp,ξq,ξr,ξs,ξt,ξu,ξv,ξw,ξx,ξy,ξz,ξA,ξB,ξC,ξD,ξE, a0k, or_true]
 obtain ⟨a, b, c, d, e, f⟩ := w
 simp only [a1k, a4B]
 by_cases hok : (⟨a, b, c, d, e, f⟩ : W6).ok
 ·rw [if_pos hok]
  simp only [W6.ok] at hok
  repeat rw [if_neg (by omega)]
  rfl
 ·rw [if_neg hok]
  simp only [W6.ok] at hok
  by_cases h1 : a < 0
  ·rw [if_pos h1]; rfl
  rw [if_neg h1]
  by_cases h2 : 4 < a
  ·rw [if_pos h2]; rfl
  rw [if_neg h2]
  by_cases h3 : b < 0
  ·rw [if_pos h3]; rfl
  rw [if_neg h3]
  by_cases h4 : 4 < b
  ·rw [if_pos h4]; rfl
  rw [if_neg h4]
  by_cases h5 : c < 0
  ·rw [if_pos h5]; rfl
  rw [if_neg h5]
  by_cases h6 : 4 < c
  ·rw [if_pos h6]; rfl
  rw [if_neg h6]
  by_cases h7 : d < 0
  ·rw [if_pos h7]; rfl
  rw [if_neg h7]
  by_cases h8 : 4 < d
  ·rw [if_pos h8]; rfl
  rw [if_neg h8]
  by_cases h9 : e < 0
  ·rw [if_pos h9]; rfl
  rw [if_neg h9]
  by_cases h10 : 4 < e
  ·rw [if_pos h10]; rfl
  rw [if_neg h10]
  by_cases h11 : f < 0
  ·rw [if_pos h11]; rfl
  rw [if_neg h11]
  by_cases h12 : 4 < f
  ·rw [if_pos h12]; rfl
  rw [if_neg h12]
  exfalso; omega
theorem b5o (σ : List MO) (w : W6) (n : Nat) (hn : 1 <= n) : a0e Tab n a6g [.agg w.pv] σ = some (.int .i64 (a4B w), σ) := by
 obtain ⟨n, rfl⟩ : ∃ k, n = k + 1 := ⟨n - 1, by omega⟩
 simp only [a0e, a9q, Q0, Sys.run, W6.pv]
 show ((a0i [.sh (.agg [_, _, _, _, _, _])] _).bind _) = _
 simp only [a0i, a0d, a0c, Q1, Q0, Q4, Q2, Q3, if_true]
 show (PT.ev _ a4g _).bind _ = _
 simp -implicitDefEqProofs only [a4g, ↓reduceIte,eq_self,ξ1,ξ2,ξ3,ξ4,ξ5,ξ6,ξ7,ξ8,ξ9,ξa,ξb,ξc,ξd,ξe,ξf,ξg,ξh,Nat.reduceAdd,ξi,if_true,if_false,ξl,ξm,ξn,ξo,ξp,ξq,ξr,ξs,ξt,ξu,ξv,ξw,ξx,ξy,ξz,ξA,ξB,ξC,ξD,ξE, a0k, or_true]
 obtain ⟨a, b, c, d, e, f⟩ := w
 simp only [a1k, a4B]
 by_cases hok : (⟨a, b, c, d, e, f⟩ : W6).ok
 ·rw [if_pos hok]
  simp only [W6.ok] at hok
  repeat rw [if_neg (by omega)]
  rfl
 ·rw [if_neg hok]
  simp only [W6.ok] at hok
  by_cases h1 : a < 0
  ·rw [if_pos h1]; rfl
  rw [if_neg h1]
  by_cases h2 : 4 < a
  ·rw [if_pos h2]; rfl
  rw [if_neg h2]
  by_cases h3 : b < 0
  ·rw [if_pos h3]; rfl
  rw [if_neg h3]
  by_cases h4 : 4 < b
  ·rw [if_pos h4]; rfl
  rw [if_neg h4]
  by_cases h5 : c < 0
  ·rw [if_pos h5]; rfl
  rw [if_neg h5]
  by_cases h6 : 4 < c
  ·rw [if_pos h6]; rfl
  rw [if_neg h6]
  by_cases h7 : d < 0
  ·rw [if_pos h7]; rfl
  rw [if_neg h7]
  by_cases h8 : 4 < d
  ·rw [if_pos h8]; rfl
  rw [if_neg h8]
  by_cases h9 : e < 0
  ·rw [if_pos h9]; rfl
  rw [if_neg h9]
  by_cases h10 : 4 < e
  ·rw [if_pos h10]; rfl
  rw [if_neg h10]
  by_cases h11 : f < 0
  ·rw [if_pos h11]; rfl
  rw [if_neg h11]
  by_cases h12 : 4 < f
  ·rw [if_pos h12]; rfl
  rw [if_neg h12]
  exfalso; omega
theorem c4I (σ : List MO) (w : W6) (hw : w.ok) (n : Nat) (hn : 1 <= n) : a0e Tab n b1f [.agg w.pv] σ = some (.int .i64 w.tot, σ) := by
 obtain ⟨n, rfl⟩ : ∃ k, n = k + 1 := ⟨n - 1, by omega⟩
 simp only [a0e, b6m, Q0, Sys.run, W6.pv]
 show ((a0i [.sh (.agg [_, _, _, _, _, _])] _).bind _) = _
 simp only [a0i, a0d, a0c, Q1, Q0, Q4, Q2, Q3, if_true]
 show (PT.ev _ a6W _).bind _ = _
 obtain ⟨a, b, c, d, e, f⟩ := w
 simp only [W6.ok] at hw
 simp -implicitDefEqProofs only [a6W, ↓reduceIte,eq_self,ξ1,ξ2,ξ3,ξ4,ξ5,ξ6,ξ7,ξ8,ξ9,ξa,ξb,ξc,ξd,ξe,ξf,ξg,ξh,Nat.reduceAdd,ξi,if_true,if_false,ξl,ξm,ξn,ξo,ξp,ξq,ξr,ξs,ξt,ξu,ξv,ξw,ξx,ξy,ξz,ξA,ξB,ξC,ξD,ξE, a0k, or_true, Q8, a1J, W6.tot]
 repeat rw [if_pos (by omega)]
 rfl
theorem c3A (σ : List MO) (w : W6) (hw : w.ok) (n : Nat) (hn : 1 <= n) : a0e Tab n a5V [.agg w.pv] σ = some (.int .i64 w.tot, σ) := by
 obtain ⟨n, rfl⟩ : ∃ k, n = k + 1 := ⟨n - 1, by omega⟩
 simp only [a0e, a9m, Q0, Sys.run, W6.pv]
 show ((a0i [.sh (.agg [_, _, _, _, _, _])] _).bind _) = _
 simp only [a0i, a0d, a0c, Q1, Q0, Q4, Q2, Q3, if_true]
 show (PT.ev _ a3P _).bind _ = _
 obtain ⟨a, b, c, d, e, f⟩ := w
 simp only [W6.ok] at hw
 simp -implicitDefEqProofs only [a3P, ↓reduceIte,eq_self,ξ1,ξ2,ξ3,ξ4,ξ5,ξ6,ξ7,ξ8,ξ9,ξa,ξb,ξc,ξd,ξe,ξf,ξg,ξh,Nat.reduceAdd,ξi,if_true,if_false,ξl,ξm,ξn,ξo,ξp,ξq,ξr,ξs,ξt,ξu,ξv,ξw,ξx,ξy,ξz,ξA,ξB,ξC,ξD,ξE, a0k, or_true, Q8, a1J, W6.tot]
 repeat rw [if_pos (by omega)]
 rfl
def Ex.len : Ex -> Nat | .node _ _ _ _ _ _ _ _ l => l.length
def b2M (op a b c d e f v n : Int) : Prop := (op = 1 /\ n = 0) \/ ((op = 2 \/ op = 3) /\ 1 <= n /\ n <= 8 /\ a = 0 /\ b = 0 /\ c = 0 /\ d = 0 /\ e = 0 /\ f = 0 /\ v = 0) \/ (op = 4 /\ n = 1) \/ (op = 5 /\ n = 1 /\ a = 0 /\ b = 0 /\ c = 0 /\ d = 0 /\ e = 0 /\ f = 0)
instance (op a b c d e f v n : Int) : Decidable (b2M op a b c d e f v n) := by unfold b2M; infer_instance
def Ex.form : Ex -> Bool | .node op a b c d e f v l => decide (b2M op a b c d e f v l.length)
def b2f (op v : Int) (w : W6) : Prop := op = 2 \/ op = 3 \/ (1 <= v /\ v <= 1000000 /\ (op = 5 \/ (w.ok /\ 1 <= w.tot)))
instance (op v : Int) (w : W6) : Decidable (b2f op v w) := by unfold b2f; infer_instance
def Ex.rng : Ex -> Bool | .node op a b c d e f v _ => decide (b2f op v ⟨a, b, c, d, e, f⟩)
theorem c6N (σ : List MO) (e : Ex) (row : List PV) (hrow : IsE e row) (n : Nat) (hn : 1 <= n) : a0e Tab n b5B [.agg row] σ = some (.bool e.form, σ) := by
 obtain ⟨n, rfl⟩ : ∃ k, n = k + 1 := ⟨n - 1, by omega⟩
 obtain ⟨op, a, b, c, d, e', f, v, l⟩ := e
 simp only [IsE] at hrow
 obtain ⟨x, rows, rfl, hx, hl⟩ := hrow
 obtain ⟨x1, x2, x3⟩ := a0y hx
 have hlen := hl.length
 simp only [Ex.form]
 rw [<- hlen]
 generalize hz : (rows.length : Int) = z at *
 simp only [a0e, b9d, Q0, Sys.run]
 show ((a0i [.sh (.agg [_, _, _, _, _, _, _, _, _])] _).bind _) = _
 simp only [a0i, a0d, a0c, Q1, Q0, Q4, Q2, Q3, if_true, x3]
 show (PT.ev _ b0t _).bind _ = _
 simp -implicitDefEqProofs only [b0t, ↓reduceIte,eq_self,ξ1,ξ2,ξ3,ξ4,ξ5,ξ6,ξ7,ξ8,ξ9,ξa,ξb,ξc,ξd,ξe,ξf,ξg,ξh,Nat.reduceAdd,ξi,if_true,if_false,ξl,ξm,ξn,ξo,ξp,ξq,ξr,ξs,ξt,ξu,ξv,ξw,ξx,ξy,ξz,ξA,ξB,ξC,ξD,ξE, a0k, or_true, x1, x2]
 simp only [a2e, a1J, Q8]
 repeat' split
 all_goals (simp only [Q0]; congr 3; rw [Qh, decide_eq_true_iff]; simp only [Q8, a2e, decide_eq_true_eq, b2M, Q6, false_iff]; omega)
theorem c3r (σ : List MO) (e : Ex) (row : List PV) (hrow : IsE e row) (n : Nat) (hn : 1 <= n) : a0e Tab n a5C [.agg row] σ = some (.bool e.form, σ) := by
 obtain ⟨n, rfl⟩ : ∃ k, n = k + 1 := ⟨n - 1, by omega⟩
 obtain ⟨op, a, b, c, d, e', f, v, l⟩ := e
 simp only [IsE] at hrow
 obtain ⟨x, rows, rfl, hx, hl⟩ := hrow
 obtain ⟨x1, x2, x3⟩ := a0y hx
 have hlen := hl.length
 simp only [Ex.form]
 rw [<- hlen]
 generalize hz : (rows.length : Int) = z at *
 simp only [a0e, a9j, Q0, Sys.run]
 show ((a0i [.sh (.agg [_, _, _, _, _, _, _, _, _])] _).bind _) = _
 simp only [a0i, a0d, a0c, Q1, Q0, Q4, Q2, Q3, if_true, x3]
 show (PT.ev _ a3O _).bind _ = _
 simp -implicitDefEqProofs only [a3O, ↓reduceIte,eq_self,ξ1,ξ2,ξ3,ξ4,ξ5,ξ6,ξ7,ξ8,ξ9,ξa,ξb,ξc,ξd,ξe,ξf,ξg,ξh,Nat.reduceAdd,ξi,if_true,if_false,ξl,ξm,ξn,ξo,ξp,ξq,ξr,ξs,ξt,ξu,ξv,ξw,ξx,ξy,ξz,ξA,ξB,ξC,ξD,ξE, a0k, or_true, x1, x2]
 simp only [a2e, a1J, Q8]
 repeat' split
 all_goals (simp only [Q0]; congr 3; rw [Qh, decide_eq_true_iff]; simp only [Q8, a2e, decide_eq_true_eq, b2M, Q6, false_iff]; omega)
theorem c4d (σ : List MO) (e : Ex) (row : List PV) (hrow : IsE e row) (n : Nat) (hn : 2 <= n) : a0e Tab n b3g [.agg row] σ = some (.bool e.rng, σ) := by
 obtain ⟨n, rfl⟩ : ∃ k, n = k + 1 := ⟨n - 1, by omega⟩
 obtain ⟨op, a, b, c, d, e', f, v, l⟩ := e
 simp only [IsE] at hrow
 obtain ⟨x, rows, rfl, hx, hl⟩ := hrow
 obtain ⟨x1, x2, x3⟩ := a0y hx
 have c1 := b1Z σ ⟨a, b, c, d, e', f⟩ n (by omega)
 have c2 := fun h => c4I σ ⟨a, b, c, d, e', f⟩ h n (by omega)
 simp only [Ex.rng]
 generalize hw : (⟨a, b, c, d, e', f⟩ : W6) = w at *
 have hpv : w.pv = [.int .i64 a, .int .i64 b, .int .i64 c, .int .i64 d, .int .i64 e', .int .i64 f] := by subst hw; rfl
 simp only [b0Y, b1f, hpv] at c1 c2
 simp only [a0e, b7a, Q0, Sys.run]
 show ((a0i [.sh (.agg [_, _, _, _, _, _, _, _, _])] _).bind _) = _
 simp only [a0i, a0d, a0c, Q1, Q0, Q4, Q2, Q3, if_true, x3]
 show (PT.ev _ a7H _).bind _ = _
 simp -implicitDefEqProofs only [a7H, ↓reduceIte,eq_self,ξ1,ξ2,ξ3,ξ4,ξ5,ξ6,ξ7,ξ8,ξ9,ξa,ξb,ξc,ξd,ξe,ξf,ξg,ξh,Nat.reduceAdd,ξi,if_true,if_false,ξl,ξm,ξn,ξo,ξp,ξq,ξr,ξs,ξt,ξu,ξv,ξw,ξx,ξy,ξz,ξA,ξB,ξC,ξD,ξE, a0k, or_true, c1]
 by_cases hok : w.ok
 ·simp -implicitDefEqProofs only [↓reduceIte,eq_self,ξ1,ξ2,ξ3,ξ4,ξ5,ξ6,ξ7,ξ8,ξ9,ξa,ξb,ξc,ξd,ξe,ξf,ξg,ξh,Nat.reduceAdd,ξi,if_true,if_false,ξl,ξm,ξn,ξo,ξp,ξq,ξr,ξs,ξt,ξu,ξv,ξw,ξx,ξy,ξz,ξA,ξB,ξC,ξD,ξE, a0k, or_true, c2 hok, a4B, if_pos hok, a3e, a2e, a1k]
  repeat' split
  all_goals (simp only [Q0]; congr 3; rw [Qh, decide_eq_true_iff]; simp only [Q8, a2e, a1k, decide_eq_true_eq, b2f, Q6, false_iff, true_iff, hok, true_and]; omega)
 ·have h4 : eqB 4 0 = false := rfl
  simp -implicitDefEqProofs only [↓reduceIte,eq_self,ξ1,ξ2,ξ3,ξ4,ξ5,ξ6,ξ7,ξ8,ξ9,ξa,ξb,ξc,ξd,ξe,ξf,ξg,ξh,Nat.reduceAdd,ξi,if_true,if_false,ξl,ξm,ξn,ξo,ξp,ξq,ξr,ξs,ξt,ξu,ξv,ξw,ξx,ξy,ξz,ξA,ξB,ξC,ξD,ξE, a0k, or_true, a4B, if_neg hok, h4, a2e, a1k]
  repeat' split
  all_goals (simp only [Q0]; congr 3; rw [Qh, decide_eq_true_iff]; simp only [Q8, a2e, a1k, decide_eq_true_eq, b2f, Q6, false_iff, true_iff, hok, false_and, and_false, or_false]; omega)
theorem c1I (σ : List MO) (e : Ex) (row : List PV) (hrow : IsE e row) (n : Nat) (hn : 2 <= n) : a0e Tab n a5w [.agg row] σ = some (.bool e.rng, σ) := by
 obtain ⟨n, rfl⟩ : ∃ k, n = k + 1 := ⟨n - 1, by omega⟩
 obtain ⟨op, a, b, c, d, e', f, v, l⟩ := e
 simp only [IsE] at hrow
 obtain ⟨x, rows, rfl, hx, hl⟩ := hrow
 obtain ⟨x1, x2, x3⟩ := a0y hx
 have c1 := b5o σ ⟨a, b, c, d, e', f⟩ n (by omega)
 have c2 := fun h => c3A σ ⟨a, b, c, d, e', f⟩ h n (by omega)
 simp only [Ex.rng]
 generalize hw : (⟨a, b, c, d, e', f⟩ : W6) = w at *
 have hpv : w.pv = [.int .i64 a, .int .i64 b, .int .i64 c, .int .i64 d, .int .i64 e', .int .i64 f] := by subst hw; rfl
 simp only [a6g, a5V, hpv] at c1 c2
 simp only [a0e, a8I, Q0, Sys.run]
 show ((a0i [.sh (.agg [_, _, _, _, _, _, _, _, _])] _).bind _) = _
 simp only [a0i, a0d, a0c, Q1, Q0, Q4, Q2, Q3, if_true, x3]
 show (PT.ev _ a3K _).bind _ = _
 simp -implicitDefEqProofs only [a3K, ↓reduceIte,eq_self,ξ1,ξ2,ξ3,ξ4,ξ5,ξ6,ξ7,ξ8,ξ9,ξa,ξb,ξc,ξd,ξe,ξf,ξg,ξh,Nat.reduceAdd,ξi,if_true,if_false,ξl,ξm,ξn,ξo,ξp,ξq,ξr,ξs,ξt,ξu,ξv,ξw,ξx,ξy,ξz,ξA,ξB,ξC,ξD,ξE, a0k, or_true, c1]
 by_cases hok : w.ok
 ·simp -implicitDefEqProofs only [↓reduceIte,eq_self,ξ1,ξ2,ξ3,ξ4,ξ5,ξ6,ξ7,ξ8,ξ9,ξa,ξb,ξc,ξd,ξe,ξf,ξg,ξh,Nat.reduceAdd,ξi,if_true,if_false,ξl,ξm,ξn,ξo,ξp,ξq,ξr,ξs,ξt,ξu,ξv,ξw,ξx,ξy,ξz,ξA,ξB,ξC,ξD,ξE, a0k, or_true, c2 hok, a4B, if_pos hok, a3e, a2e, a1J]
  repeat' split
  all_goals (simp only [Q0]; congr 3; rw [Qh, decide_eq_true_iff]; simp only [Q8, a2e, a1J, a1k, decide_eq_true_eq, b2f, Q6, false_iff, true_iff, hok, true_and] at *; omega)
 ·have h4 : eqB 4 0 = false := rfl
  simp -implicitDefEqProofs only [↓reduceIte,eq_self,ξ1,ξ2,ξ3,ξ4,ξ5,ξ6,ξ7,ξ8,ξ9,ξa,ξb,ξc,ξd,ξe,ξf,ξg,ξh,Nat.reduceAdd,ξi,if_true,if_false,ξl,ξm,ξn,ξo,ξp,ξq,ξr,ξs,ξt,ξu,ξv,ξw,ξx,ξy,ξz,ξA,ξB,ξC,ξD,ξE, a0k, or_true, a4B, if_neg hok, h4, a2e, a1J]
  repeat' split
  all_goals (simp only [Q0]; congr 3; rw [Qh, decide_eq_true_iff]; simp only [Q8, a2e, a1J, a1k, decide_eq_true_eq, b2f, Q6, false_iff, true_iff, hok, false_and, and_false, or_false] at *; omega)
end Go.Proofs.Ythmkfeiapdbojaa
set_option maxRecDepth 100000
namespace Go.Proofs.Ythmkfeiapdbojaa
open Go.Sx
def a2p (x : Ex) : Int := if x.form then (if x.rng then 0 else 4) else 2
def a2z : List Ex -> Int
 | [] => 0
 | x :: l => if a2p x = 0 then a2z l else a2p x
def chk (e : Ex) : Int := if 6 < e.depth then 9 else if 40 < e.size then 3 else if e.pre.all (fun x => decide (x.len <= 8)) then a2z e.pre else 3
theorem b7E (g : Ex -> Bool) : ∀ (l p : List Ex), (l.all g = true -> a1N (fun _ x => g x) p l = none) /\ (l.all g = false -> ∃ q x, a1N (fun _ x => g x) p l = some (q, x))
 | [], p => by simp [a1N]
 | x :: l, p => by
  have ih := b7E g l (p ++ [x])
  cases hg : g x with
  | true => simpa [a1N, hg] using ih
  | false => exact ⟨by simp [hg], fun _ => ⟨p, x, by simp [a1N, hg]⟩⟩
theorem b6N : ∀ (l p : List Ex), (∃ q x, a1N (fun _ x => decide (a2p x = 0)) p l = some (q, x) /\ a2p x = a2z l) \/ (a1N (fun _ x => decide (a2p x = 0)) p l = none /\ a2z l = 0)
 | [], p => .inr ⟨rfl, rfl⟩
 | x :: l, p => by
  by_cases hx : a2p x = 0
  ·simpa [a1N, hx, a2z] using b6N l (p ++ [x])
  ·exact .inl ⟨p, x, by simp [a1N, hx], by simp [a2z, hx]⟩
theorem c1N (σ : List MO) (all : List Ex) : Visits b0Q [] 1 all (fun _ => σ) (fun _ x => decide (x.len <= 8)) (fun _ _ => σ) where
 at_ p x r row hall hrow n hn := by
  obtain ⟨n, rfl⟩ : ∃ k, n = k + 1 := ⟨n - 1, by omega⟩
  obtain ⟨op, a, b, c, d, e', f, v, l⟩ := x
  simp only [IsE] at hrow
  obtain ⟨x, rows, rfl, hx, hl⟩ := hrow
  obtain ⟨x1, x2, x3⟩ := a0y hx
  have hlen := hl.length
  simp only [a0e, b5I, Q0, Sys.run]
  show ((a0i [.sh (.agg [_, _, _, _, _, _, _, _, _])] _).bind _) = _
  simp only [a0i, a0d, a0c, Q1, Q0, Q4, Q2, Q3, if_true, x3]
  show (PT.ev _ a6I _).bind _ = _
  have hle : leB (rows.length : Int) 8 = decide (l.length <= 8) := by rw [hlen]; unfold leB; congr 1; rw [eq_iff_iff]; omega
  simp -implicitDefEqProofs only [a6I, ↓reduceIte,eq_self,ξ1,ξ2,ξ3,ξ4,ξ5,ξ6,ξ7,ξ8,ξ9,ξa,ξb,ξc,ξd,ξe,ξf,ξg,ξh,Nat.reduceAdd,ξi,if_true,if_false,ξl,ξm,ξn,ξo,ξp,ξq,ξr,ξs,ξt,ξu,ξv,ξw,ξx,ξy,ξz,ξA,ξB,ξC,ξD,ξE, a0k, or_true, x1, x2, hle, Ex.len]
  by_cases h : l.length <= 8 <;> simp [h]
theorem b9G (σ : List MO) (all : List Ex) :
  Visits b1o [.ref σ.length 0] 3 all (fun _ => σ ++ [.cells [.int .i64 0] 28]) (fun _ x => decide (a2p x = 0)) (fun _ x => σ ++ [.cells [.int .i64 (a2p x)] 28]) where
 at_ p x r row hall hrow n hn := by
  obtain ⟨n, rfl⟩ : ∃ k, n = k + 1 := ⟨n - 1, by omega⟩
  have c1 := c6N (σ ++ [.cells [.int .i64 0] 28]) x row hrow n (by omega)
  have c2 := c4d (σ ++ [.cells [.int .i64 0] 28]) x row hrow n (by omega)
  have hnd : a2p x = if x.form then (if x.rng then 0 else 4) else 2 := rfl
  generalize a2p x = nd at *
  obtain ⟨bf, hf⟩ : ∃ b, x.form = b := ⟨_, rfl⟩
  obtain ⟨br, hr⟩ : ∃ b, x.rng = b := ⟨_, rfl⟩
  rw [hf] at c1
  rw [hr] at c2
  simp only [hf, hr] at hnd
  clear hf hr
  obtain ⟨op, a, b, c, d, e', f, v, l⟩ := x
  simp only [IsE] at hrow
  obtain ⟨x, rows, rfl, hx, hl⟩ := hrow
  obtain ⟨x1, x2, x3⟩ := a0y hx
  simp only [b5B, b3g] at c1 c2
  simp only [a0e, b5S, Q0, Sys.run]
  show ((a0i [.sh (.agg [_, _, _, _, _, _, _, _, _]), .ptr] _).bind _) = _
  have hptr : (PV.ref σ.length 0).isPtr = true := rfl
  simp only [a0i, a0d, a0c, Q1, Q0, Q4, Q2, Q3, if_true, x3, hptr]
  show (PT.ev _ a4h _).bind _ = _
  have hget : ∀ z, (σ ++ [MO.cells [.int .i64 z] 28])[σ.length]? = some (.cells [.int .i64 z] 28) := by simp
  have e2 : eqB 2 0 = false := rfl
  have e4 : eqB 4 0 = false := rfl
  cases bf with
  | false =>
   obtain rfl : nd = 2 := hnd
   simp -implicitDefEqProofs only [a4h, ↓reduceIte,eq_self,ξ1,ξ2,ξ3,ξ4,ξ5,ξ6,ξ7,ξ8,ξ9,ξa,ξb,ξc,ξd,ξe,ξf,ξg,ξh,Nat.reduceAdd,ξi,if_true,if_false,ξl,ξm,ξn,ξo,ξp,ξq,ξr,ξs,ξt,ξu,ξv,ξw,ξx,ξy,ξz,ξA,ξB,ξC,ξD,ξE, c1, hget, MO.list, a1H, Qg, Q9, Qa, a6V, a0k, true_or, e2]
   rfl
  | true =>
   cases br with
   | false =>
    obtain rfl : nd = 4 := hnd
    simp -implicitDefEqProofs only [a4h, ↓reduceIte,eq_self,ξ1,ξ2,ξ3,ξ4,ξ5,ξ6,ξ7,ξ8,ξ9,ξa,ξb,ξc,ξd,ξe,ξf,ξg,ξh,Nat.reduceAdd,ξi,if_true,if_false,ξl,ξm,ξn,ξo,ξp,ξq,ξr,ξs,ξt,ξu,ξv,ξw,ξx,ξy,ξz,ξA,ξB,ξC,ξD,ξE, c1, c2, hget, MO.list, a1H, Qg, Q9, Qa, a6V, a0k, true_or, e4]
    rfl
   | true =>
    obtain rfl : nd = 0 := hnd
    simp -implicitDefEqProofs only [a4h, ↓reduceIte,eq_self,ξ1,ξ2,ξ3,ξ4,ξ5,ξ6,ξ7,ξ8,ξ9,ξa,ξb,ξc,ξd,ξe,ξf,ξg,ξh,Nat.reduceAdd,ξi,if_true,if_false,ξl,ξm,ξn,ξo,ξp,ξq,ξr,ξs,ξt,ξu,ξv,ξw,ξx,ξy,ξz,ξA,ξB,ξC,ξD,ξE, c1, c2, hget, MO.list, a1H, Qg, Q9, Qa, a6V, a0k, true_or, a3e]
    rfl
theorem b8E (σ : List MO) (hσ : σ.all (MO.low σ.length) = true) (e : Ex) (row : List PV) (hrow : IsE e row) (n : Nat) (hn : e.size + 8 <= n) (hbig : e.size <= 1000000) :
  a0e Tab n c0N [.agg row] σ = some (.int .i64 (chk e), σ) := by
 obtain ⟨n, rfl⟩ : ∃ k, n = k + 1 := ⟨n - 1, by omega⟩
 have c1 := c5j σ e row hrow n (by omega) hbig
 have c2 := c6e σ hσ e row hrow n (by omega) hbig
 have w1 := b5J (c1N σ e.pre) e row [] [] (by simp) hrow n (by omega) hbig
 have w2 := b5J (b9G σ e.pre) e row [] [] (by simp) hrow n (by omega) hbig
 have s1 := b7E (fun x => decide (x.len <= 8)) e.pre []
 have s2 := b6N e.pre []
 simp only [chk]
 generalize e.pre = pr at *
 generalize a2z pr = ne at *
 obtain ⟨op, a, b, c, d, e', f, v, l⟩ := e
 simp only [IsE] at hrow
 obtain ⟨x, rows, rfl, hx, hl⟩ := hrow
 obtain ⟨x1, x2, x3⟩ := a0y hx
 generalize hy0 : Ex.node op a b c d e' f v l = y0 at *
 simp only [b3z, b5p, a4S, b0Q, b1o] at c1 c2 w1 w2
 simp only [a0e, b7V, Q0, Sys.run]
 show ((a0i [.sh (.agg [_, _, _, _, _, _, _, _, _])] _).bind _) = _
 simp only [a0i, a0d, a0c, Q1, Q0, Q4, Q2, Q3, if_true, x3]
 show (PT.ev _ a8Z _).bind _ = _
 simp -implicitDefEqProofs only [a8Z, ↓reduceIte,eq_self,ξ1,ξ2,ξ3,ξ4,ξ5,ξ6,ξ7,ξ8,ξ9,ξa,ξb,ξc,ξd,ξe,ξf,ξg,ξh,Nat.reduceAdd,ξi,if_true,if_false,ξl,ξm,ξn,ξo,ξp,ξq,ξr,ξs,ξt,ξu,ξv,ξw,ξx,ξy,ξz,ξA,ξB,ξC,ξD,ξE, c1, a1k]
 by_cases h1 : 6 < y0.depth
 ·simp -implicitDefEqProofs only [if_pos h1, ↓reduceIte,eq_self,ξ1,ξ2,ξ3,ξ4,ξ5,ξ6,ξ7,ξ8,ξ9,ξa,ξb,ξc,ξd,ξe,ξf,ξg,ξh,Nat.reduceAdd,ξi,if_true,if_false,ξl,ξm,ξn,ξo,ξp,ξq,ξr,ξs,ξt,ξu,ξv,ξw,ξx,ξy,ξz,ξA,ξB,ξC,ξD,ξE, a0k, or_true]
 simp -implicitDefEqProofs only [if_neg h1, ↓reduceIte,eq_self,ξ1,ξ2,ξ3,ξ4,ξ5,ξ6,ξ7,ξ8,ξ9,ξa,ξb,ξc,ξd,ξe,ξf,ξg,ξh,Nat.reduceAdd,ξi,if_true,if_false,ξl,ξm,ξn,ξo,ξp,ξq,ξr,ξs,ξt,ξu,ξv,ξw,ξx,ξy,ξz,ξA,ξB,ξC,ξD,ξE]
 cases ha : pr.all (fun x => decide (x.len <= 8)) with
 | false =>
  obtain ⟨q, x', hs⟩ := s1.2 ha
  simp only [hs, a4T] at w1
  simp -implicitDefEqProofs only [↓reduceIte,eq_self,ξ1,ξ2,ξ3,ξ4,ξ5,ξ6,ξ7,ξ8,ξ9,ξa,ξb,ξc,ξd,ξe,ξf,ξg,ξh,Nat.reduceAdd,ξi,if_true,if_false,ξl,ξm,ξn,ξo,ξp,ξq,ξr,ξs,ξt,ξu,ξv,ξw,ξx,ξy,ξz,ξA,ξB,ξC,ξD,ξE, w1, a0k, or_true, ite_self]
 | true =>
  simp only [s1.1 ha, a4T] at w1
  simp -implicitDefEqProofs only [↓reduceIte,eq_self,ξ1,ξ2,ξ3,ξ4,ξ5,ξ6,ξ7,ξ8,ξ9,ξa,ξb,ξc,ξd,ξe,ξf,ξg,ξh,Nat.reduceAdd,ξi,if_true,if_false,ξl,ξm,ξn,ξo,ξp,ξq,ξr,ξs,ξt,ξu,ξv,ξw,ξx,ξy,ξz,ξA,ξB,ξC,ξD,ξE, w1, c2, a1k]
  by_cases h2 : 40 < y0.size
  ·rw [if_pos (by omega)]
   simp -implicitDefEqProofs only [if_pos h2, ↓reduceIte,eq_self,ξ1,ξ2,ξ3,ξ4,ξ5,ξ6,ξ7,ξ8,ξ9,ξa,ξb,ξc,ξd,ξe,ξf,ξg,ξh,Nat.reduceAdd,ξi,if_true,if_false,ξl,ξm,ξn,ξo,ξp,ξq,ξr,ξs,ξt,ξu,ξv,ξw,ξx,ξy,ξz,ξA,ξB,ξC,ξD,ξE, a0k, or_true]
  ·rw [if_neg (by omega)]
   have hget : ∀ z, (σ ++ [MO.cells [.int .i64 z] 28])[σ.length]? = some (.cells [.int .i64 z] 28) := by simp
   have hσ' : ∀ x ∈ σ, MO.low σ.length x = true := QB.1 hσ
   have hne : ¬ (σ ++ [MO.cells [.int .i64 ne] 28]).length = σ.length := by simp
   have htk : (σ ++ [MO.cells [.int .i64 ne] 28]).take σ.length = σ := by simp
   rcases s2 with ⟨q, x', hs, hx'⟩ | ⟨hs, hz⟩
   ·simp only [hs, a4T, hx'] at w2
    simp -implicitDefEqProofs only [if_neg h2, ↓reduceIte,eq_self,ξ1,ξ2,ξ3,ξ4,ξ5,ξ6,ξ7,ξ8,ξ9,ξa,ξb,ξc,ξd,ξe,ξf,ξg,ξh,Nat.reduceAdd,ξi,if_true,if_false,ξl,ξm,ξn,ξo,ξp,ξq,ξr,ξs,ξt,ξu,ξv,ξw,ξx,ξy,ξz,ξA,ξB,ξC,ξD,ξE, SV.pvs, PV.on, hget, MO.list, a1H, Qg, Q9, Qa, a6V, w2, a0k, Q6, false_or, if_neg hne, htk, hσ, PV.frz]
   ·simp only [hs, a4T] at w2
    subst hz
    simp -implicitDefEqProofs only [if_neg h2, ↓reduceIte,eq_self,ξ1,ξ2,ξ3,ξ4,ξ5,ξ6,ξ7,ξ8,ξ9,ξa,ξb,ξc,ξd,ξe,ξf,ξg,ξh,Nat.reduceAdd,ξi,if_true,if_false,ξl,ξm,ξn,ξo,ξp,ξq,ξr,ξs,ξt,ξu,ξv,ξw,ξx,ξy,ξz,ξA,ξB,ξC,ξD,ξE, SV.pvs, PV.on, hget, MO.list, a1H, Qg, Q9, Qa, a6V, w2, a0k, Q6, false_or, if_neg hne, htk, hσ, PV.frz]
theorem c4c (σ : List MO) (e : Ex) (row : List PV) (hrow : IsE e row) (n : Nat) (hn : e.size + 100 <= n) (hbig : e.size <= 1000000) :
  a0e Tab n b1E [.agg row] σ = some (.int .i64 (chk e), σ) := by
 obtain ⟨n, rfl⟩ : ∃ k, n = k + 1 := ⟨n - 1, by omega⟩
 have c1 := c3e σ e row hrow n (by omega) hbig
 obtain ⟨nrows, hcall, hnr⟩ := c8l σ e row hrow n (by omega) hbig
 have hnl := hnr.length
 rw [Ex.pre_len] at hnl
 simp only [chk]
 have hal := Ex.pre_len e
 generalize hall : e.pre = all at *
 have z2 : (PV.sl 9 nrows).isKind 0 = true := rfl
 have z1 : (PV.sl 9 nrows).len = nrows.length := rfl
 have z3 : (PV.sl 9 nrows).one = true := rfl
 have hrowi : ∀ (i : Nat) (e1 : Ex), all[i]? = some e1 -> ∃ r1, nrows[i]? = some r1 /\ IsE e1 r1 := by
  intro i e1 he1
  have hd := hnr.split i
  rw [a5X he1] at hd
  simp only [a1e] at hd
  obtain ⟨r1, rs, hd1, hd2, hd3⟩ := hd
  exact ⟨r1, c5w hd1, hd2⟩
 have loop1 : ∀ (fuel : Nat) (i k : Nat), all.length <= 40 -> all.length - i < fuel -> i <= all.length ->
   saleroomref11_Check_S.loop (a0e Tab n) fuel 1 { i := [(i : Int)], b := [], v := [.sl 9 nrows], m := σ, k := σ.length } = some (.int .i64 (a2z (all.drop i)), σ) := by
  intro fuel
  induction fuel with
  | zero => intro i k _ h; omega
  | succ fuel ihf =>
   intro i k h0 h1 h2
   rw [Sys.loop, show saleroomref11_Check_S.loops[1]? = some a3C from rfl]
   simp -implicitDefEqProofs only [Q0, a3C, ↓reduceIte,eq_self,ξ1,ξ2,ξ3,ξ4,ξ5,ξ6,ξ7,ξ8,ξ9,ξa,ξb,ξc,ξd,ξe,ξf,ξg,ξh,Nat.reduceAdd,ξi,if_true,if_false,ξl,ξm,ξn,ξo,ξp,ξq,ξr,ξs,ξt,ξu,ξv,ξw,ξx,ξy,ξz,ξA,ξB,ξC,ξD,ξE, a8f, decide_eq_true_eq, z1, z2]
   by_cases hlt : i < nrows.length
   ·obtain ⟨e1, he1⟩ : ∃ e1, all[i]? = some e1 := ⟨_, Qb (by omega)⟩
    obtain ⟨r1, hr, hd2⟩ := hrowi i e1 he1
    rw [a5X he1]
    simp only [a2z]
    have hloc : ∀ off, a5G (i : Int) 9 off (.sl 9 nrows) = some (.row r1 off) := fun off => a3z (b3x 9 nrows) hr
    rw [if_pos hlt]
    have f1 := c3r σ e1 r1 hd2 n (by omega)
    have f2 := c1I σ e1 r1 hd2 n (by omega)
    have hnd : a2p e1 = if e1.form then (if e1.rng then 0 else 4) else 2 := rfl
    generalize a2p e1 = nd at *
    obtain ⟨bf, hf⟩ : ∃ b, e1.form = b := ⟨_, rfl⟩
    obtain ⟨br, hr'⟩ : ∃ b, e1.rng = b := ⟨_, rfl⟩
    rw [hf] at f1
    rw [hr'] at f2
    simp only [hf, hr'] at hnd
    clear hf hr'
    obtain ⟨op1, a1, b1, c1, d1, e1', f1', v1, l1⟩ := e1
    simp only [IsE] at hd2
    obtain ⟨y, rows1, rfl, hy, hl1⟩ := hd2
    obtain ⟨y1, y2, y3⟩ := a0y hy
    have q1 : (leB 0 (i : Int) && decide (i < nrows.length)) = true := by simp [leB, hlt]
    have q2 : (leB (-9223372036854775808) ((i : Int) + 1) && leB ((i : Int) + 1) 9223372036854775807) = true := by simp [leB]; omega
    have := ihf (i + 1) k h0 (by omega) (by omega)
    rw [show ((i + 1 : Nat) : Int) = (i : Int) + 1 from by omega] at this
    simp only [a5C, a5w] at f1 f2
    cases bf with
    | false =>
     obtain rfl : nd = 2 := hnd
     simp -implicitDefEqProofs only [↓reduceIte,eq_self,ξ1,ξ2,ξ3,ξ4,ξ5,ξ6,ξ7,ξ8,ξ9,ξa,ξb,ξc,ξd,ξe,ξf,ξg,ξh,Nat.reduceAdd,ξi,if_true,if_false,ξl,ξm,ξn,ξo,ξp,ξq,ξr,ξs,ξt,ξu,ξv,ξw,ξx,ξy,ξz,ξA,ξB,ξC,ξD,ξE, q1, hloc, y3, f1, a0k, or_true]; rfl
    | true =>
     cases br with
     | false =>
      obtain rfl : nd = 4 := hnd
      simp -implicitDefEqProofs only [↓reduceIte,eq_self,ξ1,ξ2,ξ3,ξ4,ξ5,ξ6,ξ7,ξ8,ξ9,ξa,ξb,ξc,ξd,ξe,ξf,ξg,ξh,Nat.reduceAdd,ξi,if_true,if_false,ξl,ξm,ξn,ξo,ξp,ξq,ξr,ξs,ξt,ξu,ξv,ξw,ξx,ξy,ξz,ξA,ξB,ξC,ξD,ξE, q1, hloc, y3, f1, f2, a0k, or_true]; rfl
     | true =>
      obtain rfl : nd = 0 := hnd
      simp -implicitDefEqProofs only [↓reduceIte,eq_self,ξ1,ξ2,ξ3,ξ4,ξ5,ξ6,ξ7,ξ8,ξ9,ξa,ξb,ξc,ξd,ξe,ξf,ξg,ξh,Nat.reduceAdd,ξi,if_true,if_false,ξl,ξm,ξn,ξo,ξp,ξq,ξr,ξs,ξt,ξu,ξv,ξw,ξx,ξy,ξz,ξA,ξB,ξC,ξD,ξE, q1, hloc, y3, f1, f2, if_pos q2]
      exact this
   ·have hil : i = all.length := by omega
    rw [if_neg hlt]
    subst hil
    simp -implicitDefEqProofs only [↓reduceIte,eq_self,ξ1,ξ2,ξ3,ξ4,ξ5,ξ6,ξ7,ξ8,ξ9,ξa,ξb,ξc,ξd,ξe,ξf,ξg,ξh,Nat.reduceAdd,ξi,if_true,if_false,ξl,ξm,ξn,ξo,ξp,ξq,ξr,ξs,ξt,ξu,ξv,ξw,ξx,ξy,ξz,ξA,ξB,ξC,ξD,ξE, a0k, or_true, Qu, a2z]
 have loop0 : ∀ (fuel : Nat) (i : Nat), all.length <= 40 -> (all.length - i) + all.length + 1 < fuel -> i <= all.length ->
   saleroomref11_Check_S.loop (a0e Tab n) fuel 0 { i := [(i : Int)], b := [], v := [.sl 9 nrows], m := σ, k := σ.length } = some (.int .i64 (if (all.drop i).all (fun x => decide (x.len <= 8)) then a2z all else 3), σ) := by
  intro fuel
  induction fuel with
  | zero => intro i _ h; omega
  | succ fuel ihf =>
   intro i h0 h1 h2
   rw [Sys.loop, show saleroomref11_Check_S.loops[0]? = some a3D from rfl]
   simp -implicitDefEqProofs only [Q0, a3D, ↓reduceIte,eq_self,ξ1,ξ2,ξ3,ξ4,ξ5,ξ6,ξ7,ξ8,ξ9,ξa,ξb,ξc,ξd,ξe,ξf,ξg,ξh,Nat.reduceAdd,ξi,if_true,if_false,ξl,ξm,ξn,ξo,ξp,ξq,ξr,ξs,ξt,ξu,ξv,ξw,ξx,ξy,ξz,ξA,ξB,ξC,ξD,ξE, a8f, decide_eq_true_eq, z1, z2]
   by_cases hlt : i < nrows.length
   ·obtain ⟨e1, he1⟩ : ∃ e1, all[i]? = some e1 := ⟨_, Qb (by omega)⟩
    obtain ⟨r1, hr, hd2⟩ := hrowi i e1 he1
    rw [a5X he1]
    have hloc : ∀ off, a5G (i : Int) 9 off (.sl 9 nrows) = some (.row r1 off) := fun off => a3z (b3x 9 nrows) hr
    rw [if_pos hlt]
    simp only [List.all_cons]
    have hln : e1.len = (e1.args).length := by cases e1; rfl
    obtain ⟨op1, a1, b1, c1, d1, e1', f1', v1, l1⟩ := e1
    simp only [IsE] at hd2
    obtain ⟨y, rows1, rfl, hy, hl1⟩ := hd2
    obtain ⟨y1, y2, y3⟩ := a0y hy
    have hl1' := hl1.length
    have q1 : (leB 0 (i : Int) && decide (i < nrows.length)) = true := by simp [leB, hlt]
    have q2 : (leB (-9223372036854775808) ((i : Int) + 1) && leB ((i : Int) + 1) 9223372036854775807) = true := by simp [leB]; omega
    have := ihf (i + 1) h0 (by omega) (by omega)
    rw [show ((i + 1 : Nat) : Int) = (i : Int) + 1 from by omega] at this
    simp -implicitDefEqProofs only [↓reduceIte,eq_self,ξ1,ξ2,ξ3,ξ4,ξ5,ξ6,ξ7,ξ8,ξ9,ξa,ξb,ξc,ξd,ξe,ξf,ξg,ξh,Nat.reduceAdd,ξi,if_true,if_false,ξl,ξm,ξn,ξo,ξp,ξq,ξr,ξs,ξt,ξu,ξv,ξw,ξx,ξy,ξz,ξA,ξB,ξC,ξD,ξE, q1, hloc, y1, y2, y3, a1k, Ex.len, Q9, Qa]
    by_cases h8 : l1.length <= 8
    ·rw [if_neg (by omega)]
     simp -implicitDefEqProofs only [↓reduceIte,eq_self,ξ1,ξ2,ξ3,ξ4,ξ5,ξ6,ξ7,ξ8,ξ9,ξa,ξb,ξc,ξd,ξe,ξf,ξg,ξh,Nat.reduceAdd,ξi,if_true,if_false,ξl,ξm,ξn,ξo,ξp,ξq,ξr,ξs,ξt,ξu,ξv,ξw,ξx,ξy,ξz,ξA,ξB,ξC,ξD,ξE, if_pos q2, h8, decide_true, Bool.true_and]
     exact this
    ·rw [if_pos (by omega)]
     simp -implicitDefEqProofs only [↓reduceIte,eq_self,ξ1,ξ2,ξ3,ξ4,ξ5,ξ6,ξ7,ξ8,ξ9,ξa,ξb,ξc,ξd,ξe,ξf,ξg,ξh,Nat.reduceAdd,ξi,if_true,if_false,ξl,ξm,ξn,ξo,ξp,ξq,ξr,ξs,ξt,ξu,ξv,ξw,ξx,ξy,ξz,ξA,ξB,ξC,ξD,ξE, a0k, or_true, h8, decide_false, Bool.false_and]
   ·have hil : i = all.length := by omega
    rw [if_neg hlt]
    subst hil
    simp -implicitDefEqProofs only [↓reduceIte,eq_self,ξ1,ξ2,ξ3,ξ4,ξ5,ξ6,ξ7,ξ8,ξ9,ξa,ξb,ξc,ξd,ξe,ξf,ξg,ξh,Nat.reduceAdd,ξi,if_true,if_false,ξl,ξm,ξn,ξo,ξp,ξq,ξr,ξs,ξt,ξu,ξv,ξw,ξx,ξy,ξz,ξA,ξB,ξC,ξD,ξE, Qu, List.all_nil]
    have := loop1 fuel 0 0 h0 (by omega) (Qf _)
    simpa using this
 have h0 := fun h => loop0 n 0 h (by omega) (Qf _)
 obtain ⟨op, a, b, c, d, e', f, v, l⟩ := e
 simp only [IsE] at hrow
 obtain ⟨x, rows, rfl, hx, hl⟩ := hrow
 obtain ⟨x1, x2, x3⟩ := a0y hx
 generalize hy0 : Ex.node op a b c d e' f v l = y0 at *
 simp only [a3i, a4e] at hcall c1
 simp only [a0e, a9B, Q0, Sys.run]
 show ((a0i [.sh (.agg [_, _, _, _, _, _, _, _, _])] _).bind _) = _
 simp only [a0i, a0d, a0c, Q1, Q0, Q4, Q2, Q3, if_true, x3]
 show (PT.ev _ a3Q _).bind _ = _
 simp -implicitDefEqProofs only [a3Q, ↓reduceIte,eq_self,ξ1,ξ2,ξ3,ξ4,ξ5,ξ6,ξ7,ξ8,ξ9,ξa,ξb,ξc,ξd,ξe,ξf,ξg,ξh,Nat.reduceAdd,ξi,if_true,if_false,ξl,ξm,ξn,ξo,ξp,ξq,ξr,ξs,ξt,ξu,ξv,ξw,ξx,ξy,ξz,ξA,ξB,ξC,ξD,ξE, c1, a1k]
 by_cases h1 : 6 < y0.depth
 ·simp -implicitDefEqProofs only [if_pos h1, ↓reduceIte,eq_self,ξ1,ξ2,ξ3,ξ4,ξ5,ξ6,ξ7,ξ8,ξ9,ξa,ξb,ξc,ξd,ξe,ξf,ξg,ξh,Nat.reduceAdd,ξi,if_true,if_false,ξl,ξm,ξn,ξo,ξp,ξq,ξr,ξs,ξt,ξu,ξv,ξw,ξx,ξy,ξz,ξA,ξB,ξC,ξD,ξE, a0k, or_true]
 simp -implicitDefEqProofs only [if_neg h1, ↓reduceIte,eq_self,ξ1,ξ2,ξ3,ξ4,ξ5,ξ6,ξ7,ξ8,ξ9,ξa,ξb,ξc,ξd,ξe,ξf,ξg,ξh,Nat.reduceAdd,ξi,if_true,if_false,ξl,ξm,ξn,ξo,ξp,ξq,ξr,ξs,ξt,ξu,ξv,ξw,ξx,ξy,ξz,ξA,ξB,ξC,ξD,ξE, hcall, z1, z2, z3, a1k]
 by_cases h2 : 40 < y0.size
 ·rw [if_pos (by omega)]
  simp -implicitDefEqProofs only [if_pos h2, ↓reduceIte,eq_self,ξ1,ξ2,ξ3,ξ4,ξ5,ξ6,ξ7,ξ8,ξ9,ξa,ξb,ξc,ξd,ξe,ξf,ξg,ξh,Nat.reduceAdd,ξi,if_true,if_false,ξl,ξm,ξn,ξo,ξp,ξq,ξr,ξs,ξt,ξu,ξv,ξw,ξx,ξy,ξz,ξA,ξB,ξC,ξD,ξE, a0k, or_true]
 ·rw [if_neg (by omega)]
  simp -implicitDefEqProofs only [if_neg h2, ↓reduceIte,eq_self,ξ1,ξ2,ξ3,ξ4,ξ5,ξ6,ξ7,ξ8,ξ9,ξa,ξb,ξc,ξd,ξe,ξf,ξg,ξh,Nat.reduceAdd,ξi,if_true,if_false,ξl,ξm,ξn,ξo,ξp,ξq,ξr,ξs,ξt,ξu,ξv,ξw,ξx,ξy,ξz,ξA,ξB,ξC,ξD,ξE]
  have := h0 (by omega)
  simpa using this
end Go.Proofs.Ythmkfeiapdbojaa
