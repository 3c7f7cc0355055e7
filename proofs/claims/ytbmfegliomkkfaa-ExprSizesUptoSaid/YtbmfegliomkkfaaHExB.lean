/- The walk over a tree, whatever is done at its nodes. -/
import Derived.Test.YtbmfegliomkkfaaHExA
set_option linter.unusedSimpArgs false
set_option linter.unusedVariables false
set_option maxRecDepth 10000
namespace Go.Proofs.Ytbmfegliomkkfaa
open Go.Sx
mutual
def Ex.pre : Ex → List Ex | .node op a b c d e f v l => .node op a b c d e f v l :: pres l
def pres : List Ex → List Ex | [] => [] | e :: l => e.pre ++ pres l
end
mutual
theorem Ex.pre_len : ∀ e : Ex, e.pre.length = e.size
  | .node _ _ _ _ _ _ _ _ l => by simp only [Ex.pre, Ex.size, List.length_cons, pres_len l]
theorem pres_len : ∀ l : List Ex, (pres l).length = sizes l
  | [] => rfl
  | e :: l => by simp only [pres, sizes, List.length_append, Ex.pre_len e, pres_len l]
end
/-- Where a visit stops: the nodes so far, and the one at which it stops. -/
def stopAt (go : List Ex → Ex → Bool) : List Ex → List Ex → Option (List Ex × Ex)
  | _, [] => none
  | p, x :: l => if go p x then stopAt go (p ++ [x]) l else some (p, x)
theorem stopAt_append (go : List Ex → Ex → Bool) : ∀ (l p m : List Ex), stopAt go p (l ++ m) = match stopAt go p l with | none => stopAt go (p ++ l) m | some r => some r
  | [], p, m => by simp [stopAt]
  | x :: l, p, m => by
    simp only [List.cons_append, stopAt]
    split
    · rw [stopAt_append go l (p ++ [x]) m]; simp
    · rfl
/-- A visitor: what it does at a node, the nodes so far being known. -/
structure Visits (C : Nat) (caps : List PV) (n0 : Nat) (all : List Ex) (st : List Ex → List MO) (go : List Ex → Ex → Bool) (fin : List Ex → Ex → List MO) : Prop where
  at_ : ∀ p x r row, all = p ++ x :: r → IsE x row → ∀ n, n0 ≤ n → evalF Tab n C (.agg row :: caps) (st p) = some (.bool (go p x), if go p x then st (p ++ [x]) else fin p x)
def visitR (st : List Ex → List MO) (fin : List Ex → Ex → List MO) (q : List Ex) : Option (List Ex × Ex) → Option (PV × List MO)
  | none => some (.bool true, st q)
  | some (p, x) => some (.bool false, fin p x)
theorem walk_sem {C : Nat} {caps : List PV} {n0 : Nat} {all : List Ex} {st : List Ex → List MO} {go : List Ex → Ex → Bool} {fin : List Ex → Ex → List MO} (hV : Visits C caps n0 all st go fin) :
    ∀ (e : Ex) (row : List PV) (p r : List Ex), all = p ++ e.pre ++ r → IsE e row → ∀ n, e.size + n0 + 2 ≤ n → e.size ≤ 1000000 →
      evalF Tab n n_expr_walker_walk [.agg [.fn C caps], .agg row] (st p) = visitR st fin (p ++ e.pre) (stopAt go p e.pre) := by
  intro e
  induction hN : e.size using Nat.strongRecOn generalizing e with
  | _ N ih =>
    subst hN
    intro row p0 r0 hall hrow n hn hbig
    obtain ⟨op, a, b, c, d, e', f, v, l⟩ := e
    have hrow0 := hrow
    simp only [IsE] at hrow
    obtain ⟨x, rows, rfl, hx, hl⟩ := hrow
    obtain ⟨x1, x2, x3⟩ := rows_len hx
    simp only [Ex.size] at ih hn hbig
    obtain ⟨n, rfl⟩ : ∃ k, n = k + 1 := ⟨n - 1, by omega⟩
    have hlen := hl.length
    have hsl := sizes_len l
    simp only [Ex.pre] at hall ⊢
    generalize hx0 : Ex.node op a b c d e' f v l = x0 at *
    have loop : ∀ (fuel i : Nat) (k : Nat) (p r : List Ex), l.length - i < fuel → i ≤ l.length → all = p ++ pres (l.drop i) ++ r →
        expr_walker_walk_S.loop (evalF Tab n) fuel 0 { i := [(rows.length : Int), (i : Int)], b := [], v := [x, .fn C caps], m := st p, k := k } = visitR st fin (p ++ pres (l.drop i)) (stopAt go p (pres (l.drop i))) := by
      intro fuel
      induction fuel with
      | zero => intro i k p r h; omega
      | succ fuel ihf =>
        intro i k p r h1 h2 h3
        rw [Sys.loop, show expr_walker_walk_S.loops[0]? = some expr_walker_walk_t0 from rfl]
        simp only [Option.bind_some, expr_walker_walk_t0]
        simp only [PT.ev, BE.safe, BE.pe, IE.pe, PEnv.at, List.getD_cons_zero, List.getD_cons_succ, if_true, ltB_nat, decide_eq_true_eq]
        by_cases hlt : i < rows.length
        · obtain ⟨e1, he1⟩ : ∃ e1, l[i]? = some e1 := ⟨_, List.getElem?_eq_getElem (by omega)⟩
          have hdc := drop_cons he1
          have hd := hl.split i
          rw [hdc] at hd h3 ⊢
          simp only [IsEs] at hd
          obtain ⟨r1, rs, hd1, hd2, hd3⟩ := hd
          have hr : rows[i]? = some r1 := by
            have := congrArg (fun l => l[0]?) hd1
            simpa using this
          have hloc := rows_get (off := 0) hx hr
          rw [if_pos hlt]
          simp only [x1, Bool.and_self, if_true]
          have hsz := sizes_mem (List.mem_of_getElem? he1)
          simp only [pres] at h3 ⊢
          have hcall := ih _ (Nat.lt_succ_of_le hsz) _ rfl _ p (pres (l.drop (i + 1)) ++ r) (by rw [h3]; simp) hd2 n (by omega) (by omega)
          obtain ⟨op1, a1, b1, c1, d1, e1', f1, v1, l1⟩ := e1
          have hd2' := hd2
          simp only [IsE] at hd2'
          obtain ⟨y, rows1, rfl, hy, hl1⟩ := hd2'
          obtain ⟨y1, y2, y3⟩ := rows_len hy
          generalize hy0 : Ex.node op1 a1 b1 c1 d1 e1' f1 v1 l1 = y0 at *
          have hi8 : (i : Int) + 1 ≤ 9223372036854775807 := by omega
          have q1 : (leB 0 (i : Int) && ltB (i : Int) (rows.length : Int)) = true := by simp [leB, ltB]; omega
          have q2 : (leB (-9223372036854775808) ((i : Int) + 1) && leB ((i : Int) + 1) 9223372036854775807) = true := by simp [leB]; omega
          rw [if_pos q1]
          rw [stopAt_append]
          simp only [locOf, List.getElem?_cons_zero, Option.bind_some, IE.pe, List.getD_cons_zero, List.getD_cons_succ, hloc, readLoc, List.drop_zero, takeN, List.length_cons, List.length_nil, Nat.reduceAdd, Nat.le_refl, if_true, List.take_succ_cons, List.take_zero,
            bindK, Option.map_some, y3, PEnv.push, List.cons_append, List.nil_append, SV.pvs, SV.pv, List.getElem?_cons_succ, hcall]
          cases hs : stopAt go p y0.pre with
          | none =>
            simp only [visitR, Option.bind_some, bindRes, bind1, bindK, Option.map_some, List.cons_append, List.nil_append, List.append_nil, BE.safe, BE.pe, List.getD_cons_zero, Bool.not_true, Bool.false_eq_true, if_false, if_true, Bool.and_self, List.getD_cons_succ, IE.pe, q2, BE.all, SV.pvs, SV.pv, List.getElem?_cons_zero, List.getElem?_cons_succ]
            have := ihf (i + 1) k (p ++ y0.pre) r (by omega) (by omega) (by rw [h3]; simp)
            have hcast : ((i + 1 : Nat) : Int) = (i : Int) + 1 := by omega
            rw [hcast] at this
            simp only [List.map_cons, List.map_nil, IE.pe, List.getD_cons_zero, List.getD_cons_succ]
            rw [this, List.append_assoc]
            rfl
          | some pr =>
            obtain ⟨p', x'⟩ := pr
            simp only [visitR, Option.bind_some, bindRes, bind1, bindK, Option.map_some, List.cons_append, List.nil_append, List.append_nil, BE.safe, BE.pe, List.getD_cons_zero, Bool.not_false, if_true, SV.pv, retP, true_or, IE.pe]
        · have hil : i = l.length := by omega
          rw [if_neg hlt]
          subst hil
          simp [SV.pv, BE.safe, BE.pe, retP, List.drop_length, pres, stopAt, visitR]
    have hcall := hV.at_ p0 x0 (pres l ++ r0) _ (by rw [hall]; simp) hrow0 n (by omega)
    simp only [evalF, tab_expr_walker_walk, Option.bind_some, Sys.run]
    show ((bindPs [.sh (.agg [_]), .sh (.agg [_, _, _, _, _, _, _, _, _])] _).bind _) = _
    simp only [bindPs, bind1, bindK, x3, show (PV.fn C caps).one = true from rfl, if_true, Option.map_some, Option.bind_some, List.append_nil, List.nil_append, List.cons_append]
    show (PT.ev _ expr_walker_walk_s _).bind _ = _
    simp only [expr_walker_walk_s, PT.ev, List.getElem?_cons_zero, List.getElem?_cons_succ, SV.pvs, SV.pv, Option.bind_some, Option.map_some, IE.pe, List.getD_cons_zero, List.getD_cons_succ, List.cons_append, List.nil_append, hcall]
    simp only [bindRes, bind1, bindK, Option.map_some, Option.bind_some, PEnv.push, List.nil_append, List.append_nil, BE.safe, BE.pe, List.getD_cons_zero, if_true]
    rw [show x0 :: pres l = [x0] ++ pres l from rfl, stopAt_append]
    cases hg : go p0 x0 with
    | false =>
      simp [hg, SV.pv, BE.safe, BE.pe, retP, stopAt, visitR]
    | true =>
      simp only [Bool.not_true, Bool.false_eq_true, if_false, PEnv.at, List.getD_cons_succ, List.getD_cons_zero, x2, if_true, BE.all, Option.bind_some, Option.map_some, List.map_cons, List.map_nil, IE.pe, x1, stopAt, hg]
      have := loop n 0 (st p0).length (p0 ++ [x0]) r0 (by omega) (Nat.zero_le _) (by rw [hall]; simp)
      simp only [List.drop_zero, List.append_assoc] at this
      simpa using this
end Go.Proofs.Ytbmfegliomkkfaa
