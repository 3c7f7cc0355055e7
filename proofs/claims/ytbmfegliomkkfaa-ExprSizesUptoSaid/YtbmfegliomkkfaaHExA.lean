/- Trees (bid expressions), and their depth. -/
import Derived.Test.YtbmfegliomkkfaaHSys
import Derived.Test.YtbmfegliomkkfaaHTxY
set_option linter.unusedSimpArgs false
set_option linter.unusedVariables false
set_option maxRecDepth 10000
namespace Go.Proofs.Ytbmfegliomkkfaa
open Go.Sx
inductive Ex where
  | node (op a b c d e f v : Int) (args : List Ex)
def Ex.args : Ex → List Ex | .node _ _ _ _ _ _ _ _ l => l
mutual
def Ex.size : Ex → Nat | .node _ _ _ _ _ _ _ _ l => sizes l + 1
def sizes : List Ex → Nat | [] => 0 | e :: l => e.size + sizes l
end
mutual
def Ex.depth : Ex → Int | .node _ _ _ _ _ _ _ _ l => depths 0 l + 1
def depths (m : Int) : List Ex → Int | [] => m | e :: l => depths (mxI m e.depth) l
end
mutual
def IsE : Ex → List PV → Prop
  | .node op a b c d e f v l, row => ∃ x rows, row = [.int .i64 op, .int .i64 a, .int .i64 b, .int .i64 c, .int .i64 d, .int .i64 e, .int .i64 f, .int .i64 v, x] ∧ x.rowsOf 9 = some rows ∧ IsEs l rows
def IsEs : List Ex → List (List PV) → Prop
  | [], rows => rows = []
  | e :: l, rows => ∃ r rs, rows = r :: rs ∧ IsE e r ∧ IsEs l rs
end
theorem IsEs.length : ∀ {l : List Ex} {rows : List (List PV)}, IsEs l rows → rows.length = l.length
  | [], rows, h => by simp only [IsEs] at h; subst h; rfl
  | e :: l, rows, h => by
    simp only [IsEs] at h
    obtain ⟨r, rs, rfl, _, h⟩ := h
    simp [IsEs.length h]
theorem IsEs.split : ∀ {l : List Ex} {rows : List (List PV)}, IsEs l rows → ∀ i : Nat, IsEs (l.drop i) (rows.drop i)
  | l, rows, h, 0 => by simpa using h
  | [], rows, h, i + 1 => by simp only [IsEs] at h; subst h; simp [IsEs]
  | e :: l, rows, h, i + 1 => by
    simp only [IsEs] at h
    obtain ⟨r, rs, rfl, _, h⟩ := h
    simpa using IsEs.split h i
mutual
theorem Ex.depth_le : ∀ e : Ex, 1 ≤ e.depth ∧ e.depth ≤ e.size
  | .node _ _ _ _ _ _ _ _ l => by
    have := depths_le 0 l
    simp only [mxI] at this
    simp only [Ex.depth, Ex.size]; split at this <;> omega
theorem depths_le (m : Int) : ∀ l : List Ex, m ≤ depths m l ∧ depths m l ≤ mxI m (sizes l)
  | [] => by simp [depths, sizes, mxI]; split <;> omega
  | e :: l => by
    have h1 := e.depth_le
    have h2 := depths_le (mxI m e.depth) l
    simp only [depths, sizes, mxI] at *
    repeat' split at h2
    all_goals (repeat' split)
    all_goals omega
end
theorem size_pos : ∀ e : Ex, 1 ≤ e.size
  | .node _ _ _ _ _ _ _ _ l => by simp only [Ex.size]; omega
theorem sizes_len : ∀ l : List Ex, l.length ≤ sizes l
  | [] => Nat.le_refl _
  | e :: l => by have := sizes_len l; have := size_pos e; simp only [sizes, List.length_cons]; omega
theorem sizes_mem : ∀ {l : List Ex} {e : Ex}, e ∈ l → e.size ≤ sizes l
  | [], e, h => by simp at h
  | x :: l, e, h => by
    simp only [sizes]
    rcases List.mem_cons.1 h with rfl | h
    · omega
    · have := sizes_mem h; omega
theorem depth_sem (σ : List MO) : ∀ (e : Ex) (row : List PV), IsE e row → ∀ n, e.size + 2 ≤ n → e.size ≤ 1000000 → evalF Tab n n_expr_Depth [.agg row] σ = some (.int .i64 e.depth, σ) := by
  intro e
  induction hN : e.size using Nat.strongRecOn generalizing e with
  | _ N ih =>
    subst hN
    intro row hrow n hn hbig
    obtain ⟨op, a, b, c, d, e', f, v, l⟩ := e
    simp only [IsE] at hrow
    obtain ⟨x, rows, rfl, hx, hl⟩ := hrow
    obtain ⟨x1, x2, x3⟩ := rows_len hx
    simp only [Ex.size] at ih hn hbig
    obtain ⟨n, rfl⟩ : ∃ k, n = k + 1 := ⟨n - 1, by omega⟩
    have hlen := hl.length
    have loop : ∀ (fuel : Nat) (i : Nat) (acc : Int), l.length - i < fuel → i ≤ l.length → 0 ≤ acc → acc ≤ sizes l →
        expr_Depth_S.loop (evalF Tab n) fuel 0 { i := [acc, (rows.length : Int), (i : Int)], b := [], v := [x], m := σ, k := σ.length } = some (.int .i64 (depths acc (l.drop i) + 1), σ) := by
      intro fuel
      induction fuel with
      | zero => intro i acc h; omega
      | succ fuel ihf =>
        intro i acc h1 h2 h3 h4
        rw [Sys.loop, show expr_Depth_S.loops[0]? = some _ from rfl]
        simp only [Option.bind_some, expr_Depth_t0]
        simp only [PT.ev, BE.safe, BE.pe, IE.pe, PEnv.at, List.getD_cons_zero, List.getD_cons_succ, if_true, ltB_nat, decide_eq_true_eq]
        by_cases hlt : i < rows.length
        · obtain ⟨e1, he1⟩ : ∃ e1, l[i]? = some e1 := ⟨_, List.getElem?_eq_getElem (by omega)⟩
          have hd := hl.split i
          rw [List.drop_eq_getElem?_toList_append, he1] at hd
          simp only [Option.toList_some, List.singleton_append, IsEs] at hd
          obtain ⟨r, rs, hd1, hd2, hd3⟩ := hd
          have hr : rows[i]? = some r := by
            have := congrArg (fun l => l[0]?) hd1
            simpa using this
          have hloc := rows_get (off := 0) hx hr
          rw [if_pos hlt]
          simp only [x1, Bool.and_self, if_true]
          obtain ⟨op1, a1, b1, c1, d1, e1', f1, v1, l1⟩ := e1
          have hd2' := hd2
          simp only [IsE] at hd2'
          obtain ⟨y, rows1, rfl, hy, hl1⟩ := hd2'
          obtain ⟨y1, y2, y3⟩ := rows_len hy
          have hsz := sizes_mem (List.mem_of_getElem? he1)
          have hdl := Ex.depth_le (Ex.node op1 a1 b1 c1 d1 e1' f1 v1 l1)
          have hcall := ih _ (Nat.lt_succ_of_le hsz) _ rfl _ hd2 n (by omega) (by omega)
          have hi8 : (i : Int) + 1 ≤ 9223372036854775807 := by have := sizes_len l; omega
          have q1 : (leB 0 (i : Int) && ltB (i : Int) (rows.length : Int)) = true := by simp [leB, ltB]; omega
          have q2 : (leB (-9223372036854775808) ((i : Int) + 1) && leB ((i : Int) + 1) 9223372036854775807) = true := by simp [leB]; omega
          rw [if_pos q1]
          simp only [locOf, List.getElem?_cons_zero, Option.bind_some, IE.pe, List.getD_cons_zero, List.getD_cons_succ, hloc, readLoc, List.drop_zero, takeN, List.length_cons, List.length_nil, Nat.reduceAdd, Nat.le_refl, if_true, List.take_succ_cons, List.take_zero,
            bindK, Option.map_some, y3, PEnv.push, List.cons_append, List.nil_append, SV.pvs, SV.pv, List.getElem?_cons_succ, hcall, bindRes, bind1, q2, BE.all, Option.bind_some]
          have := ihf (i + 1) (mxI acc (Ex.node op1 a1 b1 c1 d1 e1' f1 v1 l1).depth) (by omega) (by omega) (by simp only [mxI]; split <;> omega) (by simp only [mxI]; split <;> omega)
          have hcast : ((i + 1 : Nat) : Int) = (i : Int) + 1 := by omega
          rw [hcast] at this
          simp only [List.map_cons, List.map_nil, IE.pe, List.getD_cons_zero, List.getD_cons_succ]
          rw [this]
          have hdr : l.drop i = Ex.node op1 a1 b1 c1 d1 e1' f1 v1 l1 :: l.drop (i + 1) := by
            rw [List.drop_eq_getElem?_toList_append (i := i), he1]; rfl
          rw [hdr, depths]
        · have hil : i = l.length := by omega
          rw [if_neg hlt]
          have q2 : (leB (-9223372036854775808) (acc + 1) && leB (acc + 1) 9223372036854775807) = true := by simp [leB]; omega
          simp only [Bool.and_self, if_true, q2, SV.pv, Option.bind_some, retP, or_true, Option.map_some, IE.pe, List.getD_cons_zero]
          subst hil
          simp [depths]
    have h0 := loop n 0 0 (by have := sizes_len l; omega) (Nat.zero_le _) (Int.le_refl _) (by omega)
    simp only [evalF, tab_expr_Depth, Option.bind_some, Sys.run]
    show ((bindPs [.sh (.agg [_, _, _, _, _, _, _, _, _])] _).bind _) = _
    simp only [bindPs, bind1, bindK, x3, if_true, Option.map_some, Option.bind_some, List.append_nil, List.nil_append]
    show (PT.ev _ (.need (.is 0 0) _) _).bind _ = _
    simp only [PT.ev, BE.safe, BE.pe, PEnv.at, List.getD_cons_zero, x2, if_true, IE.pe, List.map_cons, List.map_nil, BE.all, SV.pvs, SV.pv, List.getElem?_cons_zero, Option.bind_some, Option.map_some, x1]
    simpa [Ex.depth] using h0
end Go.Proofs.Ytbmfegliomkkfaa
