/- The greatest quantities. -/
import Derived.Test.YtbmfegliomkkfaaHExG
set_option linter.unusedSimpArgs false
set_option linter.unusedVariables false
set_option maxRecDepth 100000
namespace Go.Proofs.Ytbmfegliomkkfaa
open Go.Sx
structure W6 where
  (a b c d e f : Int)
def W6.mx (x y : W6) : W6 := ⟨mxI x.a y.a, mxI x.b y.b, mxI x.c y.c, mxI x.d y.d, mxI x.e y.e, mxI x.f y.f⟩
def W6.pv (x : W6) : List PV := [.int .i64 x.a, .int .i64 x.b, .int .i64 x.c, .int .i64 x.d, .int .i64 x.e, .int .i64 x.f]
def Ex.want : Ex → W6 | .node _ a b c d e f _ _ => ⟨a, b, c, d, e, f⟩
def prods (w : W6) : List Ex → W6 := List.foldl (fun w e => w.mx e.want) w
theorem join_sem (σ : List MO) (x y : W6) (n : Nat) (hn : 1 ≤ n) : evalF Tab n n_bundle_Join [.agg x.pv, .agg y.pv] σ = some (.agg (x.mx y).pv, σ) := by
  obtain ⟨n, rfl⟩ : ∃ k, n = k + 1 := ⟨n - 1, by omega⟩
  simp only [evalF, tab_bundle_Join, Option.bind_some, Sys.run, W6.pv]
  show ((bindPs [.sh (.agg [_, _, _, _, _, _]), .sh (.agg [_, _, _, _, _, _])] _).bind _) = _
  simp only [bindPs, bind1, bindK, Option.map_some, Option.bind_some, List.append_nil, List.nil_append, List.cons_append, if_true]
  show (PT.ev _ bundle_Join_s _).bind _ = _
  simp -implicitDefEqProofs only [bundle_Join_s, PT.ev, BE.safe, BE.pe, IE.pe, PEnv.at, List.getD_cons_zero, List.getD_cons_succ, List.getElem?_cons_zero, List.getElem?_cons_succ, locOf, locOn, readLoc, takeN, Nat.add_zero, List.drop_zero, List.length_cons, List.length_nil, Nat.reduceAdd, Nat.le_refl, if_true, if_false, Bool.false_eq_true, List.take_succ_cons, List.take_zero, bindK, bindRes, bind1, Option.map_some, Option.bind_some, PEnv.push, List.cons_append, List.nil_append, List.append_nil, SV.pvs, SV.pv, BE.all, Bool.and_self, Bool.not_true, Bool.not_false, List.map_cons, List.map_nil, retP, or_true, W6.mx]
theorem prod_visits (σ : List MO) (all : List Ex) :
    Visits n_expr_Products_1 [.ref σ.length 0] 2 all (fun p => σ ++ [.cells (prods ⟨0, 0, 0, 0, 0, 0⟩ p).pv 26]) (fun _ _ => true) (fun _ _ => []) where
  at_ p x r row hall hrow n hn := by
    obtain ⟨n, rfl⟩ : ∃ k, n = k + 1 := ⟨n - 1, by omega⟩
    have hprods : prods ⟨0, 0, 0, 0, 0, 0⟩ (p ++ [x]) = (prods ⟨0, 0, 0, 0, 0, 0⟩ p).mx x.want := by simp [prods]
    rw [hprods]
    generalize prods ⟨0, 0, 0, 0, 0, 0⟩ p = w
    obtain ⟨op, a, b, c, d, e', f, v, l⟩ := x
    simp only [IsE] at hrow
    obtain ⟨x, rows, rfl, hx, hl⟩ := hrow
    obtain ⟨x1, x2, x3⟩ := rows_len hx
    have hcall := join_sem (σ ++ [.cells w.pv 26]) w ⟨a, b, c, d, e', f⟩ n (by omega)
    simp only [Ex.want]
    generalize hj : w.mx ⟨a, b, c, d, e', f⟩ = j at *
    simp only [n_bundle_Join, W6.pv] at hcall
    have hget : (σ ++ [MO.cells w.pv 26])[σ.length]? = some (.cells w.pv 26) := by simp
    simp only [evalF, tab_expr_Products_1, Option.bind_some, Sys.run]
    show ((bindPs [.sh (.agg [_, _, _, _, _, _, _, _, _]), .ptr] _).bind _) = _
    have hptr : (PV.ref σ.length 0).isPtr = true := rfl
    simp only [bindPs, bind1, bindK, Option.map_some, Option.bind_some, List.append_nil, List.nil_append, List.cons_append, if_true, x3, hptr]
    show (PT.ev _ expr_Products_1_s _).bind _ = _
    simp only [W6.pv] at hget ⊢
    simp -implicitDefEqProofs only [expr_Products_1_s, PT.ev, BE.safe, BE.pe, IE.pe, PEnv.at, List.getD_cons_zero, List.getD_cons_succ, List.getElem?_cons_zero, List.getElem?_cons_succ, locOf, locOn, readLoc, takeN, Nat.add_zero, List.drop_zero, List.length_cons, List.length_nil, Nat.reduceAdd, Nat.le_refl, if_true, if_false, Bool.false_eq_true, List.take_succ_cons, List.take_zero, bindK, bindRes, bind1, Option.map_some, Option.bind_some, PEnv.push, List.cons_append, List.nil_append, List.append_nil, SV.pvs, SV.pv, BE.all, Bool.and_self, Bool.not_true, Bool.not_false, List.map_cons, List.map_nil, hget, MO.list, hcall, setP, Nat.zero_add, List.drop_succ_cons, List.drop_nil, set_last, retP, true_or]
theorem prod_sem (σ : List MO) (hσ : σ.all (MO.low σ.length) = true) (e : Ex) (row : List PV) (hrow : IsE e row) (n : Nat) (hn : e.size + 5 ≤ n) (hbig : e.size ≤ 1000000) :
    evalF Tab n n_expr_Products [.agg row] σ = some (.agg (prods ⟨0, 0, 0, 0, 0, 0⟩ e.pre).pv, σ) := by
  obtain ⟨n, rfl⟩ : ∃ k, n = k + 1 := ⟨n - 1, by omega⟩
  have hw := walk_sem (prod_visits σ e.pre) e row [] [] (by simp) hrow n (by omega) hbig
  have hstop : ∀ (l p : List Ex), stopAt (fun _ _ => true) p l = none := by
    intro l
    induction l with
    | nil => intro p; rfl
    | cons x l ih => intro p; simp [stopAt, ih]
  rw [hstop] at hw
  generalize hq : prods ⟨0, 0, 0, 0, 0, 0⟩ e.pre = q at *
  simp only [visitR, List.nil_append, hq, n_expr_walker_walk, n_expr_Products_1] at hw
  rw [show prods ⟨0, 0, 0, 0, 0, 0⟩ [] = ⟨0, 0, 0, 0, 0, 0⟩ from rfl] at hw
  obtain ⟨op, a, b, c, d, e', f, v, l⟩ := e
  simp only [IsE] at hrow
  obtain ⟨x, rows, rfl, hx, hl⟩ := hrow
  obtain ⟨x1, x2, x3⟩ := rows_len hx
  simp only [evalF, tab_expr_Products, Option.bind_some, Sys.run]
  show ((bindPs [.sh (.agg [_, _, _, _, _, _, _, _, _])] _).bind _) = _
  simp only [bindPs, bind1, bindK, Option.map_some, Option.bind_some, List.append_nil, List.nil_append, List.cons_append, if_true, x3]
  show (PT.ev _ expr_Products_s _).bind _ = _
  have hσ' : ∀ x ∈ σ, MO.low σ.length x = true := List.all_eq_true.1 hσ
  simp only [W6.pv] at hw ⊢
  have hget : (σ ++ [MO.cells q.pv 26])[σ.length]? = some (.cells q.pv 26) := by simp
  simp only [W6.pv] at hget
  have hone : (PV.bool true).one = true := rfl
  simp -implicitDefEqProofs only [expr_Products_s, PT.ev, BE.safe, BE.pe, IE.pe, PEnv.at, List.getD_cons_zero, List.getD_cons_succ, List.getElem?_cons_zero, List.getElem?_cons_succ, locOf, locOn, readLoc, takeN, Nat.add_zero, List.drop_zero, List.length_cons, List.length_nil, Nat.reduceAdd, Nat.le_refl, if_true, if_false, Bool.false_eq_true, List.take_succ_cons, List.take_zero, bindK, bindRes, bind1, Option.map_some, Option.bind_some, PEnv.push, List.cons_append, List.nil_append, List.append_nil, SV.pvs, SV.pv, BE.all, Bool.and_self, Bool.not_true, Bool.not_false, List.map_cons, List.map_nil, PV.on, hw, hone, hget, MO.list]
  simp [retP, PV.frz, PV.frzs]
  rw [if_pos hσ']
  rfl
end Go.Proofs.Ytbmfegliomkkfaa
