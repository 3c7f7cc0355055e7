/- The examples of the chapter, whatever objects there are. -/
import Derived.Test.YtbmfegliomkkfaaHExN
import Derived.Test.YtbmfegliomkkfaaHExS
import Derived.Test.YtbmfegliomkkfaaHExT
set_option linter.unusedSimpArgs false
set_option linter.unusedVariables false
set_option maxRecDepth 100000
namespace Go.Proofs.Ytbmfegliomkkfaa
open Go.Sx
def awA : Ex := .node 1 1 0 0 0 0 0 5 []
def awB : Ex := .node 1 0 1 0 0 0 0 7 []
def awOr : Ex := .node 3 0 0 0 0 0 0 0 [awA, awB]
def awE : Ex := .node 5 0 0 0 0 0 0 10 [awOr]
def dbl : Ex → Ex
  | .node op a b c d e f v l => .node op a b c d e f (IntKind.i64.wrap (v * 2)) l
theorem dbl_v (σ : List MO) : MapV n_saleroomlaw11_awake_1 [] 1 1000000 (fun _ => σ) dbl where
  len _ := rfl
  at_ k x _ _ n hn := by
    obtain ⟨n, rfl⟩ : ∃ k, n = k + 1 := ⟨n - 1, by omega⟩
    obtain ⟨op, a, b, c, d, e', f, v, l⟩ := x
    have w3 := cslOf_one (crows l)
    simp only [dbl, Ex.crow]
    generalize cslOf (crows l) = w at *
    simp only [evalF, tab_saleroomlaw11_awake_1, Option.bind_some, Sys.run]
    show ((bindPs [.sh (.agg [_, _, _, _, _, _, _, _, _])] _).bind _) = _
    simp -implicitDefEqProofs only [bindPs, bind1, bindK, Option.map_some, Option.bind_some, List.append_nil, List.nil_append, List.cons_append, if_true, w3]
    show (PT.ev _ saleroomlaw11_awake_1_s _).bind _ = _
    simp -implicitDefEqProofs only [saleroomlaw11_awake_1_s, ↓reduceIte, PT.ev, BE.safe, BE.pe, IE.pe, PEnv.at, List.getD_cons_zero, List.getD_cons_succ, List.getElem?_cons_zero, List.getElem?_cons_succ, locOf, locOn, readLoc, takeN, Nat.add_zero, List.drop_zero, List.length_cons, List.length_nil, Nat.reduceAdd, Nat.le_refl, if_true, if_false, Bool.false_eq_true, List.take_succ_cons, List.take_zero, bindK, bindRes, bind1, Option.map_some, Option.bind_some, PEnv.push, List.cons_append, List.nil_append, List.append_nil, SV.pvs, SV.pv, BE.all, Bool.and_self, Bool.not_true, Bool.not_false, List.map_cons, List.map_nil, retP, or_true]
set_option maxHeartbeats 4000000 in
theorem awake_gen (σ : List MO) (hσ : σ.all (MO.low σ.length) = true) (n : Nat) (hn : 1000 ≤ n) : evalF Tab (n + 1) n_saleroomlaw11_awake [] σ = some (.bool true, σ) := by
  have s1 : awE.size = 4 := rfl
  have s2 : awOr.size = 3 := rfl
  have s3 : awA.size = 1 := rfl
  have s4 : awB.size = 1 := rfl
  have c1 := map_sem (dbl_v σ) (by omega) awOr _ (Ex.crow_is _) 0 (by omega) n (by omega)
  have c2 := check_sem σ hσ awE _ (Ex.crow_is _) n (by omega) (by omega)
  have c3 := check_sem σ hσ (.node 1 0 0 0 0 0 0 5 []) _ (Ex.crow_is _) n (by simp only [Ex.size, sizes]; omega) (by simp only [Ex.size, sizes]; omega)
  have c4 := check_sem σ hσ (.node 2 0 0 0 0 0 0 0 []) _ (Ex.crow_is _) n (by simp only [Ex.size, sizes]; omega) (by simp only [Ex.size, sizes]; omega)
  have c5 := size_sem σ hσ awE _ (Ex.crow_is _) n (by omega) (by omega)
  have c6 := depth_sem σ awE _ (Ex.crow_is _) n (by omega) (by omega)
  have c7 := prod_sem σ hσ awE _ (Ex.crow_is _) n (by omega) (by omega)
  have c8 := atoms_sem σ hσ awE _ (Ex.crow_is _) n (by omega) (by omega)
  have c9 := copy_sem σ awE _ (Ex.crow_is _) n (by omega) (by omega)
  have c10 := equal_sem σ awE _ (Ex.crow_is _) awE _ (Ex.crow_is _) n (by omega) (by omega)
  have c11 := equal_sem σ awA _ (Ex.crow_is _) awB _ (Ex.crow_is _) n (by omega) (by omega)
  have c12 := mapNil_sem σ awE _ (Ex.crow_is _) n (by omega) (by omega)
  have k2 : chk awE = 0 := by decide +kernel
  have k3 : chk (.node 1 0 0 0 0 0 0 5 []) = 4 := by decide +kernel
  have k4 : chk (.node 2 0 0 0 0 0 0 0 []) = 2 := by decide +kernel
  have k6 : awE.depth = 3 := by decide +kernel
  have k7 : prods ⟨0, 0, 0, 0, 0, 0⟩ awE.pre = ⟨1, 1, 0, 0, 0, 0⟩ := rfl
  have k8 : atomsOf awE.pre = [awA, awB] := rfl
  have k1 : awOr.map dbl = .node 3 0 0 0 0 0 0 0 [.node 1 1 0 0 0 0 0 10 [], .node 1 0 1 0 0 0 0 14 []] := rfl
  have k11 : awA.beq awB = false := by decide +kernel
  rw [k1] at c1
  rw [k2] at c2
  rw [k3] at c3
  rw [k4] at c4
  rw [s1] at c5
  rw [k6] at c6
  rw [k7] at c7
  rw [k8] at c8
  rw [awE.beq_refl] at c10
  rw [k11] at c11
  clear s1 s2 s3 s4 k1 k2 k3 k4 k6 k7 k8 k11
  simp only [awE, awOr, awA, awB, Ex.crow, crows, cslOf, W6.pv, n_expr_Map, n_expr_Check, n_expr_Size, n_expr_Depth, n_expr_Products, n_expr_Atoms, n_expr_Copy, n_expr_Equal, n_saleroomlaw11_awake_1] at c1 c2 c3 c4 c5 c6 c7 c8 c9 c10 c11 c12
  have hs : ∀ n r, (PV.sl n r).one = true := fun _ _ => rfl
  have hk : ∀ n r, (PV.sl n r).isKind 0 = true := fun _ _ => rfl
  have hl : ∀ n r, (PV.sl n r).len = r.length := fun _ _ => rfl
  have hn' : PV.nilS.one = true := rfl
  have q2 : 2 ≤ 1000000 := by omega
  have q1 : 1 ≤ 1000000 := by omega
  have q19 : 1 ≤ 2 := by omega
  have hl0 : ∀ (r1 r2 : List PV) (off : Nat), locEl 0 9 off (.sl 9 [r1, r2]) = some (.row r1 off) := fun _ _ _ => rfl
  have hl1 : ∀ (r1 r2 : List PV) (off : Nat), locEl 1 9 off (.sl 9 [r1, r2]) = some (.row r2 off) := fun _ _ _ => rfl
  have e1 : ∀ z : Int, eqB z z = true := eqB_self
  have e2 : ltB 0 2 = true := rfl
  have e3 : ltB 1 2 = true := rfl
  have hcast : ((4 : Nat) : Int) = 4 := rfl
  have hcast2 : ((2 : Nat) : Int) = 2 := rfl
  rw [hcast] at c5
  simp only [evalF, tab_saleroomlaw11_awake, Option.bind_some, Sys.run]
  show (some _).bind _ = _
  simp only [Option.bind_some]
  show (PT.ev _ saleroomlaw11_awake_s _).bind _ = _
  simp (maxSteps := 10000000) -implicitDefEqProofs only [saleroomlaw11_awake_s, ↓reduceIte, PT.ev, BE.safe, BE.pe, IE.pe, PEnv.at, List.getD_cons_zero, List.getD_cons_succ, List.getElem?_cons_zero, List.getElem?_cons_succ, locOf, locOn, readLoc, takeN, Nat.add_zero, List.drop_zero, List.length_cons, List.length_nil, Nat.reduceAdd, Nat.le_refl, if_true, if_false, Bool.false_eq_true, List.take_succ_cons, List.take_zero, bindK, bindRes, bind1, Option.map_some, Option.bind_some, PEnv.push, List.cons_append, List.nil_append, List.append_nil, SV.pvs, SV.pv, BE.all, Bool.and_self, Bool.not_true, Bool.not_false, List.map_cons, List.map_nil, srcRows, List.mapM_cons, List.mapM_nil, Option.bind_eq_bind, Option.pure_def, List.reverse_cons, List.reverse_nil, q1, q2, q19, hs, hk, hl, hn', hl0, hl1, c1, c2, c3, c4, c5, c6, c7, c8, c9, c10, c11, c12, e1, e2, e3, hcast2, List.drop_succ_cons, retP, or_true]
end Go.Proofs.Ytbmfegliomkkfaa
