/- The cycle that is followed back. -/
import Derived.Test.YthjahianafohjaaHRvD
import Derived.Test.YthjahianafohjaaHGxD
import Derived.Test.YthjahianafohjaaHGxE
set_option linter.unusedSimpArgs false
set_option linter.unusedVariables false
set_option maxRecDepth 100000
namespace Go.Proofs.Ythjahianafohjaa
open Go.Sx Go.Bf
/-- The chain as keys. -/
def ckeys (f : Nat → Int) (z j k : Nat) : List Int := (List.range k).map fun i => (chain f z (j + i) : Int)
theorem ckeys_zero (f : Nat → Int) (z j : Nat) : ckeys f z j 0 = [] := rfl
theorem ckeys_len (f : Nat → Int) (z j k : Nat) : (ckeys f z j k).length = k := by simp [ckeys]
theorem ckeys_succ (f : Nat → Int) (z j k : Nat) : ckeys f z j (k + 1) = ckeys f z j k ++ [(chain f z (j + k) : Int)] := by simp [ckeys, List.range_succ]
theorem ckeys_get {f : Nat → Int} {z j k i : Nat} (h : i < k) : (ckeys f z j k)[i]? = some (chain f z (j + i) : Int) := by simp [ckeys, h]
theorem mem_ckeys {f : Nat → Int} {z j k : Nat} {x : Int} : x ∈ ckeys f z j k ↔ ∃ i, i < k ∧ x = (chain f z (j + i) : Int) := by
  simp only [ckeys, List.mem_map, List.mem_range]
  constructor
  · rintro ⟨i, h, rfl⟩; exact ⟨i, h, rfl⟩
  · rintro ⟨i, h, rfl⟩; exact ⟨i, h, rfl⟩
theorem nodup_at {f : Nat → Int} {z k : Nat} (hn : ((List.range k).map (chain f z)).Nodup) {a b : Nat} (ha : a < k) (hb : b < k) (e : chain f z a = chain f z b) : a = b := by
  have ga : ((List.range k).map (chain f z))[a]? = some (chain f z a) := by simp [ha]
  have gb : ((List.range k).map (chain f z))[b]? = some (chain f z a) := by simp [hb, e]
  exact (List.getElem?_inj (by simpa using ha) hn).1 (by rw [ga, gb])
section
variable (σ : List MO) (n : Nat) (h : Nat) (fl : List Int) (T : Nat) (hm : σ[h]? = some (.cells (icell fl) T))
variable {g : Nat → Nat → Int} {v : Nat → Int} {c t : Nat → Nat} {z : Nat} (hf : Go.Bf.Fin fl.length g v (at' fl) c t z)
/-- The first walk: until the chain closes. -/
def st0 (k : Nat) : PEnv := { i := [(chain (at' fl) z k : Int)], b := [], v := [.msl h 0 fl.length fl.length 1, .mp σ.length], m := σ ++ [.mp (ckeys (at' fl) z 0 k) (List.replicate k (.bool true)) .i64], k := σ.length }
def st1 (w : PV) (m : List MO) (x : Nat) : PEnv := { i := [(x : Int)], b := [], v := [.msl h 0 fl.length fl.length 1, .mp σ.length, w], m := σ ++ m, k := σ.length }
include hm hf in
theorem step0 (k fuel : Nat) (hk : k ≤ fl.length) (hn : ((List.range k).map (chain (at' fl) z)).Nodup) :
    (chain (at' fl) z k ∉ (List.range k).map (chain (at' fl) z) → revealed_cycle_S.loop (evalF Tab n) (fuel + 1) 0 (st0 σ h fl (z := z) k) = revealed_cycle_S.loop (evalF Tab n) fuel 0 (st0 σ h fl (z := z) (k + 1))) ∧
    (chain (at' fl) z k ∈ (List.range k).map (chain (at' fl) z) → revealed_cycle_S.loop (evalF Tab n) (fuel + 1) 0 (st0 σ h fl (z := z) k) = revealed_cycle_S.loop (evalF Tab n) fuel 1 (st1 σ h fl .nilS [.mp [] [] .i64] (chain (at' fl) z k))) := by
  have hl := lookL_rep (ckeys (at' fl) z 0 k) (.bool true) (chain (at' fl) z k : Int)
  rw [ckeys_len] at hl
  have hmem : ((chain (at' fl) z k : Int) ∈ ckeys (at' fl) z 0 k) ↔ chain (at' fl) z k ∈ (List.range k).map (chain (at' fl) z) := by
    rw [mem_ckeys, List.mem_map]
    constructor
    · rintro ⟨i, hi, e⟩; exact ⟨i, List.mem_range.2 hi, by rw [Nat.zero_add] at e; omega⟩
    · rintro ⟨i, hi, e⟩; exact ⟨i, List.mem_range.1 hi, by rw [Nat.zero_add, e]⟩
  constructor
  · intro hx
    have hx' := fun q => hx (hmem.1 q)
    rw [if_neg hx'] at hl
    have hp := putL_new (ckeys (at' fl) z 0 k) (.bool true) (chain (at' fl) z k : Int) hx'
    rw [ckeys_len] at hp
    have hkn := hf.short hk hn hx
    have a1 := hf.at_lt k (by omega)
    have hlink := (hf.link hkn).1
    have hk1 := ckeys_succ (at' fl) z 0 k
    rw [Nat.zero_add] at hk1
    rw [st0, st0, hk1]
    rw [Sys.loop, show revealed_cycle_S.loops[0]? = some revealed_cycle_t0 from rfl]
    generalize chain (at' fl) z (k + 1) = y at *
    generalize chain (at' fl) z k = x at *
    have hg : fl[x]? = some (y : Int) := by rw [at'_get a1.1, hlink]
    have hd := icell_drop hg
    have he := locEl_msl (h := h) (o := 0) (cap := fl.length) (sz := 1) (off := 0) a1.1
    have q1 : (leB 0 (x : Int) && decide (x < fl.length)) = true := by simp [leB, a1.1]
    have gm := fun r => get_old (r := r) hm
    simp -implicitDefEqProofs only [Option.bind_some, revealed_cycle_t0, ↓reduceIte, PT.ev, BE.safe, BE.pe, IE.pe, PEnv.at, List.getD_cons_zero, List.getD_cons_succ, List.getElem?_cons_zero, List.getElem?_cons_succ, locOf, locOn, readLoc, takeN, Nat.add_zero, List.drop_zero, List.length_cons, List.length_nil, Nat.reduceAdd, Nat.le_refl, if_true, if_false, Bool.false_eq_true, List.take_succ_cons, List.take_zero, bindK, bindRes, bind1, Option.map_some, Option.bind_some, PEnv.push, List.cons_append, List.nil_append, List.append_nil, SV.pvs, SV.pv, BE.all, Bool.and_self, Bool.not_true, Bool.not_false, List.map_cons, List.map_nil, get_0, set_0, hl, hp, Option.getD_none, PV.len, ltB_nat, if_pos q1, he, gm, MO.list, Nat.mul_one, Nat.zero_add, hd, Nat.le_add_left]
  · intro hx
    rw [if_pos (hmem.2 hx)] at hl
    rw [st0, st1]
    rw [Sys.loop, show revealed_cycle_S.loops[0]? = some revealed_cycle_t0 from rfl]
    simp -implicitDefEqProofs only [Option.bind_some, revealed_cycle_t0, ↓reduceIte, PT.ev, BE.safe, BE.pe, IE.pe, PEnv.at, List.getD_cons_zero, List.getD_cons_succ, List.getElem?_cons_zero, List.getElem?_cons_succ, locOf, locOn, readLoc, takeN, Nat.add_zero, List.drop_zero, List.length_cons, List.length_nil, Nat.reduceAdd, Nat.le_refl, if_true, if_false, Bool.false_eq_true, List.take_succ_cons, List.take_zero, bindK, bindRes, bind1, Option.map_some, Option.bind_some, PEnv.push, List.cons_append, List.nil_append, List.append_nil, SV.pvs, SV.pv, BE.all, Bool.and_self, Bool.not_true, Bool.not_false, List.map_cons, List.map_nil, get_0, set_0, hl, Option.getD_some]
include hm hf in
theorem run0 (d : Nat) : ∀ k, fl.length - k ≤ d → k ≤ fl.length → ((List.range k).map (chain (at' fl) z)).Nodup → ∃ j k', k ≤ k' ∧ j < k' ∧ k' ≤ fl.length ∧ ((List.range k').map (chain (at' fl) z)).Nodup ∧ chain (at' fl) z k' = chain (at' fl) z j ∧
    ∀ fuel, revealed_cycle_S.loop (evalF Tab n) (fuel + (k' - k) + 1) 0 (st0 σ h fl (z := z) k) = revealed_cycle_S.loop (evalF Tab n) fuel 1 (st1 σ h fl .nilS [.mp [] [] .i64] (chain (at' fl) z j)) := by
  induction d with
  | zero =>
    intro k h1 h2 hn
    by_cases hx : chain (at' fl) z k ∈ (List.range k).map (chain (at' fl) z)
    · obtain ⟨j, hj, e⟩ := List.mem_map.1 hx
      refine ⟨j, k, Nat.le_refl _, List.mem_range.1 hj, h2, hn, e.symm, fun fuel => ?_⟩
      rw [Nat.sub_self, Nat.add_zero, (step0 σ n h fl T hm hf k fuel h2 hn).2 hx, e]
    · have := hf.short h2 hn hx; omega
  | succ d ih =>
    intro k h1 h2 hn
    by_cases hx : chain (at' fl) z k ∈ (List.range k).map (chain (at' fl) z)
    · obtain ⟨j, hj, e⟩ := List.mem_map.1 hx
      refine ⟨j, k, Nat.le_refl _, List.mem_range.1 hj, h2, hn, e.symm, fun fuel => ?_⟩
      rw [Nat.sub_self, Nat.add_zero, (step0 σ n h fl T hm hf k fuel h2 hn).2 hx, e]
    · have hk := hf.short h2 hn hx
      have hn1 : ((List.range (k + 1)).map (chain (at' fl) z)).Nodup := by
        rw [List.range_succ, List.map_append, List.nodup_append]
        refine ⟨hn, by simp, ?_⟩
        intro a ha b hb
        simp only [List.map_cons, List.map_nil, List.mem_singleton] at hb
        rintro rfl
        subst hb
        exact hx ha
      obtain ⟨j, k', e1, e2, e3, e4, e5, e6⟩ := ih (k + 1) (by omega) (by omega) hn1
      refine ⟨j, k', by omega, e2, e3, e4, e5, fun fuel => ?_⟩
      rw [show fuel + (k' - k) + 1 = (fuel + (k' - (k + 1)) + 1) + 1 by omega, (step0 σ n h fl T hm hf k _ h2 hn).1 hx, e6]
/-- The second walk: once around. -/
def back (j k : Nat) : List MO := .mp (ckeys (at' fl) z j k) (List.replicate k (.bool true)) .i64 :: (if k = 0 then [] else [.row (irows (ckeys (at' fl) z j k)) 1 3])
def backV (k : Nat) : PV := if k = 0 then .nilS else .rsl (σ.length + 1) k 1
include hm hf in
theorem step1 (j L k fuel : Nat) (hfl : fl.length ≤ 1000) (hk : k < L) (hL : j + L ≤ fl.length) (hn : ((List.range (j + L)).map (chain (at' fl) z)).Nodup) :
    revealed_cycle_S.loop (evalF Tab n) (fuel + 1) 1 (st1 σ h fl (backV σ k) (back fl (z := z) j k) (chain (at' fl) z (j + k))) = revealed_cycle_S.loop (evalF Tab n) fuel 1 (st1 σ h fl (backV σ (k + 1)) (back fl (z := z) j (k + 1)) (chain (at' fl) z (j + k + 1))) := by
  have hl := lookL_rep (ckeys (at' fl) z j k) (.bool true) (chain (at' fl) z (j + k) : Int)
  rw [ckeys_len] at hl
  have hx' : ¬ ((chain (at' fl) z (j + k) : Int) ∈ ckeys (at' fl) z j k) := by
    rw [mem_ckeys]
    rintro ⟨i, hi, e⟩
    have := nodup_at hn (a := j + k) (b := j + i) (by omega) (by omega) (by omega)
    omega
  rw [if_neg hx'] at hl
  have hp := putL_new (ckeys (at' fl) z j k) (.bool true) (chain (at' fl) z (j + k) : Int) hx'
  rw [ckeys_len] at hp
  have a1 := hf.at_lt (j + k) (by omega)
  have hlink := (hf.link (i := j + k) (by omega)).1
  have hk1 := ckeys_succ (at' fl) z j k
  have hrl : (irows (ckeys (at' fl) z j k)).length = k := by simp [irows, ckeys_len]
  have hrs : irows (ckeys (at' fl) z j (k + 1)) = irows (ckeys (at' fl) z j k) ++ [[.int .i64 (chain (at' fl) z (j + k) : Int)]] := by rw [hk1]; simp [irows]
  have gm := fun r => get_old (r := r) hm
  have hb1 : backV σ (k + 1) = .rsl (σ.length + 1) (k + 1) 1 := if_neg (by omega)
  have hb2 : back fl (z := z) j (k + 1) = [.mp (ckeys (at' fl) z j (k + 1)) (List.replicate (k + 1) (.bool true)) .i64, .row (irows (ckeys (at' fl) z j (k + 1))) 1 3] := by rw [back, if_neg (by omega)]
  rw [hb1, hb2, hrs, hk1, st1, st1]
  rw [Sys.loop, show revealed_cycle_S.loops[1]? = some revealed_cycle_t1 from rfl]
  generalize chain (at' fl) z (j + k + 1) = y at *
  generalize chain (at' fl) z (j + k) = x at *
  have hg : fl[x]? = some (y : Int) := by rw [at'_get a1.1, hlink]
  have hd := icell_drop hg
  have he := locEl_msl (h := h) (o := 0) (cap := fl.length) (sz := 1) (off := 0) a1.1
  have q1 : (leB 0 (x : Int) && decide (x < fl.length)) = true := by simp [leB, a1.1]
  by_cases hk0 : k = 0
  · subst hk0
    simp only [backV, back, if_true, st1]
    simp only [ckeys_zero] at hl hp
    simp -implicitDefEqProofs only [Option.bind_some, revealed_cycle_t1, ↓reduceIte, PT.ev, BE.safe, BE.pe, IE.pe, PEnv.at, List.getD_cons_zero, List.getD_cons_succ, List.getElem?_cons_zero, List.getElem?_cons_succ, locOf, locOn, readLoc, takeN, Nat.add_zero, List.drop_zero, List.length_cons, List.length_nil, Nat.reduceAdd, Nat.le_refl, if_true, if_false, Bool.false_eq_true, List.take_succ_cons, List.take_zero, bindK, bindRes, bind1, Option.map_some, Option.bind_some, PEnv.push, List.cons_append, List.nil_append, List.append_nil, SV.pvs, SV.pv, BE.all, Bool.and_self, Bool.not_true, Bool.not_false, List.map_cons, List.map_nil, get_0, set_0, len_1, app_1, hl, hp, Option.getD_none, PV.len, srcRows, List.mapM_cons, List.mapM_nil, Option.bind_eq_bind, Option.pure_def, PV.rowsOf, Nat.reduceLeDiff, Nat.reduceEqDiff, Nat.succ_ne_zero, ltB_nat, if_pos q1, he, gm, MO.list, Nat.mul_one, Nat.zero_add, hd, Nat.le_add_left, irows, ckeys_zero, List.map_nil]
  · have hb3 : backV σ k = .rsl (σ.length + 1) k 1 := if_neg hk0
    have hb4 : back fl (z := z) j k = [.mp (ckeys (at' fl) z j k) (List.replicate k (.bool true)) .i64, .row (irows (ckeys (at' fl) z j k)) 1 3] := by rw [back, if_neg hk0]
    rw [hb3, hb4]
    have q2 : k + 1 ≤ 1000000 := by omega
    have o1 : (1 ≤ 1000000) = True := eq_true (by decide)
    have o2 : (1 = 0) = False := eq_false (by decide)
    simp -implicitDefEqProofs only [Option.bind_some, revealed_cycle_t1, ↓reduceIte, PT.ev, BE.safe, BE.pe, IE.pe, PEnv.at, List.getD_cons_zero, List.getD_cons_succ, List.getElem?_cons_zero, List.getElem?_cons_succ, locOf, locOn, readLoc, takeN, Nat.add_zero, List.drop_zero, List.length_cons, List.length_nil, Nat.reduceAdd, Nat.le_refl, if_true, if_false, Bool.false_eq_true, List.take_succ_cons, List.take_zero, bindK, bindRes, bind1, Option.map_some, Option.bind_some, PEnv.push, List.cons_append, List.nil_append, List.append_nil, SV.pvs, SV.pv, BE.all, Bool.and_self, Bool.not_true, Bool.not_false, List.map_cons, List.map_nil, get_0, set_0, get_1, set_1, hl, hp, Option.getD_none, PV.len, srcRows, List.mapM_cons, List.mapM_nil, Option.bind_eq_bind, Option.pure_def, PV.rowsOf, hrl, q2, o1, o2, and_self, ltB_nat, if_pos q1, he, gm, MO.list, Nat.mul_one, Nat.zero_add, hd, Nat.le_add_left]
include hm hf in
theorem run1 (j L : Nat) (hfl : fl.length ≤ 1000) (hL : j + L ≤ fl.length) (hn : ((List.range (j + L)).map (chain (at' fl) z)).Nodup) : ∀ d k, k + d = L → ∀ fuel,
    revealed_cycle_S.loop (evalF Tab n) (fuel + d) 1 (st1 σ h fl (backV σ k) (back fl (z := z) j k) (chain (at' fl) z (j + k))) = revealed_cycle_S.loop (evalF Tab n) fuel 1 (st1 σ h fl (backV σ L) (back fl (z := z) j L) (chain (at' fl) z (j + L))) := by
  intro d
  induction d with
  | zero => intro k hk fuel; rw [Nat.add_zero] at hk; subst hk; rfl
  | succ d ih =>
    intro k hk fuel
    rw [show fuel + (d + 1) = (fuel + d) + 1 from rfl, step1 σ n h fl T hm hf j L k _ hfl (by omega) hL hn]
    exact ih (k + 1) (by omega) fuel
/-- The third: the other way round. -/
def st2 (ys : List Int) (i : Nat) : PEnv := { i := [(ys.length : Int), (i : Int)], b := [], v := [.rsl (σ.length + 1) ys.length 1, .msl (σ.length + 2) 0 ys.length ys.length 1], m := σ ++ [.mp ys (List.replicate ys.length (.bool true)) .i64, .row (irows ys) 1 3, .cells (icell (List.replicate (ys.length - i) 0 ++ (ys.take i).reverse)) 3], k := σ.length }
theorem step2 (ys : List Int) (i fuel : Nat) (hy : ys.length ≤ 1000) (hi : i < ys.length) :
    revealed_cycle_S.loop (evalF Tab n) (fuel + 1) 2 (st2 σ ys i) = revealed_cycle_S.loop (evalF Tab n) fuel 2 (st2 σ ys (i + 1)) := by
  obtain ⟨y, hy'⟩ : ∃ y, ys[i]? = some y := ⟨_, List.getElem?_eq_getElem hi⟩
  have hir : (irows ys)[i]? = some [.int .i64 y] := by simp [irows, hy']
  have hrl : (irows ys).length = ys.length := by simp [irows]
  have hrep : (List.replicate (ys.length - i) 0 ++ (ys.take i).reverse).set (ys.length - 1 - i) y = List.replicate (ys.length - (i + 1)) 0 ++ (ys.take (i + 1)).reverse := by
    rw [List.take_add_one, hy', show ys.length - i = (ys.length - (i + 1)) + 1 by omega, List.replicate_succ', List.append_assoc, show ys.length - 1 - i = (List.replicate (ys.length - (i + 1)) (0 : Int)).length by simp; omega]
    rw [List.set_append_right _ _ (Nat.le_refl _)]
    simp
  have hlen : (List.replicate (ys.length - i) 0 ++ (ys.take i).reverse).length = ys.length := by simp; omega
  have hset := icell_set (l := List.replicate (ys.length - i) 0 ++ (ys.take i).reverse) (i := ys.length - 1 - i) y (by rw [hlen]; omega)
  rw [hrep] at hset
  rw [st2, st2, Sys.loop, show revealed_cycle_S.loops[2]? = some revealed_cycle_t2 from rfl]
  have hcl : (icell (List.replicate (ys.length - i) 0 ++ (ys.take i).reverse)).length = ys.length := by rw [icell_len, hlen]
  generalize icell (List.replicate (ys.length - i) 0 ++ (ys.take i).reverse) = o at *
  generalize icell (List.replicate (ys.length - (i + 1)) 0 ++ (ys.take (i + 1)).reverse) = o' at *
  have q1 : (leB 0 (i : Int) && true) = true := by simp [leB]
  have q2 : (leB (-9223372036854775808) ((ys.length : Int) - 1) && leB ((ys.length : Int) - 1) 9223372036854775807) = true := by simp [leB]; omega
  have e1 : (ys.length : Int) - 1 - (i : Int) = ((ys.length - 1 - i : Nat) : Int) := by omega
  have q3 : (leB (-9223372036854775808) ((ys.length - 1 - i : Nat) : Int) && leB ((ys.length - 1 - i : Nat) : Int) 9223372036854775807) = true := by simp [leB]; omega
  have q4 : (leB 0 ((ys.length - 1 - i : Nat) : Int) && decide (ys.length - 1 - i < ys.length)) = true := by simp [leB]; omega
  have q5 : (leB (-9223372036854775808) ((i : Int) + 1) && leB ((i : Int) + 1) 9223372036854775807) = true := by simp [leB]; omega
  have l1 := locEl_rsl (h := σ.length + 1) (sz := 1) (off := 0) hi
  have l2 := locEl_msl (h := σ.length + 2) (o := 0) (cap := ys.length) (sz := 1) (off := 0) (i := ys.length - 1 - i) (len := ys.length) (by omega)
  have hle : ys.length - 1 - i + 1 ≤ ys.length := by omega
  have e2 : ((i + 1 : Nat) : Int) = (i : Int) + 1 := by omega
  have hd : decide (i < ys.length) = true := decide_eq_true hi
  generalize ys.length - 1 - i = w at *
  simp -implicitDefEqProofs only [Option.bind_some, revealed_cycle_t2, ↓reduceIte, PT.ev, BE.safe, BE.pe, IE.pe, PEnv.at, List.getD_cons_zero, List.getD_cons_succ, List.getElem?_cons_zero, List.getElem?_cons_succ, locOf, locOn, readLoc, takeN, Nat.add_zero, List.drop_zero, List.length_cons, List.length_nil, Nat.reduceAdd, Nat.le_refl, if_true, if_false, Bool.false_eq_true, List.take_succ_cons, List.take_zero, bindK, bindRes, bind1, Option.map_some, Option.bind_some, PEnv.push, List.cons_append, List.nil_append, List.append_nil, SV.pvs, SV.pv, BE.all, Bool.and_self, Bool.not_true, Bool.not_false, List.map_cons, List.map_nil, ltB_nat, hd, PV.len, PV.isKind, if_pos q1, if_pos q2, e1, if_pos q3, if_pos q4, if_pos q5, l1, l2, get_1, get_2, set_2, MO.elts, hrl, hir, and_self, hcl, hle, Nat.mul_one, Nat.zero_add, hset, e2]
theorem run2 (ys : List Int) (hy : ys.length ≤ 1000) : ∀ d i, i + d = ys.length → ∀ fuel,
    revealed_cycle_S.loop (evalF Tab n) (fuel + d) 2 (st2 σ ys i) = revealed_cycle_S.loop (evalF Tab n) fuel 2 (st2 σ ys ys.length) := by
  intro d
  induction d with
  | zero => intro i hi fuel; rw [Nat.add_zero] at hi; subst hi; rfl
  | succ d ih =>
    intro i hi fuel
    rw [show fuel + (d + 1) = (fuel + d) + 1 from rfl, step2 σ n ys i _ hy (by omega)]
    exact ih (i + 1) (by omega) fuel
theorem end2 (hσ : Flat σ) (ys : List Int) (fuel : Nat) : revealed_cycle_S.loop (evalF Tab n) (fuel + 1) 2 (st2 σ ys ys.length) = some (.sl 1 (irows ys.reverse), σ) := by
  have hd : decide (ys.length < ys.length) = false := by simp
  have hz : List.replicate (ys.length - ys.length) (0 : Int) ++ (ys.take ys.length).reverse = ys.reverse := by simp
  have hl : ys.length = ys.reverse.length := by simp
  have hr := rowsN_icell ys.reverse
  rw [st2, hz, Sys.loop, show revealed_cycle_S.loops[2]? = some revealed_cycle_t2 from rfl]
  simp -implicitDefEqProofs only [Option.bind_some, revealed_cycle_t2, ↓reduceIte, PT.ev, BE.safe, BE.pe, IE.pe, PEnv.at, List.getD_cons_zero, List.getD_cons_succ, List.getElem?_cons_zero, List.getElem?_cons_succ, locOf, locOn, readLoc, takeN, Nat.add_zero, List.drop_zero, List.length_cons, List.length_nil, Nat.reduceAdd, Nat.le_refl, if_true, if_false, Bool.false_eq_true, List.take_succ_cons, List.take_zero, bindK, bindRes, bind1, Option.map_some, Option.bind_some, PEnv.push, List.cons_append, List.nil_append, List.append_nil, SV.pvs, SV.pv, BE.all, Bool.and_self, Bool.not_true, Bool.not_false, List.map_cons, List.map_nil, ltB_nat, hd]
  have hm3 : (σ ++ [.mp ys (List.replicate ys.length (.bool true)) .i64, .row (irows ys) 1 3, .cells (icell ys.reverse) 3] : List MO).length = σ.length + 3 := by simp
  have h1 : ¬ (false = true ∨ σ.length + 3 = σ.length) := by simp
  have h2 : ¬ (σ.length + 2 < σ.length) := by omega
  rw [← hl] at hr
  simp -implicitDefEqProofs only [retP, hm3, if_neg h1, List.take_left', hσ σ.length, PV.frz, if_neg h2, lookF, get_2, frzs_icell, MO.list, hr, List.take_append, ↓reduceIte, PT.ev, BE.safe, BE.pe, IE.pe, PEnv.at, List.getD_cons_zero, List.getD_cons_succ, List.getElem?_cons_zero, List.getElem?_cons_succ, locOf, locOn, readLoc, takeN, Nat.add_zero, List.drop_zero, List.length_cons, List.length_nil, Nat.reduceAdd, Nat.le_refl, if_true, if_false, Bool.false_eq_true, List.take_succ_cons, List.take_zero, bindK, bindRes, bind1, Option.map_some, Option.bind_some, PEnv.push, List.cons_append, List.nil_append, List.append_nil, SV.pvs, SV.pv, BE.all, Bool.and_self, Bool.not_true, Bool.not_false, List.map_cons, List.map_nil]
  simp [hσ σ.length]
end
end Go.Proofs.Ythjahianafohjaa
