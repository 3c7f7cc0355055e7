/- The cycle that is followed back. -/
import Derived.Test.YthjahianafohjaaHRva
import Derived.Test.YthjahianafohjaaHGx
set_option linter.unusedSimpArgs false
set_option linter.unusedVariables false
set_option maxRecDepth 100000
namespace Go.Proofs.Ythjahianafohjaa
open Go.Sx Go.Bf
/-- The chain as keys. -/
def ckeys (f : Nat → Int) (z j k : Nat) : List Int := (List.range k).map fun i => (chain f z (j + i) : Int)
theorem ckeys_zero (f : Nat → Int) (z j : Nat) : ckeys f z j 0 = [] := rfl
theorem ckeys_len (f : Nat → Int) (z j k : Nat) : (ckeys f z j k).length = k := by simp [ckeys]
theorem ckeys_succ (f : Nat → Int) (z j k : Nat) : ckeys f z j (k + 1) = ckeys f z j k ++ [(chain f z (j + k) : Int)] := by simp [ckeys, List.range_succ]
theorem ckeys_get {f : Nat → Int} {z j k i : Nat} (h : i < k) : (ckeys f z j k)[i]? = some (chain f z (j + i) : Int) := by simp [ckeys, h]
theorem mem_ckeys {f : Nat → Int} {z j k : Nat} {x : Int} : x ∈ ckeys f z j k ↔ ∃ i, i < k ∧ x = (chain f z (j + i) : Int) := by
  simp only [ckeys, List.mem_map, List.mem_range]
  constructor
  · rintro ⟨i, h, rfl⟩; exact ⟨i, h, rfl⟩
  · rintro ⟨i, h, rfl⟩; exact ⟨i, h, rfl⟩
theorem nodup_at {f : Nat → Int} {z k : Nat} (hn : ((List.range k).map (chain f z)).Nodup) {a b : Nat} (ha : a < k) (hb : b < k) (e : chain f z a = chain f z b) : a = b := by
  have ga : ((List.range k).map (chain f z))[a]? = some (chain f z a) := by simp [ha]
  have gb : ((List.range k).map (chain f z))[b]? = some (chain f z a) := by simp [hb, e]
  exact (List.getElem?_inj (by simpa using ha) hn).1 (by rw [ga, gb])
section
variable (σ : List MO) (n : Nat) (h : Nat) (fl : List Int) (T : Nat) (hm : σ[h]? = some (.cells (icell fl) T))
variable {g : Nat → Nat → Int} {v : Nat → Int} {c t : Nat → Nat} {z : Nat} (hf : Go.Bf.Fin fl.length g v (at' fl) c t z)
/-- The first walk: until the chain closes. -/
def st0 (k : Nat) : PEnv := { i := [(chain (at' fl) z k : Int)], b := [], v := [.msl h 0 fl.length fl.length 1, .mp σ.length], m := σ ++ [.mp (ckeys (at' fl) z 0 k) (List.replicate k (.bool true)) .i64], k := σ.length }
def st1 (w : PV) (m : List MO) (x : Nat) : PEnv := { i := [(x : Int)], b := [], v := [.msl h 0 fl.length fl.length 1, .mp σ.length, w], m := σ ++ m, k := σ.length }
include hm hf in
theorem step0 (k fuel : Nat) (hk : k ≤ fl.length) (hn : ((List.range k).map (chain (at' fl) z)).Nodup) :
    (chain (at' fl) z k ∉ (List.range k).map (chain (at' fl) z) → revealed_cycle_S.loop (evalF Tab n) (fuel + 1) 0 (st0 σ h fl (z := z) k) = revealed_cycle_S.loop (evalF Tab n) fuel 0 (st0 σ h fl (z := z) (k + 1))) ∧
    (chain (at' fl) z k ∈ (List.range k).map (chain (at' fl) z) → revealed_cycle_S.loop (evalF Tab n) (fuel + 1) 0 (st0 σ h fl (z := z) k) = revealed_cycle_S.loop (evalF Tab n) fuel 1 (st1 σ h fl .nilS [.mp [] [] .i64] (chain (at' fl) z k))) := by
  have hl := lookL_rep (ckeys (at' fl) z 0 k) (.bool true) (chain (at' fl) z k : Int)
  rw [ckeys_len] at hl
  have hmem : ((chain (at' fl) z k : Int) ∈ ckeys (at' fl) z 0 k) ↔ chain (at' fl) z k ∈ (List.range k).map (chain (at' fl) z) := by
    rw [mem_ckeys, List.mem_map]
    constructor
    · rintro ⟨i, hi, e⟩; exact ⟨i, List.mem_range.2 hi, by rw [Nat.zero_add] at e; omega⟩
    · rintro ⟨i, hi, e⟩; exact ⟨i, List.mem_range.1 hi, by rw [Nat.zero_add, e]⟩
  constructor
  · intro hx
    have hx' := fun q => hx (hmem.1 q)
    rw [if_neg hx'] at hl
    have hp := putL_new (ckeys (at' fl) z 0 k) (.bool true) (chain (at' fl) z k : Int) hx'
    rw [ckeys_len] at hp
    have hkn := hf.short hk hn hx
    have a1 := hf.at_lt k (by omega)
    have hlink := (hf.link hkn).1
    have hk1 := ckeys_succ (at' fl) z 0 k
    rw [Nat.zero_add] at hk1
    rw [st0, st0, hk1]
    rw [Sys.loop, show revealed_cycle_S.loops[0]? = some revealed_cycle_t0 from rfl]
    generalize chain (at' fl) z (k + 1) = y at *
    generalize chain (at' fl) z k = x at *
    have hg : fl[x]? = some (y : Int) := by rw [at'_get a1.1, hlink]
    have hd := icell_drop hg
    have he := locEl_msl (h := h) (o := 0) (cap := fl.length) (sz := 1) (off := 0) a1.1
    have q1 : (leB 0 (x : Int) && decide (x < fl.length)) = true := by simp [leB, a1.1]
    have gm := fun r => get_old (r := r) hm
    simp -implicitDefEqProofs only [Option.bind_some, revealed_cycle_t0, ↓reduceIte, eq_self, PT.ev, BE.safe, BE.pe, IE.pe, PEnv.at, List.getD_cons_zero, List.getD_cons_succ, List.getElem?_cons_zero, List.getElem?_cons_succ, locOf, locOn, readLoc, takeN, Nat.add_zero, List.drop_zero, List.length_cons, List.length_nil, Nat.reduceAdd, Nat.le_refl, if_true, if_false, Bool.false_eq_true, List.take_succ_cons, List.take_zero, bindK, bindRes, bind1, Option.map_some, Option.bind_some, PEnv.push, List.cons_append, List.nil_append, List.append_nil, SV.pvs, SV.pv, BE.all, Bool.and_self, Bool.not_true, Bool.not_false, List.map_cons, List.map_nil, get_0, set_0, hl, hp, Option.getD_none, PV.len, ltB_nat, if_pos q1, he, gm, MO.list, Nat.mul_one, Nat.zero_add, hd, Nat.le_add_left]
  · intro hx
    rw [if_pos (hmem.2 hx)] at hl
    rw [st0, st1]
    rw [Sys.loop, show revealed_cycle_S.loops[0]? = some revealed_cycle_t0 from rfl]
    simp -implicitDefEqProofs only [Option.bind_some, revealed_cycle_t0, ↓reduceIte, eq_self, PT.ev, BE.safe, BE.pe, IE.pe, PEnv.at, List.getD_cons_zero, List.getD_cons_succ, List.getElem?_cons_zero, List.getElem?_cons_succ, locOf, locOn, readLoc, takeN, Nat.add_zero, List.drop_zero, List.length_cons, List.length_nil, Nat.reduceAdd, Nat.le_refl, if_true, if_false, Bool.false_eq_true, List.take_succ_cons, List.take_zero, bindK, bindRes, bind1, Option.map_some, Option.bind_some, PEnv.push, List.cons_append, List.nil_append, List.append_nil, SV.pvs, SV.pv, BE.all, Bool.and_self, Bool.not_true, Bool.not_false, List.map_cons, List.map_nil, get_0, set_0, hl, Option.getD_some]
include hm hf in
theorem run0 (d : Nat) : ∀ k, fl.length - k ≤ d → k ≤ fl.length → ((List.range k).map (chain (at' fl) z)).Nodup → ∃ j k', k ≤ k' ∧ j < k' ∧ k' ≤ fl.length ∧ ((List.range k').map (chain (at' fl) z)).Nodup ∧ chain (at' fl) z k' = chain (at' fl) z j ∧
    ∀ fuel, revealed_cycle_S.loop (evalF Tab n) (fuel + (k' - k) + 1) 0 (st0 σ h fl (z := z) k) = revealed_cycle_S.loop (evalF Tab n) fuel 1 (st1 σ h fl .nilS [.mp [] [] .i64] (chain (at' fl) z j)) := by
  induction d with
  | zero =>
    intro k h1 h2 hn
    by_cases hx : chain (at' fl) z k ∈ (List.range k).map (chain (at' fl) z)
    · obtain ⟨j, hj, e⟩ := List.mem_map.1 hx
      refine ⟨j, k, Nat.le_refl _, List.mem_range.1 hj, h2, hn, e.symm, fun fuel => ?_⟩
      rw [Nat.sub_self, Nat.add_zero, (step0 σ n h fl T hm hf k fuel h2 hn).2 hx, e]
    · have := hf.short h2 hn hx; omega
  | succ d ih =>
    intro k h1 h2 hn
    by_cases hx : chain (at' fl) z k ∈ (List.range k).map (chain (at' fl) z)
    · obtain ⟨j, hj, e⟩ := List.mem_map.1 hx
      refine ⟨j, k, Nat.le_refl _, List.mem_range.1 hj, h2, hn, e.symm, fun fuel => ?_⟩
      rw [Nat.sub_self, Nat.add_zero, (step0 σ n h fl T hm hf k fuel h2 hn).2 hx, e]
    · have hk := hf.short h2 hn hx
      have hn1 : ((List.range (k + 1)).map (chain (at' fl) z)).Nodup := by
        rw [List.range_succ, List.map_append, List.nodup_append]
        refine ⟨hn, by simp, ?_⟩
        intro a ha b hb
        simp only [List.map_cons, List.map_nil, List.mem_singleton] at hb
        rintro rfl
        subst hb
        exact hx ha
      obtain ⟨j, k', e1, e2, e3, e4, e5, e6⟩ := ih (k + 1) (by omega) (by omega) hn1
      refine ⟨j, k', by omega, e2, e3, e4, e5, fun fuel => ?_⟩
      rw [show fuel + (k' - k) + 1 = (fuel + (k' - (k + 1)) + 1) + 1 by omega, (step0 σ n h fl T hm hf k _ h2 hn).1 hx, e6]
/-- The second walk: once around. -/
def back (j k : Nat) : List MO := .mp (ckeys (at' fl) z j k) (List.replicate k (.bool true)) .i64 :: (if k = 0 then [] else [.row (irows (ckeys (at' fl) z j k)) 1 3])
def backV (k : Nat) : PV := if k = 0 then .nilS else .rsl (σ.length + 1) k 1
include hm hf in
theorem step1 (j L k fuel : Nat) (hfl : fl.length ≤ 1000) (hk : k < L) (hL : j + L ≤ fl.length) (hn : ((List.range (j + L)).map (chain (at' fl) z)).Nodup) :
    revealed_cycle_S.loop (evalF Tab n) (fuel + 1) 1 (st1 σ h fl (backV σ k) (back fl (z := z) j k) (chain (at' fl) z (j + k))) = revealed_cycle_S.loop (evalF Tab n) fuel 1 (st1 σ h fl (backV σ (k + 1)) (back fl (z := z) j (k + 1)) (chain (at' fl) z (j + k + 1))) := by
  have hl := lookL_rep (ckeys (at' fl) z j k) (.bool true) (chain (at' fl) z (j + k) : Int)
  rw [ckeys_len] at hl
  have hx' : ¬ ((chain (at' fl) z (j + k) : Int) ∈ ckeys (at' fl) z j k) := by
    rw [mem_ckeys]
    rintro ⟨i, hi, e⟩
    have := nodup_at hn (a := j + k) (b := j + i) (by omega) (by omega) (by omega)
    omega
  rw [if_neg hx'] at hl
  have hp := putL_new (ckeys (at' fl) z j k) (.bool true) (chain (at' fl) z (j + k) : Int) hx'
  rw [ckeys_len] at hp
  have a1 := hf.at_lt (j + k) (by omega)
  have hlink := (hf.link (i := j + k) (by omega)).1
  have hk1 := ckeys_succ (at' fl) z j k
  have hrl : (irows (ckeys (at' fl) z j k)).length = k := by simp [irows, ckeys_len]
  have hrs : irows (ckeys (at' fl) z j (k + 1)) = irows (ckeys (at' fl) z j k) ++ [[.int .i64 (chain (at' fl) z (j + k) : Int)]] := by rw [hk1]; simp [irows]
  have gm := fun r => get_old (r := r) hm
  have hb1 : backV σ (k + 1) = .rsl (σ.length + 1) (k + 1) 1 := if_neg (by omega)
  have hb2 : back fl (z := z) j (k + 1) = [.mp (ckeys (at' fl) z j (k + 1)) (List.replicate (k + 1) (.bool true)) .i64, .row (irows (ckeys (at' fl) z j (k + 1))) 1 3] := by rw [back, if_neg (by omega)]
  rw [hb1, hb2, hrs, hk1, st1, st1]
  rw [Sys.loop, show revealed_cycle_S.loops[1]? = some revealed_cycle_t1 from rfl]
  generalize chain (at' fl) z (j + k + 1) = y at *
  generalize chain (at' fl) z (j + k) = x at *
  have hg : fl[x]? = some (y : Int) := by rw [at'_get a1.1, hlink]
  have hd := icell_drop hg
  have he := locEl_msl (h := h) (o := 0) (cap := fl.length) (sz := 1) (off := 0) a1.1
  have q1 : (leB 0 (x : Int) && decide (x < fl.length)) = true := by simp [leB, a1.1]
  by_cases hk0 : k = 0
  · subst hk0
    simp only [backV, back, if_true, st1]
    simp only [ckeys_zero] at hl hp
    simp -implicitDefEqProofs only [Option.bind_some, revealed_cycle_t1, ↓reduceIte, eq_self, PT.ev, BE.safe, BE.pe, IE.pe, PEnv.at, List.getD_cons_zero, List.getD_cons_succ, List.getElem?_cons_zero, List.getElem?_cons_succ, locOf, locOn, readLoc, takeN, Nat.add_zero, List.drop_zero, List.length_cons, List.length_nil, Nat.reduceAdd, Nat.le_refl, if_true, if_false, Bool.false_eq_true, List.take_succ_cons, List.take_zero, bindK, bindRes, bind1, Option.map_some, Option.bind_some, PEnv.push, List.cons_append, List.nil_append, List.append_nil, SV.pvs, SV.pv, BE.all, Bool.and_self, Bool.not_true, Bool.not_false, List.map_cons, List.map_nil, get_0, set_0, len_1, app_1, hl, hp, Option.getD_none, PV.len, srcRows, List.mapM_cons, List.mapM_nil, Option.bind_eq_bind, Option.pure_def, PV.rowsOf, Nat.reduceLeDiff, Nat.reduceEqDiff, Nat.succ_ne_zero, ltB_nat, if_pos q1, he, gm, MO.list, Nat.mul_one, Nat.zero_add, hd, Nat.le_add_left, irows, ckeys_zero, List.map_nil]
  · have hb3 : backV σ k = .rsl (σ.length + 1) k 1 := if_neg hk0
    have hb4 : back fl (z := z) j k = [.mp (ckeys (at' fl) z j k) (List.replicate k (.bool true)) .i64, .row (irows (ckeys (at' fl) z j k)) 1 3] := by rw [back, if_neg hk0]
    rw [hb3, hb4]
    have q2 : k + 1 ≤ 1000000 := by omega
    have o1 : (1 ≤ 1000000) = True := eq_true (by decide)
    have o2 : (1 = 0) = False := eq_false (by decide)
    simp -implicitDefEqProofs only [Option.bind_some, revealed_cycle_t1, ↓reduceIte, eq_self, PT.ev, BE.safe, BE.pe, IE.pe, PEnv.at, List.getD_cons_zero, List.getD_cons_succ, List.getElem?_cons_zero, List.getElem?_cons_succ, locOf, locOn, readLoc, takeN, Nat.add_zero, List.drop_zero, List.length_cons, List.length_nil, Nat.reduceAdd, Nat.le_refl, if_true, if_false, Bool.false_eq_true, List.take_succ_cons, List.take_zero, bindK, bindRes, bind1, Option.map_some, Option.bind_some, PEnv.push, List.cons_append, List.nil_append, List.append_nil, SV.pvs, SV.pv, BE.all, Bool.and_self, Bool.not_true, Bool.not_false, List.map_cons, List.map_nil, get_0, set_0, get_1, set_1, hl, hp, Option.getD_none, PV.len, srcRows, List.mapM_cons, List.mapM_nil, Option.bind_eq_bind, Option.pure_def, PV.rowsOf, hrl, q2, o1, o2, and_self, ltB_nat, if_pos q1, he, gm, MO.list, Nat.mul_one, Nat.zero_add, hd, Nat.le_add_left]
include hm hf in
theorem run1 (j L : Nat) (hfl : fl.length ≤ 1000) (hL : j + L ≤ fl.length) (hn : ((List.range (j + L)).map (chain (at' fl) z)).Nodup) : ∀ d k, k + d = L → ∀ fuel,
    revealed_cycle_S.loop (evalF Tab n) (fuel + d) 1 (st1 σ h fl (backV σ k) (back fl (z := z) j k) (chain (at' fl) z (j + k))) = revealed_cycle_S.loop (evalF Tab n) fuel 1 (st1 σ h fl (backV σ L) (back fl (z := z) j L) (chain (at' fl) z (j + L))) := by
  intro d
  induction d with
  | zero => intro k hk fuel; rw [Nat.add_zero] at hk; subst hk; rfl
  | succ d ih =>
    intro k hk fuel
    rw [show fuel + (d + 1) = (fuel + d) + 1 from rfl, step1 σ n h fl T hm hf j L k _ hfl (by omega) hL hn]
    exact ih (k + 1) (by omega) fuel
/-- The third: the other way round. -/
def st2 (ys : List Int) (i : Nat) : PEnv := { i := [(ys.length : Int), (i : Int)], b := [], v := [.rsl (σ.length + 1) ys.length 1, .msl (σ.length + 2) 0 ys.length ys.length 1], m := σ ++ [.mp ys (List.replicate ys.length (.bool true)) .i64, .row (irows ys) 1 3, .cells (icell (List.replicate (ys.length - i) 0 ++ (ys.take i).reverse)) 3], k := σ.length }
theorem step2 (ys : List Int) (i fuel : Nat) (hy : ys.length ≤ 1000) (hi : i < ys.length) :
    revealed_cycle_S.loop (evalF Tab n) (fuel + 1) 2 (st2 σ ys i) = revealed_cycle_S.loop (evalF Tab n) fuel 2 (st2 σ ys (i + 1)) := by
  obtain ⟨y, hy'⟩ : ∃ y, ys[i]? = some y := ⟨_, List.getElem?_eq_getElem hi⟩
  have hir : (irows ys)[i]? = some [.int .i64 y] := by simp [irows, hy']
  have hrl : (irows ys).length = ys.length := by simp [irows]
  have hrep : (List.replicate (ys.length - i) 0 ++ (ys.take i).reverse).set (ys.length - 1 - i) y = List.replicate (ys.length - (i + 1)) 0 ++ (ys.take (i + 1)).reverse := by
    rw [List.take_add_one, hy', show ys.length - i = (ys.length - (i + 1)) + 1 by omega, List.replicate_succ', List.append_assoc, show ys.length - 1 - i = (List.replicate (ys.length - (i + 1)) (0 : Int)).length by simp; omega]
    rw [List.set_append_right _ _ (Nat.le_refl _)]
    simp
  have hlen : (List.replicate (ys.length - i) 0 ++ (ys.take i).reverse).length = ys.length := by simp; omega
  have hset := icell_set (l := List.replicate (ys.length - i) 0 ++ (ys.take i).reverse) (i := ys.length - 1 - i) y (by rw [hlen]; omega)
  rw [hrep] at hset
  rw [st2, st2, Sys.loop, show revealed_cycle_S.loops[2]? = some revealed_cycle_t2 from rfl]
  have hcl : (icell (List.replicate (ys.length - i) 0 ++ (ys.take i).reverse)).length = ys.length := by rw [icell_len, hlen]
  generalize icell (List.replicate (ys.length - i) 0 ++ (ys.take i).reverse) = o at *
  generalize icell (List.replicate (ys.length - (i + 1)) 0 ++ (ys.take (i + 1)).reverse) = o' at *
  have q1 : (leB 0 (i : Int) && true) = true := by simp [leB]
  have q2 : (leB (-9223372036854775808) ((ys.length : Int) - 1) && leB ((ys.length : Int) - 1) 9223372036854775807) = true := by simp [leB]; omega
  have e1 : (ys.length : Int) - 1 - (i : Int) = ((ys.length - 1 - i : Nat) : Int) := by omega
  have q3 : (leB (-9223372036854775808) ((ys.length - 1 - i : Nat) : Int) && leB ((ys.length - 1 - i : Nat) : Int) 9223372036854775807) = true := by simp [leB]; omega
  have q4 : (leB 0 ((ys.length - 1 - i : Nat) : Int) && decide (ys.length - 1 - i < ys.length)) = true := by simp [leB]; omega
  have q5 : (leB (-9223372036854775808) ((i : Int) + 1) && leB ((i : Int) + 1) 9223372036854775807) = true := by simp [leB]; omega
  have l1 := locEl_rsl (h := σ.length + 1) (sz := 1) (off := 0) hi
  have l2 := locEl_msl (h := σ.length + 2) (o := 0) (cap := ys.length) (sz := 1) (off := 0) (i := ys.length - 1 - i) (len := ys.length) (by omega)
  have hle : ys.length - 1 - i + 1 ≤ ys.length := by omega
  have e2 : ((i + 1 : Nat) : Int) = (i : Int) + 1 := by omega
  have hd : decide (i < ys.length) = true := decide_eq_true hi
  generalize ys.length - 1 - i = w at *
  simp -implicitDefEqProofs only [Option.bind_some, revealed_cycle_t2, ↓reduceIte, eq_self, PT.ev, BE.safe, BE.pe, IE.pe, PEnv.at, List.getD_cons_zero, List.getD_cons_succ, List.getElem?_cons_zero, List.getElem?_cons_succ, locOf, locOn, readLoc, takeN, Nat.add_zero, List.drop_zero, List.length_cons, List.length_nil, Nat.reduceAdd, Nat.le_refl, if_true, if_false, Bool.false_eq_true, List.take_succ_cons, List.take_zero, bindK, bindRes, bind1, Option.map_some, Option.bind_some, PEnv.push, List.cons_append, List.nil_append, List.append_nil, SV.pvs, SV.pv, BE.all, Bool.and_self, Bool.not_true, Bool.not_false, List.map_cons, List.map_nil, ltB_nat, hd, PV.len, PV.isKind, if_pos q1, if_pos q2, e1, if_pos q3, if_pos q4, if_pos q5, l1, l2, get_1, get_2, set_2, MO.elts, hrl, hir, and_self, hcl, hle, Nat.mul_one, Nat.zero_add, hset, e2]
theorem run2 (ys : List Int) (hy : ys.length ≤ 1000) : ∀ d i, i + d = ys.length → ∀ fuel,
    revealed_cycle_S.loop (evalF Tab n) (fuel + d) 2 (st2 σ ys i) = revealed_cycle_S.loop (evalF Tab n) fuel 2 (st2 σ ys ys.length) := by
  intro d
  induction d with
  | zero => intro i hi fuel; rw [Nat.add_zero] at hi; subst hi; rfl
  | succ d ih =>
    intro i hi fuel
    rw [show fuel + (d + 1) = (fuel + d) + 1 from rfl, step2 σ n ys i _ hy (by omega)]
    exact ih (i + 1) (by omega) fuel
theorem end2 (hσ : Flat σ) (ys : List Int) (fuel : Nat) : revealed_cycle_S.loop (evalF Tab n) (fuel + 1) 2 (st2 σ ys ys.length) = some (.sl 1 (irows ys.reverse), σ) := by
  have hd : decide (ys.length < ys.length) = false := by simp
  have hz : List.replicate (ys.length - ys.length) (0 : Int) ++ (ys.take ys.length).reverse = ys.reverse := by simp
  have hl : ys.length = ys.reverse.length := by simp
  have hr := rowsN_icell ys.reverse
  rw [st2, hz, Sys.loop, show revealed_cycle_S.loops[2]? = some revealed_cycle_t2 from rfl]
  simp -implicitDefEqProofs only [Option.bind_some, revealed_cycle_t2, ↓reduceIte, eq_self, PT.ev, BE.safe, BE.pe, IE.pe, PEnv.at, List.getD_cons_zero, List.getD_cons_succ, List.getElem?_cons_zero, List.getElem?_cons_succ, locOf, locOn, readLoc, takeN, Nat.add_zero, List.drop_zero, List.length_cons, List.length_nil, Nat.reduceAdd, Nat.le_refl, if_true, if_false, Bool.false_eq_true, List.take_succ_cons, List.take_zero, bindK, bindRes, bind1, Option.map_some, Option.bind_some, PEnv.push, List.cons_append, List.nil_append, List.append_nil, SV.pvs, SV.pv, BE.all, Bool.and_self, Bool.not_true, Bool.not_false, List.map_cons, List.map_nil, ltB_nat, hd]
  have hm3 : (σ ++ [.mp ys (List.replicate ys.length (.bool true)) .i64, .row (irows ys) 1 3, .cells (icell ys.reverse) 3] : List MO).length = σ.length + 3 := by simp
  have h1 : ¬ (false = true ∨ σ.length + 3 = σ.length) := by simp
  have h2 : ¬ (σ.length + 2 < σ.length) := by omega
  rw [← hl] at hr
  simp -implicitDefEqProofs only [retP, hm3, if_neg h1, List.take_left', hσ σ.length, PV.frz, if_neg h2, lookF, get_2, frzs_icell, MO.list, hr, List.take_append, ↓reduceIte, eq_self, PT.ev, BE.safe, BE.pe, IE.pe, PEnv.at, List.getD_cons_zero, List.getD_cons_succ, List.getElem?_cons_zero, List.getElem?_cons_succ, locOf, locOn, readLoc, takeN, Nat.add_zero, List.drop_zero, List.length_cons, List.length_nil, Nat.reduceAdd, Nat.le_refl, if_true, if_false, Bool.false_eq_true, List.take_succ_cons, List.take_zero, bindK, bindRes, bind1, Option.map_some, Option.bind_some, PEnv.push, List.cons_append, List.nil_append, List.append_nil, SV.pvs, SV.pv, BE.all, Bool.and_self, Bool.not_true, Bool.not_false, List.map_cons, List.map_nil]
  simp [hσ σ.length]
end
end Go.Proofs.Ythjahianafohjaa
set_option maxRecDepth 100000
namespace Go.Proofs.Ythjahianafohjaa
open Go.Sx Go.Bf
theorem cycle_sem (σ : List MO) (hσ : Flat σ) (h : Nat) (fl : List Int) (T : Nat) (hm : σ[h]? = some (.cells (icell fl) T)) (hfl : fl.length ≤ 1000)
    {g : Nat → Nat → Int} {v : Nat → Int} {c t : Nat → Nat} {z : Nat} (hf : Go.Bf.Fin fl.length g v (at' fl) c t z) (n : Nat) (hnn : fl.length * 3 + 10 ≤ n) :
    ∃ j k, j < k ∧ k ≤ fl.length ∧ chain (at' fl) z k = chain (at' fl) z j ∧
      evalF Tab n n_revealed_cycle [.msl h 0 fl.length fl.length 1, .int .i64 (z : Int)] σ = some (.sl 1 (irows (ckeys (at' fl) z j (k - j)).reverse), σ) := by
  obtain ⟨n, rfl⟩ : ∃ k, n = k + 1 := ⟨n - 1, by omega⟩
  obtain ⟨j, k, _, hjk, hk, hn, he, h0⟩ := run0 σ n h fl T hm hf fl.length 0 (by omega) (Nat.zero_le _) (by simp)
  refine ⟨j, k, hjk, hk, he, ?_⟩
  have hl := ckeys_len (at' fl) z j (k - j)
  have h1 := fun fuel => run1 σ n h fl T hm hf j (k - j) hfl (by omega) (by rw [show j + (k - j) = k by omega]; exact hn) (k - j) 0 (by omega) fuel
  have h2 := fun fuel => run2 σ n (ckeys (at' fl) z j (k - j)) (by omega) (k - j) 0 (by omega) fuel
  have h3 := end2 σ n hσ (ckeys (at' fl) z j (k - j))
  have hc : ∀ fuel, revealed_cycle_S.loop (evalF Tab n) (fuel + 1) 1 (st1 σ h fl (backV σ (k - j)) (back fl (z := z) j (k - j)) (chain (at' fl) z (j + (k - j)))) = revealed_cycle_S.loop (evalF Tab n) fuel 2 (st2 σ (ckeys (at' fl) z j (k - j)) 0) := by
    intro fuel
    have hk0 : k - j ≠ 0 := by omega
    have hb3 : backV σ (k - j) = .rsl (σ.length + 1) (k - j) 1 := if_neg hk0
    have hb4 : back fl (z := z) j (k - j) = [.mp (ckeys (at' fl) z j (k - j)) (List.replicate (k - j) (.bool true)) .i64, .row (irows (ckeys (at' fl) z j (k - j))) 1 3] := by rw [back, if_neg hk0]
    have hlk := lookL_rep (ckeys (at' fl) z j (k - j)) (.bool true) (chain (at' fl) z k : Int)
    rw [hl, if_pos (mem_ckeys.2 ⟨0, by omega, by rw [he]; rfl⟩)] at hlk
    have hrep := icell_rep (k - j) 0
    have hle : (k - j : Nat) ≤ 1000000 := by omega
    rw [hb3, hb4, show j + (k - j) = k by omega, st1, st2, Sys.loop, show revealed_cycle_S.loops[1]? = some revealed_cycle_t1 from rfl, hl]
    generalize ckeys (at' fl) z j (k - j) = ks at *
    have e1 : List.replicate (k - j - 0) (0 : Int) ++ (ks.take 0).reverse = List.replicate (k - j) 0 := by simp
    have q1 : (0 ≤ ((k - j : Nat) : Int) ∧ ((k - j : Nat) : Int) ≤ 1000000 ∧ (8 : Nat) ≤ 100000000) := ⟨by omega, by omega, by omega⟩
    rw [e1]
    generalize k - j = L at *
    have hm2 : ∀ A B : MO, (σ ++ [A, B]).length = σ.length + 2 := fun A B => by simp
    have hm3 : ∀ A B C : MO, (σ ++ [A, B]) ++ [C] = σ ++ [A, B, C] := fun A B C => by simp
    simp -implicitDefEqProofs only [Option.bind_some, revealed_cycle_t1, ↓reduceIte, eq_self, PT.ev, BE.safe, BE.pe, IE.pe, PEnv.at, List.getD_cons_zero, List.getD_cons_succ, List.getElem?_cons_zero, List.getElem?_cons_succ, locOf, locOn, readLoc, takeN, Nat.add_zero, List.drop_zero, List.length_cons, List.length_nil, Nat.reduceAdd, Nat.le_refl, if_true, if_false, Bool.false_eq_true, List.take_succ_cons, List.take_zero, bindK, bindRes, bind1, Option.map_some, Option.bind_some, PEnv.push, List.cons_append, List.nil_append, List.append_nil, SV.pvs, SV.pv, BE.all, Bool.and_self, Bool.not_true, Bool.not_false, List.map_cons, List.map_nil, get_0, set_0, hlk, Option.getD_some, PV.isKind, PV.len, Int.toNat_natCast, if_pos q1, hrep, hm2, hm3]
    rfl
  have e0 : st0 σ h fl (z := z) 0 = { i := [(z : Int)], b := [], v := [.msl h 0 fl.length fl.length 1, .mp σ.length], m := σ ++ [.mp [] [] .i64], k := σ.length } := rfl
  have e1 : st1 σ h fl .nilS [.mp [] [] .i64] (chain (at' fl) z j) = st1 σ h fl (backV σ 0) (back fl (z := z) j 0) (chain (at' fl) z (j + 0)) := rfl
  have tot : revealed_cycle_S.loop (evalF Tab n) n 0 (st0 σ h fl (z := z) 0) = some (.sl 1 (irows (ckeys (at' fl) z j (k - j)).reverse), σ) := by
    have hfu : n = (((((n - k - (k - j) - (k - j) - 3) + 1) + (k - j)) + 1) + (k - j)) + (k - 0) + 1 := by omega
    rw [hl] at h3
    generalize n - k - (k - j) - (k - j) - 3 = fu at *
    have hx := h0 (((((fu) + 1) + (k - j)) + 1) + (k - j))
    rw [← hfu] at hx
    rw [hx, e1, h1, hc, h2, hl]; exact h3 fu
  rw [e0] at tot
  simp only [evalF, tab_revealed_cycle, Option.bind_some, Sys.run]
  show ((bindPs [.sh (.one _), .sh (.one _)] _).bind _) = _
  simp -implicitDefEqProofs only [bindPs, bind1, bindK, Option.map_some, Option.bind_some, List.append_nil, List.nil_append, List.cons_append, if_true, PV.one]
  show (PT.ev _ revealed_cycle_s _).bind _ = _
  simp -implicitDefEqProofs only [revealed_cycle_s, ↓reduceIte, eq_self, PT.ev, BE.safe, BE.pe, IE.pe, PEnv.at, List.getD_cons_zero, List.getD_cons_succ, List.getElem?_cons_zero, List.getElem?_cons_succ, locOf, locOn, readLoc, takeN, Nat.add_zero, List.drop_zero, List.length_cons, List.length_nil, Nat.reduceAdd, Nat.le_refl, if_true, if_false, Bool.false_eq_true, List.take_succ_cons, List.take_zero, bindK, bindRes, bind1, Option.map_some, Option.bind_some, PEnv.push, List.cons_append, List.nil_append, List.append_nil, SV.pvs, SV.pv, BE.all, Bool.and_self, Bool.not_true, Bool.not_false, List.map_cons, List.map_nil]
  exact tot
end Go.Proofs.Ythjahianafohjaa
set_option maxRecDepth 100000
namespace Go.Proofs.Ythjahianafohjaa
open Go.Sx Go.Bf
def lst (σ : List MO) (P : PV) (N : Nat) (vs fs : List Int) (is : List Int) : PEnv :=
  { i := is, b := [], v := [P, .msl σ.length 0 N N 1, .msl (σ.length + 1) 0 N N 1], m := σ ++ [.cells (icell vs) 2, .cells (icell fs) 3], k := σ.length }
def gN (l : List Ch) (x y : Nat) : Int := gainC (chAt l (x : Int)) (chAt l (y : Int))
theorem chN {l : List Ch} {x : Nat} (h : x < l.length) : l[x]? = some (chAt l (x : Int)) := by simp [chAt, h]
theorem lenM (h o len cap sz : Nat) : (PV.msl h o len cap sz).len = len := rfl
theorem low3 (σ : List MO) (l : List Ch) (P : PV) (hP : P.rowsOf 12 = some (l.map Ch.row)) (hok : ∀ x ∈ l, x.ok) (hl : l.length ≤ 1000) (n : Nat) (hn : 2 ≤ n) (vs fs : List Int) (hvs : vs.length = l.length) (hfs : fs.length = l.length)
    (ch r : Int) (a b fuel : Nat) (ha : a < l.length) (hb : b < l.length) (h1 : -1000000000000 ≤ at' vs a ∧ at' vs a ≤ 1000000000000) :
    revealed_lowered_S.loop (evalF Tab n) (fuel + 1) 3 (lst σ P l.length vs fs [ch, (a : Int), (l.length : Int), r, (l.length : Int), (l.length : Int), (b : Int)]) =
      if at' vs a + gN l a b < at' vs b then revealed_lowered_S.loop (evalF Tab n) fuel 3 (lst σ P l.length (vs.set b (at' vs a + gN l a b)) (fs.set b (a : Int)) [(b : Int), (a : Int), (l.length : Int), r, (l.length : Int), (l.length : Int), ((b + 1 : Nat) : Int)])
      else revealed_lowered_S.loop (evalF Tab n) fuel 3 (lst σ P l.length vs fs [ch, (a : Int), (l.length : Int), r, (l.length : Int), (l.length : Int), ((b + 1 : Nat) : Int)]) := by
  obtain ⟨p1, p2, p3⟩ := rows_len hP
  rw [List.length_map] at p1
  have ex := chN ha
  have ey := chN hb
  have hxo := hok _ (List.mem_of_getElem? ex)
  have hyo := hok _ (List.mem_of_getElem? ey)
  have gb := gain_bd hxo hyo
  have c1 := gain0_sem (σ ++ [.cells (icell vs) 2, .cells (icell fs) 3]) _ _ hxo hyo n hn
  have lx := rows_get (off := 0) hP (rows_chs ex)
  have ly := rows_get (off := 0) hP (rows_chs ey)
  have dva := icell_drop (at'_get (l := vs) (i := a) (by omega))
  have dvb := icell_drop (at'_get (l := vs) (i := b) (by omega))
  have ma := locEl_msl (h := σ.length) (o := 0) (cap := l.length) (sz := 1) (off := 0) ha
  have mb := locEl_msl (h := σ.length) (o := 0) (cap := l.length) (sz := 1) (off := 0) hb
  have mb2 := locEl_msl (h := σ.length + 1) (o := 0) (cap := l.length) (sz := 1) (off := 0) hb
  have hgN : gN l a b = gainC (chAt l (a : Int)) (chAt l (b : Int)) := rfl
  rw [hgN]
  generalize chAt l (a : Int) = x at *
  generalize chAt l (b : Int) = y at *
  generalize gainC x y = gg at *
  generalize hw : at' vs a + gg = w at *
  have sv := icell_set (l := vs) (i := b) w (by omega)
  have sf := icell_set (l := fs) (i := b) (a : Int) (by omega)
  have lv : b + 1 ≤ (icell vs).length := by rw [icell_len]; omega
  have lf : b + 1 ≤ (icell fs).length := by rw [icell_len]; omega
  generalize hV' : icell (vs.set b w) = V' at *
  generalize hF' : icell (fs.set b (a : Int)) = F' at *
  have q1 : (leB 0 (a : Int) && decide (a < l.length)) = true := by simp [leB, ha]
  have q2 : (leB 0 (b : Int) && decide (b < l.length)) = true := by simp [leB, hb]
  have q2' : (leB 0 (b : Int) && true) = true := by simp [leB]
  have q3 : (leB (-9223372036854775808) w && leB w 9223372036854775807) = true := by simp [leB]; omega
  have q4 : (leB (-9223372036854775808) ((b : Int) + 1) && leB ((b : Int) + 1) 9223372036854775807) = true := by simp [leB]; omega
  have e2 : ((b + 1 : Nat) : Int) = (b : Int) + 1 := by omega
  have o1 : ((1 : Nat) ≤ 1) = True := eq_true (by decide)
  simp only [n_revealed_gain, row_eq] at c1
  rw [e2]
  by_cases hlt : w < at' vs b
  · have e3 : ltB w (at' vs b) = true := ltB_true.2 hlt
    have hev : revealed_lowered_t3.ev (evalF Tab n) (lst σ P l.length vs fs [ch, (a : Int), (l.length : Int), r, (l.length : Int), (l.length : Int), (b : Int)]) = some (.jump 3 { i := [(b : Int), (a : Int), (l.length : Int), r, (l.length : Int), (l.length : Int), (b : Int) + 1], b := [], v := [P, .msl σ.length 0 l.length l.length 1, .msl (σ.length + 1) 0 l.length l.length 1], m := σ ++ [.cells V' 2, .cells F' 3], k := σ.length }) := by
      unfold revealed_lowered_t3
      have hd : decide (b < l.length) = true := decide_eq_true hb
      simp -implicitDefEqProofs only [↓reduceIte, eq_self, evb_ret, evb_ite, evb_need, evb_load, evb_app, evb_cut, evb_chk, evb_appF, evb_call, evb_callv, evb_newM, evb_mkM, evb_storeM, evb_appM, evb_mkMap, evb_mapGet, evb_mapSet, evb_mapClr, evb_jump, BE.safe, BE.pe, IE.pe, PEnv.at, List.getD_cons_zero, List.getD_cons_succ, List.getElem?_cons_zero, List.getElem?_cons_succ, locOf, locOn, readLoc, takeN, Nat.add_zero, List.drop_zero, List.length_cons, List.length_nil, Nat.reduceAdd, Nat.le_refl, if_true, if_false, Bool.false_eq_true, List.take_succ_cons, List.take_zero, bindK, bindRes, bind1, Option.map_some, Option.bind_some, PEnv.push, List.cons_append, List.nil_append, List.append_nil, SV.pvs, SV.pv, BE.all, Bool.and_self, Bool.not_true, Bool.not_false, List.map_cons, List.map_nil, lst, p1, lenM, ltB_nat, hd, if_pos q1, if_pos q2']
      repeat' (first
        | with_reducible rfl
        | apply ev_both
        | (unfold revealed_lowered_t3_b1; simp -implicitDefEqProofs only [↓reduceIte, eq_self, evb_ret, evb_ite, evb_need, evb_load, evb_app, evb_cut, evb_chk, evb_appF, evb_call, evb_callv, evb_newM, evb_mkM, evb_storeM, evb_appM, evb_mkMap, evb_mapGet, evb_mapSet, evb_mapClr, evb_jump, BE.safe, BE.pe, IE.pe, PEnv.at, List.getD_cons_zero, List.getD_cons_succ, List.getElem?_cons_zero, List.getElem?_cons_succ, locOf, locOn, readLoc, takeN, Nat.add_zero, List.drop_zero, List.length_cons, List.length_nil, Nat.reduceAdd, Nat.le_refl, if_true, if_false, Bool.false_eq_true, List.take_succ_cons, List.take_zero, bindK, bindRes, bind1, Option.map_some, Option.bind_some, PEnv.push, List.cons_append, List.nil_append, List.append_nil, SV.pvs, SV.pv, BE.all, Bool.and_self, Bool.not_true, Bool.not_false, List.map_cons, List.map_nil, p1, p2, lenM, ltB_nat, if_pos q1, if_pos q2, if_pos q3, if_pos q4, lx, ly, ma, mb, mb2, row_eq, c1, get_0, get_1, set_0, set_1, MO.list, Nat.mul_one, Nat.zero_add, dva, dvb, Nat.le_add_left, hw, e3, lv, lf, o1, sv, sf]; done)
        | (unfold revealed_lowered_t3_b1; simp -implicitDefEqProofs only [↓reduceIte, eq_self, evb_ret, evb_ite, evb_need, evb_load, evb_app, evb_cut, evb_chk, evb_appF, evb_call, evb_callv, evb_newM, evb_mkM, evb_storeM, evb_appM, evb_mkMap, evb_mapGet, evb_mapSet, evb_mapClr, evb_jump, BE.safe, BE.pe, IE.pe, PEnv.at, List.getD_cons_zero, List.getD_cons_succ, List.getElem?_cons_zero, List.getElem?_cons_succ, locOf, locOn, readLoc, takeN, Nat.add_zero, List.drop_zero, List.length_cons, List.length_nil, Nat.reduceAdd, Nat.le_refl, if_true, if_false, Bool.false_eq_true, List.take_succ_cons, List.take_zero, bindK, bindRes, bind1, Option.map_some, Option.bind_some, PEnv.push, List.cons_append, List.nil_append, List.append_nil, SV.pvs, SV.pv, BE.all, Bool.and_self, Bool.not_true, Bool.not_false, List.map_cons, List.map_nil, p1, p2, lenM, ltB_nat, if_pos q1, if_pos q2, if_pos q3, if_pos q4, lx, ly, ma, mb, mb2, row_eq, c1, get_0, get_1, set_0, set_1, MO.list, Nat.mul_one, Nat.zero_add, dva, dvb, Nat.le_add_left, hw, e3, lv, lf, o1, sv, sf])
        | (unfold revealed_lowered_t3_b2; simp -implicitDefEqProofs only [↓reduceIte, eq_self, evb_ret, evb_ite, evb_need, evb_load, evb_app, evb_cut, evb_chk, evb_appF, evb_call, evb_callv, evb_newM, evb_mkM, evb_storeM, evb_appM, evb_mkMap, evb_mapGet, evb_mapSet, evb_mapClr, evb_jump, BE.safe, BE.pe, IE.pe, PEnv.at, List.getD_cons_zero, List.getD_cons_succ, List.getElem?_cons_zero, List.getElem?_cons_succ, locOf, locOn, readLoc, takeN, Nat.add_zero, List.drop_zero, List.length_cons, List.length_nil, Nat.reduceAdd, Nat.le_refl, if_true, if_false, Bool.false_eq_true, List.take_succ_cons, List.take_zero, bindK, bindRes, bind1, Option.map_some, Option.bind_some, PEnv.push, List.cons_append, List.nil_append, List.append_nil, SV.pvs, SV.pv, BE.all, Bool.and_self, Bool.not_true, Bool.not_false, List.map_cons, List.map_nil, p1, p2, lenM, ltB_nat, if_pos q1, if_pos q2, if_pos q3, if_pos q4, lx, ly, ma, mb, mb2, row_eq, c1, get_0, get_1, set_0, set_1, MO.list, Nat.mul_one, Nat.zero_add, dva, dvb, Nat.le_add_left, hw, e3, lv, lf, o1, sv, sf]; done)
        | (unfold revealed_lowered_t3_b2; simp -implicitDefEqProofs only [↓reduceIte, eq_self, evb_ret, evb_ite, evb_need, evb_load, evb_app, evb_cut, evb_chk, evb_appF, evb_call, evb_callv, evb_newM, evb_mkM, evb_storeM, evb_appM, evb_mkMap, evb_mapGet, evb_mapSet, evb_mapClr, evb_jump, BE.safe, BE.pe, IE.pe, PEnv.at, List.getD_cons_zero, List.getD_cons_succ, List.getElem?_cons_zero, List.getElem?_cons_succ, locOf, locOn, readLoc, takeN, Nat.add_zero, List.drop_zero, List.length_cons, List.length_nil, Nat.reduceAdd, Nat.le_refl, if_true, if_false, Bool.false_eq_true, List.take_succ_cons, List.take_zero, bindK, bindRes, bind1, Option.map_some, Option.bind_some, PEnv.push, List.cons_append, List.nil_append, List.append_nil, SV.pvs, SV.pv, BE.all, Bool.and_self, Bool.not_true, Bool.not_false, List.map_cons, List.map_nil, p1, p2, lenM, ltB_nat, if_pos q1, if_pos q2, if_pos q3, if_pos q4, lx, ly, ma, mb, mb2, row_eq, c1, get_0, get_1, set_0, set_1, MO.list, Nat.mul_one, Nat.zero_add, dva, dvb, Nat.le_add_left, hw, e3, lv, lf, o1, sv, sf])
        | (unfold revealed_lowered_t3_b3; simp -implicitDefEqProofs only [↓reduceIte, eq_self, evb_ret, evb_ite, evb_need, evb_load, evb_app, evb_cut, evb_chk, evb_appF, evb_call, evb_callv, evb_newM, evb_mkM, evb_storeM, evb_appM, evb_mkMap, evb_mapGet, evb_mapSet, evb_mapClr, evb_jump, BE.safe, BE.pe, IE.pe, PEnv.at, List.getD_cons_zero, List.getD_cons_succ, List.getElem?_cons_zero, List.getElem?_cons_succ, locOf, locOn, readLoc, takeN, Nat.add_zero, List.drop_zero, List.length_cons, List.length_nil, Nat.reduceAdd, Nat.le_refl, if_true, if_false, Bool.false_eq_true, List.take_succ_cons, List.take_zero, bindK, bindRes, bind1, Option.map_some, Option.bind_some, PEnv.push, List.cons_append, List.nil_append, List.append_nil, SV.pvs, SV.pv, BE.all, Bool.and_self, Bool.not_true, Bool.not_false, List.map_cons, List.map_nil, p1, p2, lenM, ltB_nat, if_pos q1, if_pos q2, if_pos q3, if_pos q4, lx, ly, ma, mb, mb2, row_eq, c1, get_0, get_1, set_0, set_1, MO.list, Nat.mul_one, Nat.zero_add, dva, dvb, Nat.le_add_left, hw, e3, lv, lf, o1, sv, sf]; done)
        | (unfold revealed_lowered_t3_b3; simp -implicitDefEqProofs only [↓reduceIte, eq_self, evb_ret, evb_ite, evb_need, evb_load, evb_app, evb_cut, evb_chk, evb_appF, evb_call, evb_callv, evb_newM, evb_mkM, evb_storeM, evb_appM, evb_mkMap, evb_mapGet, evb_mapSet, evb_mapClr, evb_jump, BE.safe, BE.pe, IE.pe, PEnv.at, List.getD_cons_zero, List.getD_cons_succ, List.getElem?_cons_zero, List.getElem?_cons_succ, locOf, locOn, readLoc, takeN, Nat.add_zero, List.drop_zero, List.length_cons, List.length_nil, Nat.reduceAdd, Nat.le_refl, if_true, if_false, Bool.false_eq_true, List.take_succ_cons, List.take_zero, bindK, bindRes, bind1, Option.map_some, Option.bind_some, PEnv.push, List.cons_append, List.nil_append, List.append_nil, SV.pvs, SV.pv, BE.all, Bool.and_self, Bool.not_true, Bool.not_false, List.map_cons, List.map_nil, p1, p2, lenM, ltB_nat, if_pos q1, if_pos q2, if_pos q3, if_pos q4, lx, ly, ma, mb, mb2, row_eq, c1, get_0, get_1, set_0, set_1, MO.list, Nat.mul_one, Nat.zero_add, dva, dvb, Nat.le_add_left, hw, e3, lv, lf, o1, sv, sf])
        | (unfold revealed_lowered_t3_b4; simp -implicitDefEqProofs only [↓reduceIte, eq_self, evb_ret, evb_ite, evb_need, evb_load, evb_app, evb_cut, evb_chk, evb_appF, evb_call, evb_callv, evb_newM, evb_mkM, evb_storeM, evb_appM, evb_mkMap, evb_mapGet, evb_mapSet, evb_mapClr, evb_jump, BE.safe, BE.pe, IE.pe, PEnv.at, List.getD_cons_zero, List.getD_cons_succ, List.getElem?_cons_zero, List.getElem?_cons_succ, locOf, locOn, readLoc, takeN, Nat.add_zero, List.drop_zero, List.length_cons, List.length_nil, Nat.reduceAdd, Nat.le_refl, if_true, if_false, Bool.false_eq_true, List.take_succ_cons, List.take_zero, bindK, bindRes, bind1, Option.map_some, Option.bind_some, PEnv.push, List.cons_append, List.nil_append, List.append_nil, SV.pvs, SV.pv, BE.all, Bool.and_self, Bool.not_true, Bool.not_false, List.map_cons, List.map_nil, p1, p2, lenM, ltB_nat, if_pos q1, if_pos q2, if_pos q3, if_pos q4, lx, ly, ma, mb, mb2, row_eq, c1, get_0, get_1, set_0, set_1, MO.list, Nat.mul_one, Nat.zero_add, dva, dvb, Nat.le_add_left, hw, e3, lv, lf, o1, sv, sf]; done)
        | (unfold revealed_lowered_t3_b4; simp -implicitDefEqProofs only [↓reduceIte, eq_self, evb_ret, evb_ite, evb_need, evb_load, evb_app, evb_cut, evb_chk, evb_appF, evb_call, evb_callv, evb_newM, evb_mkM, evb_storeM, evb_appM, evb_mkMap, evb_mapGet, evb_mapSet, evb_mapClr, evb_jump, BE.safe, BE.pe, IE.pe, PEnv.at, List.getD_cons_zero, List.getD_cons_succ, List.getElem?_cons_zero, List.getElem?_cons_succ, locOf, locOn, readLoc, takeN, Nat.add_zero, List.drop_zero, List.length_cons, List.length_nil, Nat.reduceAdd, Nat.le_refl, if_true, if_false, Bool.false_eq_true, List.take_succ_cons, List.take_zero, bindK, bindRes, bind1, Option.map_some, Option.bind_some, PEnv.push, List.cons_append, List.nil_append, List.append_nil, SV.pvs, SV.pv, BE.all, Bool.and_self, Bool.not_true, Bool.not_false, List.map_cons, List.map_nil, p1, p2, lenM, ltB_nat, if_pos q1, if_pos q2, if_pos q3, if_pos q4, lx, ly, ma, mb, mb2, row_eq, c1, get_0, get_1, set_0, set_1, MO.list, Nat.mul_one, Nat.zero_add, dva, dvb, Nat.le_add_left, hw, e3, lv, lf, o1, sv, sf])
        | (unfold revealed_lowered_t3_b5; simp -implicitDefEqProofs only [↓reduceIte, eq_self, evb_ret, evb_ite, evb_need, evb_load, evb_app, evb_cut, evb_chk, evb_appF, evb_call, evb_callv, evb_newM, evb_mkM, evb_storeM, evb_appM, evb_mkMap, evb_mapGet, evb_mapSet, evb_mapClr, evb_jump, BE.safe, BE.pe, IE.pe, PEnv.at, List.getD_cons_zero, List.getD_cons_succ, List.getElem?_cons_zero, List.getElem?_cons_succ, locOf, locOn, readLoc, takeN, Nat.add_zero, List.drop_zero, List.length_cons, List.length_nil, Nat.reduceAdd, Nat.le_refl, if_true, if_false, Bool.false_eq_true, List.take_succ_cons, List.take_zero, bindK, bindRes, bind1, Option.map_some, Option.bind_some, PEnv.push, List.cons_append, List.nil_append, List.append_nil, SV.pvs, SV.pv, BE.all, Bool.and_self, Bool.not_true, Bool.not_false, List.map_cons, List.map_nil, p1, p2, lenM, ltB_nat, if_pos q1, if_pos q2, if_pos q3, if_pos q4, lx, ly, ma, mb, mb2, row_eq, c1, get_0, get_1, set_0, set_1, MO.list, Nat.mul_one, Nat.zero_add, dva, dvb, Nat.le_add_left, hw, e3, lv, lf, o1, sv, sf]; done)
        | (unfold revealed_lowered_t3_b5; simp -implicitDefEqProofs only [↓reduceIte, eq_self, evb_ret, evb_ite, evb_need, evb_load, evb_app, evb_cut, evb_chk, evb_appF, evb_call, evb_callv, evb_newM, evb_mkM, evb_storeM, evb_appM, evb_mkMap, evb_mapGet, evb_mapSet, evb_mapClr, evb_jump, BE.safe, BE.pe, IE.pe, PEnv.at, List.getD_cons_zero, List.getD_cons_succ, List.getElem?_cons_zero, List.getElem?_cons_succ, locOf, locOn, readLoc, takeN, Nat.add_zero, List.drop_zero, List.length_cons, List.length_nil, Nat.reduceAdd, Nat.le_refl, if_true, if_false, Bool.false_eq_true, List.take_succ_cons, List.take_zero, bindK, bindRes, bind1, Option.map_some, Option.bind_some, PEnv.push, List.cons_append, List.nil_append, List.append_nil, SV.pvs, SV.pv, BE.all, Bool.and_self, Bool.not_true, Bool.not_false, List.map_cons, List.map_nil, p1, p2, lenM, ltB_nat, if_pos q1, if_pos q2, if_pos q3, if_pos q4, lx, ly, ma, mb, mb2, row_eq, c1, get_0, get_1, set_0, set_1, MO.list, Nat.mul_one, Nat.zero_add, dva, dvb, Nat.le_add_left, hw, e3, lv, lf, o1, sv, sf])
        | (unfold revealed_lowered_t3_b6; simp -implicitDefEqProofs only [↓reduceIte, eq_self, evb_ret, evb_ite, evb_need, evb_load, evb_app, evb_cut, evb_chk, evb_appF, evb_call, evb_callv, evb_newM, evb_mkM, evb_storeM, evb_appM, evb_mkMap, evb_mapGet, evb_mapSet, evb_mapClr, evb_jump, BE.safe, BE.pe, IE.pe, PEnv.at, List.getD_cons_zero, List.getD_cons_succ, List.getElem?_cons_zero, List.getElem?_cons_succ, locOf, locOn, readLoc, takeN, Nat.add_zero, List.drop_zero, List.length_cons, List.length_nil, Nat.reduceAdd, Nat.le_refl, if_true, if_false, Bool.false_eq_true, List.take_succ_cons, List.take_zero, bindK, bindRes, bind1, Option.map_some, Option.bind_some, PEnv.push, List.cons_append, List.nil_append, List.append_nil, SV.pvs, SV.pv, BE.all, Bool.and_self, Bool.not_true, Bool.not_false, List.map_cons, List.map_nil, p1, p2, lenM, ltB_nat, if_pos q1, if_pos q2, if_pos q3, if_pos q4, lx, ly, ma, mb, mb2, row_eq, c1, get_0, get_1, set_0, set_1, MO.list, Nat.mul_one, Nat.zero_add, dva, dvb, Nat.le_add_left, hw, e3, lv, lf, o1, sv, sf]; done)
        | (unfold revealed_lowered_t3_b6; simp -implicitDefEqProofs only [↓reduceIte, eq_self, evb_ret, evb_ite, evb_need, evb_load, evb_app, evb_cut, evb_chk, evb_appF, evb_call, evb_callv, evb_newM, evb_mkM, evb_storeM, evb_appM, evb_mkMap, evb_mapGet, evb_mapSet, evb_mapClr, evb_jump, BE.safe, BE.pe, IE.pe, PEnv.at, List.getD_cons_zero, List.getD_cons_succ, List.getElem?_cons_zero, List.getElem?_cons_succ, locOf, locOn, readLoc, takeN, Nat.add_zero, List.drop_zero, List.length_cons, List.length_nil, Nat.reduceAdd, Nat.le_refl, if_true, if_false, Bool.false_eq_true, List.take_succ_cons, List.take_zero, bindK, bindRes, bind1, Option.map_some, Option.bind_some, PEnv.push, List.cons_append, List.nil_append, List.append_nil, SV.pvs, SV.pv, BE.all, Bool.and_self, Bool.not_true, Bool.not_false, List.map_cons, List.map_nil, p1, p2, lenM, ltB_nat, if_pos q1, if_pos q2, if_pos q3, if_pos q4, lx, ly, ma, mb, mb2, row_eq, c1, get_0, get_1, set_0, set_1, MO.list, Nat.mul_one, Nat.zero_add, dva, dvb, Nat.le_add_left, hw, e3, lv, lf, o1, sv, sf])
        | (unfold revealed_lowered_t3_b7; simp -implicitDefEqProofs only [↓reduceIte, eq_self, evb_ret, evb_ite, evb_need, evb_load, evb_app, evb_cut, evb_chk, evb_appF, evb_call, evb_callv, evb_newM, evb_mkM, evb_storeM, evb_appM, evb_mkMap, evb_mapGet, evb_mapSet, evb_mapClr, evb_jump, BE.safe, BE.pe, IE.pe, PEnv.at, List.getD_cons_zero, List.getD_cons_succ, List.getElem?_cons_zero, List.getElem?_cons_succ, locOf, locOn, readLoc, takeN, Nat.add_zero, List.drop_zero, List.length_cons, List.length_nil, Nat.reduceAdd, Nat.le_refl, if_true, if_false, Bool.false_eq_true, List.take_succ_cons, List.take_zero, bindK, bindRes, bind1, Option.map_some, Option.bind_some, PEnv.push, List.cons_append, List.nil_append, List.append_nil, SV.pvs, SV.pv, BE.all, Bool.and_self, Bool.not_true, Bool.not_false, List.map_cons, List.map_nil, p1, p2, lenM, ltB_nat, if_pos q1, if_pos q2, if_pos q3, if_pos q4, lx, ly, ma, mb, mb2, row_eq, c1, get_0, get_1, set_0, set_1, MO.list, Nat.mul_one, Nat.zero_add, dva, dvb, Nat.le_add_left, hw, e3, lv, lf, o1, sv, sf]; done)
        | (unfold revealed_lowered_t3_b7; simp -implicitDefEqProofs only [↓reduceIte, eq_self, evb_ret, evb_ite, evb_need, evb_load, evb_app, evb_cut, evb_chk, evb_appF, evb_call, evb_callv, evb_newM, evb_mkM, evb_storeM, evb_appM, evb_mkMap, evb_mapGet, evb_mapSet, evb_mapClr, evb_jump, BE.safe, BE.pe, IE.pe, PEnv.at, List.getD_cons_zero, List.getD_cons_succ, List.getElem?_cons_zero, List.getElem?_cons_succ, locOf, locOn, readLoc, takeN, Nat.add_zero, List.drop_zero, List.length_cons, List.length_nil, Nat.reduceAdd, Nat.le_refl, if_true, if_false, Bool.false_eq_true, List.take_succ_cons, List.take_zero, bindK, bindRes, bind1, Option.map_some, Option.bind_some, PEnv.push, List.cons_append, List.nil_append, List.append_nil, SV.pvs, SV.pv, BE.all, Bool.and_self, Bool.not_true, Bool.not_false, List.map_cons, List.map_nil, p1, p2, lenM, ltB_nat, if_pos q1, if_pos q2, if_pos q3, if_pos q4, lx, ly, ma, mb, mb2, row_eq, c1, get_0, get_1, set_0, set_1, MO.list, Nat.mul_one, Nat.zero_add, dva, dvb, Nat.le_add_left, hw, e3, lv, lf, o1, sv, sf])
        | (unfold revealed_lowered_t3_b8; simp -implicitDefEqProofs only [↓reduceIte, eq_self, evb_ret, evb_ite, evb_need, evb_load, evb_app, evb_cut, evb_chk, evb_appF, evb_call, evb_callv, evb_newM, evb_mkM, evb_storeM, evb_appM, evb_mkMap, evb_mapGet, evb_mapSet, evb_mapClr, evb_jump, BE.safe, BE.pe, IE.pe, PEnv.at, List.getD_cons_zero, List.getD_cons_succ, List.getElem?_cons_zero, List.getElem?_cons_succ, locOf, locOn, readLoc, takeN, Nat.add_zero, List.drop_zero, List.length_cons, List.length_nil, Nat.reduceAdd, Nat.le_refl, if_true, if_false, Bool.false_eq_true, List.take_succ_cons, List.take_zero, bindK, bindRes, bind1, Option.map_some, Option.bind_some, PEnv.push, List.cons_append, List.nil_append, List.append_nil, SV.pvs, SV.pv, BE.all, Bool.and_self, Bool.not_true, Bool.not_false, List.map_cons, List.map_nil, p1, p2, lenM, ltB_nat, if_pos q1, if_pos q2, if_pos q3, if_pos q4, lx, ly, ma, mb, mb2, row_eq, c1, get_0, get_1, set_0, set_1, MO.list, Nat.mul_one, Nat.zero_add, dva, dvb, Nat.le_add_left, hw, e3, lv, lf, o1, sv, sf]; done)
        | (unfold revealed_lowered_t3_b8; simp -implicitDefEqProofs only [↓reduceIte, eq_self, evb_ret, evb_ite, evb_need, evb_load, evb_app, evb_cut, evb_chk, evb_appF, evb_call, evb_callv, evb_newM, evb_mkM, evb_storeM, evb_appM, evb_mkMap, evb_mapGet, evb_mapSet, evb_mapClr, evb_jump, BE.safe, BE.pe, IE.pe, PEnv.at, List.getD_cons_zero, List.getD_cons_succ, List.getElem?_cons_zero, List.getElem?_cons_succ, locOf, locOn, readLoc, takeN, Nat.add_zero, List.drop_zero, List.length_cons, List.length_nil, Nat.reduceAdd, Nat.le_refl, if_true, if_false, Bool.false_eq_true, List.take_succ_cons, List.take_zero, bindK, bindRes, bind1, Option.map_some, Option.bind_some, PEnv.push, List.cons_append, List.nil_append, List.append_nil, SV.pvs, SV.pv, BE.all, Bool.and_self, Bool.not_true, Bool.not_false, List.map_cons, List.map_nil, p1, p2, lenM, ltB_nat, if_pos q1, if_pos q2, if_pos q3, if_pos q4, lx, ly, ma, mb, mb2, row_eq, c1, get_0, get_1, set_0, set_1, MO.list, Nat.mul_one, Nat.zero_add, dva, dvb, Nat.le_add_left, hw, e3, lv, lf, o1, sv, sf])
        | (unfold revealed_lowered_t3_b9; simp -implicitDefEqProofs only [↓reduceIte, eq_self, evb_ret, evb_ite, evb_need, evb_load, evb_app, evb_cut, evb_chk, evb_appF, evb_call, evb_callv, evb_newM, evb_mkM, evb_storeM, evb_appM, evb_mkMap, evb_mapGet, evb_mapSet, evb_mapClr, evb_jump, BE.safe, BE.pe, IE.pe, PEnv.at, List.getD_cons_zero, List.getD_cons_succ, List.getElem?_cons_zero, List.getElem?_cons_succ, locOf, locOn, readLoc, takeN, Nat.add_zero, List.drop_zero, List.length_cons, List.length_nil, Nat.reduceAdd, Nat.le_refl, if_true, if_false, Bool.false_eq_true, List.take_succ_cons, List.take_zero, bindK, bindRes, bind1, Option.map_some, Option.bind_some, PEnv.push, List.cons_append, List.nil_append, List.append_nil, SV.pvs, SV.pv, BE.all, Bool.and_self, Bool.not_true, Bool.not_false, List.map_cons, List.map_nil, p1, p2, lenM, ltB_nat, if_pos q1, if_pos q2, if_pos q3, if_pos q4, lx, ly, ma, mb, mb2, row_eq, c1, get_0, get_1, set_0, set_1, MO.list, Nat.mul_one, Nat.zero_add, dva, dvb, Nat.le_add_left, hw, e3, lv, lf, o1, sv, sf]; done)
        | (unfold revealed_lowered_t3_b9; simp -implicitDefEqProofs only [↓reduceIte, eq_self, evb_ret, evb_ite, evb_need, evb_load, evb_app, evb_cut, evb_chk, evb_appF, evb_call, evb_callv, evb_newM, evb_mkM, evb_storeM, evb_appM, evb_mkMap, evb_mapGet, evb_mapSet, evb_mapClr, evb_jump, BE.safe, BE.pe, IE.pe, PEnv.at, List.getD_cons_zero, List.getD_cons_succ, List.getElem?_cons_zero, List.getElem?_cons_succ, locOf, locOn, readLoc, takeN, Nat.add_zero, List.drop_zero, List.length_cons, List.length_nil, Nat.reduceAdd, Nat.le_refl, if_true, if_false, Bool.false_eq_true, List.take_succ_cons, List.take_zero, bindK, bindRes, bind1, Option.map_some, Option.bind_some, PEnv.push, List.cons_append, List.nil_append, List.append_nil, SV.pvs, SV.pv, BE.all, Bool.and_self, Bool.not_true, Bool.not_false, List.map_cons, List.map_nil, p1, p2, lenM, ltB_nat, if_pos q1, if_pos q2, if_pos q3, if_pos q4, lx, ly, ma, mb, mb2, row_eq, c1, get_0, get_1, set_0, set_1, MO.list, Nat.mul_one, Nat.zero_add, dva, dvb, Nat.le_add_left, hw, e3, lv, lf, o1, sv, sf])
        | (unfold revealed_lowered_t3_b10; simp -implicitDefEqProofs only [↓reduceIte, eq_self, evb_ret, evb_ite, evb_need, evb_load, evb_app, evb_cut, evb_chk, evb_appF, evb_call, evb_callv, evb_newM, evb_mkM, evb_storeM, evb_appM, evb_mkMap, evb_mapGet, evb_mapSet, evb_mapClr, evb_jump, BE.safe, BE.pe, IE.pe, PEnv.at, List.getD_cons_zero, List.getD_cons_succ, List.getElem?_cons_zero, List.getElem?_cons_succ, locOf, locOn, readLoc, takeN, Nat.add_zero, List.drop_zero, List.length_cons, List.length_nil, Nat.reduceAdd, Nat.le_refl, if_true, if_false, Bool.false_eq_true, List.take_succ_cons, List.take_zero, bindK, bindRes, bind1, Option.map_some, Option.bind_some, PEnv.push, List.cons_append, List.nil_append, List.append_nil, SV.pvs, SV.pv, BE.all, Bool.and_self, Bool.not_true, Bool.not_false, List.map_cons, List.map_nil, p1, p2, lenM, ltB_nat, if_pos q1, if_pos q2, if_pos q3, if_pos q4, lx, ly, ma, mb, mb2, row_eq, c1, get_0, get_1, set_0, set_1, MO.list, Nat.mul_one, Nat.zero_add, dva, dvb, Nat.le_add_left, hw, e3, lv, lf, o1, sv, sf]; done)
        | (unfold revealed_lowered_t3_b10; simp -implicitDefEqProofs only [↓reduceIte, eq_self, evb_ret, evb_ite, evb_need, evb_load, evb_app, evb_cut, evb_chk, evb_appF, evb_call, evb_callv, evb_newM, evb_mkM, evb_storeM, evb_appM, evb_mkMap, evb_mapGet, evb_mapSet, evb_mapClr, evb_jump, BE.safe, BE.pe, IE.pe, PEnv.at, List.getD_cons_zero, List.getD_cons_succ, List.getElem?_cons_zero, List.getElem?_cons_succ, locOf, locOn, readLoc, takeN, Nat.add_zero, List.drop_zero, List.length_cons, List.length_nil, Nat.reduceAdd, Nat.le_refl, if_true, if_false, Bool.false_eq_true, List.take_succ_cons, List.take_zero, bindK, bindRes, bind1, Option.map_some, Option.bind_some, PEnv.push, List.cons_append, List.nil_append, List.append_nil, SV.pvs, SV.pv, BE.all, Bool.and_self, Bool.not_true, Bool.not_false, List.map_cons, List.map_nil, p1, p2, lenM, ltB_nat, if_pos q1, if_pos q2, if_pos q3, if_pos q4, lx, ly, ma, mb, mb2, row_eq, c1, get_0, get_1, set_0, set_1, MO.list, Nat.mul_one, Nat.zero_add, dva, dvb, Nat.le_add_left, hw, e3, lv, lf, o1, sv, sf])
        | (unfold revealed_lowered_t3_b11; simp -implicitDefEqProofs only [↓reduceIte, eq_self, evb_ret, evb_ite, evb_need, evb_load, evb_app, evb_cut, evb_chk, evb_appF, evb_call, evb_callv, evb_newM, evb_mkM, evb_storeM, evb_appM, evb_mkMap, evb_mapGet, evb_mapSet, evb_mapClr, evb_jump, BE.safe, BE.pe, IE.pe, PEnv.at, List.getD_cons_zero, List.getD_cons_succ, List.getElem?_cons_zero, List.getElem?_cons_succ, locOf, locOn, readLoc, takeN, Nat.add_zero, List.drop_zero, List.length_cons, List.length_nil, Nat.reduceAdd, Nat.le_refl, if_true, if_false, Bool.false_eq_true, List.take_succ_cons, List.take_zero, bindK, bindRes, bind1, Option.map_some, Option.bind_some, PEnv.push, List.cons_append, List.nil_append, List.append_nil, SV.pvs, SV.pv, BE.all, Bool.and_self, Bool.not_true, Bool.not_false, List.map_cons, List.map_nil, p1, p2, lenM, ltB_nat, if_pos q1, if_pos q2, if_pos q3, if_pos q4, lx, ly, ma, mb, mb2, row_eq, c1, get_0, get_1, set_0, set_1, MO.list, Nat.mul_one, Nat.zero_add, dva, dvb, Nat.le_add_left, hw, e3, lv, lf, o1, sv, sf]; done)
        | (unfold revealed_lowered_t3_b11; simp -implicitDefEqProofs only [↓reduceIte, eq_self, evb_ret, evb_ite, evb_need, evb_load, evb_app, evb_cut, evb_chk, evb_appF, evb_call, evb_callv, evb_newM, evb_mkM, evb_storeM, evb_appM, evb_mkMap, evb_mapGet, evb_mapSet, evb_mapClr, evb_jump, BE.safe, BE.pe, IE.pe, PEnv.at, List.getD_cons_zero, List.getD_cons_succ, List.getElem?_cons_zero, List.getElem?_cons_succ, locOf, locOn, readLoc, takeN, Nat.add_zero, List.drop_zero, List.length_cons, List.length_nil, Nat.reduceAdd, Nat.le_refl, if_true, if_false, Bool.false_eq_true, List.take_succ_cons, List.take_zero, bindK, bindRes, bind1, Option.map_some, Option.bind_some, PEnv.push, List.cons_append, List.nil_append, List.append_nil, SV.pvs, SV.pv, BE.all, Bool.and_self, Bool.not_true, Bool.not_false, List.map_cons, List.map_nil, p1, p2, lenM, ltB_nat, if_pos q1, if_pos q2, if_pos q3, if_pos q4, lx, ly, ma, mb, mb2, row_eq, c1, get_0, get_1, set_0, set_1, MO.list, Nat.mul_one, Nat.zero_add, dva, dvb, Nat.le_add_left, hw, e3, lv, lf, o1, sv, sf])
        | (unfold revealed_lowered_t3_b12; simp -implicitDefEqProofs only [↓reduceIte, eq_self, evb_ret, evb_ite, evb_need, evb_load, evb_app, evb_cut, evb_chk, evb_appF, evb_call, evb_callv, evb_newM, evb_mkM, evb_storeM, evb_appM, evb_mkMap, evb_mapGet, evb_mapSet, evb_mapClr, evb_jump, BE.safe, BE.pe, IE.pe, PEnv.at, List.getD_cons_zero, List.getD_cons_succ, List.getElem?_cons_zero, List.getElem?_cons_succ, locOf, locOn, readLoc, takeN, Nat.add_zero, List.drop_zero, List.length_cons, List.length_nil, Nat.reduceAdd, Nat.le_refl, if_true, if_false, Bool.false_eq_true, List.take_succ_cons, List.take_zero, bindK, bindRes, bind1, Option.map_some, Option.bind_some, PEnv.push, List.cons_append, List.nil_append, List.append_nil, SV.pvs, SV.pv, BE.all, Bool.and_self, Bool.not_true, Bool.not_false, List.map_cons, List.map_nil, p1, p2, lenM, ltB_nat, if_pos q1, if_pos q2, if_pos q3, if_pos q4, lx, ly, ma, mb, mb2, row_eq, c1, get_0, get_1, set_0, set_1, MO.list, Nat.mul_one, Nat.zero_add, dva, dvb, Nat.le_add_left, hw, e3, lv, lf, o1, sv, sf]; done)
        | (unfold revealed_lowered_t3_b12; simp -implicitDefEqProofs only [↓reduceIte, eq_self, evb_ret, evb_ite, evb_need, evb_load, evb_app, evb_cut, evb_chk, evb_appF, evb_call, evb_callv, evb_newM, evb_mkM, evb_storeM, evb_appM, evb_mkMap, evb_mapGet, evb_mapSet, evb_mapClr, evb_jump, BE.safe, BE.pe, IE.pe, PEnv.at, List.getD_cons_zero, List.getD_cons_succ, List.getElem?_cons_zero, List.getElem?_cons_succ, locOf, locOn, readLoc, takeN, Nat.add_zero, List.drop_zero, List.length_cons, List.length_nil, Nat.reduceAdd, Nat.le_refl, if_true, if_false, Bool.false_eq_true, List.take_succ_cons, List.take_zero, bindK, bindRes, bind1, Option.map_some, Option.bind_some, PEnv.push, List.cons_append, List.nil_append, List.append_nil, SV.pvs, SV.pv, BE.all, Bool.and_self, Bool.not_true, Bool.not_false, List.map_cons, List.map_nil, p1, p2, lenM, ltB_nat, if_pos q1, if_pos q2, if_pos q3, if_pos q4, lx, ly, ma, mb, mb2, row_eq, c1, get_0, get_1, set_0, set_1, MO.list, Nat.mul_one, Nat.zero_add, dva, dvb, Nat.le_add_left, hw, e3, lv, lf, o1, sv, sf])
        | (unfold revealed_lowered_t3_b13; simp -implicitDefEqProofs only [↓reduceIte, eq_self, evb_ret, evb_ite, evb_need, evb_load, evb_app, evb_cut, evb_chk, evb_appF, evb_call, evb_callv, evb_newM, evb_mkM, evb_storeM, evb_appM, evb_mkMap, evb_mapGet, evb_mapSet, evb_mapClr, evb_jump, BE.safe, BE.pe, IE.pe, PEnv.at, List.getD_cons_zero, List.getD_cons_succ, List.getElem?_cons_zero, List.getElem?_cons_succ, locOf, locOn, readLoc, takeN, Nat.add_zero, List.drop_zero, List.length_cons, List.length_nil, Nat.reduceAdd, Nat.le_refl, if_true, if_false, Bool.false_eq_true, List.take_succ_cons, List.take_zero, bindK, bindRes, bind1, Option.map_some, Option.bind_some, PEnv.push, List.cons_append, List.nil_append, List.append_nil, SV.pvs, SV.pv, BE.all, Bool.and_self, Bool.not_true, Bool.not_false, List.map_cons, List.map_nil, p1, p2, lenM, ltB_nat, if_pos q1, if_pos q2, if_pos q3, if_pos q4, lx, ly, ma, mb, mb2, row_eq, c1, get_0, get_1, set_0, set_1, MO.list, Nat.mul_one, Nat.zero_add, dva, dvb, Nat.le_add_left, hw, e3, lv, lf, o1, sv, sf]; done)
        | (unfold revealed_lowered_t3_b13; simp -implicitDefEqProofs only [↓reduceIte, eq_self, evb_ret, evb_ite, evb_need, evb_load, evb_app, evb_cut, evb_chk, evb_appF, evb_call, evb_callv, evb_newM, evb_mkM, evb_storeM, evb_appM, evb_mkMap, evb_mapGet, evb_mapSet, evb_mapClr, evb_jump, BE.safe, BE.pe, IE.pe, PEnv.at, List.getD_cons_zero, List.getD_cons_succ, List.getElem?_cons_zero, List.getElem?_cons_succ, locOf, locOn, readLoc, takeN, Nat.add_zero, List.drop_zero, List.length_cons, List.length_nil, Nat.reduceAdd, Nat.le_refl, if_true, if_false, Bool.false_eq_true, List.take_succ_cons, List.take_zero, bindK, bindRes, bind1, Option.map_some, Option.bind_some, PEnv.push, List.cons_append, List.nil_append, List.append_nil, SV.pvs, SV.pv, BE.all, Bool.and_self, Bool.not_true, Bool.not_false, List.map_cons, List.map_nil, p1, p2, lenM, ltB_nat, if_pos q1, if_pos q2, if_pos q3, if_pos q4, lx, ly, ma, mb, mb2, row_eq, c1, get_0, get_1, set_0, set_1, MO.list, Nat.mul_one, Nat.zero_add, dva, dvb, Nat.le_add_left, hw, e3, lv, lf, o1, sv, sf])
        | (unfold revealed_lowered_t3_b14; simp -implicitDefEqProofs only [↓reduceIte, eq_self, evb_ret, evb_ite, evb_need, evb_load, evb_app, evb_cut, evb_chk, evb_appF, evb_call, evb_callv, evb_newM, evb_mkM, evb_storeM, evb_appM, evb_mkMap, evb_mapGet, evb_mapSet, evb_mapClr, evb_jump, BE.safe, BE.pe, IE.pe, PEnv.at, List.getD_cons_zero, List.getD_cons_succ, List.getElem?_cons_zero, List.getElem?_cons_succ, locOf, locOn, readLoc, takeN, Nat.add_zero, List.drop_zero, List.length_cons, List.length_nil, Nat.reduceAdd, Nat.le_refl, if_true, if_false, Bool.false_eq_true, List.take_succ_cons, List.take_zero, bindK, bindRes, bind1, Option.map_some, Option.bind_some, PEnv.push, List.cons_append, List.nil_append, List.append_nil, SV.pvs, SV.pv, BE.all, Bool.and_self, Bool.not_true, Bool.not_false, List.map_cons, List.map_nil, p1, p2, lenM, ltB_nat, if_pos q1, if_pos q2, if_pos q3, if_pos q4, lx, ly, ma, mb, mb2, row_eq, c1, get_0, get_1, set_0, set_1, MO.list, Nat.mul_one, Nat.zero_add, dva, dvb, Nat.le_add_left, hw, e3, lv, lf, o1, sv, sf]; done)
        | (unfold revealed_lowered_t3_b14; simp -implicitDefEqProofs only [↓reduceIte, eq_self, evb_ret, evb_ite, evb_need, evb_load, evb_app, evb_cut, evb_chk, evb_appF, evb_call, evb_callv, evb_newM, evb_mkM, evb_storeM, evb_appM, evb_mkMap, evb_mapGet, evb_mapSet, evb_mapClr, evb_jump, BE.safe, BE.pe, IE.pe, PEnv.at, List.getD_cons_zero, List.getD_cons_succ, List.getElem?_cons_zero, List.getElem?_cons_succ, locOf, locOn, readLoc, takeN, Nat.add_zero, List.drop_zero, List.length_cons, List.length_nil, Nat.reduceAdd, Nat.le_refl, if_true, if_false, Bool.false_eq_true, List.take_succ_cons, List.take_zero, bindK, bindRes, bind1, Option.map_some, Option.bind_some, PEnv.push, List.cons_append, List.nil_append, List.append_nil, SV.pvs, SV.pv, BE.all, Bool.and_self, Bool.not_true, Bool.not_false, List.map_cons, List.map_nil, p1, p2, lenM, ltB_nat, if_pos q1, if_pos q2, if_pos q3, if_pos q4, lx, ly, ma, mb, mb2, row_eq, c1, get_0, get_1, set_0, set_1, MO.list, Nat.mul_one, Nat.zero_add, dva, dvb, Nat.le_add_left, hw, e3, lv, lf, o1, sv, sf]))
    rw [if_pos hlt, Sys.loop, show revealed_lowered_S.loops[3]? = some revealed_lowered_t3 from rfl, Option.bind_some, hev, Option.bind_some]
    simp only [lst, hV', hF']
  · have e3 : ltB w (at' vs b) = false := ltB_false.2 hlt
    have hev : revealed_lowered_t3.ev (evalF Tab n) (lst σ P l.length vs fs [ch, (a : Int), (l.length : Int), r, (l.length : Int), (l.length : Int), (b : Int)]) = some (.jump 3 (lst σ P l.length vs fs [ch, (a : Int), (l.length : Int), r, (l.length : Int), (l.length : Int), (b : Int) + 1])) := by
      unfold revealed_lowered_t3
      have hd : decide (b < l.length) = true := decide_eq_true hb
      simp -implicitDefEqProofs only [↓reduceIte, eq_self, evb_ret, evb_ite, evb_need, evb_load, evb_app, evb_cut, evb_chk, evb_appF, evb_call, evb_callv, evb_newM, evb_mkM, evb_storeM, evb_appM, evb_mkMap, evb_mapGet, evb_mapSet, evb_mapClr, evb_jump, BE.safe, BE.pe, IE.pe, PEnv.at, List.getD_cons_zero, List.getD_cons_succ, List.getElem?_cons_zero, List.getElem?_cons_succ, locOf, locOn, readLoc, takeN, Nat.add_zero, List.drop_zero, List.length_cons, List.length_nil, Nat.reduceAdd, Nat.le_refl, if_true, if_false, Bool.false_eq_true, List.take_succ_cons, List.take_zero, bindK, bindRes, bind1, Option.map_some, Option.bind_some, PEnv.push, List.cons_append, List.nil_append, List.append_nil, SV.pvs, SV.pv, BE.all, Bool.and_self, Bool.not_true, Bool.not_false, List.map_cons, List.map_nil, lst, p1, lenM, ltB_nat, hd, if_pos q1, if_pos q2']
      repeat' (first
        | with_reducible rfl
        | apply ev_both
        | (unfold revealed_lowered_t3_b1; simp -implicitDefEqProofs only [↓reduceIte, eq_self, evb_ret, evb_ite, evb_need, evb_load, evb_app, evb_cut, evb_chk, evb_appF, evb_call, evb_callv, evb_newM, evb_mkM, evb_storeM, evb_appM, evb_mkMap, evb_mapGet, evb_mapSet, evb_mapClr, evb_jump, BE.safe, BE.pe, IE.pe, PEnv.at, List.getD_cons_zero, List.getD_cons_succ, List.getElem?_cons_zero, List.getElem?_cons_succ, locOf, locOn, readLoc, takeN, Nat.add_zero, List.drop_zero, List.length_cons, List.length_nil, Nat.reduceAdd, Nat.le_refl, if_true, if_false, Bool.false_eq_true, List.take_succ_cons, List.take_zero, bindK, bindRes, bind1, Option.map_some, Option.bind_some, PEnv.push, List.cons_append, List.nil_append, List.append_nil, SV.pvs, SV.pv, BE.all, Bool.and_self, Bool.not_true, Bool.not_false, List.map_cons, List.map_nil, p1, p2, lenM, ltB_nat, if_pos q1, if_pos q2, if_pos q3, if_pos q4, lx, ly, ma, mb, mb2, row_eq, c1, get_0, get_1, set_0, set_1, MO.list, Nat.mul_one, Nat.zero_add, dva, dvb, Nat.le_add_left, hw, e3]; done)
        | (unfold revealed_lowered_t3_b1; simp -implicitDefEqProofs only [↓reduceIte, eq_self, evb_ret, evb_ite, evb_need, evb_load, evb_app, evb_cut, evb_chk, evb_appF, evb_call, evb_callv, evb_newM, evb_mkM, evb_storeM, evb_appM, evb_mkMap, evb_mapGet, evb_mapSet, evb_mapClr, evb_jump, BE.safe, BE.pe, IE.pe, PEnv.at, List.getD_cons_zero, List.getD_cons_succ, List.getElem?_cons_zero, List.getElem?_cons_succ, locOf, locOn, readLoc, takeN, Nat.add_zero, List.drop_zero, List.length_cons, List.length_nil, Nat.reduceAdd, Nat.le_refl, if_true, if_false, Bool.false_eq_true, List.take_succ_cons, List.take_zero, bindK, bindRes, bind1, Option.map_some, Option.bind_some, PEnv.push, List.cons_append, List.nil_append, List.append_nil, SV.pvs, SV.pv, BE.all, Bool.and_self, Bool.not_true, Bool.not_false, List.map_cons, List.map_nil, p1, p2, lenM, ltB_nat, if_pos q1, if_pos q2, if_pos q3, if_pos q4, lx, ly, ma, mb, mb2, row_eq, c1, get_0, get_1, set_0, set_1, MO.list, Nat.mul_one, Nat.zero_add, dva, dvb, Nat.le_add_left, hw, e3])
        | (unfold revealed_lowered_t3_b2; simp -implicitDefEqProofs only [↓reduceIte, eq_self, evb_ret, evb_ite, evb_need, evb_load, evb_app, evb_cut, evb_chk, evb_appF, evb_call, evb_callv, evb_newM, evb_mkM, evb_storeM, evb_appM, evb_mkMap, evb_mapGet, evb_mapSet, evb_mapClr, evb_jump, BE.safe, BE.pe, IE.pe, PEnv.at, List.getD_cons_zero, List.getD_cons_succ, List.getElem?_cons_zero, List.getElem?_cons_succ, locOf, locOn, readLoc, takeN, Nat.add_zero, List.drop_zero, List.length_cons, List.length_nil, Nat.reduceAdd, Nat.le_refl, if_true, if_false, Bool.false_eq_true, List.take_succ_cons, List.take_zero, bindK, bindRes, bind1, Option.map_some, Option.bind_some, PEnv.push, List.cons_append, List.nil_append, List.append_nil, SV.pvs, SV.pv, BE.all, Bool.and_self, Bool.not_true, Bool.not_false, List.map_cons, List.map_nil, p1, p2, lenM, ltB_nat, if_pos q1, if_pos q2, if_pos q3, if_pos q4, lx, ly, ma, mb, mb2, row_eq, c1, get_0, get_1, set_0, set_1, MO.list, Nat.mul_one, Nat.zero_add, dva, dvb, Nat.le_add_left, hw, e3]; done)
        | (unfold revealed_lowered_t3_b2; simp -implicitDefEqProofs only [↓reduceIte, eq_self, evb_ret, evb_ite, evb_need, evb_load, evb_app, evb_cut, evb_chk, evb_appF, evb_call, evb_callv, evb_newM, evb_mkM, evb_storeM, evb_appM, evb_mkMap, evb_mapGet, evb_mapSet, evb_mapClr, evb_jump, BE.safe, BE.pe, IE.pe, PEnv.at, List.getD_cons_zero, List.getD_cons_succ, List.getElem?_cons_zero, List.getElem?_cons_succ, locOf, locOn, readLoc, takeN, Nat.add_zero, List.drop_zero, List.length_cons, List.length_nil, Nat.reduceAdd, Nat.le_refl, if_true, if_false, Bool.false_eq_true, List.take_succ_cons, List.take_zero, bindK, bindRes, bind1, Option.map_some, Option.bind_some, PEnv.push, List.cons_append, List.nil_append, List.append_nil, SV.pvs, SV.pv, BE.all, Bool.and_self, Bool.not_true, Bool.not_false, List.map_cons, List.map_nil, p1, p2, lenM, ltB_nat, if_pos q1, if_pos q2, if_pos q3, if_pos q4, lx, ly, ma, mb, mb2, row_eq, c1, get_0, get_1, set_0, set_1, MO.list, Nat.mul_one, Nat.zero_add, dva, dvb, Nat.le_add_left, hw, e3])
        | (unfold revealed_lowered_t3_b3; simp -implicitDefEqProofs only [↓reduceIte, eq_self, evb_ret, evb_ite, evb_need, evb_load, evb_app, evb_cut, evb_chk, evb_appF, evb_call, evb_callv, evb_newM, evb_mkM, evb_storeM, evb_appM, evb_mkMap, evb_mapGet, evb_mapSet, evb_mapClr, evb_jump, BE.safe, BE.pe, IE.pe, PEnv.at, List.getD_cons_zero, List.getD_cons_succ, List.getElem?_cons_zero, List.getElem?_cons_succ, locOf, locOn, readLoc, takeN, Nat.add_zero, List.drop_zero, List.length_cons, List.length_nil, Nat.reduceAdd, Nat.le_refl, if_true, if_false, Bool.false_eq_true, List.take_succ_cons, List.take_zero, bindK, bindRes, bind1, Option.map_some, Option.bind_some, PEnv.push, List.cons_append, List.nil_append, List.append_nil, SV.pvs, SV.pv, BE.all, Bool.and_self, Bool.not_true, Bool.not_false, List.map_cons, List.map_nil, p1, p2, lenM, ltB_nat, if_pos q1, if_pos q2, if_pos q3, if_pos q4, lx, ly, ma, mb, mb2, row_eq, c1, get_0, get_1, set_0, set_1, MO.list, Nat.mul_one, Nat.zero_add, dva, dvb, Nat.le_add_left, hw, e3]; done)
        | (unfold revealed_lowered_t3_b3; simp -implicitDefEqProofs only [↓reduceIte, eq_self, evb_ret, evb_ite, evb_need, evb_load, evb_app, evb_cut, evb_chk, evb_appF, evb_call, evb_callv, evb_newM, evb_mkM, evb_storeM, evb_appM, evb_mkMap, evb_mapGet, evb_mapSet, evb_mapClr, evb_jump, BE.safe, BE.pe, IE.pe, PEnv.at, List.getD_cons_zero, List.getD_cons_succ, List.getElem?_cons_zero, List.getElem?_cons_succ, locOf, locOn, readLoc, takeN, Nat.add_zero, List.drop_zero, List.length_cons, List.length_nil, Nat.reduceAdd, Nat.le_refl, if_true, if_false, Bool.false_eq_true, List.take_succ_cons, List.take_zero, bindK, bindRes, bind1, Option.map_some, Option.bind_some, PEnv.push, List.cons_append, List.nil_append, List.append_nil, SV.pvs, SV.pv, BE.all, Bool.and_self, Bool.not_true, Bool.not_false, List.map_cons, List.map_nil, p1, p2, lenM, ltB_nat, if_pos q1, if_pos q2, if_pos q3, if_pos q4, lx, ly, ma, mb, mb2, row_eq, c1, get_0, get_1, set_0, set_1, MO.list, Nat.mul_one, Nat.zero_add, dva, dvb, Nat.le_add_left, hw, e3])
        | (unfold revealed_lowered_t3_b4; simp -implicitDefEqProofs only [↓reduceIte, eq_self, evb_ret, evb_ite, evb_need, evb_load, evb_app, evb_cut, evb_chk, evb_appF, evb_call, evb_callv, evb_newM, evb_mkM, evb_storeM, evb_appM, evb_mkMap, evb_mapGet, evb_mapSet, evb_mapClr, evb_jump, BE.safe, BE.pe, IE.pe, PEnv.at, List.getD_cons_zero, List.getD_cons_succ, List.getElem?_cons_zero, List.getElem?_cons_succ, locOf, locOn, readLoc, takeN, Nat.add_zero, List.drop_zero, List.length_cons, List.length_nil, Nat.reduceAdd, Nat.le_refl, if_true, if_false, Bool.false_eq_true, List.take_succ_cons, List.take_zero, bindK, bindRes, bind1, Option.map_some, Option.bind_some, PEnv.push, List.cons_append, List.nil_append, List.append_nil, SV.pvs, SV.pv, BE.all, Bool.and_self, Bool.not_true, Bool.not_false, List.map_cons, List.map_nil, p1, p2, lenM, ltB_nat, if_pos q1, if_pos q2, if_pos q3, if_pos q4, lx, ly, ma, mb, mb2, row_eq, c1, get_0, get_1, set_0, set_1, MO.list, Nat.mul_one, Nat.zero_add, dva, dvb, Nat.le_add_left, hw, e3]; done)
        | (unfold revealed_lowered_t3_b4; simp -implicitDefEqProofs only [↓reduceIte, eq_self, evb_ret, evb_ite, evb_need, evb_load, evb_app, evb_cut, evb_chk, evb_appF, evb_call, evb_callv, evb_newM, evb_mkM, evb_storeM, evb_appM, evb_mkMap, evb_mapGet, evb_mapSet, evb_mapClr, evb_jump, BE.safe, BE.pe, IE.pe, PEnv.at, List.getD_cons_zero, List.getD_cons_succ, List.getElem?_cons_zero, List.getElem?_cons_succ, locOf, locOn, readLoc, takeN, Nat.add_zero, List.drop_zero, List.length_cons, List.length_nil, Nat.reduceAdd, Nat.le_refl, if_true, if_false, Bool.false_eq_true, List.take_succ_cons, List.take_zero, bindK, bindRes, bind1, Option.map_some, Option.bind_some, PEnv.push, List.cons_append, List.nil_append, List.append_nil, SV.pvs, SV.pv, BE.all, Bool.and_self, Bool.not_true, Bool.not_false, List.map_cons, List.map_nil, p1, p2, lenM, ltB_nat, if_pos q1, if_pos q2, if_pos q3, if_pos q4, lx, ly, ma, mb, mb2, row_eq, c1, get_0, get_1, set_0, set_1, MO.list, Nat.mul_one, Nat.zero_add, dva, dvb, Nat.le_add_left, hw, e3])
        | (unfold revealed_lowered_t3_b5; simp -implicitDefEqProofs only [↓reduceIte, eq_self, evb_ret, evb_ite, evb_need, evb_load, evb_app, evb_cut, evb_chk, evb_appF, evb_call, evb_callv, evb_newM, evb_mkM, evb_storeM, evb_appM, evb_mkMap, evb_mapGet, evb_mapSet, evb_mapClr, evb_jump, BE.safe, BE.pe, IE.pe, PEnv.at, List.getD_cons_zero, List.getD_cons_succ, List.getElem?_cons_zero, List.getElem?_cons_succ, locOf, locOn, readLoc, takeN, Nat.add_zero, List.drop_zero, List.length_cons, List.length_nil, Nat.reduceAdd, Nat.le_refl, if_true, if_false, Bool.false_eq_true, List.take_succ_cons, List.take_zero, bindK, bindRes, bind1, Option.map_some, Option.bind_some, PEnv.push, List.cons_append, List.nil_append, List.append_nil, SV.pvs, SV.pv, BE.all, Bool.and_self, Bool.not_true, Bool.not_false, List.map_cons, List.map_nil, p1, p2, lenM, ltB_nat, if_pos q1, if_pos q2, if_pos q3, if_pos q4, lx, ly, ma, mb, mb2, row_eq, c1, get_0, get_1, set_0, set_1, MO.list, Nat.mul_one, Nat.zero_add, dva, dvb, Nat.le_add_left, hw, e3]; done)
        | (unfold revealed_lowered_t3_b5; simp -implicitDefEqProofs only [↓reduceIte, eq_self, evb_ret, evb_ite, evb_need, evb_load, evb_app, evb_cut, evb_chk, evb_appF, evb_call, evb_callv, evb_newM, evb_mkM, evb_storeM, evb_appM, evb_mkMap, evb_mapGet, evb_mapSet, evb_mapClr, evb_jump, BE.safe, BE.pe, IE.pe, PEnv.at, List.getD_cons_zero, List.getD_cons_succ, List.getElem?_cons_zero, List.getElem?_cons_succ, locOf, locOn, readLoc, takeN, Nat.add_zero, List.drop_zero, List.length_cons, List.length_nil, Nat.reduceAdd, Nat.le_refl, if_true, if_false, Bool.false_eq_true, List.take_succ_cons, List.take_zero, bindK, bindRes, bind1, Option.map_some, Option.bind_some, PEnv.push, List.cons_append, List.nil_append, List.append_nil, SV.pvs, SV.pv, BE.all, Bool.and_self, Bool.not_true, Bool.not_false, List.map_cons, List.map_nil, p1, p2, lenM, ltB_nat, if_pos q1, if_pos q2, if_pos q3, if_pos q4, lx, ly, ma, mb, mb2, row_eq, c1, get_0, get_1, set_0, set_1, MO.list, Nat.mul_one, Nat.zero_add, dva, dvb, Nat.le_add_left, hw, e3])
        | (unfold revealed_lowered_t3_b6; simp -implicitDefEqProofs only [↓reduceIte, eq_self, evb_ret, evb_ite, evb_need, evb_load, evb_app, evb_cut, evb_chk, evb_appF, evb_call, evb_callv, evb_newM, evb_mkM, evb_storeM, evb_appM, evb_mkMap, evb_mapGet, evb_mapSet, evb_mapClr, evb_jump, BE.safe, BE.pe, IE.pe, PEnv.at, List.getD_cons_zero, List.getD_cons_succ, List.getElem?_cons_zero, List.getElem?_cons_succ, locOf, locOn, readLoc, takeN, Nat.add_zero, List.drop_zero, List.length_cons, List.length_nil, Nat.reduceAdd, Nat.le_refl, if_true, if_false, Bool.false_eq_true, List.take_succ_cons, List.take_zero, bindK, bindRes, bind1, Option.map_some, Option.bind_some, PEnv.push, List.cons_append, List.nil_append, List.append_nil, SV.pvs, SV.pv, BE.all, Bool.and_self, Bool.not_true, Bool.not_false, List.map_cons, List.map_nil, p1, p2, lenM, ltB_nat, if_pos q1, if_pos q2, if_pos q3, if_pos q4, lx, ly, ma, mb, mb2, row_eq, c1, get_0, get_1, set_0, set_1, MO.list, Nat.mul_one, Nat.zero_add, dva, dvb, Nat.le_add_left, hw, e3]; done)
        | (unfold revealed_lowered_t3_b6; simp -implicitDefEqProofs only [↓reduceIte, eq_self, evb_ret, evb_ite, evb_need, evb_load, evb_app, evb_cut, evb_chk, evb_appF, evb_call, evb_callv, evb_newM, evb_mkM, evb_storeM, evb_appM, evb_mkMap, evb_mapGet, evb_mapSet, evb_mapClr, evb_jump, BE.safe, BE.pe, IE.pe, PEnv.at, List.getD_cons_zero, List.getD_cons_succ, List.getElem?_cons_zero, List.getElem?_cons_succ, locOf, locOn, readLoc, takeN, Nat.add_zero, List.drop_zero, List.length_cons, List.length_nil, Nat.reduceAdd, Nat.le_refl, if_true, if_false, Bool.false_eq_true, List.take_succ_cons, List.take_zero, bindK, bindRes, bind1, Option.map_some, Option.bind_some, PEnv.push, List.cons_append, List.nil_append, List.append_nil, SV.pvs, SV.pv, BE.all, Bool.and_self, Bool.not_true, Bool.not_false, List.map_cons, List.map_nil, p1, p2, lenM, ltB_nat, if_pos q1, if_pos q2, if_pos q3, if_pos q4, lx, ly, ma, mb, mb2, row_eq, c1, get_0, get_1, set_0, set_1, MO.list, Nat.mul_one, Nat.zero_add, dva, dvb, Nat.le_add_left, hw, e3])
        | (unfold revealed_lowered_t3_b7; simp -implicitDefEqProofs only [↓reduceIte, eq_self, evb_ret, evb_ite, evb_need, evb_load, evb_app, evb_cut, evb_chk, evb_appF, evb_call, evb_callv, evb_newM, evb_mkM, evb_storeM, evb_appM, evb_mkMap, evb_mapGet, evb_mapSet, evb_mapClr, evb_jump, BE.safe, BE.pe, IE.pe, PEnv.at, List.getD_cons_zero, List.getD_cons_succ, List.getElem?_cons_zero, List.getElem?_cons_succ, locOf, locOn, readLoc, takeN, Nat.add_zero, List.drop_zero, List.length_cons, List.length_nil, Nat.reduceAdd, Nat.le_refl, if_true, if_false, Bool.false_eq_true, List.take_succ_cons, List.take_zero, bindK, bindRes, bind1, Option.map_some, Option.bind_some, PEnv.push, List.cons_append, List.nil_append, List.append_nil, SV.pvs, SV.pv, BE.all, Bool.and_self, Bool.not_true, Bool.not_false, List.map_cons, List.map_nil, p1, p2, lenM, ltB_nat, if_pos q1, if_pos q2, if_pos q3, if_pos q4, lx, ly, ma, mb, mb2, row_eq, c1, get_0, get_1, set_0, set_1, MO.list, Nat.mul_one, Nat.zero_add, dva, dvb, Nat.le_add_left, hw, e3]; done)
        | (unfold revealed_lowered_t3_b7; simp -implicitDefEqProofs only [↓reduceIte, eq_self, evb_ret, evb_ite, evb_need, evb_load, evb_app, evb_cut, evb_chk, evb_appF, evb_call, evb_callv, evb_newM, evb_mkM, evb_storeM, evb_appM, evb_mkMap, evb_mapGet, evb_mapSet, evb_mapClr, evb_jump, BE.safe, BE.pe, IE.pe, PEnv.at, List.getD_cons_zero, List.getD_cons_succ, List.getElem?_cons_zero, List.getElem?_cons_succ, locOf, locOn, readLoc, takeN, Nat.add_zero, List.drop_zero, List.length_cons, List.length_nil, Nat.reduceAdd, Nat.le_refl, if_true, if_false, Bool.false_eq_true, List.take_succ_cons, List.take_zero, bindK, bindRes, bind1, Option.map_some, Option.bind_some, PEnv.push, List.cons_append, List.nil_append, List.append_nil, SV.pvs, SV.pv, BE.all, Bool.and_self, Bool.not_true, Bool.not_false, List.map_cons, List.map_nil, p1, p2, lenM, ltB_nat, if_pos q1, if_pos q2, if_pos q3, if_pos q4, lx, ly, ma, mb, mb2, row_eq, c1, get_0, get_1, set_0, set_1, MO.list, Nat.mul_one, Nat.zero_add, dva, dvb, Nat.le_add_left, hw, e3])
        | (unfold revealed_lowered_t3_b8; simp -implicitDefEqProofs only [↓reduceIte, eq_self, evb_ret, evb_ite, evb_need, evb_load, evb_app, evb_cut, evb_chk, evb_appF, evb_call, evb_callv, evb_newM, evb_mkM, evb_storeM, evb_appM, evb_mkMap, evb_mapGet, evb_mapSet, evb_mapClr, evb_jump, BE.safe, BE.pe, IE.pe, PEnv.at, List.getD_cons_zero, List.getD_cons_succ, List.getElem?_cons_zero, List.getElem?_cons_succ, locOf, locOn, readLoc, takeN, Nat.add_zero, List.drop_zero, List.length_cons, List.length_nil, Nat.reduceAdd, Nat.le_refl, if_true, if_false, Bool.false_eq_true, List.take_succ_cons, List.take_zero, bindK, bindRes, bind1, Option.map_some, Option.bind_some, PEnv.push, List.cons_append, List.nil_append, List.append_nil, SV.pvs, SV.pv, BE.all, Bool.and_self, Bool.not_true, Bool.not_false, List.map_cons, List.map_nil, p1, p2, lenM, ltB_nat, if_pos q1, if_pos q2, if_pos q3, if_pos q4, lx, ly, ma, mb, mb2, row_eq, c1, get_0, get_1, set_0, set_1, MO.list, Nat.mul_one, Nat.zero_add, dva, dvb, Nat.le_add_left, hw, e3]; done)
        | (unfold revealed_lowered_t3_b8; simp -implicitDefEqProofs only [↓reduceIte, eq_self, evb_ret, evb_ite, evb_need, evb_load, evb_app, evb_cut, evb_chk, evb_appF, evb_call, evb_callv, evb_newM, evb_mkM, evb_storeM, evb_appM, evb_mkMap, evb_mapGet, evb_mapSet, evb_mapClr, evb_jump, BE.safe, BE.pe, IE.pe, PEnv.at, List.getD_cons_zero, List.getD_cons_succ, List.getElem?_cons_zero, List.getElem?_cons_succ, locOf, locOn, readLoc, takeN, Nat.add_zero, List.drop_zero, List.length_cons, List.length_nil, Nat.reduceAdd, Nat.le_refl, if_true, if_false, Bool.false_eq_true, List.take_succ_cons, List.take_zero, bindK, bindRes, bind1, Option.map_some, Option.bind_some, PEnv.push, List.cons_append, List.nil_append, List.append_nil, SV.pvs, SV.pv, BE.all, Bool.and_self, Bool.not_true, Bool.not_false, List.map_cons, List.map_nil, p1, p2, lenM, ltB_nat, if_pos q1, if_pos q2, if_pos q3, if_pos q4, lx, ly, ma, mb, mb2, row_eq, c1, get_0, get_1, set_0, set_1, MO.list, Nat.mul_one, Nat.zero_add, dva, dvb, Nat.le_add_left, hw, e3])
        | (unfold revealed_lowered_t3_b9; simp -implicitDefEqProofs only [↓reduceIte, eq_self, evb_ret, evb_ite, evb_need, evb_load, evb_app, evb_cut, evb_chk, evb_appF, evb_call, evb_callv, evb_newM, evb_mkM, evb_storeM, evb_appM, evb_mkMap, evb_mapGet, evb_mapSet, evb_mapClr, evb_jump, BE.safe, BE.pe, IE.pe, PEnv.at, List.getD_cons_zero, List.getD_cons_succ, List.getElem?_cons_zero, List.getElem?_cons_succ, locOf, locOn, readLoc, takeN, Nat.add_zero, List.drop_zero, List.length_cons, List.length_nil, Nat.reduceAdd, Nat.le_refl, if_true, if_false, Bool.false_eq_true, List.take_succ_cons, List.take_zero, bindK, bindRes, bind1, Option.map_some, Option.bind_some, PEnv.push, List.cons_append, List.nil_append, List.append_nil, SV.pvs, SV.pv, BE.all, Bool.and_self, Bool.not_true, Bool.not_false, List.map_cons, List.map_nil, p1, p2, lenM, ltB_nat, if_pos q1, if_pos q2, if_pos q3, if_pos q4, lx, ly, ma, mb, mb2, row_eq, c1, get_0, get_1, set_0, set_1, MO.list, Nat.mul_one, Nat.zero_add, dva, dvb, Nat.le_add_left, hw, e3]; done)
        | (unfold revealed_lowered_t3_b9; simp -implicitDefEqProofs only [↓reduceIte, eq_self, evb_ret, evb_ite, evb_need, evb_load, evb_app, evb_cut, evb_chk, evb_appF, evb_call, evb_callv, evb_newM, evb_mkM, evb_storeM, evb_appM, evb_mkMap, evb_mapGet, evb_mapSet, evb_mapClr, evb_jump, BE.safe, BE.pe, IE.pe, PEnv.at, List.getD_cons_zero, List.getD_cons_succ, List.getElem?_cons_zero, List.getElem?_cons_succ, locOf, locOn, readLoc, takeN, Nat.add_zero, List.drop_zero, List.length_cons, List.length_nil, Nat.reduceAdd, Nat.le_refl, if_true, if_false, Bool.false_eq_true, List.take_succ_cons, List.take_zero, bindK, bindRes, bind1, Option.map_some, Option.bind_some, PEnv.push, List.cons_append, List.nil_append, List.append_nil, SV.pvs, SV.pv, BE.all, Bool.and_self, Bool.not_true, Bool.not_false, List.map_cons, List.map_nil, p1, p2, lenM, ltB_nat, if_pos q1, if_pos q2, if_pos q3, if_pos q4, lx, ly, ma, mb, mb2, row_eq, c1, get_0, get_1, set_0, set_1, MO.list, Nat.mul_one, Nat.zero_add, dva, dvb, Nat.le_add_left, hw, e3])
        | (unfold revealed_lowered_t3_b10; simp -implicitDefEqProofs only [↓reduceIte, eq_self, evb_ret, evb_ite, evb_need, evb_load, evb_app, evb_cut, evb_chk, evb_appF, evb_call, evb_callv, evb_newM, evb_mkM, evb_storeM, evb_appM, evb_mkMap, evb_mapGet, evb_mapSet, evb_mapClr, evb_jump, BE.safe, BE.pe, IE.pe, PEnv.at, List.getD_cons_zero, List.getD_cons_succ, List.getElem?_cons_zero, List.getElem?_cons_succ, locOf, locOn, readLoc, takeN, Nat.add_zero, List.drop_zero, List.length_cons, List.length_nil, Nat.reduceAdd, Nat.le_refl, if_true, if_false, Bool.false_eq_true, List.take_succ_cons, List.take_zero, bindK, bindRes, bind1, Option.map_some, Option.bind_some, PEnv.push, List.cons_append, List.nil_append, List.append_nil, SV.pvs, SV.pv, BE.all, Bool.and_self, Bool.not_true, Bool.not_false, List.map_cons, List.map_nil, p1, p2, lenM, ltB_nat, if_pos q1, if_pos q2, if_pos q3, if_pos q4, lx, ly, ma, mb, mb2, row_eq, c1, get_0, get_1, set_0, set_1, MO.list, Nat.mul_one, Nat.zero_add, dva, dvb, Nat.le_add_left, hw, e3]; done)
        | (unfold revealed_lowered_t3_b10; simp -implicitDefEqProofs only [↓reduceIte, eq_self, evb_ret, evb_ite, evb_need, evb_load, evb_app, evb_cut, evb_chk, evb_appF, evb_call, evb_callv, evb_newM, evb_mkM, evb_storeM, evb_appM, evb_mkMap, evb_mapGet, evb_mapSet, evb_mapClr, evb_jump, BE.safe, BE.pe, IE.pe, PEnv.at, List.getD_cons_zero, List.getD_cons_succ, List.getElem?_cons_zero, List.getElem?_cons_succ, locOf, locOn, readLoc, takeN, Nat.add_zero, List.drop_zero, List.length_cons, List.length_nil, Nat.reduceAdd, Nat.le_refl, if_true, if_false, Bool.false_eq_true, List.take_succ_cons, List.take_zero, bindK, bindRes, bind1, Option.map_some, Option.bind_some, PEnv.push, List.cons_append, List.nil_append, List.append_nil, SV.pvs, SV.pv, BE.all, Bool.and_self, Bool.not_true, Bool.not_false, List.map_cons, List.map_nil, p1, p2, lenM, ltB_nat, if_pos q1, if_pos q2, if_pos q3, if_pos q4, lx, ly, ma, mb, mb2, row_eq, c1, get_0, get_1, set_0, set_1, MO.list, Nat.mul_one, Nat.zero_add, dva, dvb, Nat.le_add_left, hw, e3])
        | (unfold revealed_lowered_t3_b11; simp -implicitDefEqProofs only [↓reduceIte, eq_self, evb_ret, evb_ite, evb_need, evb_load, evb_app, evb_cut, evb_chk, evb_appF, evb_call, evb_callv, evb_newM, evb_mkM, evb_storeM, evb_appM, evb_mkMap, evb_mapGet, evb_mapSet, evb_mapClr, evb_jump, BE.safe, BE.pe, IE.pe, PEnv.at, List.getD_cons_zero, List.getD_cons_succ, List.getElem?_cons_zero, List.getElem?_cons_succ, locOf, locOn, readLoc, takeN, Nat.add_zero, List.drop_zero, List.length_cons, List.length_nil, Nat.reduceAdd, Nat.le_refl, if_true, if_false, Bool.false_eq_true, List.take_succ_cons, List.take_zero, bindK, bindRes, bind1, Option.map_some, Option.bind_some, PEnv.push, List.cons_append, List.nil_append, List.append_nil, SV.pvs, SV.pv, BE.all, Bool.and_self, Bool.not_true, Bool.not_false, List.map_cons, List.map_nil, p1, p2, lenM, ltB_nat, if_pos q1, if_pos q2, if_pos q3, if_pos q4, lx, ly, ma, mb, mb2, row_eq, c1, get_0, get_1, set_0, set_1, MO.list, Nat.mul_one, Nat.zero_add, dva, dvb, Nat.le_add_left, hw, e3]; done)
        | (unfold revealed_lowered_t3_b11; simp -implicitDefEqProofs only [↓reduceIte, eq_self, evb_ret, evb_ite, evb_need, evb_load, evb_app, evb_cut, evb_chk, evb_appF, evb_call, evb_callv, evb_newM, evb_mkM, evb_storeM, evb_appM, evb_mkMap, evb_mapGet, evb_mapSet, evb_mapClr, evb_jump, BE.safe, BE.pe, IE.pe, PEnv.at, List.getD_cons_zero, List.getD_cons_succ, List.getElem?_cons_zero, List.getElem?_cons_succ, locOf, locOn, readLoc, takeN, Nat.add_zero, List.drop_zero, List.length_cons, List.length_nil, Nat.reduceAdd, Nat.le_refl, if_true, if_false, Bool.false_eq_true, List.take_succ_cons, List.take_zero, bindK, bindRes, bind1, Option.map_some, Option.bind_some, PEnv.push, List.cons_append, List.nil_append, List.append_nil, SV.pvs, SV.pv, BE.all, Bool.and_self, Bool.not_true, Bool.not_false, List.map_cons, List.map_nil, p1, p2, lenM, ltB_nat, if_pos q1, if_pos q2, if_pos q3, if_pos q4, lx, ly, ma, mb, mb2, row_eq, c1, get_0, get_1, set_0, set_1, MO.list, Nat.mul_one, Nat.zero_add, dva, dvb, Nat.le_add_left, hw, e3])
        | (unfold revealed_lowered_t3_b12; simp -implicitDefEqProofs only [↓reduceIte, eq_self, evb_ret, evb_ite, evb_need, evb_load, evb_app, evb_cut, evb_chk, evb_appF, evb_call, evb_callv, evb_newM, evb_mkM, evb_storeM, evb_appM, evb_mkMap, evb_mapGet, evb_mapSet, evb_mapClr, evb_jump, BE.safe, BE.pe, IE.pe, PEnv.at, List.getD_cons_zero, List.getD_cons_succ, List.getElem?_cons_zero, List.getElem?_cons_succ, locOf, locOn, readLoc, takeN, Nat.add_zero, List.drop_zero, List.length_cons, List.length_nil, Nat.reduceAdd, Nat.le_refl, if_true, if_false, Bool.false_eq_true, List.take_succ_cons, List.take_zero, bindK, bindRes, bind1, Option.map_some, Option.bind_some, PEnv.push, List.cons_append, List.nil_append, List.append_nil, SV.pvs, SV.pv, BE.all, Bool.and_self, Bool.not_true, Bool.not_false, List.map_cons, List.map_nil, p1, p2, lenM, ltB_nat, if_pos q1, if_pos q2, if_pos q3, if_pos q4, lx, ly, ma, mb, mb2, row_eq, c1, get_0, get_1, set_0, set_1, MO.list, Nat.mul_one, Nat.zero_add, dva, dvb, Nat.le_add_left, hw, e3]; done)
        | (unfold revealed_lowered_t3_b12; simp -implicitDefEqProofs only [↓reduceIte, eq_self, evb_ret, evb_ite, evb_need, evb_load, evb_app, evb_cut, evb_chk, evb_appF, evb_call, evb_callv, evb_newM, evb_mkM, evb_storeM, evb_appM, evb_mkMap, evb_mapGet, evb_mapSet, evb_mapClr, evb_jump, BE.safe, BE.pe, IE.pe, PEnv.at, List.getD_cons_zero, List.getD_cons_succ, List.getElem?_cons_zero, List.getElem?_cons_succ, locOf, locOn, readLoc, takeN, Nat.add_zero, List.drop_zero, List.length_cons, List.length_nil, Nat.reduceAdd, Nat.le_refl, if_true, if_false, Bool.false_eq_true, List.take_succ_cons, List.take_zero, bindK, bindRes, bind1, Option.map_some, Option.bind_some, PEnv.push, List.cons_append, List.nil_append, List.append_nil, SV.pvs, SV.pv, BE.all, Bool.and_self, Bool.not_true, Bool.not_false, List.map_cons, List.map_nil, p1, p2, lenM, ltB_nat, if_pos q1, if_pos q2, if_pos q3, if_pos q4, lx, ly, ma, mb, mb2, row_eq, c1, get_0, get_1, set_0, set_1, MO.list, Nat.mul_one, Nat.zero_add, dva, dvb, Nat.le_add_left, hw, e3])
        | (unfold revealed_lowered_t3_b13; simp -implicitDefEqProofs only [↓reduceIte, eq_self, evb_ret, evb_ite, evb_need, evb_load, evb_app, evb_cut, evb_chk, evb_appF, evb_call, evb_callv, evb_newM, evb_mkM, evb_storeM, evb_appM, evb_mkMap, evb_mapGet, evb_mapSet, evb_mapClr, evb_jump, BE.safe, BE.pe, IE.pe, PEnv.at, List.getD_cons_zero, List.getD_cons_succ, List.getElem?_cons_zero, List.getElem?_cons_succ, locOf, locOn, readLoc, takeN, Nat.add_zero, List.drop_zero, List.length_cons, List.length_nil, Nat.reduceAdd, Nat.le_refl, if_true, if_false, Bool.false_eq_true, List.take_succ_cons, List.take_zero, bindK, bindRes, bind1, Option.map_some, Option.bind_some, PEnv.push, List.cons_append, List.nil_append, List.append_nil, SV.pvs, SV.pv, BE.all, Bool.and_self, Bool.not_true, Bool.not_false, List.map_cons, List.map_nil, p1, p2, lenM, ltB_nat, if_pos q1, if_pos q2, if_pos q3, if_pos q4, lx, ly, ma, mb, mb2, row_eq, c1, get_0, get_1, set_0, set_1, MO.list, Nat.mul_one, Nat.zero_add, dva, dvb, Nat.le_add_left, hw, e3]; done)
        | (unfold revealed_lowered_t3_b13; simp -implicitDefEqProofs only [↓reduceIte, eq_self, evb_ret, evb_ite, evb_need, evb_load, evb_app, evb_cut, evb_chk, evb_appF, evb_call, evb_callv, evb_newM, evb_mkM, evb_storeM, evb_appM, evb_mkMap, evb_mapGet, evb_mapSet, evb_mapClr, evb_jump, BE.safe, BE.pe, IE.pe, PEnv.at, List.getD_cons_zero, List.getD_cons_succ, List.getElem?_cons_zero, List.getElem?_cons_succ, locOf, locOn, readLoc, takeN, Nat.add_zero, List.drop_zero, List.length_cons, List.length_nil, Nat.reduceAdd, Nat.le_refl, if_true, if_false, Bool.false_eq_true, List.take_succ_cons, List.take_zero, bindK, bindRes, bind1, Option.map_some, Option.bind_some, PEnv.push, List.cons_append, List.nil_append, List.append_nil, SV.pvs, SV.pv, BE.all, Bool.and_self, Bool.not_true, Bool.not_false, List.map_cons, List.map_nil, p1, p2, lenM, ltB_nat, if_pos q1, if_pos q2, if_pos q3, if_pos q4, lx, ly, ma, mb, mb2, row_eq, c1, get_0, get_1, set_0, set_1, MO.list, Nat.mul_one, Nat.zero_add, dva, dvb, Nat.le_add_left, hw, e3])
        | (unfold revealed_lowered_t3_b14; simp -implicitDefEqProofs only [↓reduceIte, eq_self, evb_ret, evb_ite, evb_need, evb_load, evb_app, evb_cut, evb_chk, evb_appF, evb_call, evb_callv, evb_newM, evb_mkM, evb_storeM, evb_appM, evb_mkMap, evb_mapGet, evb_mapSet, evb_mapClr, evb_jump, BE.safe, BE.pe, IE.pe, PEnv.at, List.getD_cons_zero, List.getD_cons_succ, List.getElem?_cons_zero, List.getElem?_cons_succ, locOf, locOn, readLoc, takeN, Nat.add_zero, List.drop_zero, List.length_cons, List.length_nil, Nat.reduceAdd, Nat.le_refl, if_true, if_false, Bool.false_eq_true, List.take_succ_cons, List.take_zero, bindK, bindRes, bind1, Option.map_some, Option.bind_some, PEnv.push, List.cons_append, List.nil_append, List.append_nil, SV.pvs, SV.pv, BE.all, Bool.and_self, Bool.not_true, Bool.not_false, List.map_cons, List.map_nil, p1, p2, lenM, ltB_nat, if_pos q1, if_pos q2, if_pos q3, if_pos q4, lx, ly, ma, mb, mb2, row_eq, c1, get_0, get_1, set_0, set_1, MO.list, Nat.mul_one, Nat.zero_add, dva, dvb, Nat.le_add_left, hw, e3]; done)
        | (unfold revealed_lowered_t3_b14; simp -implicitDefEqProofs only [↓reduceIte, eq_self, evb_ret, evb_ite, evb_need, evb_load, evb_app, evb_cut, evb_chk, evb_appF, evb_call, evb_callv, evb_newM, evb_mkM, evb_storeM, evb_appM, evb_mkMap, evb_mapGet, evb_mapSet, evb_mapClr, evb_jump, BE.safe, BE.pe, IE.pe, PEnv.at, List.getD_cons_zero, List.getD_cons_succ, List.getElem?_cons_zero, List.getElem?_cons_succ, locOf, locOn, readLoc, takeN, Nat.add_zero, List.drop_zero, List.length_cons, List.length_nil, Nat.reduceAdd, Nat.le_refl, if_true, if_false, Bool.false_eq_true, List.take_succ_cons, List.take_zero, bindK, bindRes, bind1, Option.map_some, Option.bind_some, PEnv.push, List.cons_append, List.nil_append, List.append_nil, SV.pvs, SV.pv, BE.all, Bool.and_self, Bool.not_true, Bool.not_false, List.map_cons, List.map_nil, p1, p2, lenM, ltB_nat, if_pos q1, if_pos q2, if_pos q3, if_pos q4, lx, ly, ma, mb, mb2, row_eq, c1, get_0, get_1, set_0, set_1, MO.list, Nat.mul_one, Nat.zero_add, dva, dvb, Nat.le_add_left, hw, e3]))
    rw [if_neg hlt, Sys.loop, show revealed_lowered_S.loops[3]? = some revealed_lowered_t3 from rfl, Option.bind_some, hev, Option.bind_some]
end Go.Proofs.Ythjahianafohjaa
set_option maxRecDepth 100000
namespace Go.Proofs.Ythjahianafohjaa
open Go.Sx Go.Bf
structure LS (l : List Ch) (vs fs : List Int) (ch : Int) (T R a b : Nat) : Prop where
  hv : vs.length = l.length
  hf : fs.length = l.length
  inv : ∃ c t, Inv l.length (gN l) (at' vs) (at' fs) c t T R a b ∧ ((ch = -1 ∧ ∀ x, x < l.length → c x ≠ R) ∨ ∃ z : Nat, z < l.length ∧ ch = (z : Int) ∧ c z = R)
theorem at'_upd {l : List Int} {b : Nat} (x : Int) (h : b < l.length) : at' (l.set b x) = upd (at' l) b x := by
  funext i; rw [at'_set x h]; rfl
theorem gN_self (l : List Ch) (x : Nat) : gN l x x = 0 := by unfold gN gainC; omega
theorem gN_bd {l : List Ch} (hok : ∀ x ∈ l, x.ok) {x y : Nat} (hx : x < l.length) (hy : y < l.length) : -24000000 ≤ gN l x y ∧ gN l x y ≤ 24000000 :=
  gain_bd (hok _ (List.mem_of_getElem? (chN hx))) (hok _ (List.mem_of_getElem? (chN hy)))
section
variable (σ : List MO) (l : List Ch) (P : PV) (hP : P.rowsOf 12 = some (l.map Ch.row)) (hok : ∀ x ∈ l, x.ok) (hl : l.length ≤ 30) (n : Nat) (hn : 2 ≤ n)
include hP hok hl hn in
theorem pair (r : Int) (vs fs : List Int) (ch : Int) (T R a b : Nat) (h : LS l vs fs ch T R a b) (hR : 1 ≤ R) (hT : T + 1 ≤ 27000) (ha : a < l.length) (hb : b < l.length) :
    ∃ vs' fs' ch', LS l vs' fs' ch' (T + 1) R a (b + 1) ∧ ∀ fuel, revealed_lowered_S.loop (evalF Tab n) (fuel + 1) 3 (lst σ P l.length vs fs [ch, (a : Int), (l.length : Int), r, (l.length : Int), (l.length : Int), (b : Int)]) =
      revealed_lowered_S.loop (evalF Tab n) fuel 3 (lst σ P l.length vs' fs' [ch', (a : Int), (l.length : Int), r, (l.length : Int), (l.length : Int), ((b + 1 : Nat) : Int)]) := by
  obtain ⟨hv, hf, c, t, hi, hch⟩ := h
  have hlow := hi.low a ha
  have step := fun fuel => low3 σ l P hP hok (by omega) n hn vs fs hv hf ch r a b fuel ha hb (by omega)
  by_cases hlt : at' vs a + gN l a b < at' vs b
  · simp only [if_pos hlt] at step
    refine ⟨_, _, _, ⟨by simp [hv], by simp [hf], upd c b R, upd t b (T + 1), ?_, .inr ⟨b, hb, rfl, upd_eq _ _ _⟩⟩, step⟩
    rw [at'_upd _ (by omega), at'_upd _ (by omega)]
    exact hi.lower ha hb hR (gN_bd hok ha hb).1 (gN_self l a) hlt
  · simp only [if_neg hlt] at step
    exact ⟨vs, fs, ch, ⟨hv, hf, c, t, hi.keep (by omega), hch⟩, step⟩
include hP hok hl hn in
theorem row3 (r : Int) (R a : Nat) (hR : 1 ≤ R) (ha : a < l.length) : ∀ d b vs fs ch T, b + d = l.length → LS l vs fs ch T R a b → T + d ≤ 27000 →
    ∃ vs' fs' ch', LS l vs' fs' ch' (T + d) R (a + 1) 0 ∧ ∀ fuel, revealed_lowered_S.loop (evalF Tab n) (fuel + d + 1) 3 (lst σ P l.length vs fs [ch, (a : Int), (l.length : Int), r, (l.length : Int), (l.length : Int), (b : Int)]) =
      revealed_lowered_S.loop (evalF Tab n) fuel 2 (lst σ P l.length vs' fs' [ch', (l.length : Int), r, (l.length : Int), ((a + 1 : Nat) : Int)]) := by
  intro d
  induction d with
  | zero =>
    intro b vs fs ch T hb h hT
    obtain rfl : b = l.length := by omega
    obtain ⟨hv, hf, c, t, hi, hch⟩ := h
    refine ⟨vs, fs, ch, ⟨hv, hf, c, t, hi.row, hch⟩, fun fuel => ?_⟩
    have hd : decide (l.length < l.length) = false := by simp
    have q4 : (leB (-9223372036854775808) ((a : Int) + 1) && leB ((a : Int) + 1) 9223372036854775807) = true := by simp [leB]; omega
    rw [Nat.add_zero, Sys.loop, show revealed_lowered_S.loops[3]? = some revealed_lowered_t3 from rfl]
    simp -implicitDefEqProofs only [Option.bind_some, revealed_lowered_t3, ↓reduceIte, eq_self, evb_ret, evb_ite, evb_need, evb_load, evb_app, evb_cut, evb_chk, evb_appF, evb_call, evb_callv, evb_newM, evb_mkM, evb_storeM, evb_appM, evb_mkMap, evb_mapGet, evb_mapSet, evb_mapClr, evb_jump, BE.safe, BE.pe, IE.pe, PEnv.at, List.getD_cons_zero, List.getD_cons_succ, List.getElem?_cons_zero, List.getElem?_cons_succ, locOf, locOn, readLoc, takeN, Nat.add_zero, List.drop_zero, List.length_cons, List.length_nil, Nat.reduceAdd, Nat.le_refl, if_true, if_false, Bool.false_eq_true, List.take_succ_cons, List.take_zero, bindK, bindRes, bind1, Option.map_some, Option.bind_some, PEnv.push, List.cons_append, List.nil_append, List.append_nil, SV.pvs, SV.pv, BE.all, Bool.and_self, Bool.not_true, Bool.not_false, List.map_cons, List.map_nil, lst, ltB_nat, hd, if_pos q4, show ((a + 1 : Nat) : Int) = (a : Int) + 1 from by omega]
  | succ d ih =>
    intro b vs fs ch T hb h hT
    obtain ⟨vs1, fs1, ch1, h1, s1⟩ := pair σ l P hP hok hl n hn r vs fs ch T R a b h hR (by omega) ha (by omega)
    obtain ⟨vs2, fs2, ch2, h2, s2⟩ := ih (b + 1) vs1 fs1 ch1 (T + 1) (by omega) h1 (by omega)
    refine ⟨vs2, fs2, ch2, by rw [show T + (d + 1) = T + 1 + d by omega]; exact h2, fun fuel => ?_⟩
    rw [show fuel + (d + 1) + 1 = (fuel + d + 1) + 1 by omega, s1, s2]
include hP hok hl hn in
theorem rows2 (r : Int) (R : Nat) (hR : 1 ≤ R) : ∀ d a vs fs ch T, a + d = l.length → LS l vs fs ch T R a 0 → T + d * l.length ≤ 27000 →
    ∃ vs' fs' ch', LS l vs' fs' ch' (T + d * l.length) R l.length 0 ∧ ∀ fuel, revealed_lowered_S.loop (evalF Tab n) (fuel + d * (l.length + 2)) 2 (lst σ P l.length vs fs [ch, (l.length : Int), r, (l.length : Int), (a : Int)]) =
      revealed_lowered_S.loop (evalF Tab n) fuel 2 (lst σ P l.length vs' fs' [ch', (l.length : Int), r, (l.length : Int), (l.length : Int)]) := by
  intro d
  obtain ⟨p1, p2, p3⟩ := rows_len hP
  rw [List.length_map] at p1
  induction d with
  | zero =>
    intro a vs fs ch T ha h hT
    obtain rfl : a = l.length := by omega
    refine ⟨vs, fs, ch, by rw [Nat.zero_mul, Nat.add_zero]; exact h, fun fuel => ?_⟩
    rw [Nat.zero_mul, Nat.add_zero]
  | succ d ih =>
    intro a vs fs ch T ha h hT
    have e1 : (d + 1) * l.length = d * l.length + l.length := Nat.succ_mul _ _
    have e2 : (d + 1) * (l.length + 2) = d * (l.length + 2) + (l.length + 2) := Nat.succ_mul _ _
    obtain ⟨vs1, fs1, ch1, h1, s1⟩ := row3 σ l P hP hok hl n hn r R a hR (by omega) l.length 0 vs fs ch T (by omega) h (by omega)
    obtain ⟨vs2, fs2, ch2, h2, s2⟩ := ih (a + 1) vs1 fs1 ch1 (T + l.length) (by omega) h1 (by omega)
    refine ⟨vs2, fs2, ch2, by rw [e1, show T + (d * l.length + l.length) = T + l.length + d * l.length by omega]; exact h2, fun fuel => ?_⟩
    rw [e2, show fuel + (d * (l.length + 2) + (l.length + 2)) = ((fuel + d * (l.length + 2)) + l.length + 1) + 1 by omega, ← s2, ← s1]
    have hd : decide (a < l.length) = true := decide_eq_true (by omega)
    rw [Sys.loop, show revealed_lowered_S.loops[2]? = some revealed_lowered_t2 from rfl]
    simp -implicitDefEqProofs only [Option.bind_some, revealed_lowered_t2, ↓reduceIte, eq_self, evb_ret, evb_ite, evb_need, evb_load, evb_app, evb_cut, evb_chk, evb_appF, evb_call, evb_callv, evb_newM, evb_mkM, evb_storeM, evb_appM, evb_mkMap, evb_mapGet, evb_mapSet, evb_mapClr, evb_jump, BE.safe, BE.pe, IE.pe, PEnv.at, List.getD_cons_zero, List.getD_cons_succ, List.getElem?_cons_zero, List.getElem?_cons_succ, locOf, locOn, readLoc, takeN, Nat.add_zero, List.drop_zero, List.length_cons, List.length_nil, Nat.reduceAdd, Nat.le_refl, if_true, if_false, Bool.false_eq_true, List.take_succ_cons, List.take_zero, bindK, bindRes, bind1, Option.map_some, Option.bind_some, PEnv.push, List.cons_append, List.nil_append, List.append_nil, SV.pvs, SV.pv, BE.all, Bool.and_self, Bool.not_true, Bool.not_false, List.map_cons, List.map_nil, lst, ltB_nat, hd, p1, p2]
    rfl
end
end Go.Proofs.Ythjahianafohjaa
set_option maxRecDepth 100000
namespace Go.Proofs.Ythjahianafohjaa
open Go.Sx Go.Bf
theorem isM (h o len cap sz : Nat) : PV.isKind 0 (.msl h o len cap sz) = true := rfl
structure LR (l : List Ch) (vs fs : List Int) (ch : Int) (T r : Nat) : Prop where
  hv : vs.length = l.length
  hf : fs.length = l.length
  inv : ∃ c t, Inv l.length (gN l) (at' vs) (at' fs) c t T (r + 1) 0 0 ∧ (∀ x, x < l.length → c x ≤ r) ∧ ((r = 0 ∧ ch = -1) ∨ ∃ z : Nat, z < l.length ∧ ch = (z : Int) ∧ c z = r)
/-- What comes of it. -/
def LowRes (σ : List MO) (l : List Ch) (res : PV × List MO) : Prop :=
  (∃ vs fs : List Int, vs.length = l.length ∧ fs.length = l.length ∧ (∀ x y, x < l.length → y < l.length → at' vs y ≤ at' vs x + gN l x y) ∧ (∀ x, x < l.length → -648000000000 ≤ at' vs x ∧ at' vs x ≤ 0) ∧
    res = (.tup [.msl σ.length 0 l.length l.length 1, .nilS], σ ++ [.cells (icell vs) 2, .cells (icell fs) 3])) ∨
  (∃ (vs fs : List Int) (c t : Nat → Nat) (z j k : Nat), vs.length = l.length ∧ fs.length = l.length ∧ Go.Bf.Fin l.length (gN l) (at' vs) (at' fs) c t z ∧ j < k ∧ k ≤ l.length ∧ chain (at' fs) z k = chain (at' fs) z j ∧
    res = (.tup [.nilS, .sl 1 (irows (ckeys (at' fs) z j (k - j)).reverse)], σ ++ [.cells (icell vs) 2, .cells (icell fs) 3]))
section
variable (σ : List MO) (hσ : Flat σ) (l : List Ch) (P : PV) (hP : P.rowsOf 12 = some (l.map Ch.row)) (hok : ∀ x ∈ l, x.ok) (hl : l.length ≤ 30) (n : Nat) (hn : 110 ≤ n)
theorem stableB (x : Nat) (T : Nat) (hT : T ≤ 27000) (v : Int) (h : -(24000000 * (T : Int)) ≤ v ∧ v ≤ 0) : -648000000000 ≤ v ∧ v ≤ 0 := by omega
include hσ hP hok hl hn in
theorem rounds : ∀ d r vs fs ch T, r + d = l.length → LR l vs fs ch T r → T ≤ r * (l.length * l.length) →
    ∃ res, LowRes σ l res ∧ ∀ fuel, revealed_lowered_S.loop (evalF Tab n) (fuel + d * (l.length * (l.length + 2) + 2) + 1) 1 (lst σ P l.length vs fs [ch, (l.length : Int), (r : Int)]) = some res := by
  intro d
  obtain ⟨p1, p2, p3⟩ := rows_len hP
  rw [List.length_map] at p1
  have hNN : l.length * (l.length * l.length) ≤ 27000 := by
    calc l.length * (l.length * l.length) ≤ 30 * (30 * 30) := Nat.mul_le_mul hl (Nat.mul_le_mul hl hl)
      _ = 27000 := rfl
  induction d with
  | zero =>
    intro r vs fs ch T hr h hT
    obtain rfl : r = l.length := by omega
    obtain ⟨hv, hf, c, t, hi, hc, hch⟩ := h
    have hd : decide (l.length < l.length) = false := by simp
    rcases hch with ⟨h0, rfl⟩ | ⟨z, hz, rfl, hcz⟩
    · refine ⟨_, .inl ⟨vs, fs, hv, hf, fun x y hx => by omega, fun x hx => by omega, rfl⟩, fun fuel => ?_⟩
      have e1 : ltB (-1) 0 = true := rfl
      rw [Nat.zero_mul, Nat.add_zero, Sys.loop, show revealed_lowered_S.loops[1]? = some revealed_lowered_t1 from rfl]
      simp -implicitDefEqProofs only [Option.bind_some, revealed_lowered_t1, ↓reduceIte, eq_self, evb_ret, evb_ite, evb_need, evb_load, evb_app, evb_cut, evb_chk, evb_appF, evb_call, evb_callv, evb_newM, evb_mkM, evb_storeM, evb_appM, evb_mkMap, evb_mapGet, evb_mapSet, evb_mapClr, evb_jump, BE.safe, BE.pe, IE.pe, PEnv.at, List.getD_cons_zero, List.getD_cons_succ, List.getElem?_cons_zero, List.getElem?_cons_succ, locOf, locOn, readLoc, takeN, Nat.add_zero, List.drop_zero, List.length_cons, List.length_nil, Nat.reduceAdd, Nat.le_refl, if_true, if_false, Bool.false_eq_true, List.take_succ_cons, List.take_zero, bindK, bindRes, bind1, Option.map_some, Option.bind_some, PEnv.push, List.cons_append, List.nil_append, List.append_nil, SV.pvs, SV.pv, BE.all, Bool.and_self, Bool.not_true, Bool.not_false, List.map_cons, List.map_nil, lst, ltB_nat, hd, e1, retP, true_or]
    · have hfin : Go.Bf.Fin l.length (gN l) (at' vs) (at' fs) c t z := ⟨hi.par, hi.uniq, hz, by omega⟩
      have e1 : ltB (z : Int) 0 = false := by rw [ltB_false]; omega
      have hfl : Flat (σ ++ [.cells (icell vs) 2, .cells (icell fs) 3]) := by
        have := (hσ.snoc vs 2).snoc fs 3
        rw [List.append_assoc] at this; exact this
      rw [← hf] at hfin
      obtain ⟨j, k, hjk, hk, he, hev⟩ := cycle_sem (σ ++ [.cells (icell vs) 2, .cells (icell fs) 3]) hfl (σ.length + 1) fs 3 (get_1 _ _ _ _) (by omega) hfin n (by omega)
      rw [hf] at hfin hev
      refine ⟨_, .inr ⟨vs, fs, c, t, z, j, k, hv, hf, hfin, hjk, by omega, he, rfl⟩, fun fuel => ?_⟩
      simp only [n_revealed_cycle] at hev
      have ho : ∀ rows, (PV.sl 1 rows).one = true := fun _ => rfl
      rw [Nat.zero_mul, Nat.add_zero, Sys.loop, show revealed_lowered_S.loops[1]? = some revealed_lowered_t1 from rfl]
      simp -implicitDefEqProofs only [Option.bind_some, revealed_lowered_t1, ↓reduceIte, eq_self, evb_ret, evb_ite, evb_need, evb_load, evb_app, evb_cut, evb_chk, evb_appF, evb_call, evb_callv, evb_newM, evb_mkM, evb_storeM, evb_appM, evb_mkMap, evb_mapGet, evb_mapSet, evb_mapClr, evb_jump, BE.safe, BE.pe, IE.pe, PEnv.at, List.getD_cons_zero, List.getD_cons_succ, List.getElem?_cons_zero, List.getElem?_cons_succ, locOf, locOn, readLoc, takeN, Nat.add_zero, List.drop_zero, List.length_cons, List.length_nil, Nat.reduceAdd, Nat.le_refl, if_true, if_false, Bool.false_eq_true, List.take_succ_cons, List.take_zero, bindK, bindRes, bind1, Option.map_some, Option.bind_some, PEnv.push, List.cons_append, List.nil_append, List.append_nil, SV.pvs, SV.pv, BE.all, Bool.and_self, Bool.not_true, Bool.not_false, List.map_cons, List.map_nil, lst, ltB_nat, hd, e1, hev, ho, retP, true_or]
  | succ d ih =>
    intro r vs fs ch T hr h hT
    obtain ⟨hv, hf, c, t, hi, hc, hch⟩ := h
    have hT2 : T + l.length * l.length ≤ (r + 1) * (l.length * l.length) := by rw [Nat.succ_mul]; omega
    have hT3 : (r + 1) * (l.length * l.length) ≤ l.length * (l.length * l.length) := Nat.mul_le_mul_right _ (by omega)
    have hLS : LS l vs fs (-1) T (r + 1) 0 0 := ⟨hv, hf, c, t, hi, .inl ⟨rfl, fun x hx => by have := hc x hx; omega⟩⟩
    obtain ⟨vs1, fs1, ch1, h1, s1⟩ := rows2 σ l P hP hok hl n (by omega) (r : Int) (r + 1) (by omega) l.length 0 vs fs (-1) T (by omega) hLS (by omega)
    obtain ⟨hv1, hf1, c1, t1, hi1, hch1⟩ := h1
    have hd : decide (r < l.length) = true := decide_eq_true (by omega)
    have hd2 : decide (l.length < l.length) = false := by simp
    have first : ∀ fuel, revealed_lowered_S.loop (evalF Tab n) ((fuel + l.length * (l.length + 2)) + 1) 1 (lst σ P l.length vs fs [ch, (l.length : Int), (r : Int)]) = revealed_lowered_S.loop (evalF Tab n) fuel 2 (lst σ P l.length vs1 fs1 [ch1, (l.length : Int), (r : Int), (l.length : Int), (l.length : Int)]) := by
      intro fuel
      rw [← s1, Sys.loop, show revealed_lowered_S.loops[1]? = some revealed_lowered_t1 from rfl]
      simp -implicitDefEqProofs only [Option.bind_some, revealed_lowered_t1, ↓reduceIte, eq_self, evb_ret, evb_ite, evb_need, evb_load, evb_app, evb_cut, evb_chk, evb_appF, evb_call, evb_callv, evb_newM, evb_mkM, evb_storeM, evb_appM, evb_mkMap, evb_mapGet, evb_mapSet, evb_mapClr, evb_jump, BE.safe, BE.pe, IE.pe, PEnv.at, List.getD_cons_zero, List.getD_cons_succ, List.getElem?_cons_zero, List.getElem?_cons_succ, locOf, locOn, readLoc, takeN, Nat.add_zero, List.drop_zero, List.length_cons, List.length_nil, Nat.reduceAdd, Nat.le_refl, if_true, if_false, Bool.false_eq_true, List.take_succ_cons, List.take_zero, bindK, bindRes, bind1, Option.map_some, Option.bind_some, PEnv.push, List.cons_append, List.nil_append, List.append_nil, SV.pvs, SV.pv, BE.all, Bool.and_self, Bool.not_true, Bool.not_false, List.map_cons, List.map_nil, lst, ltB_nat, hd, p1, p2]
      rfl
    have e2 : (d + 1) * (l.length * (l.length + 2) + 2) = d * (l.length * (l.length + 2) + 2) + (l.length * (l.length + 2) + 2) := Nat.succ_mul _ _
    rcases hch1 with ⟨rfl, hno⟩ | ⟨z, hz, rfl, hcz⟩
    · have hst := hi1.stable hno
      refine ⟨_, .inl ⟨vs1, fs1, hv1, hf1, hst, fun x hx => stableB x _ (by omega) _ (hi1.low x hx), rfl⟩, fun fuel => ?_⟩
      have e1 : ltB (-1) 0 = true := rfl
      rw [e2, show fuel + (d * (l.length * (l.length + 2) + 2) + (l.length * (l.length + 2) + 2)) + 1 = ((fuel + d * (l.length * (l.length + 2) + 2) + 1 + 1) + l.length * (l.length + 2)) + 1 by omega, first]
      rw [Sys.loop, show revealed_lowered_S.loops[2]? = some revealed_lowered_t2 from rfl]
      simp -implicitDefEqProofs only [Option.bind_some, revealed_lowered_t2, ↓reduceIte, eq_self, evb_ret, evb_ite, evb_need, evb_load, evb_app, evb_cut, evb_chk, evb_appF, evb_call, evb_callv, evb_newM, evb_mkM, evb_storeM, evb_appM, evb_mkMap, evb_mapGet, evb_mapSet, evb_mapClr, evb_jump, BE.safe, BE.pe, IE.pe, PEnv.at, List.getD_cons_zero, List.getD_cons_succ, List.getElem?_cons_zero, List.getElem?_cons_succ, locOf, locOn, readLoc, takeN, Nat.add_zero, List.drop_zero, List.length_cons, List.length_nil, Nat.reduceAdd, Nat.le_refl, if_true, if_false, Bool.false_eq_true, List.take_succ_cons, List.take_zero, bindK, bindRes, bind1, Option.map_some, Option.bind_some, PEnv.push, List.cons_append, List.nil_append, List.append_nil, SV.pvs, SV.pv, BE.all, Bool.and_self, Bool.not_true, Bool.not_false, List.map_cons, List.map_nil, lst, ltB_nat, hd2, e1, retP, true_or]
    · have e1 : ltB (z : Int) 0 = false := by rw [ltB_false]; omega
      have hLR : LR l vs1 fs1 (z : Int) (T + l.length * l.length) (r + 1) := ⟨hv1, hf1, c1, t1, hi1.round, hi1.cle, .inr ⟨z, hz, rfl, hcz⟩⟩
      obtain ⟨res, hres, hev⟩ := ih (r + 1) vs1 fs1 (z : Int) _ (by omega) hLR hT2
      refine ⟨res, hres, fun fuel => ?_⟩
      have q4 : (leB (-9223372036854775808) ((r : Int) + 1) && leB ((r : Int) + 1) 9223372036854775807) = true := by simp [leB]; omega
      rw [e2, show fuel + (d * (l.length * (l.length + 2) + 2) + (l.length * (l.length + 2) + 2)) + 1 = ((fuel + d * (l.length * (l.length + 2) + 2) + 1 + 1) + l.length * (l.length + 2)) + 1 by omega, first]
      rw [← hev fuel, Sys.loop, show revealed_lowered_S.loops[2]? = some revealed_lowered_t2 from rfl]
      simp -implicitDefEqProofs only [Option.bind_some, revealed_lowered_t2, ↓reduceIte, eq_self, evb_ret, evb_ite, evb_need, evb_load, evb_app, evb_cut, evb_chk, evb_appF, evb_call, evb_callv, evb_newM, evb_mkM, evb_storeM, evb_appM, evb_mkMap, evb_mapGet, evb_mapSet, evb_mapClr, evb_jump, BE.safe, BE.pe, IE.pe, PEnv.at, List.getD_cons_zero, List.getD_cons_succ, List.getElem?_cons_zero, List.getElem?_cons_succ, locOf, locOn, readLoc, takeN, Nat.add_zero, List.drop_zero, List.length_cons, List.length_nil, Nat.reduceAdd, Nat.le_refl, if_true, if_false, Bool.false_eq_true, List.take_succ_cons, List.take_zero, bindK, bindRes, bind1, Option.map_some, Option.bind_some, PEnv.push, List.cons_append, List.nil_append, List.append_nil, SV.pvs, SV.pv, BE.all, Bool.and_self, Bool.not_true, Bool.not_false, List.map_cons, List.map_nil, lst, ltB_nat, hd2, e1, if_pos q4]
      rw [show ((r + 1 : Nat) : Int) = (r : Int) + 1 from by omega]
include hP hl in
/-- At first all links are none. -/
theorem links : ∀ d i, i + d = l.length → ∀ fuel, revealed_lowered_S.loop (evalF Tab n) (fuel + d + 1) 0 (lst σ P l.length (List.replicate l.length 0) (List.replicate i (-1) ++ List.replicate d 0) [(l.length : Int), (i : Int)]) = revealed_lowered_S.loop (evalF Tab n) fuel 1 (lst σ P l.length (List.replicate l.length 0) (List.replicate l.length (-1)) [-1, (l.length : Int), 0]) := by
  intro d
  obtain ⟨p1, p2, p3⟩ := rows_len hP
  rw [List.length_map] at p1
  induction d with
  | zero =>
    intro i hi fuel
    obtain rfl : i = l.length := by omega
    have hd2 : decide (l.length < l.length) = false := by simp
    rw [Sys.loop, show revealed_lowered_S.loops[0]? = some revealed_lowered_t0 from rfl]
    simp -implicitDefEqProofs only [Option.bind_some, revealed_lowered_t0, ↓reduceIte, eq_self, evb_ret, evb_ite, evb_need, evb_load, evb_app, evb_cut, evb_chk, evb_appF, evb_call, evb_callv, evb_newM, evb_mkM, evb_storeM, evb_appM, evb_mkMap, evb_mapGet, evb_mapSet, evb_mapClr, evb_jump, BE.safe, BE.pe, IE.pe, PEnv.at, List.getD_cons_zero, List.getD_cons_succ, List.getElem?_cons_zero, List.getElem?_cons_succ, locOf, locOn, readLoc, takeN, Nat.add_zero, List.drop_zero, List.length_cons, List.length_nil, Nat.reduceAdd, Nat.le_refl, if_true, if_false, Bool.false_eq_true, List.take_succ_cons, List.take_zero, bindK, bindRes, bind1, Option.map_some, Option.bind_some, PEnv.push, List.cons_append, List.nil_append, List.append_nil, SV.pvs, SV.pv, BE.all, Bool.and_self, Bool.not_true, Bool.not_false, List.map_cons, List.map_nil, lst, ltB_nat, hd2, p1, p2, List.replicate_zero]
  | succ d ih =>
    intro i hi fuel
    have hd : decide (i < l.length) = true := decide_eq_true (by omega)
    have q1 : (leB 0 (i : Int) && true) = true := by simp [leB]
    have q4 : (leB (-9223372036854775808) ((i : Int) + 1) && leB ((i : Int) + 1) 9223372036854775807) = true := by simp [leB]; omega
    have mb2 := locEl_msl (h := σ.length + 1) (o := 0) (cap := l.length) (sz := 1) (off := 0) (i := i) (len := l.length) (by omega)
    have hset : (List.replicate i (-1 : Int) ++ List.replicate (d + 1) 0).set i (-1) = List.replicate (i + 1) (-1) ++ List.replicate d 0 := by
      rw [List.replicate_succ, List.replicate_succ', List.append_assoc]
      have := List.set_append_right (s := List.replicate i (-1 : Int)) (t := 0 :: List.replicate d 0) i (-1) (by simp)
      rw [this]; simp
    have sf := icell_set (l := List.replicate i (-1 : Int) ++ List.replicate (d + 1) 0) (i := i) (-1) (by simp)
    rw [hset] at sf
    have lf : i + 1 ≤ (icell (List.replicate i (-1 : Int) ++ List.replicate (d + 1) 0)).length := by rw [icell_len]; simp
    have := ih (i + 1) (by omega) fuel
    rw [← this, show fuel + (d + 1) + 1 = (fuel + d + 1) + 1 by omega, Sys.loop, show revealed_lowered_S.loops[0]? = some revealed_lowered_t0 from rfl]
    generalize icell (List.replicate l.length 0) = A at *
    simp only [lst]
    generalize icell (List.replicate i (-1 : Int) ++ List.replicate (d + 1) 0) = B at *
    generalize icell (List.replicate (i + 1) (-1 : Int) ++ List.replicate d 0) = B' at *
    simp -implicitDefEqProofs only [Option.bind_some, revealed_lowered_t0, ↓reduceIte, eq_self, evb_ret, evb_ite, evb_need, evb_load, evb_app, evb_cut, evb_chk, evb_appF, evb_call, evb_callv, evb_newM, evb_mkM, evb_storeM, evb_appM, evb_mkMap, evb_mapGet, evb_mapSet, evb_mapClr, evb_jump, BE.safe, BE.pe, IE.pe, PEnv.at, List.getD_cons_zero, List.getD_cons_succ, List.getElem?_cons_zero, List.getElem?_cons_succ, locOf, locOn, readLoc, takeN, Nat.add_zero, List.drop_zero, List.length_cons, List.length_nil, Nat.reduceAdd, Nat.le_refl, if_true, if_false, Bool.false_eq_true, List.take_succ_cons, List.take_zero, bindK, bindRes, bind1, Option.map_some, Option.bind_some, PEnv.push, List.cons_append, List.nil_append, List.append_nil, SV.pvs, SV.pv, BE.all, Bool.and_self, Bool.not_true, Bool.not_false, List.map_cons, List.map_nil, ltB_nat, hd, lenM, if_pos q1, if_pos q4, mb2, get_1, set_1, Nat.mul_one, Nat.zero_add, lf, sf, show ((i + 1 : Nat) : Int) = (i : Int) + 1 from by omega]
include hσ hP hok hl hn in
theorem lowered_sem (hn2 : l.length * (l.length * (l.length + 2) + 2) + l.length + 10 < n) : ∃ res, LowRes σ l res ∧ evalF Tab (n + 1) n_revealed_lowered [P] σ = some res := by
  obtain ⟨p1, p2, p3⟩ := rows_len hP
  rw [List.length_map] at p1
  have hLR : LR l (List.replicate l.length 0) (List.replicate l.length (-1)) (-1) 0 0 := by
    refine ⟨by simp, by simp, fun _ => 0, fun _ => 0, Inv.start _ _ _ _ (fun x hx => by simp [at', hx]), fun _ _ => Nat.le_refl _, .inl ⟨rfl, rfl⟩⟩
  obtain ⟨res, hres, hev⟩ := rounds σ hσ l P hP hok hl n hn l.length 0 _ _ _ 0 (by omega) hLR (Nat.zero_le _)
  refine ⟨res, hres, ?_⟩
  have hlk := links σ l P hP hl n l.length 0 (by omega)
  have e := hev (n - (l.length * (l.length * (l.length + 2) + 2) + l.length + 2))
  rw [show ((0 : Nat) : Int) = 0 from rfl, ← hlk] at e
  rw [show n - (l.length * (l.length * (l.length + 2) + 2) + l.length + 2) + l.length * (l.length * (l.length + 2) + 2) + 1 + l.length + 1 = n by omega] at e
  simp only [evalF, tab_revealed_lowered, Option.bind_some, Sys.run]
  show ((bindPs [.sh (.one _)] _).bind _) = _
  simp -implicitDefEqProofs only [bindPs, bind1, bindK, Option.map_some, Option.bind_some, List.append_nil, List.nil_append, List.cons_append, if_true, p3]
  show (PT.ev _ revealed_lowered_s _).bind _ = _
  have q1 : (0 ≤ ((l.length : Nat) : Int) ∧ ((l.length : Nat) : Int) ≤ 1000000 ∧ (8 : Nat) ≤ 100000000) := ⟨by omega, by omega, by omega⟩
  have hrep := icell_rep l.length 0
  simp -implicitDefEqProofs only [revealed_lowered_s, ↓reduceIte, eq_self, evb_ret, evb_ite, evb_need, evb_load, evb_app, evb_cut, evb_chk, evb_appF, evb_call, evb_callv, evb_newM, evb_mkM, evb_storeM, evb_appM, evb_mkMap, evb_mapGet, evb_mapSet, evb_mapClr, evb_jump, BE.safe, BE.pe, IE.pe, PEnv.at, List.getD_cons_zero, List.getD_cons_succ, List.getElem?_cons_zero, List.getElem?_cons_succ, locOf, locOn, readLoc, takeN, Nat.add_zero, List.drop_zero, List.length_cons, List.length_nil, Nat.reduceAdd, Nat.le_refl, if_true, if_false, Bool.false_eq_true, List.take_succ_cons, List.take_zero, bindK, bindRes, bind1, Option.map_some, Option.bind_some, PEnv.push, List.cons_append, List.nil_append, List.append_nil, SV.pvs, SV.pv, BE.all, Bool.and_self, Bool.not_true, Bool.not_false, List.map_cons, List.map_nil, p1, p2, if_pos q1, Int.toNat_natCast, hrep, len_1, app_1, isM, lenM]
  exact e
end
end Go.Proofs.Ythjahianafohjaa
set_option maxRecDepth 100000
namespace Go.Proofs.Ythjahianafohjaa
open Go.Sx Go.Bf
def rs0 (l : List Ch) (vs : List Int) : Nat → Int
  | 0 => 0
  | i + 1 => mxI (rs0 l vs i) (costW (chAt l (i : Int)).p (chAt l (i : Int)).w - at' vs i)
def rs1 (l : List Ch) (vs : List Int) (r0 : Int) : Nat → Int
  | 0 => r0
  | i + 1 => if (chAt l (i : Int)).w.isZ = true then 0 - at' vs i else rs1 l vs r0 i
def raiseOf (l : List Ch) (vs : List Int) : Int := rs1 l vs (rs0 l vs l.length) l.length
theorem rs0_bd {l : List Ch} (hok : ∀ x ∈ l, x.ok) {vs : List Int} (hb : ∀ x, x < l.length → -648000000000 ≤ at' vs x ∧ at' vs x ≤ 0) : ∀ i, i ≤ l.length → 0 ≤ rs0 l vs i ∧ rs0 l vs i ≤ 648024000000
  | 0, _ => by simp [rs0]
  | i + 1, h => by
    have ih := rs0_bd hok hb i (by omega)
    have hxo := hok _ (List.mem_of_getElem? (chN (x := i) (l := l) (by omega)))
    have := cost_bd hxo.1 hxo.2
    have := hb i (by omega)
    simp only [rs0, mxI]
    split <;> omega
theorem rs1_bd {l : List Ch} {vs : List Int} (hb : ∀ x, x < l.length → -648000000000 ≤ at' vs x ∧ at' vs x ≤ 0) {r0 : Int} (h0 : 0 ≤ r0 ∧ r0 ≤ 648024000000) : ∀ i, i ≤ l.length → 0 ≤ rs1 l vs r0 i ∧ rs1 l vs r0 i ≤ 648024000000
  | 0, _ => h0
  | i + 1, h => by
    have ih := rs1_bd hb h0 i (by omega)
    have := hb i (by omega)
    simp only [rs1]
    split <;> omega
def cst (σ : List MO) (P : PV) (N : Nat) (vs fs : List Int) (is : List Int) : PEnv :=
  { i := is, b := [], v := [P, .msl σ.length 0 N N 1], m := σ ++ [.cells (icell vs) 2, .cells (icell fs) 3], k := σ.length }
def cst1 (σ : List MO) (P : PV) (N : Nat) (vs fs : List Int) (is : List Int) : PEnv :=
  { i := is, b := [], v := [.msl σ.length 0 N N 1, P], m := σ ++ [.cells (icell vs) 2, .cells (icell fs) 3], k := σ.length }
def cst2 (σ : List MO) (N : Nat) (vs fs : List Int) (is : List Int) : PEnv :=
  { i := is, b := [], v := [.msl σ.length 0 N N 1], m := σ ++ [.cells (icell vs) 2, .cells (icell fs) 3], k := σ.length }
section
variable (σ : List MO) (hσ : Flat σ) (l : List Ch) (P : PV) (hP : P.rowsOf 12 = some (l.map Ch.row)) (hok : ∀ x ∈ l, x.ok) (hl : l.length ≤ 30) (n : Nat) (hn : 110 ≤ n)
variable (vs fs : List Int) (hvs : vs.length = l.length) (hb : ∀ x, x < l.length → -648000000000 ≤ at' vs x ∧ at' vs x ≤ 0)
include hP hok hl hn hvs hb in
theorem chk0 (i fuel : Nat) (hi : i < l.length) : revealed_Check_S.loop (evalF Tab n) (fuel + 1) 0 (cst σ P l.length vs fs [rs0 l vs i, (l.length : Int), (i : Int)]) = revealed_Check_S.loop (evalF Tab n) fuel 0 (cst σ P l.length vs fs [rs0 l vs (i + 1), (l.length : Int), ((i + 1 : Nat) : Int)]) := by
  obtain ⟨p1, p2, p3⟩ := rows_len hP
  rw [List.length_map] at p1
  have ex := chN hi
  have hxo := hok _ (List.mem_of_getElem? ex)
  have c1 := bundle_Cost_sem (σ ++ [.cells (icell vs) 2, .cells (icell fs) 3]) _ _ hxo.1 hxo.2 n (by omega)
  have lx := rows_get (off := 0) hP (rows_chs ex)
  have dva := icell_drop (at'_get (l := vs) (i := i) (by omega))
  have ma := locEl_msl (h := σ.length) (o := 0) (cap := l.length) (sz := 1) (off := 0) hi
  have hbi := hb i hi
  have hcb := cost_bd hxo.1 hxo.2
  have e2 : ((i + 1 : Nat) : Int) = (i : Int) + 1 := by omega
  have hd : decide (i < l.length) = true := decide_eq_true hi
  have q1 : (leB 0 (i : Int) && true) = true := by simp [leB]
  have q4 : (leB (-9223372036854775808) ((i : Int) + 1) && leB ((i : Int) + 1) 9223372036854775807) = true := by simp [leB]; omega
  simp only [rs0]
  generalize rs0 l vs i = r at *
  generalize chAt l (i : Int) = x at *
  generalize costW x.p x.w = u at *
  have q5 : (leB (-9223372036854775808) (u - at' vs i) && leB (u - at' vs i) 9223372036854775807) = true := by simp [leB]; omega
  simp only [n_bundle_Cost, W6.pv] at c1
  have hev : revealed_Check_t0.ev (evalF Tab n) (cst σ P l.length vs fs [r, (l.length : Int), (i : Int)]) = some (.jump 0 (cst σ P l.length vs fs [mxI r (u - at' vs i), (l.length : Int), (i : Int) + 1])) := by
    unfold revealed_Check_t0
    simp -implicitDefEqProofs only [↓reduceIte, eq_self, evb_ret, evb_ite, evb_need, evb_load, evb_app, evb_cut, evb_chk, evb_appF, evb_call, evb_callv, evb_newM, evb_mkM, evb_storeM, evb_appM, evb_mkMap, evb_mapGet, evb_mapSet, evb_mapClr, evb_jump, BE.safe, BE.pe, IE.pe, PEnv.at, List.getD_cons_zero, List.getD_cons_succ, List.getElem?_cons_zero, List.getElem?_cons_succ, locOf, locOn, readLoc, takeN, Nat.add_zero, List.drop_zero, List.length_cons, List.length_nil, Nat.reduceAdd, Nat.le_refl, if_true, if_false, Bool.false_eq_true, List.take_succ_cons, List.take_zero, bindK, bindRes, bind1, Option.map_some, Option.bind_some, PEnv.push, List.cons_append, List.nil_append, List.append_nil, SV.pvs, SV.pv, BE.all, Bool.and_self, Bool.not_true, Bool.not_false, List.map_cons, List.map_nil, cst, p1, lenM, ltB_nat, hd, if_pos q1, lx, row_eq]
    repeat' (first
      | with_reducible rfl
      | apply ev_both
      | (unfold revealed_Check_t0_b1; simp -implicitDefEqProofs only [↓reduceIte, eq_self, evb_ret, evb_ite, evb_need, evb_load, evb_app, evb_cut, evb_chk, evb_appF, evb_call, evb_callv, evb_newM, evb_mkM, evb_storeM, evb_appM, evb_mkMap, evb_mapGet, evb_mapSet, evb_mapClr, evb_jump, BE.safe, BE.pe, IE.pe, PEnv.at, List.getD_cons_zero, List.getD_cons_succ, List.getElem?_cons_zero, List.getElem?_cons_succ, locOf, locOn, readLoc, takeN, Nat.add_zero, List.drop_zero, List.length_cons, List.length_nil, Nat.reduceAdd, Nat.le_refl, if_true, if_false, Bool.false_eq_true, List.take_succ_cons, List.take_zero, bindK, bindRes, bind1, Option.map_some, Option.bind_some, PEnv.push, List.cons_append, List.nil_append, List.append_nil, SV.pvs, SV.pv, BE.all, Bool.and_self, Bool.not_true, Bool.not_false, List.map_cons, List.map_nil, p1, lenM, ltB_nat, hd, if_pos q1, if_pos q4, if_pos q5, lx, ma, row_eq, c1, get_0, MO.list, Nat.mul_one, Nat.zero_add, dva, Nat.le_add_left]; done)
      | (unfold revealed_Check_t0_b1; simp -implicitDefEqProofs only [↓reduceIte, eq_self, evb_ret, evb_ite, evb_need, evb_load, evb_app, evb_cut, evb_chk, evb_appF, evb_call, evb_callv, evb_newM, evb_mkM, evb_storeM, evb_appM, evb_mkMap, evb_mapGet, evb_mapSet, evb_mapClr, evb_jump, BE.safe, BE.pe, IE.pe, PEnv.at, List.getD_cons_zero, List.getD_cons_succ, List.getElem?_cons_zero, List.getElem?_cons_succ, locOf, locOn, readLoc, takeN, Nat.add_zero, List.drop_zero, List.length_cons, List.length_nil, Nat.reduceAdd, Nat.le_refl, if_true, if_false, Bool.false_eq_true, List.take_succ_cons, List.take_zero, bindK, bindRes, bind1, Option.map_some, Option.bind_some, PEnv.push, List.cons_append, List.nil_append, List.append_nil, SV.pvs, SV.pv, BE.all, Bool.and_self, Bool.not_true, Bool.not_false, List.map_cons, List.map_nil, p1, lenM, ltB_nat, hd, if_pos q1, if_pos q4, if_pos q5, lx, ma, row_eq, c1, get_0, MO.list, Nat.mul_one, Nat.zero_add, dva, Nat.le_add_left])
      | (unfold revealed_Check_t0_b2; simp -implicitDefEqProofs only [↓reduceIte, eq_self, evb_ret, evb_ite, evb_need, evb_load, evb_app, evb_cut, evb_chk, evb_appF, evb_call, evb_callv, evb_newM, evb_mkM, evb_storeM, evb_appM, evb_mkMap, evb_mapGet, evb_mapSet, evb_mapClr, evb_jump, BE.safe, BE.pe, IE.pe, PEnv.at, List.getD_cons_zero, List.getD_cons_succ, List.getElem?_cons_zero, List.getElem?_cons_succ, locOf, locOn, readLoc, takeN, Nat.add_zero, List.drop_zero, List.length_cons, List.length_nil, Nat.reduceAdd, Nat.le_refl, if_true, if_false, Bool.false_eq_true, List.take_succ_cons, List.take_zero, bindK, bindRes, bind1, Option.map_some, Option.bind_some, PEnv.push, List.cons_append, List.nil_append, List.append_nil, SV.pvs, SV.pv, BE.all, Bool.and_self, Bool.not_true, Bool.not_false, List.map_cons, List.map_nil, p1, lenM, ltB_nat, hd, if_pos q1, if_pos q4, if_pos q5, lx, ma, row_eq, c1, get_0, MO.list, Nat.mul_one, Nat.zero_add, dva, Nat.le_add_left]; done)
      | (unfold revealed_Check_t0_b2; simp -implicitDefEqProofs only [↓reduceIte, eq_self, evb_ret, evb_ite, evb_need, evb_load, evb_app, evb_cut, evb_chk, evb_appF, evb_call, evb_callv, evb_newM, evb_mkM, evb_storeM, evb_appM, evb_mkMap, evb_mapGet, evb_mapSet, evb_mapClr, evb_jump, BE.safe, BE.pe, IE.pe, PEnv.at, List.getD_cons_zero, List.getD_cons_succ, List.getElem?_cons_zero, List.getElem?_cons_succ, locOf, locOn, readLoc, takeN, Nat.add_zero, List.drop_zero, List.length_cons, List.length_nil, Nat.reduceAdd, Nat.le_refl, if_true, if_false, Bool.false_eq_true, List.take_succ_cons, List.take_zero, bindK, bindRes, bind1, Option.map_some, Option.bind_some, PEnv.push, List.cons_append, List.nil_append, List.append_nil, SV.pvs, SV.pv, BE.all, Bool.and_self, Bool.not_true, Bool.not_false, List.map_cons, List.map_nil, p1, lenM, ltB_nat, hd, if_pos q1, if_pos q4, if_pos q5, lx, ma, row_eq, c1, get_0, MO.list, Nat.mul_one, Nat.zero_add, dva, Nat.le_add_left]))
  rw [e2, Sys.loop, show revealed_Check_S.loops[0]? = some revealed_Check_t0 from rfl, Option.bind_some, hev, Option.bind_some]
include hP hl hvs hb in
theorem chk1 (r0 : Int) (i fuel : Nat) (hi : i < l.length) : revealed_Check_S.loop (evalF Tab n) (fuel + 1) 1 (cst1 σ P l.length vs fs [rs1 l vs r0 i, (l.length : Int), (i : Int)]) = revealed_Check_S.loop (evalF Tab n) fuel 1 (cst1 σ P l.length vs fs [rs1 l vs r0 (i + 1), (l.length : Int), ((i + 1 : Nat) : Int)]) := by
  obtain ⟨p1, p2, p3⟩ := rows_len hP
  rw [List.length_map] at p1
  have ex := chN hi
  have lx := rows_get (off := 0) hP (rows_chs ex)
  have dva := icell_drop (at'_get (l := vs) (i := i) (by omega))
  have ma := locEl_msl (h := σ.length) (o := 0) (cap := l.length) (sz := 1) (off := 0) hi
  have hbi := hb i hi
  have e2 : ((i + 1 : Nat) : Int) = (i : Int) + 1 := by omega
  have hd : decide (i < l.length) = true := decide_eq_true hi
  have q1 : (leB 0 (i : Int) && true) = true := by simp [leB]
  have q4 : (leB (-9223372036854775808) ((i : Int) + 1) && leB ((i : Int) + 1) 9223372036854775807) = true := by simp [leB]; omega
  have q5 : (leB (-9223372036854775808) (0 - at' vs i) && leB (0 - at' vs i) 9223372036854775807) = true := by simp [leB]; omega
  simp only [rs1]
  generalize rs1 l vs r0 i = r at *
  generalize chAt l (i : Int) = x at *
  have hz : (eqB x.w.a 0 && (eqB x.w.b 0 && (eqB x.w.c 0 && (eqB x.w.d 0 && (eqB x.w.e 0 && eqB x.w.f 0))))) = x.w.isZ := rfl
  rw [e2, Sys.loop, show revealed_Check_S.loops[1]? = some revealed_Check_t1 from rfl, Option.bind_some]
  cases hzz : x.w.isZ with
  | true => simp -implicitDefEqProofs only [revealed_Check_t1, ↓reduceIte, eq_self, evb_ret, evb_ite, evb_need, evb_load, evb_app, evb_cut, evb_chk, evb_appF, evb_call, evb_callv, evb_newM, evb_mkM, evb_storeM, evb_appM, evb_mkMap, evb_mapGet, evb_mapSet, evb_mapClr, evb_jump, BE.safe, BE.pe, IE.pe, PEnv.at, List.getD_cons_zero, List.getD_cons_succ, List.getElem?_cons_zero, List.getElem?_cons_succ, locOf, locOn, readLoc, takeN, Nat.add_zero, List.drop_zero, List.length_cons, List.length_nil, Nat.reduceAdd, Nat.le_refl, if_true, if_false, Bool.false_eq_true, List.take_succ_cons, List.take_zero, bindK, bindRes, bind1, Option.map_some, Option.bind_some, PEnv.push, List.cons_append, List.nil_append, List.append_nil, SV.pvs, SV.pv, BE.all, Bool.and_self, Bool.not_true, Bool.not_false, List.map_cons, List.map_nil, cst1, p1, lenM, ltB_nat, hd, if_pos q1, if_pos q4, if_pos q5, lx, ma, row_eq, hz, hzz, get_0, MO.list, Nat.mul_one, Nat.zero_add, dva, Nat.le_add_left]
  | false => simp -implicitDefEqProofs only [revealed_Check_t1, ↓reduceIte, eq_self, evb_ret, evb_ite, evb_need, evb_load, evb_app, evb_cut, evb_chk, evb_appF, evb_call, evb_callv, evb_newM, evb_mkM, evb_storeM, evb_appM, evb_mkMap, evb_mapGet, evb_mapSet, evb_mapClr, evb_jump, BE.safe, BE.pe, IE.pe, PEnv.at, List.getD_cons_zero, List.getD_cons_succ, List.getElem?_cons_zero, List.getElem?_cons_succ, locOf, locOn, readLoc, takeN, Nat.add_zero, List.drop_zero, List.length_cons, List.length_nil, Nat.reduceAdd, Nat.le_refl, if_true, if_false, Bool.false_eq_true, List.take_succ_cons, List.take_zero, bindK, bindRes, bind1, Option.map_some, Option.bind_some, PEnv.push, List.cons_append, List.nil_append, List.append_nil, SV.pvs, SV.pv, BE.all, Bool.and_self, Bool.not_true, Bool.not_false, List.map_cons, List.map_nil, cst1, p1, lenM, ltB_nat, hd, if_pos q1, if_pos q4, if_pos q5, lx, ma, row_eq, hz, hzz, get_0, MO.list, Nat.mul_one, Nat.zero_add, dva, Nat.le_add_left]
end
end Go.Proofs.Ythjahianafohjaa
set_option maxRecDepth 100000
namespace Go.Proofs.Ythjahianafohjaa
open Go.Sx Go.Bf
theorem lowss_irows (k : Nat) (l : List Int) : PV.lowss k (irows l) = true := by
  induction l with
  | nil => rfl
  | cons z l ih => simpa [irows, PV.lowss, PV.lows, PV.low] using ih
def curR (vs : List Int) (r : Int) (i : Nat) : List Int := (vs.take i).map (· + r) ++ vs.drop i
theorem curR_len (vs : List Int) (r : Int) (i : Nat) : (curR vs r i).length = vs.length := by simp [curR]; omega
theorem curR_at {vs : List Int} {r : Int} {i : Nat} (h : i < vs.length) : at' (curR vs r i) i = at' vs i := by
  unfold at' curR
  rw [List.getElem?_append_right (by simp; omega)]
  simp [show min i vs.length = i by omega]
theorem curR_set {vs : List Int} {r : Int} {i : Nat} (h : i < vs.length) : (curR vs r i).set i (at' vs i + r) = curR vs r (i + 1) := by
  unfold curR
  rw [List.take_add_one, at'_get h, drop_cons (at'_get h)]
  have hl : i = ((vs.take i).map (· + r)).length := by simp; omega
  have := List.set_append_right (s := (vs.take i).map (· + r)) (t := at' vs i :: vs.drop (i + 1)) i (at' vs i + r) (by simp; omega)
  rw [this]
  simp [show min i vs.length = i by omega]
section
variable (σ : List MO) (hσ : Flat σ) (N : Nat) (hN : N ≤ 30) (n : Nat) (r : Int) (vs fs : List Int) (hvs : vs.length = N) (hr : 0 ≤ r ∧ r ≤ 648024000000) (hb : ∀ x, x < N → -648000000000 ≤ at' vs x ∧ at' vs x ≤ 0)
include hN in
theorem chk2 (i fuel : Nat) (hi : i < N) (cur : List Int) (hc : cur.length = N) (hq : -1000000000000 ≤ at' cur i + r ∧ at' cur i + r ≤ 1000000000000) :
    revealed_Check_S.loop (evalF Tab n) (fuel + 1) 2 (cst2 σ N cur fs [r, (N : Int), (i : Int)]) = revealed_Check_S.loop (evalF Tab n) fuel 2 (cst2 σ N (cur.set i (at' cur i + r)) fs [r, (N : Int), ((i + 1 : Nat) : Int)]) := by
  have dva := icell_drop (at'_get (l := cur) (i := i) (by omega))
  have ma := locEl_msl (h := σ.length) (o := 0) (cap := N) (sz := 1) (off := 0) hi
  have e2 : ((i + 1 : Nat) : Int) = (i : Int) + 1 := by omega
  have hd : decide (i < N) = true := decide_eq_true hi
  have q1 : (leB 0 (i : Int) && true) = true := by simp [leB]
  have q4 : (leB (-9223372036854775808) ((i : Int) + 1) && leB ((i : Int) + 1) 9223372036854775807) = true := by simp [leB]; omega
  have q5 : (leB (-9223372036854775808) (at' cur i + r) && leB (at' cur i + r) 9223372036854775807) = true := by simp [leB]; omega
  have sv := icell_set (l := cur) (i := i) (at' cur i + r) (by omega)
  have lv : i + 1 ≤ (icell cur).length := by rw [icell_len]; omega
  rw [e2, Sys.loop, show revealed_Check_S.loops[2]? = some revealed_Check_t2 from rfl, Option.bind_some]
  simp -implicitDefEqProofs only [revealed_Check_t2, ↓reduceIte, eq_self, evb_ret, evb_ite, evb_need, evb_load, evb_app, evb_cut, evb_chk, evb_appF, evb_call, evb_callv, evb_newM, evb_mkM, evb_storeM, evb_appM, evb_mkMap, evb_mapGet, evb_mapSet, evb_mapClr, evb_jump, BE.safe, BE.pe, IE.pe, PEnv.at, List.getD_cons_zero, List.getD_cons_succ, List.getElem?_cons_zero, List.getElem?_cons_succ, locOf, locOn, readLoc, takeN, Nat.add_zero, List.drop_zero, List.length_cons, List.length_nil, Nat.reduceAdd, Nat.le_refl, if_true, if_false, Bool.false_eq_true, List.take_succ_cons, List.take_zero, bindK, bindRes, bind1, Option.map_some, Option.bind_some, PEnv.push, List.cons_append, List.nil_append, List.append_nil, SV.pvs, SV.pv, BE.all, Bool.and_self, Bool.not_true, Bool.not_false, List.map_cons, List.map_nil, cst2, lenM, ltB_nat, hd, if_pos q1, if_pos q4, if_pos q5, ma, get_0, set_0, MO.list, Nat.mul_one, Nat.zero_add, dva, Nat.le_add_left, lv, sv]
include hN hvs hr hb in
theorem chk2s : ∀ d i, i + d = N → ∀ fuel, revealed_Check_S.loop (evalF Tab n) (fuel + d) 2 (cst2 σ N (curR vs r i) fs [r, (N : Int), (i : Int)]) = revealed_Check_S.loop (evalF Tab n) fuel 2 (cst2 σ N (curR vs r N) fs [r, (N : Int), (N : Int)]) := by
  intro d
  induction d with
  | zero => intro i hi fuel; rw [Nat.add_zero] at hi; subst hi; rfl
  | succ d ih =>
    intro i hi fuel
    have hbi := hb i (by omega)
    have h := chk2 σ N hN n r fs i (fuel + d) (by omega) (curR vs r i) (by rw [curR_len, hvs]) (by rw [curR_at (by omega)]; omega)
    rw [curR_at (by omega), curR_set (by omega)] at h
    rw [show fuel + (d + 1) = (fuel + d) + 1 from rfl, h]
    exact ih (i + 1) (by omega) fuel
include hσ in
theorem chkEnd (cur : List Int) (hc : cur.length = N) (fuel : Nat) : revealed_Check_S.loop (evalF Tab n) (fuel + 1) 2 (cst2 σ N cur fs [r, (N : Int), (N : Int)]) = some (.tup [.agg [.nilS, .sl 1 (irows cur)], .bool true], σ) := by
  have hd : decide (N < N) = false := by simp
  have hr := rowsN_icell cur
  rw [hc] at hr
  rw [Sys.loop, show revealed_Check_S.loops[2]? = some revealed_Check_t2 from rfl]
  simp -implicitDefEqProofs only [Option.bind_some, revealed_Check_t2, ↓reduceIte, eq_self, evb_ret, evb_ite, evb_need, evb_load, evb_app, evb_cut, evb_chk, evb_appF, evb_call, evb_callv, evb_newM, evb_mkM, evb_storeM, evb_appM, evb_mkMap, evb_mapGet, evb_mapSet, evb_mapClr, evb_jump, BE.safe, BE.pe, IE.pe, PEnv.at, List.getD_cons_zero, List.getD_cons_succ, List.getElem?_cons_zero, List.getElem?_cons_succ, locOf, locOn, readLoc, takeN, Nat.add_zero, List.drop_zero, List.length_cons, List.length_nil, Nat.reduceAdd, Nat.le_refl, if_true, if_false, Bool.false_eq_true, List.take_succ_cons, List.take_zero, bindK, bindRes, bind1, Option.map_some, Option.bind_some, PEnv.push, List.cons_append, List.nil_append, List.append_nil, SV.pvs, SV.pv, BE.all, Bool.and_self, Bool.not_true, Bool.not_false, List.map_cons, List.map_nil, cst2, ltB_nat, hd]
  have hm3 : (σ ++ [.cells (icell cur) 2, .cells (icell fs) 3] : List MO).length = σ.length + 2 := by simp
  have h1 : ¬ (false = true ∨ σ.length + 2 = σ.length) := by simp
  have h2 : ¬ (σ.length < σ.length) := by omega
  simp -implicitDefEqProofs only [retP, hm3, if_neg h1, List.take_left', hσ σ.length, PV.frz, PV.frzs, if_neg h2, lookF, get_0, frzs_icell, MO.list, hr, List.take_append, ↓reduceIte, eq_self, PT.ev, BE.safe, BE.pe, IE.pe, PEnv.at, List.getD_cons_zero, List.getD_cons_succ, List.getElem?_cons_zero, List.getElem?_cons_succ, locOf, locOn, readLoc, takeN, Nat.add_zero, List.drop_zero, List.length_cons, List.length_nil, Nat.reduceAdd, Nat.le_refl, if_true, if_false, Bool.false_eq_true, List.take_succ_cons, List.take_zero, bindK, bindRes, bind1, Option.map_some, Option.bind_some, PEnv.push, List.cons_append, List.nil_append, List.append_nil, SV.pvs, SV.pv, BE.all, Bool.and_self, Bool.not_true, Bool.not_false, List.map_cons, List.map_nil]
  simp [hσ σ.length]
end
section
variable (σ : List MO) (hσ : Flat σ) (l : List Ch) (P : PV) (hP : P.rowsOf 12 = some (l.map Ch.row)) (hl : l.length ≤ 30) (n : Nat) (hn : 30000 ≤ n)
/-- What Check answers. -/
def ChkRes (l : List Ch) (p : PV) : Prop :=
  (¬ (∀ x ∈ l, x.ok) ∧ p = .tup [.agg [.nilS, .nilS], .bool false]) ∨
  ((∀ x ∈ l, x.ok) ∧ ∃ vs : List Int, vs.length = l.length ∧ (∀ x y, x < l.length → y < l.length → at' vs y ≤ at' vs x + gN l x y) ∧ (∀ x, x < l.length → -648000000000 ≤ at' vs x ∧ at' vs x ≤ 0) ∧
    p = .tup [.agg [.nilS, .sl 1 (irows (vs.map (· + raiseOf l vs)))], .bool true]) ∨
  ((∀ x ∈ l, x.ok) ∧ ∃ (vs fs : List Int) (c t : Nat → Nat) (z j k : Nat), Go.Bf.Fin l.length (gN l) (at' vs) (at' fs) c t z ∧ j < k ∧ k ≤ l.length ∧ chain (at' fs) z k = chain (at' fs) z j ∧
    p = .tup [.agg [.sl 1 (irows (ckeys (at' fs) z j (k - j)).reverse), .nilS], .bool false])
include hσ hP hl hn in
theorem check_sem : ∃ p, ChkRes l p ∧ evalF Tab n n_revealed_Check [P] σ = some (p, σ) := by
  obtain ⟨n, rfl⟩ : ∃ k, n = k + 1 := ⟨n - 1, by omega⟩
  obtain ⟨p1, p2, p3⟩ := rows_len hP
  rw [List.length_map] at p1
  have c1 := all_sem σ l P hP n (by omega) (by omega)
  simp only [n_revealed_allValid] at c1
  simp only [evalF, tab_revealed_Check, Option.bind_some, Sys.run]
  show ∃ p, ChkRes l p ∧ ((bindPs [.sh (.one _)] _).bind _) = _
  simp -implicitDefEqProofs only [bindPs, bind1, bindK, Option.map_some, Option.bind_some, List.append_nil, List.nil_append, List.cons_append, if_true, p3]
  show ∃ p, ChkRes l p ∧ (PT.ev _ revealed_Check_s _).bind _ = _
  simp -implicitDefEqProofs only [revealed_Check_s, ↓reduceIte, eq_self, evb_ret, evb_ite, evb_need, evb_load, evb_app, evb_cut, evb_chk, evb_appF, evb_call, evb_callv, evb_newM, evb_mkM, evb_storeM, evb_appM, evb_mkMap, evb_mapGet, evb_mapSet, evb_mapClr, evb_jump, BE.safe, BE.pe, IE.pe, PEnv.at, List.getD_cons_zero, List.getD_cons_succ, List.getElem?_cons_zero, List.getElem?_cons_succ, locOf, locOn, readLoc, takeN, Nat.add_zero, List.drop_zero, List.length_cons, List.length_nil, Nat.reduceAdd, Nat.le_refl, if_true, if_false, Bool.false_eq_true, List.take_succ_cons, List.take_zero, bindK, bindRes, bind1, Option.map_some, Option.bind_some, PEnv.push, List.cons_append, List.nil_append, List.append_nil, SV.pvs, SV.pv, BE.all, Bool.and_self, Bool.not_true, Bool.not_false, List.map_cons, List.map_nil, c1]
  by_cases ha : (l.all fun x => decide x.ok) = true
  case neg =>
    have hno : ¬ ∀ x ∈ l, x.ok := fun h => ha (List.all_eq_true.2 fun x hx => decide_eq_true (h x hx))
    rw [Bool.not_eq_true] at ha
    rw [ha]
    refine ⟨_, .inl ⟨hno, rfl⟩, ?_⟩
    simp -implicitDefEqProofs only [↓reduceIte, eq_self, evb_ret, evb_ite, evb_need, evb_load, evb_app, evb_cut, evb_chk, evb_appF, evb_call, evb_callv, evb_newM, evb_mkM, evb_storeM, evb_appM, evb_mkMap, evb_mapGet, evb_mapSet, evb_mapClr, evb_jump, BE.safe, BE.pe, IE.pe, PEnv.at, List.getD_cons_zero, List.getD_cons_succ, List.getElem?_cons_zero, List.getElem?_cons_succ, locOf, locOn, readLoc, takeN, Nat.add_zero, List.drop_zero, List.length_cons, List.length_nil, Nat.reduceAdd, Nat.le_refl, if_true, if_false, Bool.false_eq_true, List.take_succ_cons, List.take_zero, bindK, bindRes, bind1, Option.map_some, Option.bind_some, PEnv.push, List.cons_append, List.nil_append, List.append_nil, SV.pvs, SV.pv, BE.all, Bool.and_self, Bool.not_true, Bool.not_false, List.map_cons, List.map_nil, retP, or_true]
  have hok : ∀ x ∈ l, x.ok := fun x hx => by simpa using (List.all_eq_true.1 ha) x hx
  rw [ha]
  obtain ⟨m, rfl⟩ : ∃ k, n = k + 1 := ⟨n - 1, by omega⟩
  have hNN : l.length * (l.length * (l.length + 2) + 2) ≤ 28860 := by
    calc l.length * (l.length * (l.length + 2) + 2) ≤ 30 * (30 * (30 + 2) + 2) := Nat.mul_le_mul hl (Nat.add_le_add_right (Nat.mul_le_mul hl (by omega)) 2)
      _ = 28860 := rfl
  obtain ⟨res, hres, hev⟩ := lowered_sem σ hσ l P hP hok hl m (by omega) (by omega)
  simp only [n_revealed_lowered] at hev
  rcases hres with ⟨vs, fs, hvs, hfs, hst, hlow, rfl⟩ | ⟨vs, fs, c, t, z, j, k, hvs, hfs, hfin, hjk, hk, he, rfl⟩
  · refine ⟨_, .inr (.inl ⟨hok, vs, hvs, hst, hlow, rfl⟩), ?_⟩
    have ho : ∀ h o len cap sz, (PV.msl h o len cap sz).one = true := fun _ _ _ _ _ => rfl
    have hon : PV.nilS.one = true := rfl
    have hk0 : PV.isKind 0 .nilS = true := rfl
    have hno : PV.nilS.nilOk = true := rfl
    have hni : PV.nilS.isNil = true := rfl
    simp -implicitDefEqProofs only [↓reduceIte, eq_self, evb_ret, evb_ite, evb_need, evb_load, evb_app, evb_cut, evb_chk, evb_appF, evb_call, evb_callv, evb_newM, evb_mkM, evb_storeM, evb_appM, evb_mkMap, evb_mapGet, evb_mapSet, evb_mapClr, evb_jump, BE.safe, BE.pe, IE.pe, PEnv.at, List.getD_cons_zero, List.getD_cons_succ, List.getElem?_cons_zero, List.getElem?_cons_succ, locOf, locOn, readLoc, takeN, Nat.add_zero, List.drop_zero, List.length_cons, List.length_nil, Nat.reduceAdd, Nat.le_refl, if_true, if_false, Bool.false_eq_true, List.take_succ_cons, List.take_zero, bindK, bindRes, bind1, Option.map_some, Option.bind_some, PEnv.push, List.cons_append, List.nil_append, List.append_nil, SV.pvs, SV.pv, BE.all, Bool.and_self, Bool.not_true, Bool.not_false, List.map_cons, List.map_nil, hev, bindShs, ho, hon, hk0, hno, hni, p1, p2]
    have b0 := rs0_bd hok hlow l.length (Nat.le_refl _)
    have b1 := rs1_bd hlow b0 l.length (Nat.le_refl _)
    have run0 : ∀ d i, i + d = l.length → ∀ fuel, revealed_Check_S.loop (evalF Tab (m + 1)) (fuel + d) 0 (cst σ P l.length vs fs [rs0 l vs i, (l.length : Int), (i : Int)]) = revealed_Check_S.loop (evalF Tab (m + 1)) fuel 0 (cst σ P l.length vs fs [rs0 l vs l.length, (l.length : Int), (l.length : Int)]) := by
      intro d
      induction d with
      | zero => intro i hi fuel; rw [Nat.add_zero] at hi; subst hi; rfl
      | succ d ih => intro i hi fuel; rw [show fuel + (d + 1) = (fuel + d) + 1 from rfl, chk0 σ l P hP hok hl (m + 1) (by omega) vs fs hvs hlow i _ (by omega)]; exact ih (i + 1) (by omega) fuel
    have run1 : ∀ d i, i + d = l.length → ∀ fuel, revealed_Check_S.loop (evalF Tab (m + 1)) (fuel + d) 1 (cst1 σ P l.length vs fs [rs1 l vs (rs0 l vs l.length) i, (l.length : Int), (i : Int)]) = revealed_Check_S.loop (evalF Tab (m + 1)) fuel 1 (cst1 σ P l.length vs fs [raiseOf l vs, (l.length : Int), (l.length : Int)]) := by
      intro d
      induction d with
      | zero => intro i hi fuel; rw [Nat.add_zero] at hi; subst hi; rfl
      | succ d ih => intro i hi fuel; rw [show fuel + (d + 1) = (fuel + d) + 1 from rfl, chk1 σ l P hP hl (m + 1) vs fs hvs hlow _ i _ (by omega)]; exact ih (i + 1) (by omega) fuel
    have hd : decide (l.length < l.length) = false := by simp
    have x0 : ∀ fuel, revealed_Check_S.loop (evalF Tab (m + 1)) (fuel + 1) 0 (cst σ P l.length vs fs [rs0 l vs l.length, (l.length : Int), (l.length : Int)]) = revealed_Check_S.loop (evalF Tab (m + 1)) fuel 1 (cst1 σ P l.length vs fs [rs0 l vs l.length, (l.length : Int), 0]) := by
      intro fuel
      rw [Sys.loop, show revealed_Check_S.loops[0]? = some revealed_Check_t0 from rfl]
      simp -implicitDefEqProofs only [Option.bind_some, revealed_Check_t0, ↓reduceIte, eq_self, evb_ret, evb_ite, evb_need, evb_load, evb_app, evb_cut, evb_chk, evb_appF, evb_call, evb_callv, evb_newM, evb_mkM, evb_storeM, evb_appM, evb_mkMap, evb_mapGet, evb_mapSet, evb_mapClr, evb_jump, BE.safe, BE.pe, IE.pe, PEnv.at, List.getD_cons_zero, List.getD_cons_succ, List.getElem?_cons_zero, List.getElem?_cons_succ, locOf, locOn, readLoc, takeN, Nat.add_zero, List.drop_zero, List.length_cons, List.length_nil, Nat.reduceAdd, Nat.le_refl, if_true, if_false, Bool.false_eq_true, List.take_succ_cons, List.take_zero, bindK, bindRes, bind1, Option.map_some, Option.bind_some, PEnv.push, List.cons_append, List.nil_append, List.append_nil, SV.pvs, SV.pv, BE.all, Bool.and_self, Bool.not_true, Bool.not_false, List.map_cons, List.map_nil, cst, cst1, ltB_nat, hd, p1, p2]
    have x1 : ∀ fuel, revealed_Check_S.loop (evalF Tab (m + 1)) (fuel + 1) 1 (cst1 σ P l.length vs fs [raiseOf l vs, (l.length : Int), (l.length : Int)]) = revealed_Check_S.loop (evalF Tab (m + 1)) fuel 2 (cst2 σ l.length vs fs [raiseOf l vs, (l.length : Int), 0]) := by
      intro fuel
      rw [Sys.loop, show revealed_Check_S.loops[1]? = some revealed_Check_t1 from rfl]
      simp -implicitDefEqProofs only [Option.bind_some, revealed_Check_t1, ↓reduceIte, eq_self, evb_ret, evb_ite, evb_need, evb_load, evb_app, evb_cut, evb_chk, evb_appF, evb_call, evb_callv, evb_newM, evb_mkM, evb_storeM, evb_appM, evb_mkMap, evb_mapGet, evb_mapSet, evb_mapClr, evb_jump, BE.safe, BE.pe, IE.pe, PEnv.at, List.getD_cons_zero, List.getD_cons_succ, List.getElem?_cons_zero, List.getElem?_cons_succ, locOf, locOn, readLoc, takeN, Nat.add_zero, List.drop_zero, List.length_cons, List.length_nil, Nat.reduceAdd, Nat.le_refl, if_true, if_false, Bool.false_eq_true, List.take_succ_cons, List.take_zero, bindK, bindRes, bind1, Option.map_some, Option.bind_some, PEnv.push, List.cons_append, List.nil_append, List.append_nil, SV.pvs, SV.pv, BE.all, Bool.and_self, Bool.not_true, Bool.not_false, List.map_cons, List.map_nil, cst1, cst2, ltB_nat, hd, isM, lenM]
    have run2 := chk2s σ l.length hl (m + 1) (raiseOf l vs) vs fs hvs b1 hlow l.length 0 (by omega)
    have hcur0 : curR vs (raiseOf l vs) 0 = vs := by simp [curR]
    have hcurN : curR vs (raiseOf l vs) l.length = vs.map (· + raiseOf l vs) := by rw [← hvs]; simp [curR]
    have fin := chkEnd σ hσ l.length (m + 1) (raiseOf l vs) fs (vs.map (· + raiseOf l vs)) (by simp [hvs])
    rw [hcur0, hcurN] at run2
    have e0 := run0 l.length 0 (by omega)
    have e1 := run1 l.length 0 (by omega)
    have tot := fin (m + 1 - 3 * l.length - 3)
    rw [← run2, show ((0 : Nat) : Int) = 0 from rfl, ← x1, ← e1] at tot
    have hs1 : rs1 l vs (rs0 l vs l.length) 0 = rs0 l vs l.length := rfl
    rw [hs1, show ((0 : Nat) : Int) = 0 from rfl, ← x0, ← e0] at tot
    rw [show m + 1 - 3 * l.length - 3 + 1 + l.length + 1 + l.length + 1 + l.length = m + 1 by omega] at tot
    exact tot
  · refine ⟨_, .inr (.inr ⟨hok, vs, fs, c, t, z, j, k, hfin, hjk, hk, he, rfl⟩), ?_⟩
    have hne : irows (ckeys (at' fs) z j (k - j)).reverse ≠ [] := by
      intro h
      have := congrArg List.length h
      simp [irows, ckeys_len] at this
      omega
    have hlw : PV.lowss σ.length (irows (ckeys (at' fs) z j (k - j)).reverse) = true := lowss_irows _ _
    generalize irows (ckeys (at' fs) z j (k - j)).reverse = rows at *
    have ho : (PV.sl 1 rows).one = true := rfl
    have hon : PV.nilS.one = true := rfl
    have hk0 : PV.isKind 0 (.sl 1 rows) = true := rfl
    have hno : (PV.sl 1 rows).nilOk = true := by cases rows with | nil => exact absurd rfl hne | cons a r => rfl
    have hni : (PV.sl 1 rows).isNil = false := rfl
    simp -implicitDefEqProofs only [↓reduceIte, eq_self, evb_ret, evb_ite, evb_need, evb_load, evb_app, evb_cut, evb_chk, evb_appF, evb_call, evb_callv, evb_newM, evb_mkM, evb_storeM, evb_appM, evb_mkMap, evb_mapGet, evb_mapSet, evb_mapClr, evb_jump, BE.safe, BE.pe, IE.pe, PEnv.at, List.getD_cons_zero, List.getD_cons_succ, List.getElem?_cons_zero, List.getElem?_cons_succ, locOf, locOn, readLoc, takeN, Nat.add_zero, List.drop_zero, List.length_cons, List.length_nil, Nat.reduceAdd, Nat.le_refl, if_true, if_false, Bool.false_eq_true, List.take_succ_cons, List.take_zero, bindK, bindRes, bind1, Option.map_some, Option.bind_some, PEnv.push, List.cons_append, List.nil_append, List.append_nil, SV.pvs, SV.pv, BE.all, Bool.and_self, Bool.not_true, Bool.not_false, List.map_cons, List.map_nil, hev, bindShs, ho, hon, hk0, hno, hni, p1, p2]
    have hm3 : (σ ++ [.cells (icell vs) 2, .cells (icell fs) 3] : List MO).length = σ.length + 2 := by simp
    have h1 : ¬ (false = true ∨ σ.length + 2 = σ.length) := by simp
    simp -implicitDefEqProofs only [retP, hm3, if_neg h1, List.take_left', hσ σ.length, PV.frz, PV.frzs, hlw, ↓reduceIte, eq_self, evb_ret, evb_ite, evb_need, evb_load, evb_app, evb_cut, evb_chk, evb_appF, evb_call, evb_callv, evb_newM, evb_mkM, evb_storeM, evb_appM, evb_mkMap, evb_mapGet, evb_mapSet, evb_mapClr, evb_jump, BE.safe, BE.pe, IE.pe, PEnv.at, List.getD_cons_zero, List.getD_cons_succ, List.getElem?_cons_zero, List.getElem?_cons_succ, locOf, locOn, readLoc, takeN, Nat.add_zero, List.drop_zero, List.length_cons, List.length_nil, Nat.reduceAdd, Nat.le_refl, if_true, if_false, Bool.false_eq_true, List.take_succ_cons, List.take_zero, bindK, bindRes, bind1, Option.map_some, Option.bind_some, PEnv.push, List.cons_append, List.nil_append, List.append_nil, SV.pvs, SV.pv, BE.all, Bool.and_self, Bool.not_true, Bool.not_false, List.map_cons, List.map_nil]
    simp [hσ σ.length]
end
end Go.Proofs.Ythjahianafohjaa
set_option maxRecDepth 100000
namespace Go.Proofs.Ythjahianafohjaa
open Go.Sx Go.Bf
def Pot (l : List Ch) : Prop := ∃ π : Nat → Int, ∀ x y, x < l.length → y < l.length → π y ≤ π x + gN l x y
theorem check_is (σ : List MO) (hσ : Flat σ) (l : List Ch) (P : PV) (hP : P.rowsOf 12 = some (l.map Ch.row)) (hl : l.length ≤ 30) (n : Nat) (hn : 30000 ≤ n) :
    ∃ w1 w2 b, evalF Tab n n_revealed_Check [P] σ = some (.tup [.agg [w1, w2], .bool b], σ) ∧ w1.one = true ∧ w2.one = true ∧ (b = true ↔ (∀ x ∈ l, x.ok) ∧ Pot l) := by
  obtain ⟨p, hp, he⟩ := check_sem σ hσ l P hP hl n hn
  rcases hp with ⟨hno, rfl⟩ | ⟨hok, vs, _, hst, _, rfl⟩ | ⟨hok, vs, fs, c, t, z, j, k, hfin, _, _, _, rfl⟩
  · exact ⟨_, _, _, he, rfl, rfl, by simp [hno]⟩
  · refine ⟨_, _, _, he, rfl, rfl, ?_⟩
    exact ⟨fun _ => ⟨hok, at' vs, hst⟩, fun _ => rfl⟩
  · refine ⟨_, _, _, he, rfl, rfl, ?_⟩
    constructor
    · intro h; cases h
    · rintro ⟨_, π, hπ⟩
      exact (hfin.none π hπ).elim
theorem gN_at (l : List Ch) {x y : Int} (hx : 0 ≤ x) (hy : 0 ≤ y) : gN l x.toNat y.toNat = gainC (chAt l x) (chAt l y) := by
  unfold gN; rw [Int.toNat_of_nonneg hx, Int.toNat_of_nonneg hy]
/-- Around a cycle the gains make up for the values. -/
theorem cyc_pot {l : List Ch} {cyc : List Int} (hc : ∀ z ∈ cyc, cycOk l.length z = true) {π : Nat → Int} (hπ : ∀ x y, x < l.length → y < l.length → π y ≤ π x + gN l x y) :
    ∀ i, i ≤ cyc.length → π ((cyc[i % cyc.length]?).getD 0).toNat - π ((cyc[0]?).getD 0).toNat ≤ cycSum l cyc i
  | 0, _ => by simp [cycSum]
  | i + 1, h => by
    have ih := cyc_pot hc hπ i (by omega)
    rw [Nat.mod_eq_of_lt (by omega : i < cyc.length)] at ih
    have hj : (i + 1) % cyc.length < cyc.length := Nat.mod_lt _ (by omega)
    have m1 : cyc[i]? = some cyc[i] := List.getElem?_eq_getElem (by omega)
    have m2 : cyc[(i + 1) % cyc.length]? = some cyc[(i + 1) % cyc.length] := List.getElem?_eq_getElem hj
    have c1 := hc _ (List.mem_of_getElem? m1)
    have c2 := hc _ (List.mem_of_getElem? m2)
    simp only [cycOk, decide_eq_true_eq] at c1 c2
    have := hπ (cyc[i]).toNat (cyc[(i + 1) % cyc.length]).toNat (by omega) (by omega)
    rw [gN_at l c1.1 c2.1] at this
    simp only [cycSum, cycG, m1, m2, Option.getD_some] at ih ⊢
    omega
/-- A refuting cycle is not one of consistent choices. -/
theorem verd_cyc {l : List Ch} {cyc : List Int} (h0 : cyc.length ≠ 0) (hv : verd l cyc [] = 0) : ¬ Pot l := by
  rintro ⟨π, hπ⟩
  unfold verd at hv
  split at hv
  · split at hv
    · rename_i _ hf
      split at hv
      · cases hv
      · rename_i hs
        simp only [formV, Bool.and_eq_true] at hf
        have := cyc_pot (List.all_eq_true.1 hf.1.2) hπ cyc.length (Nat.le_refl _)
        rw [Nat.mod_self] at this
        omega
    · cases hv
  · cases hv
/-- Values that explain are such. -/
theorem verd_vals {l : List Ch} {vals : List Int} (hv : verd l [] vals = 0) : (∀ x ∈ l, x.ok) ∧ Pot l := by
  unfold verd at hv
  split at hv
  · rename_i ha
    refine ⟨fun x hx => by simpa using (List.all_eq_true.1 ha) x hx, ?_⟩
    split at hv
    · rw [if_pos List.length_nil] at hv
      split at hv
      · rename_i he
        simp only [Bool.and_eq_true, decide_eq_true_eq, explP, List.all_eq_true] at he
        obtain ⟨hlen, he⟩ := he
        refine ⟨at' vals, fun x y hx hy => ?_⟩
        have zx := zip_at (chN hx) (at'_get (l := vals) (i := x) (by omega))
        have zy := zip_at (chN hy) (at'_get (l := vals) (i := y) (by omega))
        have := (innP_iff _ _).1 ((he _ (List.mem_of_getElem? zx)).2 _ (List.mem_of_getElem? zy))
        simp only at this
        unfold gN gainC
        omega
      · cases hv
    · cases hv
  · cases hv
end Go.Proofs.Ythjahianafohjaa
set_option maxRecDepth 100000
namespace Go.Proofs.Ythjahianafohjaa
open Go.Sx Go.Bf
theorem chAt_nat (l : List Ch) (x : Nat) : chAt l (x : Int) = (l[x]?).getD ch0 := by simp [chAt]
/-- Along a map of the places. -/
theorem pot_map {l l' : List Ch} (f : Nat → Nat) (hf : ∀ x, x < l'.length → f x < l.length ∧ l'[x]? = l[f x]?) (h : Pot l) : Pot l' := by
  obtain ⟨π, hπ⟩ := h
  refine ⟨fun x => π (f x), fun x y hx hy => ?_⟩
  have h1 := hf x hx
  have h2 := hf y hy
  have := hπ (f x) (f y) h1.1 h2.1
  simp only [gN, chAt_nat] at this ⊢
  rw [h1.2, h2.2]; exact this
def Good (l : List Ch) : Prop := (∀ x ∈ l, x.ok) ∧ Pot l
theorem good_map {l l' : List Ch} (f : Nat → Nat) (hf : ∀ x, x < l'.length → f x < l.length ∧ l'[x]? = l[f x]?) (h : Good l) : Good l' := by
  refine ⟨fun x hx => ?_, pot_map f hf h.2⟩
  obtain ⟨i, hi⟩ := List.mem_iff_getElem?.1 hx
  have h1 := hf i (List.getElem?_eq_some_iff.1 hi).1
  rw [h1.2] at hi
  exact h.1 x (List.mem_of_getElem? hi)
theorem good_less {l : List Ch} (k : Nat) (h : Good l) : Good (l.take k ++ l.drop (k + 1)) := by
  refine good_map (fun x => if x < k then x else x + 1) (fun x hx => ?_) h
  simp only [List.length_append, List.length_take, List.length_drop] at hx
  by_cases hk : x < k
  · rw [if_pos hk]
    refine ⟨by omega, ?_⟩
    rw [List.getElem?_append_left (by simp; omega), List.getElem?_take_of_lt hk]
  · rw [if_neg hk]
    refine ⟨by omega, ?_⟩
    rw [List.getElem?_append_right (by simp; omega), List.getElem?_drop]
    simp only [List.length_take]
    congr 1
    omega
theorem good_more {l : List Ch} {k : Nat} {x : Ch} (hx : l[k]? = some x) : Good (l ++ [x]) ↔ Good l := by
  have hk := (List.getElem?_eq_some_iff.1 hx).1
  constructor
  · refine good_map id (fun y hy => ⟨by simp; omega, ?_⟩)
    rw [id, List.getElem?_append_left hy]
  · refine good_map (fun y => if y < l.length then y else k) (fun y hy => ?_)
    simp only [List.length_append, List.length_cons, List.length_nil] at hy
    by_cases hy2 : y < l.length
    · rw [if_pos hy2]; exact ⟨hy2, List.getElem?_append_left hy2⟩
    · rw [if_neg hy2]
      refine ⟨hk, ?_⟩
      rw [List.getElem?_append_right (by omega), show y - l.length = 0 by omega, hx]; rfl
theorem good_rev {l : List Ch} : Good l.reverse ↔ Good l := by
  have one : ∀ l : List Ch, Good l → Good l.reverse := fun l =>
    good_map (fun x => l.length - 1 - x) (fun x hx => by
      rw [List.length_reverse] at hx
      exact ⟨by omega, List.getElem?_reverse hx⟩)
  constructor
  · intro h; have := one _ h; rwa [List.reverse_reverse] at this
  · exact one l
end Go.Proofs.Ythjahianafohjaa
