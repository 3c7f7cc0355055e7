/- TX: what a function's trees compute over plain values is what the machine does. -/
import Derived.Test.YtbmfegliomkkfaaHTxW
set_option linter.unusedSimpArgs false
set_option linter.unusedVariables false
namespace Go.Sx
open Go.RowKit
variable {P : Program}
def QR (B : Inf) (res : Res) : Value → Hp → MS → Prop := fun v s m => ∃ r σ, res = .ret r σ ∧ QF B r σ v s m
def TR (B : Inf) (pats : List Cfg) (res : Res) : Cfg → Env → Hp → Prop := fun g ρ s => ∃ q A t ρp, res = .jump q ρp ∧ BLe B (inf ρp.m ρ.m) ∧ pats[q]? = some t ∧ headOk t = true ∧ fits ⟨0, 0, 0, 0⟩ A t g = true ∧
  ∀ js, EnvRep s ρp { i := A.is.map (IE.den ρ), b := A.bs.map (BE.den ρ), v := SV.dens ρ id A.vs, j := js, m := ρ.m, k := ρ.k }
theorem findJ_spec {g : Cfg} : ∀ (l : List Cfg) (q : Nat) {r}, findJ g l q = some r → ∃ t, q ≤ r.1 ∧ l[r.1 - q]? = some t ∧ fits ⟨0, 0, 0, 0⟩ r.2 t g = true ∧ headOk t = true
  | [], q, r, h => by simp [findJ] at h
  | t :: l, q, r, h => by
    simp only [findJ] at h
    split at h
    · rename_i hc
      simp only [Option.some.injEq] at h; subst h
      simp only [Bool.and_eq_true] at hc
      exact ⟨t, Nat.le_refl _, by simp, hc.1.2, hc.2⟩
    · obtain ⟨t', h1, h2, h3⟩ := findJ_spec l (q + 1) h
      refine ⟨t', by omega, ?_, h3⟩
      rw [show r.1 - q = (r.1 - (q + 1)) + 1 by omega]
      simpa using h2
theorem BE.all_spec {s : Hp} {ρp : PEnv} {ρ : Env} (h : EnvRep s ρp ρ) : ∀ (l : List BE) {r}, BE.all ρp l = some r → l.map (BE.den ρ) = r
  | [], r, hr => by simp only [BE.all, Option.some.injEq] at hr; subst hr; rfl
  | b :: l, r, hr => by
    simp only [BE.all] at hr
    split at hr
    · rename_i hs
      simp only [Option.map_eq_some_iff] at hr
      obtain ⟨r', h1, rfl⟩ := hr
      rw [List.map_cons, BE.pe_den h b hs, BE.all_spec h l h1]
    · cases hr
theorem pvs_one {s : Hp} {ρp : PEnv} {ρ : Env} (h : EnvRep s ρp ρ) {own : Nat → Option (List PV)} : ∀ (l : List SV) {r}, SV.pvs ρp own l = some r → l.all SV.flat = true → ∀ p ∈ r, p.one = true
  | [], r, hr, _, p, hp => by simp only [SV.pvs, Option.some.injEq] at hr; subst hr; simp at hp
  | x :: l, r, hr, hf, p, hp => by
    simp only [SV.pvs, Option.bind_eq_some_iff, Option.map_eq_some_iff] at hr
    obtain ⟨q, h1, r', h2, rfl⟩ := hr
    simp only [List.all_cons, Bool.and_eq_true] at hf
    rcases List.mem_cons.1 hp with rfl | hp
    · exact flat_one' h hf.1 h1
    · exact pvs_one h l h2 hf.2 p hp
theorem lit_rows {s : Hp} {ρp : PEnv} {ρ : Env} (h : EnvRep s ρp ρ) : ∀ (l : List (List SV)) {rows}, l.mapM (SV.pvs ρp noOwn) = some rows → (l.all fun x => x.all SV.flat) = true →
    Repss s (inf ρp.m ρ.m) rows (l.map (SV.dens ρ id)) ∧ ∀ r ∈ rows, ∀ p ∈ r, p.one = true
  | [], rows, hr, _ => by simp at hr; subst hr; exact ⟨rfl, by simp⟩
  | x :: l, rows, hr, hf => by
    simp only [List.mapM_cons, Option.bind_eq_bind, Option.bind_eq_some_iff, Option.pure_def, Option.some.injEq] at hr
    obtain ⟨r, h1, rows', h2, rfl⟩ := hr
    simp only [List.all_cons, Bool.and_eq_true] at hf
    obtain ⟨a, b⟩ := lit_rows h l h2 hf.2
    refine ⟨⟨_, _, rfl, SV.pvs_rep h (noOwn_told s _ id) x r h1, a⟩, fun r' hr' => ?_⟩
    rcases List.mem_cons.1 hr' with rfl | hr'
    · exact pvs_one h x h1 hf.1
    · exact b r' hr'
theorem rows_one {s : Hp} {B : Inf} : ∀ {rows : List (List PV)} {xs : List (List Value)}, Repss s B rows xs → (∀ r ∈ rows, ∀ p ∈ r, p.one = true) → ∀ e ∈ xs, ∀ u ∈ e, u.oneCell' = true
  | [], xs, h, _ => by simp only [Repss] at h; subst h; simp
  | r :: rows, xs, h, hone => by
    simp only [Repss] at h
    obtain ⟨x, xs', rfl, h1, h2⟩ := h
    intro e he u hu
    rcases List.mem_cons.1 he with rfl | he
    · obtain ⟨i, hi⟩ := List.mem_iff_getElem?.1 hu
      have hl := h1.length
      have hlt := (List.getElem?_eq_some_iff.1 hi).1
      obtain ⟨v, e1, e2⟩ := h1.get (List.getElem?_eq_getElem (l := r) (i := i) (by omega))
      rw [hi] at e1
      simp only [Option.some.injEq] at e1; subst e1
      exact oneCell_of_fine (e2.fine (hone r (by simp) _ (List.getElem_mem _)))
    · exact rows_one h2 (fun r' hr' => hone r' (by simp [hr'])) e he u hu
theorem setC_rep {s : Hp} {B : Inf} {l new : List PV} {vs nv : List Value} (h : Reps s B l vs) (h' : Reps s B new nv) (o : Nat) : Reps s B (setP l o new) (setC vs o nv) := by
  unfold setP setC
  have hl := h'.length
  rw [hl]
  exact ((h.take o).append h').append (h.drop _)
theorem EnvRep.pushV {s : Hp} {ρp : PEnv} {ρ : Env} (h : EnvRep s ρp ρ) {p : PV} {v : Value} (hp : Rep s (inf ρp.m ρ.m) p v) (h1 : p.one = true) : EnvRep s { ρp with v := ρp.v ++ [p] } (ρ.push [] [] [v]) := by
  have := h.push (r := ([], [], [p])) (vvs := [v]) ⟨⟨v, [], rfl, hp, rfl⟩, by simpa using h1⟩
  simpa [PEnv.push] using this
/-- A new object. -/
theorem EnvRep.newM {s : Hp} {ρp : PEnv} {ρ : Env} (h : EnvRep s ρp ρ) {o : MO} {x : Nat × Obj} (ho : ObjIs s (inf ρp.m ρ.m) o x) : BLe (inf ρp.m ρ.m) (inf (ρp.m ++ [o]) (ρ.m ++ [x])) ∧ EnvRep s { ρp with m := ρp.m ++ [o] } { ρ with m := ρ.m ++ [x] } := by
  have hml := h.m.length
  have hpre : BLe (inf ρp.m ρ.m) (inf (ρp.m ++ [o]) (ρ.m ++ [x])) := by
    refine BLe.pre ⟨[infO o x], ?_⟩
    simp only [inf]
    rw [List.zipWith_append (by omega)]
    rfl
  refine ⟨hpre, h.turn (Hp.le_refl s) hpre ?_⟩
  exact RepM.append (RepM.mono (Hp.le_refl s) hpre _ _ h.m) (repM_cons.2 ⟨x, [], rfl, ho.mono (Hp.le_refl s) hpre, rfl⟩)
/-- An object is turned. -/
theorem EnvRep.setM {s : Hp} {ρp : PEnv} {ρ : Env} (h : EnvRep s ρp ρ) {i : Nat} {o o0 : MO} {x x0 : Nat × Obj} (h0 : ρp.m[i]? = some o0) (h1 : ρ.m[i]? = some x0) (ho : ObjIs s (inf ρp.m ρ.m) o x)
    (hi : infO o x = infO o0 x0 ∨ (1 ≤ (infO o0 x0).2.2 ∧ (infO o0 x0).2.2 < (infO o x).2.2)) : BLe (inf ρp.m ρ.m) (inf (ρp.m.set i o) (ρ.m.set i x)) ∧ EnvRep s { ρp with m := ρp.m.set i o } { ρ with m := ρ.m.set i x } := by
  have hml := h.m.length
  have hlt := (List.getElem?_eq_some_iff.1 h0).1
  have hpre : BLe (inf ρp.m ρ.m) (inf (ρp.m.set i o) (ρ.m.set i x)) := by
    intro j y hj
    by_cases hji : j = i
    · subst hji
      have hI := inf_get h0 h1
      rw [hj] at hI
      simp only [Option.some.injEq] at hI; subst hI
      exact ⟨_, inf_get (o := o) (x := x) (by rw [List.getElem?_set_self hlt]) (by rw [List.getElem?_set_self (by omega)]), hi⟩
    · refine ⟨y, ?_, .inl rfl⟩
      simp only [inf, List.getElem?_zipWith, List.getElem?_set_ne (Ne.symm hji)] at hj ⊢
      exact hj
  exact ⟨hpre, h.turn (Hp.le_refl s) hpre (RepM.set (RepM.mono (Hp.le_refl s) hpre _ _ h.m) hlt (ho.mono (Hp.le_refl s) hpre))⟩
theorem setC_len (l new : List Value) (o : Nat) (h : o + new.length ≤ l.length) : (setC l o new).length = l.length := by
  simp only [setC, List.length_append, List.length_take, List.length_drop]; omega
theorem setP_mem {l new : List PV} {o : Nat} {p : PV} (h : p ∈ setP l o new) : p ∈ l ∨ p ∈ new := by
  simp only [setP, List.mem_append] at h
  rcases h with (h | h) | h
  · exact .inl (List.mem_of_mem_take h)
  · exact .inr h
  · exact .inl (List.mem_of_mem_drop h)
theorem repss_set {s : Hp} {B : Inf} : ∀ {rows : List (List PV)} {xs : List (List Value)} (_ : Repss s B rows xs) (i : Nat) {r : List PV} {x : List Value} (_ : Reps s B r x), Repss s B (rows.set i r) (xs.set i x)
  | [], xs, h, i, r, x, _ => by simp only [Repss] at h; subst h; rfl
  | y :: rows, xs, h, i, r, x, hr => by
    simp only [Repss] at h
    obtain ⟨z, zs, rfl, h1, h2⟩ := h
    cases i with
    | zero => exact ⟨x, zs, rfl, hr, h2⟩
    | succ i => exact ⟨z, _, rfl, h1, repss_set h2 i hr⟩
theorem setC_get (l new : List Value) (o j : Nat) (h : o + new.length ≤ l.length) : (setC l o new)[j]? = if o ≤ j ∧ j < o + new.length then new[j - o]? else l[j]? := by
  simp only [setC, List.getElem?_append, List.length_append, List.length_take, List.getElem?_take, List.getElem?_drop]
  have hm : min o l.length = o := Nat.min_eq_left (by omega)
  rw [hm]
  by_cases h1 : j < o
  · rw [if_pos (by omega), if_pos h1, if_pos h1, if_neg (by omega)]
  · by_cases h2 : j < o + new.length
    · rw [if_pos h2, if_neg h1, if_pos ⟨by omega, h2⟩]
    · rw [if_neg h2, if_neg (by omega)]
      congr 1; omega
theorem flat_set {sz i off : Nat} {xs : List (List Value)} {xv new : List Value} {cur : List Value} (hl : ∀ x ∈ xs, x.length = sz) (hx : xs[i]? = some xv) (hxl : xv.length = sz) (hsl : (setC xv off new).length = sz) (hoff : off + new.length ≤ sz)
    (hpre : ∀ (j : Nat) (u : Value), xs.flatten[j]? = some u → cur[j]? = some u) (hcur : i * sz + sz ≤ cur.length) {j : Nat} {u : Value} (hj : (xs.set i (setC xv off new)).flatten[j]? = some u) : (setC cur (i * sz + off) new)[j]? = some u := by
  have hl' : ∀ x ∈ xs.set i (setC xv off new), x.length = sz := fun x hx' => by
    rcases List.mem_or_eq_of_mem_set hx' with h1 | rfl
    · exact hl x h1
    · exact hsl
  obtain ⟨q, z, r, hq, hz, rfl⟩ := flat_get sz _ hl' j u hj
  have hr : r < sz := by have := (List.getElem?_eq_some_iff.1 hz).1; rw [hl' z (List.mem_of_getElem? hq)] at this; exact this
  rw [setC_get _ _ _ _ (by omega)]
  rw [List.getElem?_set] at hq
  split at hq
  · rename_i hiq
    subst hiq
    split at hq
    case isFalse => cases hq
    simp only [Option.some.injEq] at hq
    subst hq
    rw [setC_get _ _ _ _ (by omega)] at hz
    split at hz
    · rename_i h1
      rw [if_pos (by omega), show i * sz + r - (i * sz + off) = r - off by omega]; exact hz
    · rename_i h1
      rw [if_neg (by omega)]
      exact hpre _ u (flat_of sz xs hl i xv r u hx hz)
  · rename_i hiq
    have hne : ¬ (i * sz + off ≤ q * sz + r ∧ q * sz + r < i * sz + off + new.length) := by
      rintro ⟨h1, h2⟩
      rcases Nat.lt_or_gt_of_ne hiq with h3 | h3
      · have : (i + 1) * sz ≤ q * sz := Nat.mul_le_mul h3 (Nat.le_refl _)
        rw [Nat.add_mul, Nat.one_mul] at this; omega
      · have : (q + 1) * sz ≤ i * sz := Nat.mul_le_mul h3 (Nat.le_refl _)
        rw [Nat.add_mul, Nat.one_mul] at this; omega
    rw [if_neg hne]
    exact hpre _ u (flat_of sz xs hl q z r u hq hz)
theorem comp_vc {Φ : Fns} (hΦ : ∀ f, CtP P f (Φ f)) {B : Inf} {pats : List Cfg} : ∀ (o : Out) (ni nb nv : Nat) (t : PT) (ρp : PEnv) (ρ : Env) (s : Hp) (res : Res), comp pats o ni nb nv = some t → t.ev Φ ρp = some res → EnvRep s ρp ρ → BLe B (inf ρp.m ρ.m) → B.length ≤ ρp.k →
    ρp.i.length = ni → ρp.b.length = nb → ρp.v.length = nv → VC P (QR B res) (TR B pats res) o ρ s
  | .ret gen v H, ni, nb, nv, t, ρp, ρ, s, res, hc, he, h, hB, hk0, l1, l2, l3 => by
    simp only [comp, Option.some.injEq] at hc; subst hc
    simp only [PT.ev, Option.bind_eq_some_iff, Option.map_eq_some_iff] at he
    obtain ⟨p, hp, r, hr, rfl⟩ := he
    intro β s' hs hsh ht
    have h' := h.mono hs
    have hrep := SV.pv_rep h' (ownOf_told h' hsh 3) v p hp
    refine ⟨r.1, r.2, rfl, ?_⟩
    unfold retP at hr
    have hml := h.m.length
    split at hr
    · rename_i hg
      simp only [Option.some.injEq] at hr; subst hr
      have hm : (if gen = true then ρ.m else ρ.m.take ρ.k) = ρ.m := by
        split
        · rfl
        · rename_i hgen
          rcases hg with hg | hg
          · exact absurd hg hgen
          · rw [List.take_of_length_le]; rw [hml, h.k]; omega
      rw [hm]
      exact ⟨hB, hrep, h'.m⟩
    · rename_i hg
      have hgen : gen = false := by cases gen <;> simp_all
      subst hgen
      split at hr
      case isFalse => cases hr
      rename_i hlow
      simp only [Option.map_eq_some_iff] at hr
      obtain ⟨q, hq, rfl⟩ := hr
      simp only [Bool.false_eq_true, if_false]
      have hI : inf (ρp.m.take ρp.k) (ρ.m.take ρ.k) = (inf ρp.m ρ.m).take ρp.k := by rw [← h.k]; exact inf_take _ _ _
      refine ⟨?_, ?_, ?_⟩
      · rw [hI]
        intro i x hx
        obtain ⟨x', h1, h2⟩ := hB i x hx
        have := (List.getElem?_eq_some_iff.1 hx).1
        exact ⟨x', take_get' h1 (by omega), h2⟩
      · rw [hI]
        exact PV.frz_rep (lookF_ok h' (ht rfl) 3) p _ hrep hq
      · rw [hI]
        have := MO.low_rep (k := ρp.k) _ _ (RepM.take ρp.k h'.m) hlow
        rw [h.k]; exact this
  | .ite c x y, ni, nb, nv, t, ρp, ρ, s, res, hc, he, h, hB, hk0, l1, l2, l3 => by
    simp only [comp, Option.bind_eq_some_iff, Option.map_eq_some_iff] at hc
    obtain ⟨tx, hx, ty, hy, rfl⟩ := hc
    simp only [PT.ev] at he
    split at he
    case isFalse => cases he
    rename_i hs
    have hb := BE.pe_den h c hs
    refine ⟨fun hcond => ?_, fun hcond => ?_⟩ <;> rw [hb] at hcond <;> rw [hcond] at he <;> simp only [if_true, Bool.false_eq_true, if_false] at he
    · exact comp_vc hΦ x ni nb nv tx ρp ρ s res hx he h hB hk0 l1 l2 l3
    · exact comp_vc hΦ y ni nb nv ty ρp ρ s res hy he h hB hk0 l1 l2 l3
  | .need c k, ni, nb, nv, t, ρp, ρ, s, res, hc, he, h, hB, hk0, l1, l2, l3 => by
    simp only [comp, Option.map_eq_some_iff] at hc
    obtain ⟨tk, hk, rfl⟩ := hc
    simp only [PT.ev] at he
    split at he
    case isFalse => cases he
    rename_i hs
    split at he
    case isFalse => cases he
    rename_i hcond
    have hb := BE.pe_den h c hs
    exact ⟨by rw [hb]; exact hcond, fun _ => comp_vc hΦ k ni nb nv tk ρp ρ s res hk he h hB hk0 l1 l2 l3⟩
  | .load fl a cs di db dv k, ni, nb, nv, t, ρp, ρ, s, res, hc, he, h, hB, hk0, l1, l2, l3 => by
    simp only [comp, Option.bind_eq_some_iff] at hc
    obtain ⟨ks, hks, hc⟩ := hc
    split at hc
    case isFalse => cases hc
    rename_i hfill
    simp only [Bool.and_eq_true, decide_eq_true_eq] at hfill
    obtain ⟨hf1, hf2⟩ := hfill
    have hf1 := SV.eq_of_beqs _ _ hf1
    simp only [Option.map_eq_some_iff] at hc
    obtain ⟨tk, hk, rfl⟩ := hc
    simp only [PT.ev, Option.bind_eq_some_iff] at he
    obtain ⟨loc, hl, x, hx, r, hr, he⟩ := he
    obtain ⟨hn, vals, hrd, hrep⟩ := read_spec h hl hx
    obtain ⟨vvs, hb, hspec⟩ := bindK_spec ks x vals hr hrep
    obtain ⟨c1, c2⟩ := hspec ni nb nv
    rw [hf2] at c1
    simp only [Prod.mk.injEq] at c1
    obtain ⟨d1, d2, d3⟩ := c1
    have hi : ρ.i.length = ni := by rw [h.i]; exact l1
    have hbl : ρ.b.length = nb := by rw [h.b]; exact l2
    have hvl : ρ.v.length = nv := by rw [h.v.length]; exact l3
    have hden := c2 (ρ.push r.1 r.2.1 vvs) id (At.push hi hbl hvl _ _ _)
    rw [hf1] at hden
    refine ⟨r.1, r.2.1, vvs, by omega, by omega, by omega, hb.fine, by rw [hden]; exact hrd, ?_⟩
    refine comp_vc hΦ k _ _ _ tk _ _ s res hk he (h.push hb) hB hk0 ?_ ?_ ?_
    · simp only [PEnv.push, List.length_append]; omega
    · simp only [PEnv.push, List.length_append]; omega
    · have := hb.1.length; simp only [PEnv.push, List.length_append]; omega
  | .app d src size bytes k, ni, nb, nv, t, ρp, ρ, s, res, hc, he, h, hB, hk0, l1, l2, l3 => by
    simp only [comp] at hc
    split at hc
    case isFalse => cases hc
    rename_i hflat
    simp only [Bool.and_eq_true, decide_eq_true_eq] at hflat
    simp only [Option.map_eq_some_iff] at hc
    obtain ⟨tk, hk, rfl⟩ := hc
    simp only [PT.ev, Option.bind_eq_some_iff] at he
    obtain ⟨xs, hxs, es, hes, he⟩ := he
    split at he
    case isFalse => cases he
    rename_i hlen
    have hd : ∃ xv, DstIs ρ s size xv d ∧ Repss s (inf ρp.m ρ.m) xs xv ∧ ∀ r ∈ xs, ∀ p ∈ r, p.one = true := by
      cases d with
      | none => simp only [Option.some.injEq] at hxs; subst hxs; exact ⟨[], rfl, rfl, by simp⟩
      | some n =>
        simp only [Option.bind_eq_some_iff] at hxs
        obtain ⟨p, h1, h2⟩ := hxs
        obtain ⟨v, _, h3, h4⟩ := h.get h1
        obtain ⟨xv, e1, e2, e3⟩ := rowsOf_spec h4 h2
        exact ⟨xv, by simp only [DstIs, h3]; exact e1, e2, e3⟩
    have hsrc : ∃ ev, SrcIs ρ s size ev src ∧ Repss s (inf ρp.m ρ.m) es ev ∧ ∀ r ∈ es, ∀ p ∈ r, p.one = true := by
      cases src with
      | lit l =>
        simp only [srcRows] at hes
        obtain ⟨a, b⟩ := lit_rows h l hes hflat.1
        exact ⟨_, rfl, a, b⟩
      | va n =>
        simp only [srcRows, Option.bind_eq_some_iff] at hes
        obtain ⟨p, h1, h2⟩ := hes
        obtain ⟨v, _, h3, h4⟩ := h.get h1
        obtain ⟨ev, e1, e2, e3⟩ := rowsOf_spec h4 h2
        exact ⟨ev, ⟨by rw [h3]; exact e1, rows_one e2 e3⟩, e2, e3⟩
    obtain ⟨xv, a1, a2, a3⟩ := hd
    obtain ⟨ev, b1, b2, b3⟩ := hsrc
    have e1 := a2.length
    have e2 := b2.length
    refine ⟨xv, ev, a1, b1, ?_, by simp only [maxLen]; omega, fun v s' hs hsl => ?_⟩
    · rw [e1, e2]
      calc (xs.length + es.length) * bytes ≤ 1000000 * 100000000 := Nat.mul_le_mul hlen hflat.2
        _ ≤ 140737488355328 := by decide
    · refine comp_vc hΦ k _ _ _ tk _ _ s' res hk he ((h.mono hs).pushV (p := .sl size (xs ++ es)) ?_ rfl) hB hk0 l1 l2 (by simp [l3])
      simp only [Rep]
      refine ⟨xv ++ ev, hsl, (Repss.mono hs (BLe.refl _) _ _ a2).append (Repss.mono hs (BLe.refl _) _ _ b2), fun r hr => ?_⟩
      exact (List.mem_append.1 hr).elim (a3 r) (b3 r)
  | .cut n lo hi size k, ni, nb, nv, t, ρp, ρ, s, res, hc, he, h, hB, hk0, l1, l2, l3 => by
    simp only [comp, Option.map_eq_some_iff] at hc
    obtain ⟨tk, hk, rfl⟩ := hc
    simp only [PT.ev, Option.bind_eq_some_iff] at he
    obtain ⟨xs, ⟨p, h1, h2⟩, he⟩ := he
    split at he
    case isFalse => cases he
    rename_i hcond
    obtain ⟨v, _, h3, h4⟩ := h.get h1
    obtain ⟨xv, e1, e2, e3⟩ := rowsOf_spec h4 h2
    have hlo : loOf ρ lo = loPe ρp lo := by cases lo <;> simp only [loOf, loPe, IE.pe_den h]
    have hhi : ∀ n, hiOf ρ hi n = hiPe ρp hi n := by intro n; cases hi <;> simp only [hiOf, hiPe, IE.pe_den h]
    have hl := e2.length
    refine ⟨xv, by rw [h3]; exact e1, by rw [hlo]; exact hcond.1, by rw [hlo, hhi, hl]; exact hcond.2.1, by rw [hhi, hl]; exact hcond.2.2, fun v' hv' => ?_⟩
    refine comp_vc hΦ k _ _ _ tk _ _ s res hk he (h.pushV (p := .sl size ((xs.take (hiPe ρp hi xs.length).toNat).drop (loPe ρp lo).toNat)) ?_ rfl) hB hk0 l1 l2 (by simp [l3])
    rw [hlo, hhi, hl] at hv'
    simp only [Rep]
    exact ⟨_, hv', (e2.take _).drop _, fun r hr => e3 r (List.mem_of_mem_take (List.mem_of_mem_drop hr))⟩
  | .hole .., ni, nb, nv, t, ρp, ρ, s, res, hc, he, h, hB, hk0, l1, l2, l3 => by simp [comp] at hc
  | .fill .., ni, nb, nv, t, ρp, ρ, s, res, hc, he, h, hB, hk0, l1, l2, l3 => by simp [comp] at hc
  | .call f args H rs di db dv k, ni, nb, nv, t, ρp, ρ, s, res, hc, he, h, hB, hk0, l1, l2, l3 => by
    simp only [comp, Option.bind_eq_some_iff] at hc
    obtain ⟨shs, hshs, hc⟩ := hc
    split at hc
    case isFalse => cases hc
    rename_i hfill
    simp only [Bool.and_eq_true, decide_eq_true_eq] at hfill
    obtain ⟨hf1, hf2⟩ := hfill
    have hf1 := SV.eq_of_beq _ _ hf1
    simp only [Option.map_eq_some_iff] at hc
    obtain ⟨tk, hk, rfl⟩ := hc
    simp only [PT.ev, Option.bind_eq_some_iff] at he
    obtain ⟨as, has, ⟨r0, σ'⟩, hΦr, x, hx, he⟩ := he
    intro β s1 hs1 hsh
    have h1 := h.mono hs1
    obtain ⟨_, hct⟩ := hΦ f as ρp.m r0 σ' hΦr
    refine ⟨_, hct s1 ρ.m _ h1.m (SV.pvs_rep h1 (ownOf_told h1 hsh 3) args as has), fun v s' m' hs' hq => ?_⟩
    obtain ⟨hpre, q1, q2⟩ := hq
    obtain ⟨vvs, hb, hspec⟩ := bindRes_spec hx q1
    obtain ⟨c1, c2⟩ := hspec ni nb nv
    rw [hf2] at c1
    simp only [Prod.mk.injEq] at c1
    obtain ⟨d1, d2, d3⟩ := c1
    have hi : ρ.i.length = ni := by rw [h.i]; exact l1
    have hbl : ρ.b.length = nb := by rw [h.b]; exact l2
    have hvl : ρ.v.length = nv := by rw [h.v.length]; exact l3
    have hden := c2 (ρ.push x.1 x.2.1 vvs) id (At.push hi hbl hvl _ _ _)
    rw [hf1] at hden
    have h2 := (h1.turn hs' hpre q2).push (r := x) (vvs := vvs) hb
    refine ⟨x.1, x.2.1, vvs, by omega, by omega, by omega, hb.fine, hden.symm, ?_⟩
    refine comp_vc hΦ k _ _ _ tk _ _ s' res hk he h2 (hB.trans hpre) hk0 ?_ ?_ ?_
    · simp only [PEnv.push, List.length_append]; omega
    · simp only [PEnv.push, List.length_append]; omega
    · have := hb.1.length; simp only [PEnv.push, List.length_append]; omega
  | .callv n args rs di db dv k, ni, nb, nv, t, ρp, ρ, s, res, hc, he, h, hB, hk0, l1, l2, l3 => by
    simp only [comp, Option.bind_eq_some_iff] at hc
    obtain ⟨shs, hshs, hc⟩ := hc
    split at hc
    case isFalse => cases hc
    rename_i hfill
    simp only [Bool.and_eq_true, decide_eq_true_eq] at hfill
    obtain ⟨hf1, hf2⟩ := hfill
    have hf1 := SV.eq_of_beq _ _ hf1
    simp only [Option.map_eq_some_iff] at hc
    obtain ⟨tk, hk, rfl⟩ := hc
    simp only [PT.ev] at he
    split at he
    case h_2 => cases he
    rename_i f cap hf
    simp only [Option.bind_eq_some_iff] at he
    obtain ⟨as, has, ⟨r0, σ'⟩, hΦr, x, hx, he⟩ := he
    obtain ⟨v, _, g1, g2⟩ := h.get hf
    simp only [Rep] at g2
    obtain ⟨caps, rfl, g2⟩ := g2
    obtain ⟨hen, hct⟩ := hΦ f (as ++ cap) ρp.m r0 σ' hΦr
    refine ⟨f, caps.toArray, _, g1, hen, hct s ρ.m _ h.m (by simpa using (SV.pvs_rep h (noOwn_told s _ id) args as has).append g2), fun v s' m' hs' hq => ?_⟩
    obtain ⟨hpre, q1, q2⟩ := hq
    obtain ⟨vvs, hb, hspec⟩ := bindRes_spec hx q1
    obtain ⟨c1, c2⟩ := hspec ni nb nv
    rw [hf2] at c1
    simp only [Prod.mk.injEq] at c1
    obtain ⟨d1, d2, d3⟩ := c1
    have hi : ρ.i.length = ni := by rw [h.i]; exact l1
    have hbl : ρ.b.length = nb := by rw [h.b]; exact l2
    have hvl : ρ.v.length = nv := by rw [h.v.length]; exact l3
    have hden := c2 (ρ.push x.1 x.2.1 vvs) id (At.push hi hbl hvl _ _ _)
    rw [hf1] at hden
    have h2 := (h.turn hs' hpre q2).push (r := x) (vvs := vvs) hb
    refine ⟨x.1, x.2.1, vvs, by omega, by omega, by omega, hb.fine, hden.symm, ?_⟩
    refine comp_vc hΦ k _ _ _ tk _ _ s' res hk he h2 (hB.trans hpre) hk0 ?_ ?_ ?_
    · simp only [PEnv.push, List.length_append]; omega
    · simp only [PEnv.push, List.length_append]; omega
    · have := hb.1.length; simp only [PEnv.push, List.length_append]; omega
  | .newM cs T k, ni, nb, nv, t, ρp, ρ, s, res, hc, he, h, hB, hk0, l1, l2, l3 => by
    simp only [comp, Option.map_eq_some_iff] at hc
    obtain ⟨tk, hk, rfl⟩ := hc
    simp only [PT.ev, Option.bind_eq_some_iff] at he
    obtain ⟨l, hl, he⟩ := he
    intro b hb
    have hr := SV.pvs_rep h (noOwn_told s _ id) cs l hl
    obtain ⟨hpre, h1⟩ := h.newM (o := .cells l T) (x := (b, Obj.cells (SV.dens ρ id cs).toArray T (0, 0))) ⟨_, rfl, hr⟩
    have hml := h.m.length
    have h2 := h1.pushV (p := .ref ρp.m.length 0) (v := .pointer (some ⟨b, 0, none⟩)) (by
      simp only [Rep]
      exact ⟨b, _, inf_get (o := .cells l T) (x := (b, Obj.cells (SV.dens ρ id cs).toArray T (0, 0))) (by simp) (by simp [← hml]), rfl⟩) rfl
    exact comp_vc hΦ k _ _ _ tk _ _ s res hk he h2 (hB.trans hpre) hk0 l1 l2 (by simp [l3])
  | .mkM n zero T size bytes k, ni, nb, nv, t, ρp, ρ, s, res, hc, he, h, hB, hk0, l1, l2, l3 => by
    simp only [comp] at hc
    split at hc
    case isFalse => cases hc
    rename_i hz
    simp only [Option.map_eq_some_iff] at hc
    obtain ⟨tk, hk, rfl⟩ := hc
    simp only [PT.ev, Option.bind_eq_some_iff] at he
    obtain ⟨z, hzp, he⟩ := he
    split at he
    case isFalse => cases he
    rename_i hcond
    obtain ⟨c1, c2, c3⟩ := hcond
    have hn := IE.pe_den h n
    refine ⟨by rw [hn]; exact c1, ?_, by rw [hn]; omega, fun b hb => ?_⟩
    · rw [hn]
      calc n.pe ρp * (bytes : Int) ≤ 1000000 * 100000000 := Int.mul_le_mul c2 (by omega) (by omega) (by omega)
        _ ≤ 140737488355328 := by decide
    · rw [hn]
      have hzl : (SV.dens ρ id zero).length = size := by rw [dens_length]; exact hz
      have hmc : madeCells (SV.dens ρ id zero).toArray ((n.pe ρp).toNat * size) = ((List.replicate (n.pe ρp).toNat (SV.dens ρ id zero)).flatten).toArray := by
        rw [← hzl]; exact madeCells_eq _ _
      rw [hmc]
      have hr := reps_flat (SV.pvs_rep h (noOwn_told s _ id) zero z hzp) (n.pe ρp).toNat
      obtain ⟨hpre, h1⟩ := h.newM (o := .cells (List.replicate (n.pe ρp).toNat z).flatten T) (x := (b, Obj.cells ((List.replicate (n.pe ρp).toNat (SV.dens ρ id zero)).flatten).toArray T (0, 0))) ⟨_, rfl, hr⟩
      have hml := h.m.length
      have h2 := h1.pushV (p := .msl ρp.m.length 0 (n.pe ρp).toNat (n.pe ρp).toNat size) (v := .slice (some ⟨b, 0, none⟩) (n.pe ρp).toNat (n.pe ρp).toNat) (by
        simp only [Rep]
        exact ⟨b, _, inf_get (o := .cells (List.replicate (n.pe ρp).toNat z).flatten T) (x := (b, Obj.cells ((List.replicate (n.pe ρp).toNat (SV.dens ρ id zero)).flatten).toArray T (0, 0))) (by simp) (by simp [← hml]), rfl⟩) rfl
      exact comp_vc hΦ k _ _ _ tk _ _ s res hk he h2 (hB.trans hpre) hk0 l1 l2 (by simp [l3])
  | .storeM a cs k, ni, nb, nv, t, ρp, ρ, s, res, hc, he, h, hB, hk0, l1, l2, l3 => by
    simp only [comp, Option.map_eq_some_iff] at hc
    obtain ⟨tk, hk, rfl⟩ := hc
    simp only [PT.ev] at he
    split at he
    · rename_i hd off hloc
      split at he
      case h_2 => cases he
      rename_i l T hm
      simp only [Option.bind_eq_some_iff] at he
      obtain ⟨new, hnew, he⟩ := he
      split at he
      case isFalse => cases he
      rename_i hle
      obtain ⟨b, vs, g1, g2⟩ := h.m.get hm
      have hI := inf_get hm g1
      have hr := SV.pvs_rep h (noOwn_told s _ id) cs new hnew
      have hnl := hr.length
      rw [dens_length] at hnl
      refine ⟨hd, b, off, vs.toArray, T, g1, loc_obj h hloc hI, by rw [List.size_toArray, g2.length, hnl]; exact hle, ?_⟩
      obtain ⟨hpre, h2⟩ := h.setM (o := .cells (setP l off new) T) (x := (b, Obj.cells (setC vs off (SV.dens ρ id cs)).toArray T (0, 0))) hm g1 ⟨_, rfl, setC_rep g2 hr off⟩ (.inl (by
        simp only [infO, objSize, List.size_toArray, setC_len vs (SV.dens ρ id cs) off (by rw [dens_length, g2.length, hnl]; exact hle)]))
      exact comp_vc hΦ k _ _ _ tk _ _ s res hk he h2 (hB.trans hpre) hk0 l1 l2 l3
    · rename_i hd len i sz off hloc
      split at he
      case h_2 => cases he
      rename_i rows sz' T hm
      split at he
      case isFalse => cases he
      rename_i hc
      obtain ⟨hc1, rfl⟩ := hc
      simp only [Option.bind_eq_some_iff] at he
      obtain ⟨r, hrow, new, hnew, he⟩ := he
      split at he
      case isFalse => cases he
      rename_i hle
      obtain ⟨hle, hone⟩ := hle
      obtain ⟨⟨b, ob⟩, g1, cur, g2, a1, a2, ⟨cap, a3, a3', a3''⟩, a4, xs, a5, a6, a7⟩ := h.m.obj hm
      simp only at g2
      subst g2
      have hI := inf_get hm g1
      simp only [infO, objSize] at hI
      have hI' := hI
      rw [hc1] at hI'
      obtain ⟨hadr, hilt⟩ := loc_elt h hloc hI'
      have hr := SV.pvs_rep h (noOwn_told s _ id) cs new hnew
      have hnl := hr.length
      rw [dens_length] at hnl
      obtain ⟨xv, x1, x2⟩ := a5.get hrow
      have hxl := a6 xv (List.mem_of_getElem? x1)
      have hrl : r.length = sz' := by rw [← x2.length]; exact hxl
      have hlx := a5.length
      have hpos : i * sz' + sz' ≤ cur.size := by
        rw [a3]
        calc i * sz' + sz' = (i + 1) * sz' := by rw [Nat.add_mul, Nat.one_mul]
          _ ≤ cap * sz' := Nat.mul_le_mul (by omega) (Nat.le_refl _)
      refine ⟨hd, b, i * sz' + off, cur, T, g1, hadr, by omega, ?_⟩
      have hset := setC_rep x2 hr off
      have hsl : (setC xv off (SV.dens ρ id cs)).length = sz' := by rw [setC_len _ _ _ (by rw [dens_length]; omega)]; exact hxl
      have hcs : (setC cur.toList (i * sz' + off) (SV.dens ρ id cs)).length = cur.size := by rw [setC_len _ _ _ (by have h9 : cur.toList.length = cur.size := Array.length_toList; rw [dens_length]; omega)]; exact Array.length_toList
      obtain ⟨hpre, h2⟩ := h.setM (o := .row (rows.set i (setP r off new)) sz' T) (x := (b, Obj.cells (setC cur.toList (i * sz' + off) (SV.dens ρ id cs)).toArray T (0, 0))) hm g1
        ⟨_, rfl, by simpa using a1, a2, ⟨cap, by simp only [List.size_toArray, hcs]; exact a3, by simpa using a3', a3''⟩, fun r' hr' p hp => by
          rcases List.mem_or_eq_of_mem_set hr' with h1 | rfl
          · exact a4 r' h1 p hp
          · rcases setP_mem hp with h1 | h1
            · exact a4 r (List.mem_of_getElem? hrow) p h1
            · exact List.all_eq_true.1 hone p h1, xs.set i (setC xv off (SV.dens ρ id cs)), repss_set a5 i hset, fun x hx => by
          rcases List.mem_or_eq_of_mem_set hx with h1 | rfl
          · exact a6 x h1
          · exact hsl, fun j u hj => by
          rw [List.getElem?_toArray]
          exact flat_set a6 x1 hxl hsl (by rw [dens_length]; omega) (fun j u h9 => by rw [Array.getElem?_toList]; exact a7 j u h9) (by simpa using hpos) hj⟩ (.inl (by simp only [infO, objSize, List.size_toArray, hcs, List.length_set]))
      exact comp_vc hΦ k _ _ _ tk _ _ s res hk he h2 (hB.trans hpre) hk0 l1 l2 l3
    · cases he
  | .appM d src size bytes T k, ni, nb, nv, t, ρp, ρ, s, res, hc, he, h, hB, hk0, l1, l2, l3 => by
    simp only [comp] at hc
    split at hc
    case isFalse => cases hc
    rename_i hflat
    simp only [Bool.and_eq_true, decide_eq_true_eq] at hflat
    obtain ⟨⟨⟨⟨hfl, hsl⟩, hby⟩, hpos⟩, hdf⟩ := hflat
    simp only [Option.map_eq_some_iff] at hc
    obtain ⟨tk, hk, rfl⟩ := hc
    simp only [PT.ev, Option.bind_eq_some_iff] at he
    obtain ⟨p, hp, es, hes, he⟩ := he
    have hpr := SV.pv_rep (t := s) (β := id) h (noOwn_told s _ id) d p hp
    have hpo := flat_one' h hdf hp
    have hsrc : ∃ ev, SrcIs ρ s size ev src ∧ Repss s (inf ρp.m ρ.m) es ev ∧ (∀ r ∈ es, ∀ p ∈ r, p.one = true) ∧ ∀ x ∈ ev, x.length = size := by
      cases src with
      | lit l =>
        simp only [srcRows] at hes
        obtain ⟨a, b⟩ := lit_rows h l hes hfl
        refine ⟨_, rfl, a, b, fun x hx => ?_⟩
        obtain ⟨y, hy, rfl⟩ := List.mem_map.1 hx
        rw [dens_length]
        simpa using List.all_eq_true.1 hsl y hy
      | va n =>
        simp only [srcRows, Option.bind_eq_some_iff] at hes
        obtain ⟨p, h1, h2⟩ := hes
        obtain ⟨v, _, h3, h4⟩ := h.get h1
        obtain ⟨ev, e1, e2, e3⟩ := rowsOf_spec h4 h2
        exact ⟨ev, ⟨by rw [h3]; exact e1, rows_one e2 e3⟩, e2, e3, e1.1⟩
    obtain ⟨ev, b1, b2, b3, b4⟩ := hsrc
    have e2 := b2.length
    have hml := h.m.length
    have bnd : ∀ n : Nat, n ≤ 1000000 → n * bytes ≤ 140737488355328 := fun n hn =>
      calc n * bytes ≤ 1000000 * 100000000 := Nat.mul_le_mul hn hby
        _ ≤ 140737488355328 := by decide
    split at he
    ·
      split at he
      case isFalse => cases he
      rename_i hlen
      simp only [Rep] at hpr
      refine ⟨ρ.m.length, [], ev, by simp, .inl ⟨rfl, rfl, hpr⟩, b1, by simpa [e2] using bnd _ hlen, by simp only [maxLen, List.length_nil, e2]; omega, fun h0 => ?_, fun h0 b' cap' cur' f1 f2 f3 f4 f5 => ?_⟩
      · have hz : es.length = 0 := by rw [← e2, h0]; rfl
        rw [if_pos hz] at he
        exact comp_vc hΦ k _ _ _ tk _ _ s res hk he (h.pushV (p := .nilS) (by simp only [Rep]; exact hpr) rfl) hB hk0 l1 l2 (by simp [l3])
      · have hz : ¬ es.length = 0 := by rw [← e2]; simpa using h0
        rw [if_neg hz] at he
        simp only [Nat.lt_irrefl, if_false, List.length_nil, Nat.zero_add, List.nil_append] at f2 f5 ⊢
        obtain ⟨hpre, h1⟩ := h.newM (o := .row es size T) (x := (b', Obj.cells cur' T (0, 0))) ⟨cur', rfl, by intro h9; rw [h9] at hz; simp at hz, hpos, ⟨cap', f4, by omega, f3⟩, b3, ev, b2, b4, f5⟩
        have hI := inf_get (σ := ρp.m ++ [.row es size T]) (m := ρ.m ++ [(b', Obj.cells cur' T (0, 0))]) (i := ρp.m.length) (o := .row es size T) (x := (b', Obj.cells cur' T (0, 0))) (by simp) (by simp [← hml])
        have h2 := h1.pushV (p := .rsl ρp.m.length es.length size) (v := .slice (some ⟨b', 0, none⟩) ev.length cap') (by
          simp only [Rep]
          refine ⟨by omega, b', cap', by rw [e2], b', _, _, hI, Nat.le_refl _, fun _ => ⟨rfl, f4, by omega⟩⟩) rfl
        exact comp_vc hΦ k _ _ _ tk _ _ s res hk he h2 (hB.trans hpre) hk0 l1 l2 (by simp [l3])
    ·
      rename_i hd len sz
      split at he
      case h_2 => cases he
      rename_i rows sz' T' hm
      split at he
      case isFalse => cases he
      rename_i hc
      obtain ⟨hc1, hs1, hs2, hs3, hc5⟩ := hc
      have hs1 := hs1.symm
      have hs2 := hs2.symm
      have hs3 := hs3.symm
      subst hs1 hs2 hs3
      obtain ⟨⟨b, ob⟩, g1, cur, g2, a1, a2, ⟨cap, a3, a3', a3''⟩, a4, xs, a5, a6, a7⟩ := h.m.obj hm
      simp only at g2
      subst g2
      have hI := inf_get hm g1
      simp only [infO, objSize] at hI
      have hlx := a5.length
      have hpr0 := hpr
      simp only [Rep] at hpr
      obtain ⟨hlen0, b1', cap1, hdv, b2', n2, r2, k1, k2, k3⟩ := hpr
      rw [hI] at k1
      simp only [Option.some.injEq, Prod.mk.injEq] at k1
      obtain ⟨rfl, rfl, rfl⟩ := k1
      obtain ⟨rfl, k4, k5⟩ := k3 hc1
      have hcc : cap1 = cap := by rw [a3] at k4; exact (Nat.eq_of_mul_eq_mul_right a2 k4).symm
      subst hcc
      have hltm := (List.getElem?_eq_some_iff.1 g1).1
      refine ⟨hd, xs, ev, a6,   .inr ⟨_, cap1, cur, by rw [hdv, hlx, hc1], g1, by omega, a3'', a3, a7⟩, b1, by rw [hlx, hc1, e2]; exact bnd _ hc5, by simp only [maxLen]; omega, fun h0 => ?_, fun h0 b' cap' cur' f1 f2 f3 f4 f5 => ?_⟩
      · have hz : es.length = 0 := by rw [← e2, h0]; rfl
        rw [if_pos hz] at he
        exact comp_vc hΦ k _ _ _ tk _ _ s res hk he (h.pushV hpr0 rfl) hB hk0 l1 l2 (by simp [l3])
      · have hz : ¬ es.length = 0 := by rw [← e2]; simpa using h0
        rw [if_neg hz] at he
        rw [if_pos hltm]
        have hall : ∀ x ∈ xs ++ ev, x.length = size := fun x hx => (List.mem_append.1 hx).elim (a6 x) (b4 x)
        obtain ⟨hpre, h1⟩ := h.setM (o := .row (rows ++ es) size T) (x := (b', Obj.cells cur' T (0, 0))) hm g1
          ⟨cur', rfl, by simp [a1], a2, ⟨cap', f4, by simp only [List.length_append]; omega, f3⟩, fun r hr => (List.mem_append.1 hr).elim (a4 r) (b3 r), xs ++ ev, a5.append b2, hall, f5⟩
          (.inr (by simp only [infO, List.length_append]; omega))
        have hI2 := inf_get (σ := ρp.m.set hd (.row (rows ++ es) size T)) (m := ρ.m.set hd (b', Obj.cells cur' T (0, 0))) (i := hd) (o := .row (rows ++ es) size T) (x := (b', Obj.cells cur' T (0, 0)))
          (by rw [List.getElem?_set_self (by omega)]) (by rw [List.getElem?_set_self hltm])
        simp only [infO, objSize, List.length_append] at hI2
        have h2 := h1.pushV (p := .rsl hd (len + es.length) size) (v := .slice (some ⟨b', 0, none⟩) (xs.length + ev.length) cap') (by
          simp only [Rep]
          refine ⟨by omega, b', cap', by rw [hlx, hc1, e2], b', _, _, hI2, by omega, fun _ => ⟨rfl, f4, by omega⟩⟩) rfl
        exact comp_vc hΦ k _ _ _ tk _ _ s res hk he h2 (hB.trans hpre) hk0 l1 l2 (by simp [l3])
    · cases he
  | .both x y, ni, nb, nv, t, ρp, ρ, s, res, hc, he, h, hB, hk0, l1, l2, l3 => by
    simp only [comp, Option.bind_eq_some_iff, Option.map_eq_some_iff] at hc
    obtain ⟨tx, hx, ty, hy, rfl⟩ := hc
    simp only [PT.ev, Option.bind_eq_some_iff] at he
    obtain ⟨r, h1, r', h2, he⟩ := he
    split at he
    case isFalse => cases he
    rename_i hbeq
    have hrr := Res.beq_eq hbeq
    subst hrr
    simp only [Option.some.injEq] at he; subst he
    exact ⟨comp_vc hΦ x ni nb nv tx ρp ρ s _ hx h1 h hB hk0 l1 l2 l3, comp_vc hΦ y ni nb nv ty ρp ρ s _ hy h2 h hB hk0 l1 l2 l3⟩
  | .stop g, ni, nb, nv, t, ρp, ρ, s, res, hc, he, h, hB, hk0, l1, l2, l3 => by
    simp only [comp, Option.map_eq_some_iff] at hc
    obtain ⟨⟨q, A⟩, hq, rfl⟩ := hc
    simp only [PT.ev, Option.bind_eq_some_iff, Option.map_eq_some_iff] at he
    obtain ⟨b, hb, v, hv, rfl⟩ := he
    obtain ⟨t, _, h2, h3, h4⟩ := findJ_spec pats 0 hq
    have hflat : A.vs.all SV.flat = true := by
      have h3' := h3
      unfold Sx.fits at h3'
      simp only [Bool.and_eq_true] at h3'
      exact h3'.1.2
    refine ⟨q, A, t, _, rfl, hB, by simpa using h2, h4, h3, fun js => ⟨?_, ?_, ?_, h.m, h.k, ?_⟩⟩
    · exact List.map_congr_left (fun e _ => IE.pe_den h e)
    · exact BE.all_spec h _ hb
    · exact SV.pvs_rep h (noOwn_told s _ id) _ v hv
    · exact pvs_one h _ hv hflat
  | .fail _, ni, nb, nv, t, ρp, ρ, s, res, hc, he, h, hB, hk0, l1, l2, l3 => by simp [comp] at hc
/-- The number of objects handed in is kept. -/
theorem PT.ev_k {Φ : Fns} : ∀ {t : PT} {ρ : PEnv} {q : Nat} {ρ' : PEnv}, t.ev Φ ρ = some (.jump q ρ') → ρ'.k = ρ.k
  | .ret .., ρ, q, ρ', h => by
    simp only [PT.ev, Option.bind_eq_some_iff, Option.map_eq_some_iff] at h
    obtain ⟨_, _, _, _, h⟩ := h; cases h
  | .ite c x y, ρ, q, ρ', h => by
    simp only [PT.ev] at h
    split at h
    · split at h
      · have h9 := PT.ev_k h; exact h9
      · have h9 := PT.ev_k h; exact h9
    · cases h
  | .need c k, ρ, q, ρ', h => by
    simp only [PT.ev] at h
    split at h
    · split at h
      · have h9 := PT.ev_k h; exact h9
      · cases h
    · cases h
  | .load .., ρ, q, ρ', h => by
    simp only [PT.ev, Option.bind_eq_some_iff] at h
    obtain ⟨_, _, _, _, _, _, h⟩ := h; have h9 := PT.ev_k h; exact h9
  | .app .., ρ, q, ρ', h => by
    simp only [PT.ev, Option.bind_eq_some_iff] at h
    obtain ⟨_, _, _, _, h⟩ := h
    split at h
    · have h9 := PT.ev_k h; exact h9
    · cases h
  | .cut .., ρ, q, ρ', h => by
    simp only [PT.ev, Option.bind_eq_some_iff] at h
    obtain ⟨_, _, h⟩ := h
    split at h
    · have h9 := PT.ev_k h; exact h9
    · cases h
  | .call .., ρ, q, ρ', h => by
    simp only [PT.ev, Option.bind_eq_some_iff] at h
    obtain ⟨_, _, _, _, _, _, h⟩ := h; have h9 := PT.ev_k h; exact h9
  | .callv .., ρ, q, ρ', h => by
    simp only [PT.ev] at h
    split at h
    · simp only [Option.bind_eq_some_iff] at h
      obtain ⟨_, _, _, _, _, _, h⟩ := h; have h9 := PT.ev_k h; exact h9
    · cases h
  | .newM .., ρ, q, ρ', h => by
    simp only [PT.ev, Option.bind_eq_some_iff] at h
    obtain ⟨_, _, h⟩ := h; have h9 := PT.ev_k h; exact h9
  | .mkM .., ρ, q, ρ', h => by
    simp only [PT.ev, Option.bind_eq_some_iff] at h
    obtain ⟨_, _, h⟩ := h
    split at h
    · have h9 := PT.ev_k h; exact h9
    · cases h
  | .storeM .., ρ, q, ρ', h => by
    simp only [PT.ev] at h
    split at h
    · split at h
      · simp only [Option.bind_eq_some_iff] at h
        obtain ⟨_, _, h⟩ := h
        split at h
        · have h9 := PT.ev_k h; exact h9
        · cases h
      · cases h
    · split at h
      · split at h
        · simp only [Option.bind_eq_some_iff] at h
          obtain ⟨_, _, _, _, h⟩ := h
          split at h
          · have h9 := PT.ev_k h; exact h9
          · cases h
        · cases h
      · cases h
    · cases h
  | .appM .., ρ, q, ρ', h => by
    simp only [PT.ev, Option.bind_eq_some_iff] at h
    obtain ⟨_, _, _, _, h⟩ := h
    split at h
    · split at h
      · split at h
        · have h9 := PT.ev_k h; exact h9
        · have h9 := PT.ev_k h; exact h9
      · cases h
    · split at h
      · split at h
        · split at h
          · have h9 := PT.ev_k h; exact h9
          · have h9 := PT.ev_k h; exact h9
        · cases h
      · cases h
    · cases h
  | .both x y, ρ, q, ρ', h => by
    simp only [PT.ev, Option.bind_eq_some_iff] at h
    obtain ⟨r, h1, _, _, h⟩ := h
    split at h
    · simp only [Option.some.injEq] at h; subst h; exact PT.ev_k h1
    · cases h
  | .jump .., ρ, q, ρ', h => by
    simp only [PT.ev, Option.bind_eq_some_iff, Option.map_eq_some_iff] at h
    obtain ⟨_, _, _, _, h⟩ := h
    cases h; rfl
/-- A function's trees are those that the executor prints. -/
structure SysOk (P : Program) (f : FuncId) (S : Sys) : Prop where
  ct : ∀ Φ : Fns, (∀ f, CtP P f (Φ f)) → ∀ n, CtP P f (S.run Φ n)
theorem headOk_spec {t : Cfg} (h : headOk t = true) : ∀ p d ks k, t.todo ≠ .dreg p d ks :: k := by
  intro p d ks k he
  simp [headOk, he] at h
theorem sys_ok {c : Ctx} {f : FuncId} {fnc : Func} (hP : ProgOk P c) (hf : P.funcs[f]? = some fnc) (hen : ∀ args w, (callFunc f args).run P w = .ok (.enter f args) w) (hb : fnc.body.isSome = true)
    (pats : List Cfg) (S : Sys) (fuel : Nat) {ni nb nv : Nat} {args : List SV} (hargs : fillPs S.ps 0 0 0 = (args, ni, nb, nv))
    (h0 : comp pats (run c (fnOf fnc) fuel (startCfg fnc.ntmps args ni nb nv)) ni nb nv = some S.start)
    (h1 : pats.mapM (fun g => comp pats (run c (fnOf fnc) fuel g) g.ni g.nb g.nv) = some S.loops) : SysOk P f S where
  ct Φ hΦ n as σ r σ' hrun := by
    refine ⟨hen, fun s m vs hm hvs => ?_⟩
    have hbody : fnc.body = some (fnOf fnc).body := by
      cases hb' : fnc.body with
      | none => rw [hb'] at hb; cases hb
      | some x => simp [fnOf, hb']
    unfold Sys.run at hrun
    simp only [Option.bind_eq_some_iff] at hrun
    obtain ⟨x, hx, res, hres, hfin⟩ := hrun
    obtain ⟨vvs, hbd, hspec⟩ := bindPs_spec S.ps as vs hx hvs
    obtain ⟨c1, c2⟩ := hspec 0 0 0
    rw [hargs] at c1 c2
    simp only [Nat.zero_add, Prod.mk.injEq] at c1
    obtain ⟨d1, d2, d3⟩ := c1
    let ρ : Env := { i := x.1, b := x.2.1, v := vvs, j := [], m := m, k := m.length }
    have hat : At ρ 0 0 0 x.1 x.2.1 vvs := ⟨fun j z h => by simpa [ρ] using h, fun j z h => by simpa [ρ] using h, fun j z h => by simpa [ρ] using h⟩
    have hden : SV.dens ρ id args = vs := c2 ρ id hat
    have hrep : EnvRep s { i := x.1, b := x.2.1, v := x.2.2, m := σ, k := σ.length } ρ := ⟨rfl, rfl, hbd.1, hm, hm.length, hbd.2⟩
    rw [← hden]
    have hvl := hbd.1.length
    refine ct_run (ρ := ρ) hP hf hbody rfl fuel hrep.ok rfl rfl (fun w0 => ?_)
    have hl1 : ρ.i.length = ni := d1.symm
    have hl2 : ρ.b.length = nb := d2.symm
    have hl3 : ρ.v.length = nv := d3.symm
    rw [hl1, hl2, hl3]
    have hpat : ∀ (q : Nat) (t : Cfg), pats[q]? = some t → ∃ pt, S.loops[q]? = some pt ∧ comp pats (run c (fnOf fnc) fuel t) t.ni t.nb t.nv = some pt := fun q t hq => (mapM_opt h1).2 q t hq
    have loops : ∀ (n q : Nat) (ρp : PEnv), S.loop Φ n q ρp = some (r, σ') → ∀ (t : Cfg) (ρ1 : Env) (s1 : Hp), pats[q]? = some t → EnvRep s1 ρp ρ1 → BLe (inf σ m) (inf ρp.m ρ1.m) → σ.length ≤ ρp.k → ρp.i.length = t.ni → ρp.b.length = t.nb → ρp.v.length = t.nv →
        Reach P f (Ret (QF (inf σ m) r σ') s m w0) (fnOf fnc).body w0 s m t ρ1 s1 := by
      intro n
      induction n with
      | zero => intro q ρp h; simp [Sys.loop] at h
      | succ n ih =>
        intro q ρp h t ρ1 s1 hq he hB hk0 e1 e2 e3
        simp only [Sys.loop, Option.bind_eq_some_iff] at h
        obtain ⟨pt, hpt, res, hres, h⟩ := h
        obtain ⟨pt', hpt', hcomp⟩ := hpat q t hq
        rw [hpt] at hpt'
        simp only [Option.some.injEq] at hpt'; subst hpt'
        have hIl : (inf σ m).length ≤ ρp.k := by rw [inf_length hm]; exact hk0
        have hvc := comp_vc (B := inf σ m) hΦ _ _ _ _ pt ρp ρ1 s1 res hcomp hres he hB hIl e1 e2 e3
        refine run_sound (T := TR (inf σ m) pats res) (Q := QF (inf σ m) r σ') hP hf rfl ?_ fuel t ρ1 s1 (VC.mono ?_ (fun _ _ _ h => h) _ _ _ hvc)
        · rintro g ρ2 s2 ⟨q', A, t', ρp', rfl, hB', hq', hho, hfit, hE⟩
          simp only at h
          refine reach_fit hfit (headOk_spec hho) (fun js _ => ?_)
          have hfit1 := hfit
          unfold Sx.fits at hfit1
          simp only [Bool.and_eq_true, beq_iff_eq] at hfit1
          have hE' := hE js
          have a1 := hE'.i
          have a2 := hE'.b
          have a3 := hE'.v.length
          refine ih q' ρp' h t' _ s2 hq' hE' hB' (by have := PT.ev_k hres; omega) ?_ ?_ ?_
          · rw [← a1]; simp only [List.length_map]; have := hfit1.1.1.1.1.1.1.1.1.1.2; omega
          · rw [← a2]; simp only [List.length_map]; have := hfit1.1.1.1.1.1.1.1.1.2; omega
          · rw [← a3]; simp only [dens_length]; have := hfit1.1.1.1.1.1.1.1.2; omega
        · rintro v s' m' ⟨r', σ'', rfl, hqf⟩
          simp only [Option.some.injEq, Prod.mk.injEq] at h
          obtain ⟨rfl, rfl⟩ := h
          exact hqf
    have hvc := comp_vc (B := inf σ m) hΦ _ _ _ _ S.start _ ρ s res h0 hres hrep (BLe.refl _) (by rw [inf_length hm]; exact Nat.le_refl _) d1.symm d2.symm (by simp only; omega)
    refine VC.mono ?_ ?_ _ _ _ hvc
    · rintro v s' m' ⟨r', σ'', rfl, hqf⟩
      simp only [Option.some.injEq, Prod.mk.injEq] at hfin
      obtain ⟨rfl, rfl⟩ := hfin
      exact hqf
    · rintro g ρ2 s2 ⟨q', A, t', ρp', rfl, hB', hq', hho, hfit, hE⟩
      simp only at hfin
      refine reach_fit hfit (headOk_spec hho) (fun js _ => ?_)
      have hfit1 := hfit
      unfold Sx.fits at hfit1
      simp only [Bool.and_eq_true, beq_iff_eq] at hfit1
      have hE' := hE js
      have a1 := hE'.i
      have a2 := hE'.b
      have a3 := hE'.v.length
      refine loops n q' ρp' hfin t' _ s2 hq' hE' hB' (by have := PT.ev_k hres; simp only at this; omega) ?_ ?_ ?_
      · rw [← a1]; simp only [List.length_map]; have := hfit1.1.1.1.1.1.1.1.1.1.2; omega
      · rw [← a2]; simp only [List.length_map]; have := hfit1.1.1.1.1.1.1.1.1.2; omega
      · rw [← a3]; simp only [dens_length]; have := hfit1.1.1.1.1.1.1.1.2; omega
/-- A whole table. -/
theorem evalF_good {Tab : Nat → Option Sys} (hT : ∀ f S, Tab f = some S → SysOk P f S) : ∀ n f, CtP P f (evalF Tab n f)
  | 0, f => fun as σ r σ' h => by simp [evalF] at h
  | n + 1, f => fun as σ r σ' h => by
    simp only [evalF, Option.bind_eq_some_iff] at h
    obtain ⟨S, hS, h⟩ := h
    exact (hT f S hS).ct _ (evalF_good hT n) n as σ r σ' h
end Go.Sx
