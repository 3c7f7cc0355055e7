/- TX: what the trees compute over plain values is what the machine does: the parts. -/
import Derived.Test.YtbmfegliomkkfaaHTxU
set_option linter.unusedSimpArgs false
set_option linter.unusedVariables false
namespace Go.Sx
open Go.RowKit
def QF (B : Inf) (r : PV) (σ : List MO) : Value → Hp → MS → Prop := fun v s m => BLe B (inf σ m) ∧ Rep s (inf σ m) r v ∧ RepM s (inf σ m) σ m
/-- A function's contract over plain values. -/
def CtP (P : Program) (f : Nat) (F : List PV → List MO → Option (PV × List MO)) : Prop :=
  ∀ as σ r σ', F as σ = some (r, σ') → (∀ args w, (callFunc f args).run P w = .ok (.enter f args) w) ∧
    ∀ s m vs, RepM s (inf σ m) σ m → Reps s (inf σ m) as vs → Ct P f vs s m (QF (inf σ m) r σ')
/-- The environment has these atoms from there on. -/
structure At (e : Env) (ni nb nv : Nat) (is : List Int) (bs : List Bool) (vs : List Value) : Prop where
  i : ∀ j z, is[j]? = some z → e.i[ni + j]? = some z
  b : ∀ j z, bs[j]? = some z → e.b[nb + j]? = some z
  v : ∀ j z, vs[j]? = some z → e.v[nv + j]? = some z
theorem At.push {ρ : Env} {ni nb nv : Nat} (h1 : ρ.i.length = ni) (h2 : ρ.b.length = nb) (h3 : ρ.v.length = nv) (is : List Int) (bs : List Bool) (vs : List Value) : At (ρ.push is bs vs) ni nb nv is bs vs := by
  subst h1 h2 h3
  refine ⟨fun j z h => ?_, fun j z h => ?_, fun j z h => ?_⟩ <;> simp only [Env.push] <;> rw [List.getElem?_append_right (by omega)] <;> simpa using h
theorem At.split {e : Env} {ni nb nv : Nat} {is is' : List Int} {bs bs' : List Bool} {vs vs' : List Value} (h : At e ni nb nv (is ++ is') (bs ++ bs') (vs ++ vs')) :
    At e ni nb nv is bs vs ∧ At e (ni + is.length) (nb + bs.length) (nv + vs.length) is' bs' vs' := by
  refine ⟨⟨fun j z k => h.i j z ?_, fun j z k => h.b j z ?_, fun j z k => h.v j z ?_⟩, ⟨fun j z k => ?_, fun j z k => ?_, fun j z k => ?_⟩⟩
  · rw [List.getElem?_append_left (List.getElem?_eq_some_iff.1 k).1]; exact k
  · rw [List.getElem?_append_left (List.getElem?_eq_some_iff.1 k).1]; exact k
  · rw [List.getElem?_append_left (List.getElem?_eq_some_iff.1 k).1]; exact k
  · rw [Nat.add_assoc]; exact h.i _ z (by rw [List.getElem?_append_right (by omega)]; simpa using k)
  · rw [Nat.add_assoc]; exact h.b _ z (by rw [List.getElem?_append_right (by omega)]; simpa using k)
  · rw [Nat.add_assoc]; exact h.v _ z (by rw [List.getElem?_append_right (by omega)]; simpa using k)
theorem getD_of {α : Type} {l : List α} {n : Nat} {d z : α} (h : l[n]? = some z) : l.getD n d = z := by simp [List.getD_eq_getElem?_getD, h]
abbrev Bound (s : Hp) (B : Inf) (r : List Int × List Bool × List PV) (vvs : List Value) : Prop := Reps s B r.2.2 vvs ∧ ∀ p ∈ r.2.2, p.one = true
theorem Bound.fine {s : Hp} {B : Inf} {r : List Int × List Bool × List PV} {vvs : List Value} (h : Bound s B r vvs) : vvs.all fineV = true := by
  rw [List.all_eq_true]
  intro x hx
  obtain ⟨i, hi⟩ := List.mem_iff_getElem?.1 hx
  have hl := h.1.length
  have hlt := (List.getElem?_eq_some_iff.1 hi).1
  obtain ⟨v, h1, h2⟩ := h.1.get (List.getElem?_eq_getElem (l := r.2.2) (i := i) (by omega))
  rw [hi] at h1
  simp only [Option.some.injEq] at h1
  subst h1
  exact h2.fine (h.2 _ (List.getElem_mem _))
section
variable {s : Hp} {B : Inf}
theorem bindK_spec : ∀ (ks : List Kd) (l : List PV) {r} (xs : List Value), bindK ks l = some r → Reps s B l xs → ∃ vvs, Bound s B r vvs ∧ ∀ ni nb nv,
    (fillK ks ni nb nv).2 = (ni + r.1.length, nb + r.2.1.length, nv + vvs.length) ∧ ∀ (e : Env) (β : Nat → Nat), At e ni nb nv r.1 r.2.1 vvs → SV.dens e β (fillK ks ni nb nv).1 = xs
  | [], [], r, xs, h, k => by
    simp only [bindK, Option.some.injEq] at h; subst h
    simp only [Reps] at k; subst k
    exact ⟨[], ⟨rfl, by simp⟩, fun ni nb nv => ⟨by simp [fillK], fun e β _ => rfl⟩⟩
  | .int kd :: ks, p :: l, r, xs, h, k => by
    cases p <;> simp only [bindK, reduceCtorEq] at h
    rename_i kd' z
    split at h
    case isFalse => cases h
    rename_i hk
    subst hk
    simp only [Option.map_eq_some_iff] at h
    obtain ⟨r', h1, rfl⟩ := h
    simp only [Reps] at k
    obtain ⟨v, xs', rfl, hv, k⟩ := k
    simp only [Rep] at hv; subst hv
    obtain ⟨vvs, b1, b2⟩ := bindK_spec ks l xs' h1 k
    refine ⟨vvs, b1, fun ni nb nv => ?_⟩
    obtain ⟨c1, c2⟩ := b2 (ni + 1) nb nv
    refine ⟨by simp only [fillK, c1, List.length_cons]; congr 1; omega, fun e β ha => ?_⟩
    simp only [fillK, SV.dens, SV.den, IE.den]
    have h0 := ha.i 0 z rfl
    rw [Nat.add_zero] at h0
    rw [getD_of h0, c2 e β ⟨fun j y hj => by have := ha.i (j + 1) y (by simpa using hj); rw [show ni + (j + 1) = ni + 1 + j by omega] at this; exact this, ha.b, ha.v⟩]
  | .bool :: ks, p :: l, r, xs, h, k => by
    cases p <;> simp only [bindK, reduceCtorEq] at h
    rename_i z
    simp only [Option.map_eq_some_iff] at h
    obtain ⟨r', h1, rfl⟩ := h
    simp only [Reps] at k
    obtain ⟨v, xs', rfl, hv, k⟩ := k
    simp only [Rep] at hv; subst hv
    obtain ⟨vvs, b1, b2⟩ := bindK_spec ks l xs' h1 k
    refine ⟨vvs, b1, fun ni nb nv => ?_⟩
    obtain ⟨c1, c2⟩ := b2 ni (nb + 1) nv
    refine ⟨by simp only [fillK, c1, List.length_cons, Prod.mk.injEq, true_and, and_true]; omega, fun e β ha => ?_⟩
    simp only [fillK, SV.dens, SV.den, BE.den]
    have h0 := ha.b 0 z rfl
    rw [Nat.add_zero] at h0
    rw [getD_of h0, c2 e β ⟨ha.i, fun j y hj => by have := ha.b (j + 1) y (by simpa using hj); rw [show nb + (j + 1) = nb + 1 + j by omega] at this; exact this, ha.v⟩]
  | .val :: ks, p :: l, r, xs, h, k => by
    simp only [bindK] at h
    split at h
    case isFalse => cases h
    rename_i hone
    simp only [Option.map_eq_some_iff] at h
    obtain ⟨r', h1, rfl⟩ := h
    simp only [Reps] at k
    obtain ⟨v, xs', rfl, hv, k⟩ := k
    obtain ⟨vvs, b1, b2⟩ := bindK_spec ks l xs' h1 k
    refine ⟨v :: vvs, ⟨⟨v, vvs, rfl, hv, b1.1⟩, fun q hq => ?_⟩, fun ni nb nv => ?_⟩
    · rcases List.mem_cons.1 hq with rfl | hq
      · exact hone
      · exact b1.2 q hq
    obtain ⟨c1, c2⟩ := b2 ni nb (nv + 1)
    refine ⟨by simp only [fillK, c1, List.length_cons, Prod.mk.injEq, true_and]; omega, fun e β ha => ?_⟩
    simp only [fillK, SV.dens, SV.den]
    have h0 := ha.v 0 v rfl
    rw [Nat.add_zero] at h0
    rw [getD_of h0, c2 e β ⟨ha.i, ha.b, fun j y hj => by have := ha.v (j + 1) y (by simpa using hj); rw [show nv + (j + 1) = nv + 1 + j by omega] at this; exact this⟩]
  | [], _ :: _, r, xs, h, _ => by simp [bindK] at h
  | .int _ :: _, [], r, xs, h, _ => by simp [bindK] at h
  | .bool :: _, [], r, xs, h, _ => by simp [bindK] at h
  | .val :: _, [], r, xs, h, _ => by simp [bindK] at h
theorem bind1_spec {sh : Sh} {p : PV} {r} {x : Value} (h : bind1 sh p = some r) (k : Rep s B p x) : ∃ vvs, Bound s B r vvs ∧ ∀ ni nb nv,
    (fillSh [sh] ni nb nv).2 = (ni + r.1.length, nb + r.2.1.length, nv + vvs.length) ∧ ∀ (e : Env) (β : Nat → Nat), At e ni nb nv r.1 r.2.1 vvs → SV.dens e β (fillSh [sh] ni nb nv).1 = [x] := by
  cases sh with
  | one kd =>
    simp only [bind1] at h
    obtain ⟨vvs, b1, b2⟩ := bindK_spec [kd] [p] [x] h ⟨x, [], rfl, k, rfl⟩
    refine ⟨vvs, b1, fun ni nb nv => ?_⟩
    obtain ⟨c1, c2⟩ := b2 ni nb nv
    refine ⟨by simp only [fillSh]; exact c1, fun e β ha => ?_⟩
    simp only [fillSh, List.append_nil]
    exact c2 e β ha
  | agg ks =>
    cases p <;> simp only [bind1, reduceCtorEq] at h
    rename_i l
    simp only [Rep] at k
    obtain ⟨xs, rfl, k⟩ := k
    obtain ⟨vvs, b1, b2⟩ := bindK_spec ks l xs h k
    refine ⟨vvs, b1, fun ni nb nv => ?_⟩
    obtain ⟨c1, c2⟩ := b2 ni nb nv
    refine ⟨by simp only [fillSh]; exact c1, fun e β ha => ?_⟩
    simp only [fillSh, SV.dens, SV.den, c2 e β ha]
theorem fillSh_cons (sh : Sh) (shs : List Sh) (a b c : Nat) : fillSh (sh :: shs) a b c =
    ((fillSh [sh] a b c).1 ++ (fillSh shs (fillSh [sh] a b c).2.1 (fillSh [sh] a b c).2.2.1 (fillSh [sh] a b c).2.2.2).1, (fillSh shs (fillSh [sh] a b c).2.1 (fillSh [sh] a b c).2.2.1 (fillSh [sh] a b c).2.2.2).2) := by
  cases sh <;> simp [fillSh]
theorem dens_app (e : Env) (β : Nat → Nat) (l m : List SV) : SV.dens e β (l ++ m) = SV.dens e β l ++ SV.dens e β m := by simp [SV.dens_map]
theorem Bound.append {r r' : List Int × List Bool × List PV} {v v' : List Value} (h : Bound s B r v) (h' : Bound s B r' v') : Bound s B (r.1 ++ r'.1, r.2.1 ++ r'.2.1, r.2.2 ++ r'.2.2) (v ++ v') :=
  ⟨h.1.append h'.1, fun p hp => (List.mem_append.1 hp).elim (h.2 p) (h'.2 p)⟩
theorem bindShs_spec : ∀ (shs : List Sh) (l : List PV) {r} (xs : List Value), bindShs shs l = some r → Reps s B l xs → ∃ vvs, Bound s B r vvs ∧ ∀ ni nb nv,
    (fillSh shs ni nb nv).2 = (ni + r.1.length, nb + r.2.1.length, nv + vvs.length) ∧ ∀ (e : Env) (β : Nat → Nat), At e ni nb nv r.1 r.2.1 vvs → SV.dens e β (fillSh shs ni nb nv).1 = xs
  | [], [], r, xs, h, k => by
    simp only [bindShs, Option.some.injEq] at h; subst h
    simp only [Reps] at k; subst k
    exact ⟨[], ⟨rfl, by simp⟩, fun ni nb nv => ⟨by simp [fillSh], fun e β _ => rfl⟩⟩
  | sh :: shs, p :: l, r, xs, h, k => by
    simp only [bindShs, Option.bind_eq_some_iff, Option.map_eq_some_iff] at h
    obtain ⟨a, h1, r', h2, rfl⟩ := h
    simp only [Reps] at k
    obtain ⟨x, xs', rfl, k1, k2⟩ := k
    obtain ⟨v1, b1, b2⟩ := bind1_spec h1 k1
    obtain ⟨v2, d1, d2⟩ := bindShs_spec shs l xs' h2 k2
    refine ⟨v1 ++ v2, b1.append d1, fun ni nb nv => ?_⟩
    obtain ⟨c1, c2⟩ := b2 ni nb nv
    obtain ⟨e1, e2⟩ := d2 (ni + a.1.length) (nb + a.2.1.length) (nv + v1.length)
    rw [fillSh_cons]
    simp only [c1, List.length_append]
    refine ⟨by rw [e1]; simp only [Nat.add_assoc], fun e β ha => ?_⟩
    obtain ⟨ha1, ha2⟩ := ha.split
    rw [dens_app, c2 e β ha1, e2 e β ha2]; rfl
  | [], _ :: _, r, xs, h, _ => by simp [bindShs] at h
  | _ :: _, [], r, xs, h, _ => by simp [bindShs] at h
theorem bindBig_spec {shs : List Sh} {l : List PV} {r} {x : Value} (hne : ∀ sh, shs ≠ [sh]) (h : bindShs shs l = some r) (k : Rep s B (.tup l) x) : ∃ vvs, Bound s B r vvs ∧ ∀ ni nb nv,
    (fillSh shs ni nb nv).2 = (ni + r.1.length, nb + r.2.1.length, nv + vvs.length) ∧ ∀ (e : Env) (β : Nat → Nat), At e ni nb nv r.1 r.2.1 vvs → (tupOf (fillSh shs ni nb nv).1).den e β = x := by
  simp only [Rep] at k
  obtain ⟨xs, rfl, k⟩ := k
  obtain ⟨vvs, b1, b2⟩ := bindShs_spec shs l xs h k
  refine ⟨vvs, b1, fun ni nb nv => ?_⟩
  obtain ⟨c1, c2⟩ := b2 ni nb nv
  refine ⟨c1, fun e β ha => ?_⟩
  have := c2 e β ha
  have hlen : (fillSh shs ni nb nv).1.length ≠ 1 := by
    intro hl
    have hl2 := congrArg List.length this
    rw [dens_length, k.length, hl] at hl2
    match shs, l, h, hl2 with
    | [], [p], h, _ => simp [bindShs] at h
    | [sh], [p], h, _ => exact hne sh rfl
    | sh1 :: sh2 :: shs, [p], h, _ => simp [bindShs] at h
  generalize (fillSh shs ni nb nv).1 = L at this hlen ⊢
  match L, hlen with
  | [], _ => simp [tupOf, SV.den, ← this]
  | [y], hl => exact absurd rfl hl
  | y1 :: y2 :: L, _ => simp [tupOf, SV.den, ← this]
theorem bindRes_spec {shs : List Sh} {p : PV} {r} {x : Value} (h : bindRes shs p = some r) (k : Rep s B p x) : ∃ vvs, Bound s B r vvs ∧ ∀ ni nb nv,
    (fillSh shs ni nb nv).2 = (ni + r.1.length, nb + r.2.1.length, nv + vvs.length) ∧ ∀ (e : Env) (β : Nat → Nat), At e ni nb nv r.1 r.2.1 vvs → (tupOf (fillSh shs ni nb nv).1).den e β = x := by
  match shs, h with
  | [sh], h =>
    obtain ⟨vvs, b1, b2⟩ := bind1_spec h k
    refine ⟨vvs, b1, fun ni nb nv => ?_⟩
    obtain ⟨c1, c2⟩ := b2 ni nb nv
    refine ⟨c1, fun e β ha => ?_⟩
    have := c2 e β ha
    generalize (fillSh [sh] ni nb nv).1 = L at this ⊢
    match L, this with
    | [y], this => simpa [tupOf, SV.dens] using this
    | [], this => simp [SV.dens] at this
    | y1 :: y2 :: L, this => simp [SV.dens] at this
  | [], h =>
    cases p <;> simp only [bindRes, reduceCtorEq] at h
    exact bindBig_spec (by simp) h k
  | sh1 :: sh2 :: shs, h =>
    cases p <;> simp only [bindRes, reduceCtorEq] at h
    exact bindBig_spec (by simp) h k
theorem bindPs_spec : ∀ (shs : List PSh) (l : List PV) {r} (xs : List Value), bindPs shs l = some r → Reps s B l xs → ∃ vvs, Bound s B r vvs ∧ ∀ ni nb nv,
    (fillPs shs ni nb nv).2 = (ni + r.1.length, nb + r.2.1.length, nv + vvs.length) ∧ ∀ (e : Env) (β : Nat → Nat), At e ni nb nv r.1 r.2.1 vvs → SV.dens e β (fillPs shs ni nb nv).1 = xs
  | [], [], r, xs, h, k => by
    simp only [bindPs, Option.some.injEq] at h; subst h
    simp only [Reps] at k; subst k
    exact ⟨[], ⟨rfl, by simp⟩, fun ni nb nv => ⟨by simp [fillPs], fun e β _ => rfl⟩⟩
  | .sh sh :: shs, p :: l, r, xs, h, k => by
    simp only [bindPs, Option.bind_eq_some_iff, Option.map_eq_some_iff] at h
    obtain ⟨a, h1, r', h2, rfl⟩ := h
    simp only [Reps] at k
    obtain ⟨x, xs', rfl, k1, k2⟩ := k
    obtain ⟨v1, b1, b2⟩ := bind1_spec h1 k1
    obtain ⟨v2, d1, d2⟩ := bindPs_spec shs l xs' h2 k2
    refine ⟨v1 ++ v2, b1.append d1, fun ni nb nv => ?_⟩
    obtain ⟨c1, c2⟩ := b2 ni nb nv
    obtain ⟨e1, e2⟩ := d2 (ni + a.1.length) (nb + a.2.1.length) (nv + v1.length)
    simp only [fillPs, c1, List.length_append]
    refine ⟨by rw [e1]; simp only [Nat.add_assoc], fun e β ha => ?_⟩
    obtain ⟨ha1, ha2⟩ := ha.split
    rw [dens_app, c2 e β ha1, e2 e β ha2]; rfl
  | .ptr :: shs, p :: l, r, xs, h, k => by
    simp only [bindPs] at h
    split at h
    case isFalse => cases h
    rename_i hp
    simp only [Option.map_eq_some_iff] at h
    obtain ⟨r', h2, rfl⟩ := h
    simp only [Reps] at k
    obtain ⟨x, xs', rfl, k1, k2⟩ := k
    obtain ⟨v2, d1, d2⟩ := bindPs_spec shs l xs' h2 k2
    have hx : ∃ b o, x = .pointer (some ⟨b, o, none⟩) := by
      cases p <;> simp only [PV.isPtr, Bool.false_eq_true] at hp <;> simp only [Rep] at k1
      · obtain ⟨b, base, _, h, _⟩ := k1; exact ⟨_, _, h⟩
      · obtain ⟨b, _, _, h⟩ := k1; exact ⟨_, _, h⟩
    have hone : p.one = true := by cases p <;> first | rfl | (simp [PV.isPtr] at hp)
    refine ⟨x :: v2, ⟨⟨x, v2, rfl, k1, d1.1⟩, fun q hq => ?_⟩, fun ni nb nv => ?_⟩
    · rcases List.mem_cons.1 hq with rfl | hq
      · exact hone
      · exact d1.2 q hq
    obtain ⟨e1, e2⟩ := d2 ni nb (nv + 1)
    simp only [fillPs, List.length_cons]
    refine ⟨by rw [e1]; simp only [Prod.mk.injEq, true_and]; omega, fun e β ha => ?_⟩
    have h0 := ha.v 0 x rfl
    rw [Nat.add_zero] at h0
    rw [SV.dens, e2 e β ⟨ha.i, ha.b, fun j y hj => by have := ha.v (j + 1) y (by simpa using hj); rw [show nv + (j + 1) = nv + 1 + j by omega] at this; exact this⟩]
    obtain ⟨b, o, rfl⟩ := hx
    simp only [SV.den, getD_of h0, addrOf, Option.getD_some, add_ad, Nat.add_zero]
  | [], _ :: _, r, xs, h, _ => by simp [bindPs] at h
  | .sh _ :: _, [], r, xs, h, _ => by simp [bindPs] at h
  | .ptr :: _, [], r, xs, h, _ => by simp [bindPs] at h
end
section
variable {s : Hp} {ρp : PEnv} {ρ : Env}
theorem EnvRep.push (h : EnvRep s ρp ρ) {r : List Int × List Bool × List PV} {vvs : List Value} (hb : Bound s (inf ρp.m ρ.m) r vvs) : EnvRep s (ρp.push r) (ρ.push r.1 r.2.1 vvs) :=
  ⟨by simp [PEnv.push, Env.push, h.i], by simp [PEnv.push, Env.push, h.b], h.v.append hb.1, h.m, h.k, fun p hp => (List.mem_append.1 hp).elim (h.one p) (hb.2 p)⟩
/-- The same with the objects turned. -/
theorem EnvRep.turn (h : EnvRep s ρp ρ) {t : Hp} (hst : s.le t) {m' : MS} {σ : List MO} (hpre : BLe (inf ρp.m ρ.m) (inf σ m')) (hm : RepM t (inf σ m') σ m') : EnvRep t { ρp with m := σ } { ρ with m := m' } :=
  ⟨h.i, h.b, Reps.mono hst hpre _ _ h.v, hm, h.k, h.one⟩
/-- Where an element of a row is reached. -/
theorem loc_elt (h : EnvRep s ρp ρ) {a : SV} {hd len i sz off : Nat} (hl : locOf ρp a = some (.elt hd len i sz off)) {b n0 : Nat} (hB : (inf ρp.m ρ.m)[hd]? = some (b, n0, len)) : addrOf (a.den ρ id) = some ⟨b, i * sz + off, none⟩ ∧ i < len := by
  cases a <;> simp only [locOf, reduceCtorEq, Option.bind_eq_some_iff] at hl
  case ea q i' size off' =>
    obtain ⟨p, h1, h2⟩ := hl
    obtain ⟨v, _, h3, h4⟩ := h.get h1
    cases p <;> simp only [locEl, reduceCtorEq] at h2
    case sl => split at h2 <;> simp at h2
    case msl => split at h2 <;> simp at h2
    case rsl hh len' sz' =>
      split at h2
      case isFalse => cases h2
      rename_i hc
      simp only [Option.some.injEq, Loc.elt.injEq] at h2
      obtain ⟨rfl, rfl, rfl, rfl, rfl⟩ := h2
      obtain ⟨c1, c2, rfl⟩ := hc
      simp only [Rep] at h4
      obtain ⟨_, b', cap, rfl, b2, n2, r2, k1, _, k2⟩ := h4
      rw [hB] at k1
      simp only [Option.some.injEq, Prod.mk.injEq] at k1
      obtain ⟨rfl, rfl, rfl⟩ := k1
      obtain ⟨rfl, _⟩ := k2 rfl
      refine ⟨?_, by omega⟩
      simp only [SV.den, h3, addrOf, Option.getD_some, IE.pe_den h, add_ad, Nat.zero_add]
  case pa q off' =>
    obtain ⟨p, h1, h2⟩ := hl
    cases p <;> simp [locOn] at h2
/-- What is read. -/
theorem read_spec (h : EnvRep s ρp ρ) {a : SV} {l : Loc} (hl : locOf ρp a = some l) {fl : Bool} {n : Nat} {x : List PV} (hx : readLoc ρp fl n l = some x) :
    x.length = n ∧ ∃ vals, Reads s (if fl then [] else ρ.m) (a.den ρ id) vals ∧ Reps s (inf ρp.m ρ.m) x vals := by
  have tk : ∀ {l : List PV}, takeN n l = some x → x = l.take n ∧ x.length = n := by
    intro l h
    simp only [takeN] at h
    split at h
    · simp only [Option.some.injEq] at h; subst h
      exact ⟨rfl, by simp; omega⟩
    · cases h
  cases l with
  | row l off =>
    simp only [readLoc] at hx
    obtain ⟨rfl, hn⟩ := tk hx
    refine ⟨hn, ?_⟩
    cases a <;> simp only [locOf, reduceCtorEq, Option.bind_eq_some_iff] at hl
    case ea q i size off' =>
      obtain ⟨p, h1, h2⟩ := hl
      obtain ⟨v, _, h3, h4⟩ := h.get h1
      cases p <;> simp only [locEl, reduceCtorEq] at h2
      case sl sz rows =>
        split at h2
        case isFalse => cases h2
        rename_i hc
        obtain ⟨rfl, hi0⟩ := hc
        simp only [Option.map_eq_some_iff, Loc.row.injEq] at h2
        obtain ⟨r, hr, rfl, rfl⟩ := h2
        simp only [Rep] at h4
        obtain ⟨xs, ⟨hsz, a, cap, rfl, _, hcell⟩, hrs, _⟩ := h4
        obtain ⟨xv, g1, g2⟩ := hrs.get hr
        obtain ⟨b, o, rfl, hc⟩ := hcell (by intro h0; subst h0; simp at g1)
        refine ⟨(xv.drop off').take n, ⟨b, o + (i.pe ρp).toNat * sz + off', ?_, .inl fun j u hj => ?_⟩, (g2.drop off').take n⟩
        · simp only [SV.den, h3, addrOf, Option.getD_some, IE.pe_den h, add_ad]
        · have hj' : xv[off' + j]? = some u := by
            rw [List.getElem?_take] at hj
            split at hj
            · rw [List.getElem?_drop] at hj; exact hj
            · cases hj
          have := hc _ xv g1 (off' + j) u hj'
          rw [show o + (i.pe ρp).toNat * sz + (off' + j) = o + (i.pe ρp).toNat * sz + off' + j by omega] at this
          exact this
      case msl => split at h2 <;> simp at h2
      case rsl => split at h2 <;> simp at h2
    case pa q off' =>
      obtain ⟨p, h1, h2⟩ := hl
      obtain ⟨v, _, h3, h4⟩ := h.get h1
      cases p <;> simp only [locOn, reduceCtorEq, Option.some.injEq, Loc.row.injEq] at h2
      case cell l' o =>
        obtain ⟨rfl, rfl⟩ := h2
        simp only [Rep] at h4
        obtain ⟨b, base, vs, rfl, g1, g2⟩ := h4
        refine ⟨(vs.drop (o + off')).take n, ⟨b, base + (o + off'), ?_, .inl fun j u hj => ?_⟩, (g1.drop _).take n⟩
        · simp only [SV.den, h3, addrOf, Option.getD_some, add_ad, Nat.add_assoc]
        · rw [List.getElem?_take] at hj
          split at hj
          · rw [List.getElem?_drop] at hj
            have := g2 _ u hj
            rw [← Nat.add_assoc] at this; exact this
          · cases hj
  | obj hd off =>
    simp only [readLoc] at hx
    cases fl with
    | true => simp at hx
    | false =>
    simp only [Bool.false_eq_true, if_false, Option.bind_eq_some_iff] at hx ⊢
    obtain ⟨o, ho, l, hol, hx⟩ := hx
    cases o <;> simp only [MO.list, reduceCtorEq, Option.some.injEq] at hol
    rename_i l' T
    subst hol
    obtain ⟨b, vs, g1, g2⟩ := h.m.get ho
    obtain ⟨rfl, hn⟩ := tk hx
    have hB := inf_get ho g1
    simp only [infO] at hB
    have key : addrOf (a.den ρ id) = some ⟨b, off, none⟩ := by
      cases a <;> simp only [locOf, reduceCtorEq, Option.bind_eq_some_iff] at hl
      case ea q i size off' =>
        obtain ⟨p, h1, h2⟩ := hl
        obtain ⟨v, _, h3, h4⟩ := h.get h1
        cases p <;> simp only [locEl, reduceCtorEq] at h2
        case sl => split at h2 <;> simp at h2
        case rsl => split at h2 <;> simp at h2
        case msl hh o len cap sz =>
          split at h2
          case isFalse => cases h2
          simp only [Option.some.injEq, Loc.obj.injEq] at h2
          obtain ⟨rfl, rfl⟩ := h2
          simp only [Rep] at h4
          obtain ⟨b', n', k1, rfl⟩ := h4
          rw [hB] at k1
          simp only [Option.some.injEq, Prod.mk.injEq] at k1
          obtain ⟨rfl, _⟩ := k1
          simp only [SV.den, h3, addrOf, Option.getD_some, IE.pe_den h, add_ad, Nat.add_assoc]
      case pa q off' =>
        obtain ⟨p, h1, h2⟩ := hl
        obtain ⟨v, _, h3, h4⟩ := h.get h1
        cases p <;> simp only [locOn, reduceCtorEq, Option.some.injEq, Loc.obj.injEq] at h2
        case ref hh o =>
          obtain ⟨rfl, rfl⟩ := h2
          simp only [Rep] at h4
          obtain ⟨b', n', k1, rfl⟩ := h4
          rw [hB] at k1
          simp only [Option.some.injEq, Prod.mk.injEq] at k1
          obtain ⟨rfl, _⟩ := k1
          simp only [SV.den, h3, addrOf, Option.getD_some, add_ad]
    refine ⟨hn, (vs.drop off).take n, ⟨b, off, key, .inr ⟨vs.toArray, T, (0, 0), List.mem_of_getElem? g1, fun j u hj => ?_⟩⟩, (g2.drop off).take n⟩
    rw [List.getElem?_take] at hj
    split at hj
    · rw [List.getElem?_drop] at hj
      simpa using hj
    · cases hj
  | elt hd len i sz off =>
    simp only [readLoc] at hx
    cases fl with
    | true => simp at hx
    | false =>
    simp only [Bool.false_eq_true, if_false, Option.bind_eq_some_iff] at hx ⊢
    obtain ⟨o, ho, rows, hrows, r, hr, hx⟩ := hx
    cases o <;> simp only [MO.elts, reduceCtorEq] at hrows
    rename_i rows' sz' T
    split at hrows
    case isFalse => cases hrows
    rename_i hc
    obtain ⟨hc1, hc2⟩ := hc
    simp only [Option.some.injEq] at hrows
    subst hrows
    subst hc2
    obtain ⟨⟨b, ob⟩, g1, cur, g2, a1, a2, a3, a4, xs, a5, a6, a7⟩ := h.m.obj ho
    simp only at g2
    subst g2
    have hB := inf_get ho g1
    simp only [infO, objSize, hc1] at hB
    obtain ⟨rfl, hn⟩ := tk hx
    obtain ⟨hadr, hi⟩ := loc_elt h hl hB
    obtain ⟨xv, g3, g4⟩ := a5.get hr
    refine ⟨hn, (xv.drop off).take n, ⟨b, i * sz' + off, hadr, .inr ⟨cur, T, (0, 0), List.mem_of_getElem? g1, fun j u hj => ?_⟩⟩, (g4.drop off).take n⟩
    rw [List.getElem?_take] at hj
    split at hj
    · rw [List.getElem?_drop] at hj
      have := a7 _ u (flat_of sz' xs a6 i xv (off + j) u g3 hj)
      rw [← Nat.add_assoc] at this; exact this
    · cases hj
/-- Where an object is reached. -/
theorem loc_obj (h : EnvRep s ρp ρ) {a : SV} {hd off b n0 : Nat} (hl : locOf ρp a = some (.obj hd off)) (hB : (inf ρp.m ρ.m)[hd]? = some (b, n0, 0)) : addrOf (a.den ρ id) = some ⟨b, off, none⟩ := by
  cases a <;> simp only [locOf, reduceCtorEq, Option.bind_eq_some_iff] at hl
  case ea q i size off' =>
    obtain ⟨p, h1, h2⟩ := hl
    obtain ⟨v, _, h3, h4⟩ := h.get h1
    cases p <;> simp only [locEl, reduceCtorEq] at h2
    case sl => split at h2 <;> simp at h2
    case rsl => split at h2 <;> simp at h2
    case msl hh o len cap sz =>
      split at h2
      case isFalse => cases h2
      simp only [Option.some.injEq, Loc.obj.injEq] at h2
      obtain ⟨rfl, rfl⟩ := h2
      simp only [Rep] at h4
      obtain ⟨b', n', k1, rfl⟩ := h4
      rw [hB] at k1
      simp only [Option.some.injEq, Prod.mk.injEq] at k1
      obtain ⟨rfl, _⟩ := k1
      simp only [SV.den, h3, addrOf, Option.getD_some, IE.pe_den h, add_ad, Nat.add_assoc]
  case pa q off' =>
    obtain ⟨p, h1, h2⟩ := hl
    obtain ⟨v, _, h3, h4⟩ := h.get h1
    cases p <;> simp only [locOn, reduceCtorEq, Option.some.injEq, Loc.obj.injEq] at h2
    case ref hh o =>
      obtain ⟨rfl, rfl⟩ := h2
      simp only [Rep] at h4
      obtain ⟨b', n', k1, rfl⟩ := h4
      rw [hB] at k1
      simp only [Option.some.injEq, Prod.mk.injEq] at k1
      obtain ⟨rfl, _⟩ := k1
      simp only [SV.den, h3, addrOf, Option.getD_some, add_ad]
theorem rowsOf_spec {B : Inf} {p : PV} {v : Value} {size : Nat} {rows : List (List PV)} (h : Rep s B p v) (hr : p.rowsOf size = some rows) : ∃ xs, SliceIn s size v xs ∧ Repss s B rows xs ∧ ∀ r ∈ rows, ∀ p ∈ r, p.one = true := by
  cases p <;> simp only [PV.rowsOf, reduceCtorEq, Option.some.injEq] at hr
  case nilS =>
    subst hr
    simp only [Rep] at h; subst h
    exact ⟨[], ⟨by simp, none, 0, rfl, Nat.le_refl _, by simp⟩, rfl, by simp⟩
  case sl n rows =>
    split at hr
    · rename_i hn
      simp only [Option.some.injEq] at hr; subst hr hn
      simpa only [Rep] using h
    · cases hr
end
end Go.Sx
