/- TX: expressions and values of the executor's data, read over plain values. -/
import Derived.Test.YtbmfegliomkkfaaHTxS
set_option linter.unusedSimpArgs false
set_option linter.unusedVariables false
namespace Go.Sx
open Go.RowKit
structure PEnv where
  i : List Int
  b : List Bool
  v : List PV
  m : List MO := []
  k : Nat := 0
  deriving Inhabited
def PEnv.at (ρ : PEnv) (n : Nat) : PV := ρ.v.getD n (.bool false)
def IE.pe (ρ : PEnv) : IE → Int
  | .a n => ρ.i.getD n 0
  | .l z => z
  | .add x y => x.pe ρ + y.pe ρ
  | .sub x y => x.pe ρ - y.pe ρ
  | .mul x y => x.pe ρ * y.pe ρ
  | .tdiv x y => (x.pe ρ).tdiv (y.pe ρ)
  | .tmod x y => (x.pe ρ).tmod (y.pe ρ)
  | .mn x y => mnI (x.pe ρ) (y.pe ρ)
  | .mx x y => mxI (x.pe ρ) (y.pe ρ)
  | .ifeq p q x y => ifEq (p.pe ρ) (q.pe ρ) (x.pe ρ) (y.pe ρ)
  | .wr k x => k.wrap (x.pe ρ)
  | .slen n => (ρ.at n).len
def BE.pe (ρ : PEnv) : BE → Bool
  | .t b => b
  | .a n => ρ.b.getD n false
  | .lt x y => ltB (x.pe ρ) (y.pe ρ)
  | .le x y => leB (x.pe ρ) (y.pe ρ)
  | .eq x y => eqB (x.pe ρ) (y.pe ρ)
  | .not x => !x.pe ρ
  | .and x y => x.pe ρ && y.pe ρ
  | .or x y => x.pe ρ || y.pe ρ
  | .nil n => (ρ.at n).isNil
  | .is k n => (ρ.at n).isKind k
/-- Whether it is known. -/
def BE.safe (ρ : PEnv) : BE → Bool
  | .not x => x.safe ρ
  | .and x y => x.safe ρ && y.safe ρ
  | .or x y => x.safe ρ && y.safe ρ
  | .nil n => (ρ.at n).nilOk
  | _ => true
/-- Pointers some cells on. -/
def PV.on (off : Nat) : PV → Option PV
  | .cell l o => some (.cell l (o + off))
  | .ref h o => some (.ref h (o + off))
  | _ => none
def PV.el (i : Int) (size off : Nat) : PV → Option PV
  | .msl h o len _ sz => if 0 ≤ i ∧ i < len ∧ sz = size then some (.ref h (o + (i.toNat * size + off))) else none
  | _ => none
mutual
/-- own: what the call's own cells hold, where they are shut. -/
def SV.pv (ρ : PEnv) (own : Nat → Option (List PV)) : SV → Option PV
  | .int k e => some (.int k (e.pe ρ))
  | .bool b => if b.safe ρ then some (.bool (b.pe ρ)) else none
  | .va n => ρ.v[n]?
  | .junk _ => none
  | .str s => some (.str s)
  | .undef => some .undef
  | .nilS => some .nilS
  | .nilF => some .nilF
  | .nilP => some .nilP
  | .nilI => some .nilI
  | .ptr k off => (own k).map fun l => .cell l off
  | .sl _ _ => none
  | .slc _ _ _ => none
  | .ea n i size off => (ρ.v[n]?).bind (PV.el (i.pe ρ) size off)
  | .pa n off => (ρ.v[n]?).bind (PV.on off)
  | .agg cs => (SV.pvs ρ own cs).map .agg
  | .tup cs => (SV.pvs ρ own cs).map .tup
  | .fn f cap => (SV.pvs ρ own cap).map (.fn f)
def SV.pvs (ρ : PEnv) (own : Nat → Option (List PV)) : List SV → Option (List PV)
  | [] => some []
  | x :: l => (SV.pv ρ own x).bind fun p => (SV.pvs ρ own l).map (p :: ·)
end
def noOwn : Nat → Option (List PV) := fun _ => none
/-- What shut own cells hold; cells that point to cells, up to three deep. -/
def ownOf (ρ : PEnv) (H : List Blk) : Nat → Nat → Option (List PV)
  | 0, _ => none
  | d + 1, k => match H[k]? with
    | some (.cells cs _ true) => SV.pvs ρ (ownOf ρ H d) cs
    | _ => none
structure EnvRep (s : Hp) (ρp : PEnv) (ρ : Env) : Prop where
  i : ρ.i = ρp.i
  b : ρ.b = ρp.b
  v : Reps s (inf ρp.m ρ.m) ρp.v ρ.v
  m : RepM s (inf ρp.m ρ.m) ρp.m ρ.m
  k : ρ.k = ρp.k
  one : ∀ p ∈ ρp.v, p.one = true
section
variable {s : Hp} {ρp : PEnv} {ρ : Env}
theorem EnvRep.ok (h : EnvRep s ρp ρ) : ρ.Ok := by
  intro x hx
  obtain ⟨i, hi⟩ := List.mem_iff_getElem?.1 hx
  have hl := h.v.length
  have hlt := (List.getElem?_eq_some_iff.1 hi).1
  obtain ⟨v, h1, h2⟩ := h.v.get (List.getElem?_eq_getElem (l := ρp.v) (i := i) (by omega))
  rw [hi] at h1
  simp only [Option.some.injEq] at h1
  subst h1
  exact h2.fine (h.one _ (List.getElem_mem _))
theorem EnvRep.mono {t : Hp} (h : EnvRep s ρp ρ) (hst : s.le t) : EnvRep t ρp ρ :=
  ⟨h.i, h.b, Reps.mono hst (BLe.refl _) _ _ h.v, RepM.mono hst (BLe.refl _) _ _ h.m, h.k, h.one⟩
theorem EnvRep.get (h : EnvRep s ρp ρ) {n : Nat} {p : PV} (hp : ρp.v[n]? = some p) : ∃ v, ρ.v[n]? = some v ∧ ρ.v.getD n vd = v ∧ Rep s (inf ρp.m ρ.m) p v := by
  obtain ⟨v, h1, h2⟩ := h.v.get hp
  exact ⟨v, h1, by simp [List.getD_eq_getElem?_getD, h1], h2⟩
theorem EnvRep.getD (h : EnvRep s ρp ρ) (n : Nat) : Rep s (inf ρp.m ρ.m) (ρp.at n) (ρ.v.getD n vd) := by
  unfold PEnv.at
  cases hp : ρp.v[n]? with
  | none =>
    have hl := h.v.length
    have h1 := List.getElem?_eq_none_iff.1 hp
    have h2 : ρ.v[n]? = none := List.getElem?_eq_none_iff.2 (by omega)
    simp [List.getD_eq_getElem?_getD, hp, h2, Rep, vd]
  | some p =>
    obtain ⟨v, h1, h2, h3⟩ := h.get hp
    rw [h2]
    simpa [List.getD_eq_getElem?_getD, hp] using h3
theorem IE.pe_den (h : EnvRep s ρp ρ) : ∀ e : IE, e.den ρ = e.pe ρp
  | .a n => by simp only [IE.den, IE.pe, h.i]
  | .l _ => rfl
  | .add x y => by simp only [IE.den, IE.pe, IE.pe_den h x, IE.pe_den h y]
  | .sub x y => by simp only [IE.den, IE.pe, IE.pe_den h x, IE.pe_den h y]
  | .mul x y => by simp only [IE.den, IE.pe, IE.pe_den h x, IE.pe_den h y]
  | .tdiv x y => by simp only [IE.den, IE.pe, IE.pe_den h x, IE.pe_den h y]
  | .tmod x y => by simp only [IE.den, IE.pe, IE.pe_den h x, IE.pe_den h y]
  | .mn x y => by simp only [IE.den, IE.pe, IE.pe_den h x, IE.pe_den h y]
  | .mx x y => by simp only [IE.den, IE.pe, IE.pe_den h x, IE.pe_den h y]
  | .ifeq p q x y => by simp only [IE.den, IE.pe, IE.pe_den h p, IE.pe_den h q, IE.pe_den h x, IE.pe_den h y]
  | .wr k x => by simp only [IE.den, IE.pe, IE.pe_den h x]
  | .slen n => by simp only [IE.den, IE.pe, (h.getD n).len]
theorem BE.pe_den (h : EnvRep s ρp ρ) : ∀ e : BE, e.safe ρp = true → e.den ρ = e.pe ρp
  | .t _, _ => rfl
  | .a n, _ => by simp only [BE.den, BE.pe, h.b]
  | .lt x y, _ => by simp only [BE.den, BE.pe, IE.pe_den h]
  | .le x y, _ => by simp only [BE.den, BE.pe, IE.pe_den h]
  | .eq x y, _ => by simp only [BE.den, BE.pe, IE.pe_den h]
  | .not x, k => by simp only [BE.den, BE.pe, BE.pe_den h x k]
  | .and x y, k => by simp only [BE.safe, Bool.and_eq_true] at k; simp only [BE.den, BE.pe, BE.pe_den h x k.1, BE.pe_den h y k.2]
  | .or x y, k => by simp only [BE.safe, Bool.and_eq_true] at k; simp only [BE.den, BE.pe, BE.pe_den h x k.1, BE.pe_den h y k.2]
  | .nil n, k => by simp only [BE.den, BE.pe, (h.getD n).nil k]
  | .is q n, _ => by simp only [BE.den, BE.pe, (h.getD n).kind]
theorem add_ad (b o j : Nat) : (⟨b, o, none⟩ : Addr).add j = ⟨b, o + j, none⟩ := by unfold Addr.add; split <;> simp_all
/-- Own cells that are told. -/
def OwnTold (t : Hp) (B : Inf) (β : Nat → Nat) (own : Nat → Option (List PV)) : Prop := ∀ k l, own k = some l → ∃ vs, Reps t B l vs ∧ ∀ o u, vs[o]? = some u → t (β k) o = some u
theorem noOwn_told (t : Hp) (B : Inf) (β : Nat → Nat) : OwnTold t B β noOwn := fun _ _ h => by cases h
theorem PV.on_rep {B : Inf} {p q : PV} {v : Value} {off : Nat} (h : Rep s B p v) (hq : PV.on off p = some q) : Rep s B q (.pointer (some (((addrOf v).getD ⟨0, 0, none⟩).add off))) := by
  cases p <;> simp only [PV.on, Option.some.injEq, reduceCtorEq] at hq
  case cell l o =>
    subst hq
    simp only [Rep] at h ⊢
    obtain ⟨b, base, vs, rfl, h1, h2⟩ := h
    exact ⟨b, base, vs, by simp [addrOf, add_ad, Nat.add_assoc], h1, h2⟩
  case ref h' o =>
    subst hq
    simp only [Rep] at h ⊢
    obtain ⟨b, n, h1, rfl⟩ := h
    exact ⟨b, n, h1, by simp [addrOf, add_ad]⟩
theorem PV.el_rep {B : Inf} {p q : PV} {v : Value} {i : Int} {size off : Nat} (h : Rep s B p v) (hq : PV.el i size off p = some q) : Rep s B q (.pointer (some ((((addrOf v).getD ⟨0, 0, none⟩).add (i.toNat * size)).add off))) := by
  cases p <;> simp only [PV.el, reduceCtorEq] at hq
  case msl h' o len cap sz =>
    split at hq
    · simp only [Option.some.injEq] at hq
      subst hq
      simp only [Rep] at h ⊢
      obtain ⟨b, n, h1, rfl⟩ := h
      exact ⟨b, n, h1, by simp [addrOf, add_ad, Nat.add_assoc]⟩
    · cases hq
mutual
theorem SV.pv_rep {t : Hp} {β : Nat → Nat} {own : Nat → Option (List PV)} (h : EnvRep t ρp ρ) (ho : OwnTold t (inf ρp.m ρ.m) β own) : ∀ (x : SV) (p : PV), x.pv ρp own = some p → Rep t (inf ρp.m ρ.m) p (x.den ρ β)
  | .int k e, p, hp => by simp only [SV.pv, Option.some.injEq] at hp; subst hp; simp only [SV.den, Rep, IE.pe_den h]
  | .bool b, p, hp => by
    simp only [SV.pv] at hp
    split at hp
    · rename_i hs
      simp only [Option.some.injEq] at hp; subst hp; simp only [SV.den, Rep, BE.pe_den h b hs]
    · cases hp
  | .va n, p, hp => by
    simp only [SV.pv] at hp
    obtain ⟨v, _, h2, h3⟩ := h.get hp
    simp only [SV.den, h2]; exact h3
  | .junk _, p, hp => by simp only [SV.pv] at hp; cases hp
  | .str _, p, hp => by simp only [SV.pv, Option.some.injEq] at hp; subst hp; simp only [SV.den, Rep]
  | .undef, p, hp => by simp only [SV.pv, Option.some.injEq] at hp; subst hp; simp only [SV.den, Rep]
  | .nilS, p, hp => by simp only [SV.pv, Option.some.injEq] at hp; subst hp; simp only [SV.den, Rep]
  | .nilF, p, hp => by simp only [SV.pv, Option.some.injEq] at hp; subst hp; simp only [SV.den, Rep]
  | .nilP, p, hp => by simp only [SV.pv, Option.some.injEq] at hp; subst hp; simp only [SV.den, Rep]
  | .nilI, p, hp => by simp only [SV.pv, Option.some.injEq] at hp; subst hp; simp only [SV.den, Rep]
  | .ptr k off, p, hp => by
    simp only [SV.pv, Option.map_eq_some_iff] at hp
    obtain ⟨l, h1, rfl⟩ := hp
    obtain ⟨vs, h2, h3⟩ := ho k l h1
    simp only [SV.den, Rep]
    exact ⟨β k, 0, vs, by simp, h2, fun o u hu => by simpa using h3 o u hu⟩
  | .sl _ _, p, hp => by simp only [SV.pv] at hp; cases hp
  | .slc _ _ _, p, hp => by simp only [SV.pv] at hp; cases hp
  | .ea n i size off, p, hp => by
    simp only [SV.pv, Option.bind_eq_some_iff] at hp
    obtain ⟨q, h1, h2⟩ := hp
    obtain ⟨v, _, h3, h4⟩ := h.get h1
    simp only [SV.den, h3, IE.pe_den h]
    exact PV.el_rep h4 h2
  | .pa n off, p, hp => by
    simp only [SV.pv, Option.bind_eq_some_iff] at hp
    obtain ⟨q, h1, h2⟩ := hp
    obtain ⟨v, _, h3, h4⟩ := h.get h1
    simp only [SV.den, h3]
    exact PV.on_rep h4 h2
  | .agg cs, p, hp => by
    simp only [SV.pv, Option.map_eq_some_iff] at hp
    obtain ⟨l, h1, rfl⟩ := hp
    simp only [SV.den, Rep]
    exact ⟨_, rfl, SV.pvs_rep h ho cs l h1⟩
  | .tup cs, p, hp => by
    simp only [SV.pv, Option.map_eq_some_iff] at hp
    obtain ⟨l, h1, rfl⟩ := hp
    simp only [SV.den, Rep]
    exact ⟨_, rfl, SV.pvs_rep h ho cs l h1⟩
  | .fn f cs, p, hp => by
    simp only [SV.pv, Option.map_eq_some_iff] at hp
    obtain ⟨l, h1, rfl⟩ := hp
    simp only [SV.den, Rep]
    exact ⟨_, rfl, SV.pvs_rep h ho cs l h1⟩
theorem SV.pvs_rep {t : Hp} {β : Nat → Nat} {own : Nat → Option (List PV)} (h : EnvRep t ρp ρ) (ho : OwnTold t (inf ρp.m ρ.m) β own) : ∀ (x : List SV) (p : List PV), SV.pvs ρp own x = some p → Reps t (inf ρp.m ρ.m) p (SV.dens ρ β x)
  | [], p, hp => by simp only [SV.pvs, Option.some.injEq] at hp; subst hp; rfl
  | x :: l, p, hp => by
    simp only [SV.pvs, Option.bind_eq_some_iff, Option.map_eq_some_iff] at hp
    obtain ⟨q, h1, r, h2, rfl⟩ := hp
    simp only [SV.dens, Reps]
    exact ⟨_, _, rfl, SV.pv_rep h ho x q h1, SV.pvs_rep h ho l r h2⟩
end
theorem ownOf_told {t : Hp} {β : Nat → Nat} {H : List Blk} (h : EnvRep t ρp ρ) (hs : HShut ρ β H t) : ∀ d, OwnTold t (inf ρp.m ρ.m) β (ownOf ρp H d)
  | 0, k, l, hk => by simp only [ownOf] at hk; cases hk
  | d + 1, k, l, hk => by
    simp only [ownOf] at hk
    split at hk
    · rename_i cs T hc
      exact ⟨_, SV.pvs_rep h (ownOf_told h hs d) cs l hk, fun o u hu => hs k cs T hc o u hu⟩
    · cases hk
theorem flat_one' (h : EnvRep s ρp ρ) {own : Nat → Option (List PV)} {x : SV} {p : PV} (hf : x.flat = true) (hp : x.pv ρp own = some p) : p.one = true := by
  cases x <;> simp only [SV.flat, Bool.false_eq_true] at hf <;> simp only [SV.pv, Option.some.injEq, reduceCtorEq, Option.map_eq_some_iff, Option.bind_eq_some_iff] at hp
  case va n => exact h.one _ (List.mem_of_getElem? hp)
  case bool b =>
    split at hp
    · simp only [Option.some.injEq] at hp; subst hp; rfl
    · cases hp
  case ptr => obtain ⟨_, _, rfl⟩ := hp; rfl
  case ea =>
    obtain ⟨q, _, h2⟩ := hp
    cases q <;> simp only [PV.el, reduceCtorEq] at h2
    split at h2
    · simp only [Option.some.injEq] at h2; subst h2; rfl
    · cases h2
  case pa =>
    obtain ⟨q, _, h2⟩ := hp
    cases q <;> simp only [PV.on, reduceCtorEq, Option.some.injEq] at h2 <;> subst h2 <;> rfl
  case fn => obtain ⟨_, _, rfl⟩ := hp; rfl
  all_goals (subst hp; rfl)
end
end Go.Sx
