/- SX: calls that are handed addresses of own blocks. -/
import Derived.Test.YtbmfegliomkkfaaHSxW
namespace Go.Sx
section
variable {P : Program} {Q : Value → Hp → Prop} {T : Cfg → Env → Hp → Prop} {ρ : Env} {s : Hp}
theorem vc_callH {f : Nat} {args : List SV} {H : List Blk} {res : SV} {di db dv : Nat} {k : Out} (V : Value) (is : List Int) (bs : List Bool) (vs : List Value) (hct : ∀ β s1, s.le s1 → HShut ρ β H s1 → Ct P f (SV.dens ρ β args) s1 (fun v _ => v = V))
    (h1 : is.length = di) (h2 : bs.length = db) (h3 : vs.length = dv) (hf : vs.all fineV = true) (hr : V = res.den ⟨ρ.i ++ is, ρ.b ++ bs, ρ.v ++ vs, ρ.j⟩ id)
    (hk : ∀ s', s.le s' → VC P Q T k ⟨ρ.i ++ is, ρ.b ++ bs, ρ.v ++ vs, ρ.j⟩ s') : VC P Q T (.call f args H res di db dv k) ρ s := by
  intro β s1 hs hsh
  refine ⟨_, hct β s1 hs hsh, ?_⟩
  rintro v s' hs' rfl
  exact ⟨is, bs, vs, h1, h2, h3, hf, hr, hk s' (fun b o u h => hs' b o u (hs b o u h))⟩
theorem vc_callSH {f : Nat} {args : List SV} {H : List Blk} {n : Nat} {k : Out} (size : Nat) (xs : List (List Value)) (hct : ∀ β s1, s.le s1 → HShut ρ β H s1 → Ct P f (SV.dens ρ β args) s1 (fun v s' => SliceIn s' size v xs))
    (hn : ρ.v.length = n) (hk : ∀ v s', s.le s' → SliceIn s' size v xs → VC P Q T k ⟨ρ.i ++ [], ρ.b ++ [], ρ.v ++ [v], ρ.j⟩ s') : VC P Q T (.call f args H (.va n) 0 0 1 k) ρ s := by
  intro β s1 hs hsh
  refine ⟨_, hct β s1 hs hsh, ?_⟩
  intro v s' hs' hv
  refine ⟨[], [], [v], rfl, rfl, rfl, by simp [hv.fine], ?_, hk v s' (fun b o u h => hs' b o u (hs b o u h)) hv⟩
  subst hn
  simp [SV.den, Env.push]
end
end Go.Sx
