/- SX: a tree, a node at a time. -/
import Derived.Test.YtbmfegliomkkfaaHSxP
namespace Go.Sx
section
variable {P : Program} {Q : Value → Hp → Prop} {T : Cfg → Env → Hp → Prop} {ρ : Env} {s : Hp}
theorem vc_ite {c : BE} {x y : Out} (h : c.den ρ = true → VC P Q T x ρ s) (h' : c.den ρ = false → VC P Q T y ρ s) : VC P Q T (.ite c x y) ρ s := ⟨h, h'⟩
theorem vc_both {x y : Out} (h : VC P Q T x ρ s) (h' : VC P Q T y ρ s) : VC P Q T (.both x y) ρ s := ⟨h, h'⟩
theorem vc_need {c : BE} {k : Out} (h : c.den ρ = true) (h' : c.den ρ = true → VC P Q T k ρ s) : VC P Q T (.need c k) ρ s := ⟨h, h'⟩
theorem vc_ret {v : SV} {H : List Blk} (h : ∀ β s', s.le s' → HShut ρ β H s' → Q (v.den ρ β) s') : VC P Q T (.ret v H) ρ s := h
theorem vc_call {f : Nat} {args : List SV} {H : List Blk} {res : SV} {di db dv : Nat} {k : Out} (as : List Value) (V : Value) (is : List Int) (bs : List Bool) (vs : List Value) (hct : ∀ s1, s.le s1 → Ct P f as s1 (fun v _ => v = V))
    (ha : ∀ β, SV.dens ρ β args = as) (h1 : is.length = di) (h2 : bs.length = db) (h3 : vs.length = dv) (hf : vs.all fineV = true) (hr : V = res.den ⟨ρ.i ++ is, ρ.b ++ bs, ρ.v ++ vs, ρ.j⟩ id)
    (hk : ∀ s', s.le s' → VC P Q T k ⟨ρ.i ++ is, ρ.b ++ bs, ρ.v ++ vs, ρ.j⟩ s') : VC P Q T (.call f args H res di db dv k) ρ s := by
  intro β s1 hs _
  refine ⟨_, by rw [ha β]; exact hct s1 hs, ?_⟩
  rintro v s' hs' rfl
  exact ⟨is, bs, vs, h1, h2, h3, hf, hr, hk s' (fun b o u h => hs' b o u (hs b o u h))⟩
end
end Go.Sx
