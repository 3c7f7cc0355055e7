/- SX: a loop's head by a pattern that stands on its own. -/
import Derived.Test.YtbmfegliomkkfaaHTxM
set_option linter.unusedSimpArgs false
set_option linter.unusedVariables false
namespace Go.Sx
section
variable {P : Program} {c : Ctx} {fnc : Func} {fn : FnC} {Q : Value → Hp → MS → Prop}
theorem asg_zero {ρ : Env} {β : Nat → Nat} {A : Asg} {t g : Cfg} (hfit : Sx.fits ⟨0, 0, 0, 0⟩ A t g = true) :
    ρ.asg β ⟨0, 0, 0, 0⟩ A = { i := A.is.map (IE.den ρ), b := A.bs.map (BE.den ρ), v := SV.dens ρ id A.vs, j := SV.dens ρ β A.js, m := ρ.m, k := ρ.k } := by
  have hv : SV.dens ρ β A.vs = SV.dens ρ id A.vs := by
    unfold Sx.fits at hfit
    simp only [Bool.and_eq_true] at hfit
    exact SV.dens_le (kf := fun _ => false) ⟨fun _ _ => rfl, fun _ _ => rfl, fun _ _ => rfl, fun _ _ => rfl⟩ (by simp) _ hfit.2
  simp only [Env.asg, List.take_zero, List.nil_append, hv]
section
variable {f : Fr} {R : Ending → World → Prop} {w0 : World} {s0 : Hp} {X : Fx}
/-- A state that fits a pattern goes on as the pattern does. -/
theorem reach_fit {body : Code} {t : Cfg} {A : Asg} {g : Cfg} {ρ : Env} {s : Hp} (hfit : Sx.fits ⟨0, 0, 0, 0⟩ A t g = true) (hhead : ∀ p d ks k, t.todo ≠ .dreg p d ks :: k)
    (h : ∀ js, js.length = A.js.length → ReachX P f R body w0 s0 X t { i := A.is.map (IE.den ρ), b := A.bs.map (BE.den ρ), v := SV.dens ρ id A.vs, j := js, m := ρ.m, k := ρ.k } s) : ReachX P f R body w0 s0 X g ρ s := by
  intro β a w hr
  obtain ⟨hr', htd⟩ := hr.fits hfit
  rw [asg_zero hfit] at hr'
  exact goesG_congr htd hhead (h _ (by simp [dens_length]) β a w hr')
end
end
end Go.Sx
