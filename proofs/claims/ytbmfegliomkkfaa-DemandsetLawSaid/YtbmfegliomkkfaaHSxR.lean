/- SX: a loop's head by a pattern that stands on its own. -/
import Derived.Test.YtbmfegliomkkfaaHSxQ
namespace Go.Sx
section
variable {P : Program} {c : Ctx} {fnc : Func} {fn : FnC} {Q : Value → Hp → Prop}

theorem asg_zero {ρ : Env} {β : Nat → Nat} {A : Asg} {t g : Cfg} (hfit : Sx.fits ⟨0, 0, 0, 0⟩ A t g = true) :
    ρ.asg β ⟨0, 0, 0, 0⟩ A = ⟨A.is.map (IE.den ρ), A.bs.map (BE.den ρ), SV.dens ρ id A.vs, SV.dens ρ β A.js⟩ := by
  have hv : SV.dens ρ β A.vs = SV.dens ρ id A.vs := by
    unfold Sx.fits at hfit
    simp only [Bool.and_eq_true] at hfit
    exact SV.dens_le (kf := fun _ => false) ⟨fun _ _ => rfl, fun _ _ => rfl, fun _ _ => rfl, fun _ _ => rfl⟩ (by simp) _ hfit.2
  simp only [Env.asg, List.take_zero, List.nil_append, hv]

section
variable {f : Fr} {R : Ending → World → Prop} {w0 : World} {s0 : Hp} {X : Fx}
/-- A state that fits a pattern goes on as the pattern does. -/
theorem reach_fit {body : Code} {t : Cfg} {A : Asg} {g : Cfg} {ρ : Env} {s : Hp} (hfit : Sx.fits ⟨0, 0, 0, 0⟩ A t g = true) (hhead : ∀ p d ks k, t.todo ≠ .dreg p d ks :: k)
    (h : ∀ js, js.length = A.js.length → ReachX P f R body w0 s0 X t ⟨A.is.map (IE.den ρ), A.bs.map (BE.den ρ), SV.dens ρ id A.vs, js⟩ s) : ReachX P f R body w0 s0 X g ρ s := by
  intro β a w hr
  obtain ⟨hr', htd⟩ := hr.fits hfit
  rw [asg_zero hfit] at hr'
  exact goesG_congr htd hhead (h _ (by simp [dens_length]) β a w hr')

/-- A loop by its head's pattern, in whatever frame. -/
theorem loopX (hP : ProgOk P c)
    (hend : EndOk P c fn f X R Q s0 w0)
    (hnd : f.2 = none ∨ ∀ p (i : Nat) (o : Oper), (opsAt (sub fn.body p))[i]? = some o → isDefer o = false) (n : Nat) (t : Cfg)
    (I : List Int → List Bool → List Value → Hp → Prop) (μ : List Int → List Bool → List Value → Nat) (hhead : ∀ p d ks k, t.todo ≠ .dreg p d ks :: k)
    (round : ∀ is bs vs js s1, is.length = t.ni → bs.length = t.nb → vs.length = t.nv → js.length = t.nj → I is bs vs s1 →
      (∀ (A : Asg) g' ρ' s', s1.le s' → Sx.fits ⟨0, 0, 0, 0⟩ A t g' = true → I (A.is.map (IE.den ρ')) (A.bs.map (BE.den ρ')) (SV.dens ρ' id A.vs) s' → μ (A.is.map (IE.den ρ')) (A.bs.map (BE.den ρ')) (SV.dens ρ' id A.vs) < μ is bs vs →
        ReachX P f R fn.body w0 s0 X g' ρ' s') →
      VC P Q (ReachX P f R fn.body w0 s0 X) (run c fn n t) ⟨is, bs, vs, js⟩ s1) :
    ∀ (A : Asg) (g : Cfg) (ρ : Env) (s : Hp), Sx.fits ⟨0, 0, 0, 0⟩ A t g = true → I (A.is.map (IE.den ρ)) (A.bs.map (BE.den ρ)) (SV.dens ρ id A.vs) s → ReachX P f R fn.body w0 s0 X g ρ s := by
  have main : ∀ (N : Nat) (is : List Int) (bs : List Bool) (vs js : List Value) (s1 : Hp), μ is bs vs = N → is.length = t.ni → bs.length = t.nb → vs.length = t.nv → js.length = t.nj →
      I is bs vs s1 → ReachX P f R fn.body w0 s0 X t ⟨is, bs, vs, js⟩ s1 := by
    intro N
    induction N using Nat.strongRecOn with
    | _ N ih =>
      intro is bs vs js s1 hN l1 l2 l3 l4 hI
      refine runX_sound hP hend hnd (fun _ _ _ h => h) n _ _ _ (round is bs vs js s1 l1 l2 l3 l4 hI ?_)
      intro A g' ρ' s' hle' hfit hI' hlt
      have hfit1 := hfit
      unfold Sx.fits at hfit1
      simp only [Bool.and_eq_true, beq_iff_eq] at hfit1
      refine reach_fit hfit hhead (fun js hjs => ih _ (by rw [← hN]; exact hlt) _ _ _ js s' rfl ?_ ?_ ?_ ?_ hI')
      · simp only [List.length_map]; have := hfit1.1.1.1.1.1.1.1.1.1.2; omega
      · simp only [List.length_map]; have := hfit1.1.1.1.1.1.1.1.1.2; omega
      · simp only [dens_length]; have := hfit1.1.1.1.1.1.1.1.2; omega
      · have := hfit1.1.1.1.1.1.1.2; omega
  intro A g ρ s hfit hI
  have hfit1 := hfit
  unfold Sx.fits at hfit1
  simp only [Bool.and_eq_true, beq_iff_eq] at hfit1
  refine reach_fit hfit hhead (fun js hjs => main _ _ _ _ js s rfl ?_ ?_ ?_ ?_ hI)
  · simp only [List.length_map]; have := hfit1.1.1.1.1.1.1.1.1.1.2; omega
  · simp only [List.length_map]; have := hfit1.1.1.1.1.1.1.1.1.2; omega
  · simp only [dens_length]; have := hfit1.1.1.1.1.1.1.1.2; omega
  · have := hfit1.1.1.1.1.1.1.2; omega
end

/-- A loop of a plain function. -/
theorem loop0 {f : FuncId} (hP : ProgOk P c) (hf : P.funcs[f]? = some fnc) (hres : fn.res = fnc.results.toList) {w0 : World} {s0 : Hp} (n : Nat) (t : Cfg)
    (I : List Int → List Bool → List Value → Hp → Prop) (μ : List Int → List Bool → List Value → Nat) (hhead : ∀ p d ks k, t.todo ≠ .dreg p d ks :: k)
    (round : ∀ is bs vs js s1, is.length = t.ni → bs.length = t.nb → vs.length = t.nv → js.length = t.nj → I is bs vs s1 →
      (∀ (A : Asg) g' ρ' s', s1.le s' → Sx.fits ⟨0, 0, 0, 0⟩ A t g' = true → I (A.is.map (IE.den ρ')) (A.bs.map (BE.den ρ')) (SV.dens ρ' id A.vs) s' → μ (A.is.map (IE.den ρ')) (A.bs.map (BE.den ρ')) (SV.dens ρ' id A.vs) < μ is bs vs →
        Reach P f (Ret Q s0 w0) fn.body w0 s0 g' ρ' s') →
      VC P Q (Reach P f (Ret Q s0 w0) fn.body w0 s0) (run c fn n t) ⟨is, bs, vs, js⟩ s1) :
    ∀ (A : Asg) (g : Cfg) (ρ : Env) (s : Hp), Sx.fits ⟨0, 0, 0, 0⟩ A t g = true → I (A.is.map (IE.den ρ)) (A.bs.map (BE.den ρ)) (SV.dens ρ id A.vs) s → Reach P f (Ret Q s0 w0) fn.body w0 s0 g ρ s :=
  loopX hP (EndOk.marks [] (.nil _) hf hres) (.inl rfl) n t I μ hhead round

/-- A tree asked of a state: the state goes on. -/
theorem reach_vc {f : FuncId} (hP : ProgOk P c) (hf : P.funcs[f]? = some fnc) (hres : fn.res = fnc.results.toList) {w0 : World} {s0 : Hp} (n : Nat) {t : Cfg} {ρ : Env} {s : Hp}
    (h : VC P Q (Reach P f (Ret Q s0 w0) fn.body w0 s0) (run c fn n t) ρ s) : Reach P f (Ret Q s0 w0) fn.body w0 s0 t ρ s :=
  run_sound hP hf hres (fun _ _ _ h => h) n _ _ _ h
end
end Go.Sx
