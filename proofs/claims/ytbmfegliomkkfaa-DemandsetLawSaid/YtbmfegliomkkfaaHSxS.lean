/- SX: more steps through a tree. -/
import Derived.Test.YtbmfegliomkkfaaHSxR
namespace Go.Sx
section
variable {P : Program} {Q : Value → Hp → Prop} {T : Cfg → Env → Hp → Prop} {ρ : Env} {s : Hp}

theorem SliceIn.kind {size : Nat} {v : Value} {xs : List (List Value)} (h : SliceIn s size v xs) : isKindV 0 v = true := by
  obtain ⟨_, a, cap, rfl, _⟩ := h
  rfl

theorem SliceIn.at {size : Nat} {v : Value} {xs : List (List Value)} {n : Nat} {i : IE} {k : Nat} {x : List Value} {ρ : Env} (h : SliceIn s size v xs) (hv : ρ.v.getD n vd = v) (hi : i.den ρ = (k : Int)) (hx : xs[k]? = some x) :
    Reads s (SV.den ρ id (.ea n i size 0)) x := by
  obtain ⟨h1, a, cap, rfl, hc, h2⟩ := h
  obtain ⟨b, o, rfl, h3⟩ := h2 (by intro h0; subst h0; simp at hx)
  refine ⟨b, o + k * size, ?_, fun j u hj => h3 k x hx j u hj⟩
  simp only [SV.den, addrOf, hv, hi, Option.getD_some, Int.toNat_natCast]
  by_cases h0 : k * size = 0
  · simp [Addr.add, h0]
  · simp [Addr.add, h0]

theorem vc_load {a : SV} {cs : List SV} {di db dv : Nat} {k : Out} (is : List Int) (bs : List Bool) (vs : List Value) (xs : List Value) (hr : Reads s (a.den ρ id) xs)
    (h1 : is.length = di) (h2 : bs.length = db) (h3 : vs.length = dv) (hf : vs.all fineV = true) (hx : SV.dens ⟨ρ.i ++ is, ρ.b ++ bs, ρ.v ++ vs, ρ.j⟩ id cs = xs)
    (hk : VC P Q T k ⟨ρ.i ++ is, ρ.b ++ bs, ρ.v ++ vs, ρ.j⟩ s) : VC P Q T (.load a cs di db dv k) ρ s :=
  ⟨is, bs, vs, h1, h2, h3, hf, by unfold Env.push; rw [hx]; exact hr, hk⟩

theorem vc_app {d : Nat} {e : List SV} {size bytes : Nat} {k : Out} (xs : List (List Value)) (x : List Value) (hd : SliceIn s size (ρ.v.getD d vd) xs) (he : SV.dens ρ id e = x)
    (h1 : (xs.length + 1) * bytes ≤ 140737488355328) (h2 : xs.length + 1 ≤ maxLen)
    (hk : ∀ v s', s.le s' → SliceIn s' size v (xs ++ [x]) → VC P Q T k ⟨ρ.i ++ [], ρ.b ++ [], ρ.v ++ [v], ρ.j⟩ s') : VC P Q T (.app (some d) (.lit [e]) size bytes k) ρ s := by
  refine ⟨xs, [x], hd, by simp [SrcIs, he], by simpa using h1, by simpa using h2, fun v s' hs h => hk v s' hs h⟩

theorem vc_app0 {e : List SV} {size bytes : Nat} {k : Out} (x : List Value) (he : SV.dens ρ id e = x)
    (h1 : bytes ≤ 140737488355328)
    (hk : ∀ v s', s.le s' → SliceIn s' size v [x] → VC P Q T k ⟨ρ.i ++ [], ρ.b ++ [], ρ.v ++ [v], ρ.j⟩ s') : VC P Q T (.app none (.lit [e]) size bytes k) ρ s := by
  refine ⟨[], [x], rfl, by simp [SrcIs, he], by simpa using h1, by simp [maxLen], fun v s' hs h => hk v s' hs h⟩

theorem vc_stop {c : Cfg} (h : T c ρ s) : VC P Q T (.stop c) ρ s := h

theorem SliceIn.nil (s : Hp) (size : Nat) : SliceIn s size (.slice none 0 0) [] := ⟨by simp, none, 0, rfl, Nat.le_refl _, by simp⟩

theorem vc_callS {f : Nat} {args : List SV} {H : List Blk} {n : Nat} {k : Out} (as : List Value) (size : Nat) (xs : List (List Value)) (hct : ∀ s1, s.le s1 → Ct P f as s1 (fun v s' => SliceIn s' size v xs))
    (ha : ∀ β, SV.dens ρ β args = as) (hn : ρ.v.length = n)
    (hk : ∀ v s', s.le s' → SliceIn s' size v xs → VC P Q T k ⟨ρ.i ++ [], ρ.b ++ [], ρ.v ++ [v], ρ.j⟩ s') : VC P Q T (.call f args H (.va n) 0 0 1 k) ρ s := by
  intro β s1 hs _
  refine ⟨_, by rw [ha β]; exact hct s1 hs, ?_⟩
  intro v s' hs' hv
  refine ⟨[], [], [v], rfl, rfl, rfl, by simp [hv.fine], ?_, hk v s' (fun b o u h => hs' b o u (hs b o u h)) hv⟩
  subst hn
  simp [SV.den, Env.push]
end
end Go.Sx
