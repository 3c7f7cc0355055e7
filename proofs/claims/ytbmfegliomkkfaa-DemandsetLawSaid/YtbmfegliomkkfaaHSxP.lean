/- SX: the arguments of a law. -/
import Derived.Test.YtbmfegliomkkfaaHSxO
import Derived.ShutString
import Derived.Below
namespace Go.Sx
open Go.ChangeShapes Go.WideShapes
variable {H : Type} {enc : TypeId × Value → H} {P : Program} {w : World} {base : Nat} {r : Go.Reach} {b0 : Nat} {spare : Nat → Bool} {held : Bool}

theorem okWide_arrA {t e : TypeId} {n : Nat} {v : Value} (ht : P.underlying t = some (.array n e)) (h : Value.okWide P w r b0 t v) : ∃ cs : Array Value, v = .agg cs := by
  simp only [Value.okWide, ht] at h
  obtain ⟨cs, h1, _⟩ := h
  exact ⟨cs, h1⟩

theorem open_agg {t : TypeId} {ks : List Kd} {cs : Array Value} {d : DataW H} {ps : List MemPlace} (hf : FlatI P t ks) (h : DataW.Trod enc P w base spare held t (.agg cs) d ps) :
    ∃ zs, okI ks zs ∧ cs = (cellsI ks zs).toArray := by
  obtain ⟨fuel, h⟩ := h
  obtain ⟨zs, h1, h2⟩ := trod_flat hf h
  refine ⟨zs, h1, ?_⟩
  have : (Value.agg cs).cells = cs := rfl
  rw [this] at h2
  cases cs; simp_all

theorem open_arr {t e : TypeId} {n : Nat} {ks : List Kd} {v : Value} {d : DataW H} {ps : List MemPlace} (ht : P.underlying t = some (.array n e)) (hf : FlatI P t ks) (hval : Value.okWide P w r b0 t v)
    (h : DataW.Trod enc P w base spare held t v d ps) : ∃ zs, okI ks zs ∧ v = .agg (cellsI ks zs).toArray := by
  obtain ⟨cs, rfl⟩ := okWide_arrA ht hval
  obtain ⟨zs, h1, rfl⟩ := open_agg hf h
  exact ⟨zs, h1, rfl⟩

theorem open_st {t : TypeId} {fs : Array Field} {ks : List Kd} {v : Value} {d : DataW H} {ps : List MemPlace} (ht : P.underlying t = some (.struct fs)) (hf : FlatI P t ks) (hval : Value.okWide P w r b0 t v)
    (h : DataW.Trod enc P w base spare held t v d ps) : ∃ zs, okI ks zs ∧ v = .agg (cellsI ks zs).toArray := by
  obtain ⟨cs, rfl, _⟩ := okWide_struct ht hval
  obtain ⟨zs, h1, rfl⟩ := open_agg hf h
  exact ⟨zs, h1, rfl⟩

theorem open_sl {t e : TypeId} {ks : List Kd} {v : Value} {d : DataW H} {ps : List MemPlace} (ht : P.underlying t = some (.slice e)) (hf : FlatI P e ks) (hc : P.cellsOf e = ks.length) (hpos : 0 < ks.length) (hval : Value.okWide P w r b0 t v)
    (h : DataW.Trod enc P w 0 spare held t v d ps) : ∃ zss : List (List Int), (∀ zs ∈ zss, okI ks zs) ∧ SliceIn (hpOf w) ks.length v (zss.map (cellsI ks)) := by
  obtain ⟨a, len, cap, rfl⟩ := okWide_slice ht hval
  obtain ⟨fuel, h⟩ := h
  have hcs : (Value.slice a len cap).cells.toList = [.slice a len cap] := rfl
  rw [hcs] at h
  obtain ⟨zss, h1, _, h2⟩ := open_flat ht hf hc hpos h
  exact ⟨zss, h1, h2⟩

theorem open_num {t : TypeId} {k : IntKind} {v : Value} {d : DataW H} {ps : List MemPlace} (ht : P.underlying t = some (.int k)) (hval : Value.okWide P w r b0 t v) (h : DataW.Trod enc P w base spare held t v d ps) :
    ∃ n, v = .int k n ∧ loI k ≤ n ∧ n ≤ hiI k := by
  obtain ⟨n, rfl, _, _, hw⟩ := open_int ht hval h
  exact ⟨n, rfl, wf_rng hw⟩
end Go.Sx
