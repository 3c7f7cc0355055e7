/- Objects that hold numbers; maps that hold marks. -/
import Derived.Test.YthjahianafohjaaHTxZ
set_option linter.unusedSimpArgs false
set_option linter.unusedVariables false
namespace Go.Sx
def icell (l : List Int) : List PV := l.map (PV.int .i64)
def irows (l : List Int) : List (List PV) := l.map fun z => [.int .i64 z]
theorem icell_len (l : List Int) : (icell l).length = l.length := by simp [icell]
theorem icell_drop {l : List Int} {i : Nat} {z : Int} (h : l[i]? = some z) : List.drop i (icell l) = .int .i64 z :: icell (l.drop (i + 1)) := by
  unfold icell; rw [← List.map_drop, drop_cons h]; rfl
theorem icell_set {l : List Int} {i : Nat} (z : Int) (h : i < l.length) : setP (icell l) i [.int .i64 z] = icell (l.set i z) := by
  unfold setP icell
  rw [List.set_eq_take_append_cons_drop, if_pos h]
  simp [List.map_drop, List.map_take]
theorem icell_rep (n : Nat) (z : Int) : (List.replicate n [PV.int .i64 z]).flatten = icell (List.replicate n z) := by
  induction n with
  | zero => rfl
  | succ n ih => rw [List.replicate_succ, List.flatten_cons, ih]; rfl
theorem locEl_msl {i len h o cap sz off : Nat} (hi : i < len) : locEl (i : Int) sz off (.msl h o len cap sz) = some (.obj h (o + (i * sz + off))) := by
  simp [locEl, hi]
theorem locEl_rsl {i len h sz off : Nat} (hi : i < len) : locEl (i : Int) sz off (.rsl h len sz) = some (.elt h len i sz off) := by
  simp [locEl, hi]
theorem lows_icell (k : Nat) (l : List Int) : PV.lows k (icell l) = true := by
  induction l with
  | nil => rfl
  | cons z l ih => simpa [icell, PV.lows, PV.low] using ih
theorem frzs_icell (k : Nat) (look : Nat → Option MO) (l : List Int) : PV.frzs k look (icell l) = some (icell l) := PV.frzs_low _ (lows_icell k l)
theorem rowsN_icell (l : List Int) : rowsN 1 l.length (icell l) = some (irows l) := by
  induction l with
  | nil => rfl
  | cons z l ih =>
    have e1 : icell (z :: l) = PV.int .i64 z :: icell l := rfl
    rw [List.length_cons, rowsN, e1]
    have e2 : List.drop 1 (PV.int .i64 z :: icell l) = icell l := rfl
    have e3 : List.take 1 (PV.int .i64 z :: icell l) = [PV.int .i64 z] := rfl
    rw [e2, e3, ih, if_pos ⟨by simp, by simp [PV.one]⟩]
    rfl
/-- Objects that refer to none. -/
def Flat (σ : List MO) : Prop := ∀ k, σ.all (MO.low k) = true
theorem flat_nil : Flat [] := fun _ => rfl
theorem Flat.snoc {σ : List MO} (h : Flat σ) (l : List Int) (T : Nat) : Flat (σ ++ [.cells (icell l) T]) := fun k => by
  rw [List.all_append, h k]; simp [MO.low, lows_icell]
theorem get_2 {α : Type} (σ : List α) (A B C : α) (r : List α) : (σ ++ A :: B :: C :: r)[σ.length + 2]? = some C := by
  rw [List.getElem?_append_right (by omega)]; simp
theorem set_2 {α : Type} (σ : List α) (A B C X : α) (r : List α) : (σ ++ A :: B :: C :: r).set (σ.length + 2) X = σ ++ A :: B :: X :: r := by
  rw [List.set_append_right _ _ (by omega)]; simp
theorem get_old {α : Type} {σ r : List α} {h : Nat} {A : α} (e : σ[h]? = some A) : (σ ++ r)[h]? = some A := by
  rw [List.getElem?_append_left (List.getElem?_eq_some_iff.1 e).1]; exact e
theorem lookL_rep (ks : List Int) (x : PV) (z : Int) : lookL ks (List.replicate ks.length x) z = if z ∈ ks then some x else none := by
  induction ks with
  | nil => rfl
  | cons k ks ih =>
    rw [List.length_cons, List.replicate_succ, lookL, ih]
    by_cases h : k = z
    · subst h; simp
    · have : ¬ z = k := fun e => h e.symm
      simp [h, this]
theorem putL_new (ks : List Int) (x : PV) (z : Int) (h : z ∉ ks) : putL ks (List.replicate ks.length x) z x = (ks ++ [z], List.replicate (ks.length + 1) x) := by
  induction ks with
  | nil => rfl
  | cons k ks ih =>
    rw [List.mem_cons, not_or] at h
    have : ¬ k = z := fun e => h.1 e.symm
    rw [List.length_cons, List.replicate_succ, putL, ih h.2, if_neg this]
    simp [List.replicate_succ]
/-- The number at a place. -/
def at' (l : List Int) (i : Nat) : Int := (l[i]?).getD 0
theorem at'_get {l : List Int} {i : Nat} (h : i < l.length) : l[i]? = some (at' l i) := by simp [at', h]
theorem at'_set {l : List Int} {b : Nat} (x : Int) (h : b < l.length) (i : Nat) : at' (l.set b x) i = if i = b then x else at' l i := by
  simp only [at', List.getElem?_set]
  by_cases e : b = i
  · subst e; simp [h]
  · have : ¬ i = b := fun q => e q.symm
    simp [e, this]
end Go.Sx
