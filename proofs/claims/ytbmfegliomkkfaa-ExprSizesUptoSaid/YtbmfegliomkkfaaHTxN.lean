/- SX: '==' on arrays and structs of integers. -/
import Derived.Test.YtbmfegliomkkfaaHTxM
import Derived.ChangeKeysEq
set_option linter.unusedSimpArgs false
set_option linter.unusedVariables false
namespace Go.Sx
def mkV (agg : Bool) (l : List Value) : Value := if agg then .agg l.toArray else l.headD undef
/-- '==' at type t compares cell by cell. -/
structure EqT (P : Program) (d : Nat) (t : TypeId) (b : Bool) (ks : List Kd) : Prop where
  agg : ∀ w, (isAgg t).run P w = .ok b w
  size : ∀ w, (sizeOf t).run P w = .ok ks.length w
  cells : P.cellsOf t = ks.length
  one : b = false → ks.length = 1
  eq : ∀ (w : World) (zs us : List Int), zs.length = ks.length → us.length = ks.length → (Op.equalIn d t (mkV b (cellsI ks zs)) (mkV b (cellsI ks us))).run P w = .ok (decide (zs = us)) w
section
variable {P : Program}
theorem cellsI_append : ∀ (ks ls : List Kd) (zs us : List Int), zs.length = ks.length → cellsI (ks ++ ls) (zs ++ us) = cellsI ks zs ++ cellsI ls us
  | [], ls, [], us, _ => rfl
  | k :: ks, ls, z :: zs, us, h => by simp only [List.cons_append, cellsI, cellsI_append ks ls zs us (by simpa using h)]
  | [], ls, z :: zs, us, h => by simp at h
  | k :: ks, ls, [], us, h => by simp at h
theorem cellsI_length : ∀ (ks : List Kd) (zs : List Int), zs.length = ks.length → (cellsI ks zs).length = ks.length
  | [], [], _ => rfl
  | k :: ks, z :: zs, h => by simp only [cellsI, List.length_cons, cellsI_length ks zs (by simpa using h)]
  | [], z :: zs, h => by simp at h
  | k :: ks, [], h => by simp at h
theorem EqT.part {d : Nat} {t : TypeId} {b : Bool} {ks : List Kd} (h : EqT P d t b ks) (A B : List Value) {zs : List Int} (hz : zs.length = ks.length) (w : World) :
    (part t (A ++ cellsI ks zs ++ B).toArray A.length).run P w = .ok (mkV b (cellsI ks zs)) w := by
  have hl := cellsI_length ks zs hz
  unfold Go.part
  simp only [Sem.run_bind, h.agg, Result.andThen_ok]
  cases b with
  | true =>
    simp only [if_true, Sem.run_bind, h.size, Result.andThen_ok, Sem.run_pure, mkV]
    congr 2
    apply Array.ext'
    simp only [List.extract_toArray, List.extract_eq_take_drop, Nat.add_sub_cancel_left]
    rw [List.append_assoc, List.drop_left, ← hl, List.take_left]
  | false =>
    have h1 := h.one rfl
    rw [h1] at hl
    simp only [Bool.false_eq_true, if_false, mkV]
    match hc : cellsI ks zs, hl with
    | [v], _ => simp
theorem eqT_int {t : TypeId} {k : IntKind} (hu : P.underlying t = some (.int k)) (hs : ∀ w, (sizeOf t).run P w = .ok 1 w) (hc : P.cellsOf t = 1) (d : Nat) : EqT P (d + 1) t false [.int k] where
  agg w := by simp [isAgg, run_underlying hu]
  size w := hs w
  cells := hc
  one _ := rfl
  eq w zs us h1 h2 := by
    match zs, h1, us, h2 with
    | [z], _, [u], _ =>
      simp only [mkV, cellsI, cellI, Bool.false_eq_true, if_false, List.headD_cons]
      rw [run_equalIn_int w d t k k z u hu]
      simp [BEq.beq]
theorem eqItems_spec {d : Nat} {e : TypeId} {b : Bool} {ks : List Kd} (h : EqT P d e b ks) : ∀ (n : Nat) (A B : List Value) (zs us : List Int) (w : World) (o : Nat), A.length = o * ks.length → B.length = o * ks.length →
    zs.length = n * ks.length → us.length = n * ks.length →
    (Op.eqItems d e (P.cellsOf e) (A ++ cellsI (List.replicate n ks).flatten zs).toArray (B ++ cellsI (List.replicate n ks).flatten us).toArray ((List.range n).map (o + ·))).run P w = .ok (decide (zs = us)) w
  | 0, A, B, zs, us, w, o, _, _, h1, h2 => by
    simp at h1 h2; subst h1; subst h2
    simp [Op.eqItems]
  | n + 1, A, B, zs, us, w, o, hA, hB, h1, h2 => by
    rw [Nat.add_mul, Nat.one_mul, Nat.add_comm] at h1 h2
    have hz : (zs.take ks.length).length = ks.length := by rw [List.length_take]; omega
    have hu : (us.take ks.length).length = ks.length := by rw [List.length_take]; omega
    have hz2 : (zs.drop ks.length).length = n * ks.length := by rw [List.length_drop]; omega
    have hu2 : (us.drop ks.length).length = n * ks.length := by rw [List.length_drop]; omega
    have ez : cellsI (List.replicate (n + 1) ks).flatten zs = cellsI ks (zs.take ks.length) ++ cellsI (List.replicate n ks).flatten (zs.drop ks.length) := by
      rw [← cellsI_append _ _ _ _ hz, List.take_append_drop]; simp [List.replicate_succ]
    have eu : cellsI (List.replicate (n + 1) ks).flatten us = cellsI ks (us.take ks.length) ++ cellsI (List.replicate n ks).flatten (us.drop ks.length) := by
      rw [← cellsI_append _ _ _ _ hu, List.take_append_drop]; simp [List.replicate_succ]
    have ih := eqItems_spec h n (A ++ cellsI ks (zs.take ks.length)) (B ++ cellsI ks (us.take ks.length)) (zs.drop ks.length) (us.drop ks.length) w (o + 1)
      (by rw [List.length_append, cellsI_length _ _ hz, hA, Nat.add_mul]; omega) (by rw [List.length_append, cellsI_length _ _ hu, hB, Nat.add_mul]; omega) hz2 hu2
    rw [List.range_succ_eq_map]
    simp only [List.map_cons, List.map_map, Op.eqItems, Sem.run_bind, Nat.add_zero]
    have p1 := h.part A (cellsI (List.replicate n ks).flatten (zs.drop ks.length)) hz w
    have p2 := h.part B (cellsI (List.replicate n ks).flatten (us.drop ks.length)) hu w
    rw [hA] at p1
    rw [hB] at p2
    rw [ez, eu, ← List.append_assoc, ← List.append_assoc, h.cells, p1]
    simp only [Result.andThen_ok, p2, h.eq w _ _ hz hu]
    have hsplit : (zs = us) ↔ (zs.take ks.length = us.take ks.length ∧ zs.drop ks.length = us.drop ks.length) := by
      constructor
      · intro e; subst e; exact ⟨rfl, rfl⟩
      · intro ⟨e1, e2⟩; rw [← List.take_append_drop ks.length zs, e1, e2, List.take_append_drop]
    by_cases he : zs.take ks.length = us.take ks.length
    · simp only [he, decide_true, Bool.not_true, Bool.false_eq_true, if_false]
      rw [h.cells] at ih
      rw [show ((fun x => o + x) ∘ Nat.succ) = (fun x => o + 1 + x) by funext x; simp; omega]
      rw [ez, eu] at *
      have : decide (zs = us) = decide (zs.drop ks.length = us.drop ks.length) := by simp [hsplit, he]
      rw [he] at ih
      rw [this]; exact ih
    · have : decide (zs = us) = false := by simp [hsplit, he]
      simp [he, this]
theorem eqT_array {d : Nat} {t e : TypeId} {n : Nat} {b : Bool} {ks : List Kd} {inf : TypeInfo} (h : EqT P d e b ks) (hu : P.underlying t = some (.array n e)) (hinf : P.info? e = some inf) (hs : ∀ w, (sizeOf t).run P w = .ok (n * ks.length) w) (hc : P.cellsOf t = n * ks.length) :
    EqT P (d + 1) t true (List.replicate n ks).flatten where
  agg w := by simp [isAgg, run_underlying hu]
  size w := by rw [hs]; simp
  cells := by rw [hc]; simp
  one hb := by simp at hb
  eq w zs us h1 h2 := by
    simp only [mkV, if_true]
    rw [run_equalIn_array w d _ _ hu hinf]
    have := eqItems_spec h n [] [] zs us w 0 (by simp) (by simp) (by simpa using h1) (by simpa using h2)
    simpa using this
/-- Fields, one behind the other. -/
inductive EqFs (P : Program) (d : Nat) : Nat → List Field → List Kd → Prop where
  | nil (o : Nat) : EqFs P d o [] []
  | cons {o : Nat} {f : Field} {fs : List Field} {b : Bool} {ks ls : List Kd} (hn : f.name ≠ "_") (ho : f.offset = o) (h : EqT P d f.type b ks) (r : EqFs P d (o + ks.length) fs ls) : EqFs P d o (f :: fs) (ks ++ ls)
theorem eqFs_spec {d o : Nat} {fs : List Field} {ks : List Kd} (h : EqFs P d o fs ks) : ∀ (A B : List Value) (zs us : List Int) (w : World), A.length = o → B.length = o → zs.length = ks.length → us.length = ks.length →
    (Op.eqFields d (A ++ cellsI ks zs).toArray (B ++ cellsI ks us).toArray fs).run P w = .ok (decide (zs = us)) w := by
  induction h with
  | nil o =>
    intro A B zs us w _ _ h1 h2
    simp at h1 h2; subst h1; subst h2
    simp [Op.eqFields]
  | cons hn ho h r ih =>
    rename_i o f fs b ks ls
    intro A B zs us w hA hB h1 h2
    rw [List.length_append] at h1 h2
    have hz : (zs.take ks.length).length = ks.length := by rw [List.length_take]; omega
    have hu : (us.take ks.length).length = ks.length := by rw [List.length_take]; omega
    have hz2 : (zs.drop ks.length).length = ls.length := by rw [List.length_drop]; omega
    have hu2 : (us.drop ks.length).length = ls.length := by rw [List.length_drop]; omega
    have ez : cellsI (ks ++ ls) zs = cellsI ks (zs.take ks.length) ++ cellsI ls (zs.drop ks.length) := by
      rw [← cellsI_append _ _ _ _ hz, List.take_append_drop]
    have eu : cellsI (ks ++ ls) us = cellsI ks (us.take ks.length) ++ cellsI ls (us.drop ks.length) := by
      rw [← cellsI_append _ _ _ _ hu, List.take_append_drop]
    have ih := ih (A ++ cellsI ks (zs.take ks.length)) (B ++ cellsI ks (us.take ks.length)) (zs.drop ks.length) (us.drop ks.length) w
      (by rw [List.length_append, cellsI_length _ _ hz, hA]) (by rw [List.length_append, cellsI_length _ _ hu, hB]) hz2 hu2
    have p1 := h.part A (cellsI ls (zs.drop ks.length)) hz w
    have p2 := h.part B (cellsI ls (us.drop ks.length)) hu w
    rw [hA] at p1
    rw [hB] at p2
    simp only [Op.eqFields]
    rw [if_pos hn, ez, eu, ← List.append_assoc, ← List.append_assoc, ho]
    simp only [Sem.run_bind, p1, Result.andThen_ok, p2, h.eq w _ _ hz hu]
    have hsplit : (zs = us) ↔ (zs.take ks.length = us.take ks.length ∧ zs.drop ks.length = us.drop ks.length) := by
      constructor
      · intro e; subst e; exact ⟨rfl, rfl⟩
      · intro ⟨e1, e2⟩; rw [← List.take_append_drop ks.length zs, e1, e2, List.take_append_drop]
    by_cases he : zs.take ks.length = us.take ks.length
    · have : decide (zs = us) = decide (zs.drop ks.length = us.drop ks.length) := by simp [hsplit, he]
      rw [this]
      simpa [he] using ih
    · have : decide (zs = us) = false := by simp [hsplit, he]
      simp [he, this]
theorem eqT_struct {d : Nat} {t : TypeId} {ks : List Kd} {fields : Array Field} (hu : P.underlying t = some (.struct fields)) (hF : EqFs P d 0 fields.toList ks) (hp : P.stoodInHeld t = false) (hs : ∀ w, (sizeOf t).run P w = .ok ks.length w) (hc : P.cellsOf t = ks.length) :
    EqT P (d + 1) t true ks where
  agg w := by simp [isAgg, run_underlying hu]
  size w := hs w
  cells := hc
  one hb := by simp at hb
  eq w zs us h1 h2 := by
    have hfo : P.fieldsOf t = fields := by simp [Program.fieldsOf, hu]
    simp only [mkV, if_true]
    rw [run_equalIn_struct w d t _ _ (by rw [hfo]; exact hu) hp]
    have := eqFs_spec hF [] [] zs us w rfl rfl h1 h2
    rw [hfo]
    simpa using this
end
end Go.Sx
