/- SX: a function's contract; a loop. -/
import Derived.Test.YtbmfegliomkkfaaHTxL
set_option linter.unusedSimpArgs false
set_option linter.unusedVariables false
namespace Go.Sx
open Go.RowKit
/-- Six integers from atom k on. -/
def b6 (k : Nat) : SV := .agg [.int .i64 (.a k), .int .i64 (.a (k + 1)), .int .i64 (.a (k + 2)), .int .i64 (.a (k + 3)), .int .i64 (.a (k + 4)), .int .i64 (.a (k + 5))]
def iA (k : Nat) : SV := .int .i64 (.a k)
def fnOf (f : Func) : FnC := ⟨f.body.getD .skip, f.results.toList⟩
def startCfg (ntmps : Nat) (args : List SV) (ni nb nv : Nat) : Cfg := { todo := [.code []], sl := args ++ List.replicate (ntmps - args.length) .undef, H := [], ni, nb, nv, nj := 0 }
theorem dens_append (ρ : Env) (β : Nat → Nat) (l m : List SV) : SV.dens ρ β (l ++ m) = SV.dens ρ β l ++ SV.dens ρ β m := by simp [SV.dens_map]
theorem dens_replicate (ρ : Env) (β : Nat → Nat) (n : Nat) : SV.dens ρ β (List.replicate n .undef) = List.replicate n undef := by simp [SV.dens_map, SV.den]
section
variable {P : Program} {c : Ctx} {f : FuncId} {fnc : Func} {fn : FnC} {Q : Value → Hp → MS → Prop}
/-- A contract out of the executor's tree. -/
theorem ct_run (hP : ProgOk P c) (hf : P.funcs[f]? = some fnc) (hb : fnc.body = some fn.body) (hres : fn.res = fnc.results.toList) (n : Nat) {args : List SV} {ρ : Env} {s0 : Hp} (hρ : ρ.Ok) (hj : ρ.j = []) (hk : ρ.k = ρ.m.length)
    (h : ∀ w0, VC P Q (Reach P f (Ret Q s0 ρ.m w0) fn.body w0 s0 ρ.m) (run c fn n (startCfg fnc.ntmps args ρ.i.length ρ.b.length ρ.v.length)) ρ s0) : Ct P f (SV.dens ρ id args) s0 ρ.m Q := by
  intro w hsub hmok
  refine calls_of_goes hf hb ?_
  have hr : Rel w s0 (Xm (blks ρ.m) []) ρ s0 id (startCfg fnc.ntmps args ρ.i.length ρ.b.length ρ.v.length) { tmps := (SV.dens ρ id args).toArray ++ Array.replicate (fnc.ntmps - (SV.dens ρ id args).toArray.size) undef, defers := [] } w := by
    refine ⟨?_, rfl, Nat.zero_le _, fun x hx => ?_, ⟨?_, ?_, by omega, hmok.nd, fun x hx => by simp [Xm] at hx, fun i x hi hx => by rw [List.getElem?_eq_none (by omega)] at hx; cases hx⟩, rfl, rfl, rfl, rfl, by simp [hj, startCfg], hρ, Grows.refl _ _, hsub, fun b o u h1 h2 => by rw [h1] at h2; simp at h2, Hp.le_refl _, fun k b hk => by simp [startCfg] at hk, fun j k bj bk _ hj => by simp [startCfg] at hj⟩
    · simp only [startCfg, dens_append, dens_replicate, List.size_toArray, dens_length]
      apply Array.ext'
      simp
    · rcases hx with hx | hx
      · simp [Xm] at hx
      · exact ⟨hmok.is x hx, fun k b hk => by simp [startCfg] at hk, hmok.un x hx⟩
    · show (blks ρ.m).length = _
      simp [blks, hk]
    · intro i x _ hx
      left
      show (blks ρ.m)[i]? = _
      simp [blks, hx]
  have := run_sound (w0 := w) (s0 := s0) hP hf hres (fun _ _ _ h => h) n _ _ _ (h w) id _ w hr
  exact this
structure Asg where
  is : List IE
  bs : List BE
  vs : List SV
  js : List SV
  deriving Inhabited
/-- The numbers of atoms that were there before the loop. -/
structure Base where
  ni : Nat
  nb : Nat
  nv : Nat
  nj : Nat
  deriving Inhabited
def Cfg.base (g : Cfg) : Base := ⟨g.ni, g.nb, g.nv, g.nj⟩
section
variable (m : Base) (A : Asg)
def vsub (n : Nat) : Option SV := if n < m.nv then some (.va n) else A.vs[n - m.nv]?
def IE.sbt : IE → Option IE
  | .a n => if n < m.ni then some (.a n) else A.is[n - m.ni]?
  | .l z => some (.l z)
  | .add x y => match x.sbt, y.sbt with | some x, some y => some (.add x y) | _, _ => none
  | .sub x y => match x.sbt, y.sbt with | some x, some y => some (.sub x y) | _, _ => none
  | .mul x y => match x.sbt, y.sbt with | some x, some y => some (.mul x y) | _, _ => none
  | .tdiv x y => match x.sbt, y.sbt with | some x, some y => some (.tdiv x y) | _, _ => none
  | .tmod x y => match x.sbt, y.sbt with | some x, some y => some (.tmod x y) | _, _ => none
  | .mn x y => match x.sbt, y.sbt with | some x, some y => some (.mn x y) | _, _ => none
  | .mx x y => match x.sbt, y.sbt with | some x, some y => some (.mx x y) | _, _ => none
  | .ifeq p q x y => match p.sbt, q.sbt, x.sbt, y.sbt with | some p, some q, some x, some y => some (.ifeq p q x y) | _, _, _, _ => none
  | .wr k x => x.sbt.map (.wr k)
  | .slen n => if n < m.nv then some (.slen n) else match A.vs[n - m.nv]? with
    | some (.va k) => some (.slen k)
    | _ => none
def BE.sbt : BE → Option BE
  | .t b => some (.t b)
  | .a n => if n < m.nb then some (.a n) else A.bs[n - m.nb]?
  | .lt x y => match x.sbt m A, y.sbt m A with | some x, some y => some (.lt x y) | _, _ => none
  | .le x y => match x.sbt m A, y.sbt m A with | some x, some y => some (.le x y) | _, _ => none
  | .eq x y => match x.sbt m A, y.sbt m A with | some x, some y => some (.eq x y) | _, _ => none
  | .not x => x.sbt.map .not
  | .and x y => match x.sbt, y.sbt with | some x, some y => some (.and x y) | _, _ => none
  | .or x y => match x.sbt, y.sbt with | some x, some y => some (.or x y) | _, _ => none
  | .nil n => if n < m.nv then some (.nil n) else match A.vs[n - m.nv]? with
    | some (.va k) => some (.nil k)
    | _ => none
  | .is q n => if n < m.nv then some (.is q n) else match A.vs[n - m.nv]? with
    | some (.va k) => some (.is q k)
    | _ => none
mutual
def SV.sbt : SV → Option SV
  | .int k e => (e.sbt m A).map (.int k)
  | .bool b => (b.sbt m A).map .bool
  | .va n => vsub m A n
  | .junk n => if n < m.nj then some (.junk n) else A.js[n - m.nj]?
  | .ea n i size off => match vsub m A n, i.sbt m A with | some (.va k), some i => some (.ea k i size off) | _, _ => none
  | .pa n off => match vsub m A n with | some (.va k) => some (.pa k off) | _ => none
  | .agg cs => (SV.sbts cs).map .agg
  | .tup cs => (SV.sbts cs).map .tup
  | .fn f cs => (SV.sbts cs).map (.fn f)
  | .str s => some (.str s)
  | .undef => some .undef
  | .nilS => some .nilS
  | .nilF => some .nilF
  | .nilP => some .nilP
  | .nilI => some .nilI
  | .ptr k o => some (.ptr k o)
  | .sl k n => some (.sl k n)
  | .slc k n q => some (.slc k n q)
def SV.sbts : List SV → Option (List SV)
  | [] => some []
  | x :: l => match x.sbt, SV.sbts l with | some x, some l => some (x :: l) | _, _ => none
end
def optBeqs : Option (List SV) → List SV → Bool
  | some l, l' => SV.beqs l l'
  | none, _ => false
def blkFits : Blk → Option Blk → Bool
  | .cells cs T sh, some (.cells cs' T' sh') => optBeqs (SV.sbts m A cs) cs' && T == T' && sh == sh'
  | .row n T size, b => 0 < size && match vsub m A n with
    | some .nilS => true
    | some (.va n') => match b with
      | some (.row n2 T' size') => n2 == n' && T == T' && size == size'
      | _ => false
    | _ => false
  | _, _ => false
def hFits : List Blk → List Blk → Bool
  | [], _ => true
  | b :: l, [] => blkFits m A b none && hFits l []
  | b :: l, b' :: l' => blkFits m A b (some b') && hFits l l'
def fsFits : List (List SV) → List (List SV) → Bool
  | [], [] => true
  | x :: l, y :: l' => optBeqs (SV.sbts m A x) y && fsFits l l'
  | _, _ => false
/-- The state g fits the pattern t, its new atoms read as the assignment says. -/
def fits (t g : Cfg) : Bool :=
  decide (t.todo = g.todo) && fsFits m A t.fs g.fs && optBeqs (SV.sbts m A t.sl) g.sl && hFits m A t.H g.H &&
  t.ni == m.ni + A.is.length && t.nb == m.nb + A.bs.length && t.nv == m.nv + A.vs.length && t.nj == m.nj + A.js.length &&
  m.ni ≤ g.ni && m.nb ≤ g.nb && m.nv ≤ g.nv && m.nj ≤ g.nj &&
  A.vs.all SV.flat && SV.oks g.ni g.nb g.nv g.nj (fun _ => false) A.vs
end
/-- The atoms of the pattern: the old ones as they are, the new ones as the assignment says. -/
def Env.asg (ρ : Env) (β : Nat → Nat) (m : Base) (A : Asg) : Env :=
  { ρ with i := ρ.i.take m.ni ++ A.is.map (IE.den ρ), b := ρ.b.take m.nb ++ A.bs.map (BE.den ρ), v := ρ.v.take m.nv ++ SV.dens ρ β A.vs, j := ρ.j.take m.nj ++ SV.dens ρ β A.js }
theorem take_get {α : Type} (l x : List α) (m n : Nat) (d : α) (hm : m ≤ l.length) (h : n < m) : (l.take m ++ x).getD n d = l.getD n d := by
  simp only [List.getD]
  rw [List.getElem?_append_left (by simp; omega), List.getElem?_take, if_pos h]
theorem take_new {α : Type} (l x : List α) (m n : Nat) (d : α) (hm : m ≤ l.length) (h : ¬ n < m) : (l.take m ++ x).getD n d = x.getD (n - m) d := by
  simp only [List.getD]
  rw [List.getElem?_append_right (by simp; omega)]
  simp [Nat.min_eq_left hm]
structure Lens (m : Base) (ρ : Env) : Prop where
  i : m.ni ≤ ρ.i.length
  b : m.nb ≤ ρ.b.length
  v : m.nv ≤ ρ.v.length
  j : m.nj ≤ ρ.j.length
section
variable {m : Base} {A : Asg} {ρ : Env} {β : Nat → Nat}
theorem vsub_den (hL : Lens m ρ) {n : Nat} {v : SV} (h : vsub m A n = some v) : (ρ.asg β m A).v.getD n vd = v.den ρ β := by
  unfold vsub at h
  simp only [Env.asg]
  split at h
  · rename_i hn
    simp only [Option.some.injEq] at h; subst h
    rw [take_get _ _ _ _ _ hL.v hn]; rfl
  · rename_i hn
    rw [take_new _ _ _ _ _ hL.v hn]
    simp [SV.dens_map, h]
theorem IE.sbt_den (hL : Lens m ρ) : ∀ (e e' : IE), e.sbt m A = some e' → e.den (ρ.asg β m A) = e'.den ρ := by
  intro e
  induction e with
  | a n =>
    intro e' h
    simp only [IE.sbt] at h
    simp only [IE.den, Env.asg]
    split at h
    · rename_i hn
      simp only [Option.some.injEq] at h; subst h
      rw [take_get _ _ _ _ _ hL.i hn]; rfl
    · rename_i hn
      rw [take_new _ _ _ _ _ hL.i hn]
      simp [h]
  | l z => intro e' h; simp only [IE.sbt, Option.some.injEq] at h; subst h; rfl
  | slen n =>
    intro e' h
    simp only [IE.sbt] at h
    simp only [IE.den]
    split at h
    · rename_i hn
      simp only [Option.some.injEq] at h; subst h
      rw [vsub_den (β := β) hL (v := .va n) (by simp [vsub, hn])]; rfl
    · rename_i hn
      split at h
      · rename_i k hk
        simp only [Option.some.injEq] at h; subst h
        rw [vsub_den (β := β) hL (v := .va k) (by simp [vsub, hn, hk])]; rfl
      · simp at h
  | wr k x ih =>
    intro e' h
    simp only [IE.sbt, Option.map_eq_some_iff] at h
    obtain ⟨x', h1, rfl⟩ := h
    simp only [IE.den, ih _ h1]
  | ifeq p q x y i1 i2 i3 i4 =>
    intro e' h
    simp only [IE.sbt] at h
    split at h
    · rename_i p' q' x' y' h1 h2 h3 h4
      simp only [Option.some.injEq] at h; subst h
      simp only [IE.den, i1 _ h1, i2 _ h2, i3 _ h3, i4 _ h4]
    · simp at h
  | _ x y i1 i2 =>
    intro e' h
    simp only [IE.sbt] at h
    split at h
    · rename_i x' y' h1 h2
      simp only [Option.some.injEq] at h; subst h
      simp only [IE.den, i1 _ h1, i2 _ h2]
    · simp at h
theorem BE.sbt_den (hL : Lens m ρ) : ∀ (e e' : BE), e.sbt m A = some e' → e.den (ρ.asg β m A) = e'.den ρ := by
  intro e
  induction e with
  | t b => intro e' h; simp only [BE.sbt, Option.some.injEq] at h; subst h; rfl
  | a n =>
    intro e' h
    simp only [BE.sbt] at h
    simp only [BE.den, Env.asg]
    split at h
    · rename_i hn
      simp only [Option.some.injEq] at h; subst h
      rw [take_get _ _ _ _ _ hL.b hn]; rfl
    · rename_i hn
      rw [take_new _ _ _ _ _ hL.b hn]
      simp [h]
  | nil n =>
    intro e' h
    simp only [BE.sbt] at h
    simp only [BE.den]
    split at h
    · rename_i hn
      simp only [Option.some.injEq] at h; subst h
      rw [vsub_den (β := β) hL (v := .va n) (by simp [vsub, hn])]; rfl
    · rename_i hn
      split at h
      · rename_i k hk
        simp only [Option.some.injEq] at h; subst h
        rw [vsub_den (β := β) hL (v := .va k) (by simp [vsub, hn, hk])]; rfl
      · simp at h
  | is q n =>
    intro e' h
    simp only [BE.sbt] at h
    simp only [BE.den]
    split at h
    · rename_i hn
      simp only [Option.some.injEq] at h; subst h
      rw [vsub_den (β := β) hL (v := .va n) (by simp [vsub, hn])]; rfl
    · rename_i hn
      split at h
      · rename_i k hk
        simp only [Option.some.injEq] at h; subst h
        rw [vsub_den (β := β) hL (v := .va k) (by simp [vsub, hn, hk])]; rfl
      · simp at h
  | not x ih =>
    intro e' h
    simp only [BE.sbt, Option.map_eq_some_iff] at h
    obtain ⟨x', h1, rfl⟩ := h
    simp only [BE.den, ih _ h1]
  | and x y i1 i2 =>
    intro e' h
    simp only [BE.sbt] at h
    split at h
    · rename_i x' y' h1 h2
      simp only [Option.some.injEq] at h; subst h
      simp only [BE.den, i1 _ h1, i2 _ h2]
    · simp at h
  | or x y i1 i2 =>
    intro e' h
    simp only [BE.sbt] at h
    split at h
    · rename_i x' y' h1 h2
      simp only [Option.some.injEq] at h; subst h
      simp only [BE.den, i1 _ h1, i2 _ h2]
    · simp at h
  | _ x y =>
    intro e' h
    simp only [BE.sbt] at h
    split at h
    · rename_i x' y' h1 h2
      simp only [Option.some.injEq] at h; subst h
      simp only [BE.den, IE.sbt_den (β := β) hL _ _ h1, IE.sbt_den (β := β) hL _ _ h2]
    · simp at h
mutual
theorem SV.sbt_den (hL : Lens m ρ) : ∀ (v v' : SV), v.sbt m A = some v' → v.den (ρ.asg β m A) β = v'.den ρ β
  | .int k e, v', h => by
    simp only [SV.sbt, Option.map_eq_some_iff] at h
    obtain ⟨x', h1, rfl⟩ := h
    simp only [SV.den, IE.sbt_den (β := β) hL _ _ h1]
  | .bool b, v', h => by
    simp only [SV.sbt, Option.map_eq_some_iff] at h
    obtain ⟨x', h1, rfl⟩ := h
    simp only [SV.den, BE.sbt_den (β := β) hL _ _ h1]
  | .va n, v', h => by simp only [SV.sbt] at h; simp only [SV.den]; exact vsub_den hL h
  | .junk n, v', h => by
    simp only [SV.sbt] at h
    simp only [SV.den, Env.asg]
    split at h
    · rename_i hn
      simp only [Option.some.injEq] at h; subst h
      rw [take_get _ _ _ _ _ hL.j hn]; rfl
    · rename_i hn
      rw [take_new _ _ _ _ _ hL.j hn]
      simp [SV.dens_map, h]
  | .ea n i size off, v', h => by
    simp only [SV.sbt] at h
    split at h
    · rename_i k i' h1 h2
      simp only [Option.some.injEq] at h; subst h
      simp only [SV.den, IE.sbt_den (β := β) hL _ _ h2]
      rw [vsub_den (β := β) hL h1]; rfl
    · simp at h
  | .pa n off, v', h => by
    simp only [SV.sbt] at h
    split at h
    · rename_i k h1
      simp only [Option.some.injEq] at h; subst h
      simp only [SV.den]
      rw [vsub_den (β := β) hL h1]; rfl
    · simp at h
  | .agg cs, v', h => by
    simp only [SV.sbt, Option.map_eq_some_iff] at h
    obtain ⟨x', h1, rfl⟩ := h
    simp only [SV.den, SV.sbts_den hL _ _ h1]
  | .tup cs, v', h => by
    simp only [SV.sbt, Option.map_eq_some_iff] at h
    obtain ⟨x', h1, rfl⟩ := h
    simp only [SV.den, SV.sbts_den hL _ _ h1]
  | .fn f cs, v', h => by
    simp only [SV.sbt, Option.map_eq_some_iff] at h
    obtain ⟨x', h1, rfl⟩ := h
    simp only [SV.den, SV.sbts_den hL _ _ h1]
  | .str s, v', h => by simp only [SV.sbt, Option.some.injEq] at h; subst h; rfl
  | .undef, v', h => by simp only [SV.sbt, Option.some.injEq] at h; subst h; rfl
  | .nilS, v', h => by simp only [SV.sbt, Option.some.injEq] at h; subst h; rfl
  | .nilF, v', h => by simp only [SV.sbt, Option.some.injEq] at h; subst h; rfl
  | .nilP, v', h => by simp only [SV.sbt, Option.some.injEq] at h; subst h; rfl
  | .nilI, v', h => by simp only [SV.sbt, Option.some.injEq] at h; subst h; rfl
  | .ptr k o, v', h => by simp only [SV.sbt, Option.some.injEq] at h; subst h; rfl
  | .sl k n, v', h => by simp only [SV.sbt, Option.some.injEq] at h; subst h; rfl
  | .slc k n q, v', h => by simp only [SV.sbt, Option.some.injEq] at h; subst h; rfl
theorem SV.sbts_den (hL : Lens m ρ) : ∀ (l l' : List SV), SV.sbts m A l = some l' → SV.dens (ρ.asg β m A) β l = SV.dens ρ β l'
  | [], l', h => by simp only [SV.sbts, Option.some.injEq] at h; subst h; rfl
  | x :: l, l', h => by
    simp only [SV.sbts] at h
    split at h
    · rename_i x' l'' h1 h2
      simp only [Option.some.injEq] at h; subst h
      simp only [SV.dens, SV.sbt_den hL _ _ h1, SV.sbts_den hL _ _ h2]
    · simp at h
end
end
theorem fine_flat {ρ : Env} (hρ : ρ.Ok) (β : Nat → Nat) {v : SV} (h : v.flat = true) : fineV (v.den ρ β) = true := by
  cases v <;> simp [SV.flat] at h <;> try rfl
  exact hρ.fine _
theorem optBeqs_spec {x : Option (List SV)} {l : List SV} (h : optBeqs x l = true) : x = some l := by
  cases x with
  | none => simp [optBeqs] at h
  | some x => simp only [optBeqs] at h; rw [SV.eq_of_beqs _ _ h]
theorem hFits_get {m : Base} {A : Asg} : ∀ (l l' : List Blk), hFits m A l l' = true → ∀ (k : Nat) (b : Blk), l[k]? = some b → blkFits m A b l'[k]? = true
  | [], _, _, k, b, hk => by simp at hk
  | x :: l, [], h, k, b, hk => by
    simp only [hFits, Bool.and_eq_true] at h
    cases k with
    | zero => simp at hk; subst hk; simpa using h.1
    | succ k => simpa using hFits_get l [] h.2 k b (by simpa using hk)
  | x :: l, y :: l', h, k, b, hk => by
    simp only [hFits, Bool.and_eq_true] at h
    cases k with
    | zero => simp at hk; subst hk; simpa using h.1
    | succ k => simpa using hFits_get l l' h.2 k b (by simpa using hk)
theorem fsFits_spec {m : Base} {A : Asg} {ρ : Env} {β : Nat → Nat} (hL : Lens m ρ) : ∀ (l l' : List (List SV)), fsFits m A l l' = true → (l.map fun x => (SV.dens (ρ.asg β m A) β x).toArray) = l'.map fun x => (SV.dens ρ β x).toArray
  | [], [], _ => rfl
  | x :: l, y :: l', h => by
    simp only [fsFits, Bool.and_eq_true] at h
    simp only [List.map_cons, SV.sbts_den hL _ _ (optBeqs_spec h.1), fsFits_spec hL l l' h.2]
  | [], _ :: _, h => by simp [fsFits] at h
  | _ :: _, [], h => by simp [fsFits] at h
theorem Rel.fits {w0 : World} {s0 : Hp} {X : Fx} {ρ : Env} {s : Hp} {β : Nat → Nat} {t g : Cfg} {a : Act} {w : World} (h : Rel w0 s0 X ρ s β g a w) {m : Base} {A : Asg} (hf : fits m A t g = true) :
    Rel w0 s0 X (ρ.asg β m A) s β t a w ∧ t.todo = g.todo := by
  unfold Sx.fits at hf
  simp only [Bool.and_eq_true, decide_eq_true_eq, beq_iff_eq] at hf
  obtain ⟨⟨⟨⟨⟨⟨⟨⟨⟨⟨⟨⟨⟨htd, hfs⟩, hsl⟩, hH⟩, n1⟩, n2⟩, n3⟩, n4⟩, m1⟩, m2⟩, m3⟩, m4⟩, hflat⟩, hvok⟩ := hf
  have hi : m.ni ≤ ρ.i.length := by rw [h.ci]; exact m1
  have hb : m.nb ≤ ρ.b.length := by rw [h.cb]; exact m2
  have hv : m.nv ≤ ρ.v.length := by rw [h.cv]; exact m3
  have hj : m.nj ≤ ρ.j.length := by rw [h.cj]; exact m4
  have hL : Lens m ρ := ⟨hi, hb, hv, hj⟩
  have hsl' := optBeqs_spec hsl
  have hblk := hFits_get _ _ hH
  have hcells : ∀ (k : Nat) (cs : List SV) (T : Nat) (sh : Bool), t.H[k]? = some (Blk.cells cs T sh) → ∃ cs', g.H[k]? = some (Blk.cells cs' T sh) ∧ SV.dens (ρ.asg β m A) β cs = SV.dens ρ β cs' := by
    intro k cs T sh hk
    have := hblk k _ hk
    unfold blkFits at this
    cases hg : g.H[k]? with
    | none => rw [hg] at this; simp at this
    | some b =>
      rw [hg] at this
      cases b with
      | row n T' size => simp at this
      | cells cs' T' sh' =>
        simp only [Bool.and_eq_true, beq_iff_eq] at this
        obtain ⟨⟨e1, rfl⟩, rfl⟩ := this
        exact ⟨cs', rfl, SV.sbts_den hL _ _ (optBeqs_spec e1)⟩
  have hrow : ∀ (k n T size : Nat), t.H[k]? = some (.row n T size) → 0 < size ∧ ((ρ.asg β m A).v.getD n vd = .slice none 0 0 ∨ ∃ n', g.H[k]? = some (.row n' T size) ∧ (ρ.asg β m A).v.getD n vd = ρ.v.getD n' vd) := by
    intro k n T size hk
    have := hblk k _ hk
    unfold blkFits at this
    simp only [Bool.and_eq_true, decide_eq_true_eq] at this
    refine ⟨this.1, ?_⟩
    have h2 := this.2
    split at h2
    · rename_i hvs
      left; rw [vsub_den hL hvs]; rfl
    · rename_i n' hvs
      split at h2
      · rename_i n2 T' size' hg
        simp only [Bool.and_eq_true, beq_iff_eq] at h2
        obtain ⟨⟨rfl, rfl⟩, rfl⟩ := h2
        right
        exact ⟨_, hg, by rw [vsub_den hL hvs]; rfl⟩
      · simp at h2
    · simp at h2
  have key : ∀ (i : Nat) (b : Blk), t.H[i]? = some b → act (ρ.asg β m A) b → ∃ b', g.H[i]? = some b' ∧ act ρ b' := by
    intro i b hb' hab
    cases b with
    | cells cs T sh =>
      obtain ⟨cs', hg, _⟩ := hcells i cs T sh hb'
      exact ⟨_, hg, trivial⟩
    | row n T size =>
      obtain ⟨_, h1 | ⟨n', hg, he⟩⟩ := hrow i n T size hb'
      · exact absurd h1 hab
      · exact ⟨_, hg, by simp only [act] at hab ⊢; rw [← he]; exact hab⟩
  have hkp : ∀ x, X.K x ∨ x ∈ ρ.m → Kept s (ρ.asg β m A) β t.H w x := fun x hx => ⟨(h.kp x hx).is, fun k b hk hb => by
    obtain ⟨b', e1, e2⟩ := key k b hk hb
    exact (h.kp x hx).own k b' e1 e2, (h.kp x hx).un⟩
  refine ⟨⟨?_, h.df, h.sz, hkp, h.ms.env rfl rfl, by rw [fsFits_spec hL _ _ hfs]; exact h.fs, ?_, ?_, ?_, ?_, ?_, h.bel, h.sb, h.nw, h.le, ?_, ?_⟩, htd⟩
  · rw [SV.sbts_den hL _ _ hsl']; exact h.tm
  · simp only [Env.asg, List.length_append, List.length_take, List.length_map, Nat.min_eq_left hi, n1]
  · simp only [Env.asg, List.length_append, List.length_take, List.length_map, Nat.min_eq_left hb, n2]
  · simp only [Env.asg, List.length_append, List.length_take, dens_length, Nat.min_eq_left hv, n3]
  · simp only [Env.asg, List.length_append, List.length_take, dens_length, Nat.min_eq_left hj, n4]
  · intro x hx
    simp only [Env.asg, List.mem_append] at hx
    rcases hx with hx | hx
    · exact h.ok x (List.mem_of_mem_take hx)
    · rw [SV.dens_map] at hx
      obtain ⟨y, hy, rfl⟩ := List.mem_map.1 hx
      exact fine_flat h.ok β (List.all_eq_true.1 hflat y hy)
  · intro k b hk
    cases b with
    | cells cs T sh =>
      obtain ⟨cs', hg, he⟩ := hcells k cs T sh hk
      have := h.bl k _ hg
      simp only [BOk] at this ⊢
      rw [he]; exact this
    | row n T size =>
      obtain ⟨hsz, h1 | ⟨n', hg, he⟩⟩ := hrow k n T size hk
      · exact ⟨hsz, .inl h1⟩
      · have := h.bl k _ hg
        simp only [BOk] at this ⊢
        rw [he]; exact this
  · intro j k bj bk hjk hj' hk' aj ak
    have key : ∀ (i : Nat) (b : Blk), t.H[i]? = some b → act (ρ.asg β m A) b → ∃ b', g.H[i]? = some b' ∧ act ρ b' := by
      intro i b hb' hab
      cases b with
      | cells cs T sh =>
        obtain ⟨cs', hg, _⟩ := hcells i cs T sh hb'
        exact ⟨_, hg, trivial⟩
      | row n T size =>
        obtain ⟨_, h1 | ⟨n', hg, he⟩⟩ := hrow i n T size hb'
        · exact absurd h1 hab
        · exact ⟨_, hg, by simp only [act] at hab ⊢; rw [← he]; exact hab⟩
    obtain ⟨b1, c1, c2⟩ := key j bj hj' aj
    obtain ⟨b2, d1, d2⟩ := key k bk hk' ak
    exact h.sp j k b1 b2 hjk c1 d1 c2 d2
/-- The atoms before the loop with the loop's own. -/
def Env.ext (ρ : Env) (is : List Int) (bs : List Bool) (vs js : List Value) : Env := { ρ with i := ρ.i ++ is, b := ρ.b ++ bs, v := ρ.v ++ vs, j := ρ.j ++ js }
theorem goesG_congr {f : Fr} {R : Ending → World → Prop} {body : Code} {ρ ρ' : Env} {β β' : Nat → Nat} {s s' : Hp} {t g : Cfg} {a : Act} {w : World} (htd : t.todo = g.todo) (hhead : ∀ p d ks k, t.todo ≠ .dreg p d ks :: k)
    (h : GoesG P f R body ρ β s t a w) : GoesG P f R body ρ' β' s' g a w := by
  unfold GoesG at h ⊢
  rw [← htd]
  generalize t.todo = td at *
  cases td with
  | nil => exact h
  | cons x k => cases x <;> first | exact h | exact absurd rfl (hhead _ _ _ _)
end
end Go.Sx
