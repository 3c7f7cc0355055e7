/- valuation.Value as a told function. -/
import Derived.Test.YthmkfeiapdbojaaHEx
import Derived.Test.YthmkfeiapdbojaaHVd
import Derived.Test.YthmkfeiapdbojaaHTxe
import Derived.Test.YthmkfeiapdbojaaHSac
import Derived.Test.YthmkfeiapdbojaaHGx
import Derived.Test.YthmkfeiapdbojaaHSaa
import Derived.Test.YthmkfeiapdbojaaHSab
import Derived.Test.YthmkfeiapdbojaaHSr
set_option linter.unusedSimpArgs false
set_option linter.unusedVariables false
open Go.Sx.PT renaming ev → ξ1
open Go.Sx.BE renaming safe → ξ2, pe → ξ3, all → ξz
open Go.Sx.IE renaming pe → ξ4
open Go.Sx renaming PEnv.at → ξ5
open Go.Sx.PEnv renaming push → ξt
open List renaming getD_cons_zero → ξ6, getD_cons_succ → ξ7, getElem?_cons_zero → ξ8, getElem?_cons_succ → ξ9, drop_zero → ξf, length_cons → ξg, length_nil → ξh, take_succ_cons → ξm, take_zero → ξn, cons_append → ξu, nil_append → ξv, append_nil → ξw, map_cons → ξD, map_nil → ξE
open Go.Sx renaming a0g → ξa, a0h → ξb, a0b → ξc, a0f → ξd, a0c → ξo, a0a → ξp, a0d → ξq, a0T → ξF, a0W → ξG, a0N → ξH, a0K → ξI, a0X → ξJ, a0V → ξK, a0P → ξL, a0Y → ξM, a0J → ξN, a0O → ξO, a0j → ξP, a0Q → ξQ, a0U → ξR, a0s → ξS, a0M → ξT, a0B → ξU, a0t → ξV, a0u → ξW, a0v → ξX, a0L → ξY
open Nat renaming add_zero → ξe, le_refl → ξi
open Bool renaming false_eq_true → ξl, and_self → ξA, not_true → ξB, not_false → ξC
open Option renaming map_some → ξr, bind_some → ξs
open Go.Sx.SV renaming pvs → ξx, pv → ξy
open Option renaming bind_some → Q0, map_some → Q9, bind_eq_some_iff → Qv
open List renaming nil_append → Q1, cons_append → Q2, append_nil → Q3, length_cons → Q4, length_nil → Q5, length_append → Q6, append_assoc → Q7, set_cons_succ → Qa, set_cons_zero → Qb, replicate → Qd, all_cons → Qe, all_nil → Qf, getD_eq_getElem?_getD → Qg, getElem?_set_ne → Qh, foldl_cons → Qk, getElem?_eq_none → Qp, mem_cons → Qr, set_set → Qt, ext_getElem? → Qy, getElem?_set_self → Qz, length_set → QA, length_map → QB, take_set_of_le → QC
open Nat renaming zero_add → Q8
open Int renaming mul_pos → Qj, toNat_natCast → Qu
open Bool renaming and_eq_true → Qm, and_true → Qn, and_self → Qq
open Option.some renaming injEq → Qs
open Prod.mk renaming injEq → Qw
set_option maxRecDepth 100000
namespace Go.Proofs.Ythmkfeiapdbojaa
open Go.Sx Go.Kv
def a6A (kv : KV) : Int := kv.foldl (fun m p => mxI m p.2) 0
theorem b8P {c : Int} : ∀ (kv : KV) (m : Int), kv.foldl (fun m p => mxI m p.2) m <= c ↔ m <= c /\ ∀ p ∈ kv, p.2 <= c
 | [], m => by simp
 | p :: kv, m => by
  rw [Qk, b8P kv]
  simp only [Qr, forall_eq_or_imp]
  unfold mxI
  constructor
  ·rintro ⟨h1, h2⟩
   split at h1
   ·exact ⟨by omega, h1, h2⟩
   ·exact ⟨h1, by omega, h2⟩
  ·rintro ⟨h1, h2, h3⟩
   exact ⟨by split <;> omega, h3⟩
theorem b8i {kv : KV} {c : Int} : a6A kv <= c ↔ 0 <= c /\ ∀ p ∈ kv, p.2 <= c := b8P kv 0
theorem c4O {a b : KV} (h : a.Perm b) : a6A a = a6A b := a1C fun c => by
 rw [b8i, b8i]
 exact and_congr_right fun _ => ⟨fun h1 p hp => h1 p (h.mem_iff.2 hp), fun h1 p hp => h1 p (h.mem_iff.1 hp)⟩
mutual
theorem b7s : ∀ e : Ex, (∀ y ∈ e.pre, a2p y = 0) -> okX e = true
 | .node op a b c d e f v l, h => by
  have h0 := h (.node op a b c d e f v l) (by simp [Ex.pre])
  have hl := c2F l fun y hy => h y (by simp [Ex.pre, hy])
  unfold a2p at h0
  split at h0
  case isFalse => cases h0
  rename_i hf
  split at h0
  case isFalse => cases h0
  rename_i hr
  simp only [Ex.form, b2M, decide_eq_true_eq] at hf
  simp only [Ex.rng, b2f, W6.ok, decide_eq_true_eq] at hr
  simp only [okX, hl, nnL, Qe, Qf, Qn, Qm, decide_eq_true_eq, Bool.or_eq_true, Bool.not_eq_true', decide_eq_false_iff_not]
  have hf := of_decide_eq_true hf
  have hr := of_decide_eq_true hr
  omega
theorem c2F : ∀ l : List Ex, (∀ y ∈ a3v l, a2p y = 0) -> a2J l = true
 | [], _ => rfl
 | e :: l, h => by
  simp only [a2J, Qm]
  exact ⟨b7s e fun y hy => h y (by simp [a3v, hy]), c2F l fun y hy => h y (by simp [a3v, hy])⟩
end
theorem b3a : ∀ {l : List Ex}, a2z l = 0 -> ∀ y ∈ l, a2p y = 0
 | [], _ => by simp
 | x :: l, h => by
  simp only [a2z] at h
  split at h
  ·rename_i h0
   intro y hy
   rcases Qr.1 hy with rfl | hy
   ·exact h0
   ·exact b3a h y hy
  ·rename_i h0; exact absurd h h0
theorem c0f {e : Ex} (h : chk e = 0) : e.depth <= 6 /\ e.size <= 40 /\ (∀ y ∈ e.pre, y.len <= 8) /\ ∀ y ∈ e.pre, a2p y = 0 := by
 unfold chk at h
 split at h
 ·cases h
 split at h
 ·cases h
 split at h
 ·rename_i h1 h2 h3
  refine ⟨by omega, by omega, fun y hy => ?_, b3a h⟩
  simpa using List.all_eq_true.1 h3 y hy
 ·cases h
theorem b0G {e : Ex} (h : chk e = 0) : okX e = true := b7s e (c0f h).2.2.2
def b5Q : List Int -> W6
 | [a, b, c, d, e, f] => ⟨a, b, c, d, e, f⟩
 | _ => ⟨0, 0, 0, 0, 0, 0⟩
theorem c6A {l : List Int} (h6 : l.length = 6) (h : a4B (b5Q l) = 0) : a3M l = true := by
 obtain ⟨a, b, c, d, e, f, rfl⟩ := a1V h6
 unfold a4B at h
 split at h
 ·rename_i h1
  simp only [b5Q, W6.ok] at h1
  simp only [a3M, Q4, Q5, Qe, Qf, Qn, Qm, decide_eq_true_eq, true_and]
  omega
 ·cases h
def b4c (e : Ex) (b : List Int) : Int := if chk e = 0 then (if a4B (b5Q b) = 0 then a6A (a0o b e) else 0) else 0
def b6R : List PV -> List MO -> Option (PV × List MO)
 | [.agg row, .agg l], σ => (a6M 400 row).bind fun e => (a5b l).bind fun b => if b.length = 6 /\ e.size <= 400 /\ σ.all (MO.low σ.length) = true then some (.int .i64 (b4c e b), σ) else none
 | _, _ => none
def valueP : Sx.Sys := ⟨[], .stuck, [], some b6R, none⟩
theorem c5Z {e : Ex} {row : List PV} (hrow : IsE e row) (he : e.size <= 400) {b0 b1 b2 b3 b4 b5 : Int} {σ : List MO} (hlow : σ.all (MO.low σ.length) = true) :
  CtD Try.prog 18 [.agg row, .agg (a3f b0 b1 b2 b3 b4 b5)] σ (fun r σ' => r = .int .i64 (b4c e [b0, b1, b2, b3, b4, b5]) /\ σ' = σ) := by
 refine b4C.dm (a0e Tab 500) (evalF_good b9M 500) ((a0o [b0, b1, b2, b3, b4, b5] e).length + 3) _ _ _ ?_
 have hc := b8E σ hlow e row hrow 500 (by omega) (by omega)
 have hb := b1Z σ ⟨b0, b1, b2, b3, b4, b5⟩ 500 (by omega)
 have hof := fun h1 h2 h3 => c4h (T := Tab) (N := 401) a8A 499 hrow (by omega) he h1 (lim := [b0, b1, b2, b3, b4, b5]) h2 (σ := σ) h3
 obtain ⟨op, a, b, c, d, e', f, v, l⟩ := e
 have hrow' := hrow
 simp only [IsE] at hrow'
 obtain ⟨x, rows, rfl, hx, hr⟩ := hrow'
 obtain ⟨x1, x2, x3⟩ := a0y hx
 generalize hE : Ex.node op a b c d e' f v l = E at *
 refine ⟨([op, a, b, c, d, e', f, v, b0, b1, b2, b3, b4, b5], [], [x]), ?_, ?_⟩
 ·show a0i [.sh (.agg [_, _, _, _, _, _, _, _, _]), .sh (.agg [_, _, _, _, _, _])] _ = _
  simp only [a0i, a0d, a0c, Q9, Q0, Q3, Q1, Q2, if_true, x3]
 show PT.wp _ a7P _ _
 refine a1g rfl hc rfl ?_
 simp only [PEnv.push, Q2, Q1, Q3]
 have hret0 : a0k { i := [op, a, b, c, d, e', f, v, b0, b1, b2, b3, b4, b5, chk E], b := [], v := [x], m := σ, k := σ.length } false (.int .i64 0) = some (.int .i64 0, σ) := by unfold a0k; rw [if_pos (.inr rfl)]
 by_cases hce : chk E = 0
 case neg =>
  refine a2a rfl (by show (!eqB (chk E) 0) = true; rw [eqF hce]; rfl) ?_
  refine ⟨_, rfl, _, hret0, ?_, rfl⟩
  simp only [b4c, hce, if_false]
 refine a1R rfl (by show (!eqB (chk E) 0) = false; rw [hce]; rfl) ?_
 refine a1g rfl hb rfl ?_
 simp only [PEnv.push, Q2, Q1, Q3]
 by_cases hbe : a4B ⟨b0, b1, b2, b3, b4, b5⟩ = 0
 case neg =>
  refine a2a rfl (by show (!eqB (a4B ⟨b0, b1, b2, b3, b4, b5⟩) 0) = true; rw [eqF hbe]; rfl) ?_
  refine ⟨.int .i64 0, rfl, (.int .i64 0, σ), by unfold a0k; rw [if_pos (.inr rfl)], ?_, rfl⟩
  simp only [b4c, b5Q, hce, hbe, if_true, if_false]
 refine a1R rfl (by show (!eqB (a4B ⟨b0, b1, b2, b3, b4, b5⟩) 0) = false; rw [hbe]; rfl) ?_
 have hlim : a3M [b0, b1, b2, b3, b4, b5] = true := c6A rfl hbe
 have gk := a2i [b0, b1, b2, b3, b4, b5] E (b0G hce)
 have hv : b4c E [b0, b1, b2, b3, b4, b5] = a6A (a0o [b0, b1, b2, b3, b4, b5] E) := by simp only [b4c, b5Q, hce, hbe, if_true]
 have hof := hof (b0G hce) hlim hlow
 rw [hv]
 generalize a0o [b0, b1, b2, b3, b4, b5] E = kx at *
 refine a1g rfl hof rfl ?_
 simp only [PEnv.push, Q2, Q1, Q3]
 refine c0d rfl (at0 _ _ _) ?_
 simp only [Q6, Q4, Q5, Q7, Q2, Q1, Q8]
 refine a5d rfl rfl ?_
 have loop : ∀ (n : Nat) (seen : List (List Int)) (es : KV), Went kx seen es -> kx.length < seen.length + n ->
   valuation_Value_S.loopD (a0e Tab 500) n 0 { i := [es.foldl (fun m p => mxI m p.2) 0], b := [], v := [.ref (σ.length + 1) 0], m := σ ++ .mq kx 0 :: [.it σ.length 0 seen], k := σ.length } (fun r σ' => r = .int .i64 (a6A kx) /\ σ' = σ) := by
  intro n
  induction n with
  | zero => intro seen es hw h; have := hw.len gk.nd; omega
  | succ n ih =>
   intro seen es hw h
   refine ⟨_, rfl, ?_⟩
   show PT.wp _ a7y _ _
   refine Go.Sx.wp_next rfl (at1 _ _ _ _) (at0 _ _ _) (a2G (a4d gk rfl)) ?_ ?_
   ·intro hleft
    refine ⟨_, rfl, (.int .i64 (a6A kx), σ), ?_, rfl, rfl⟩
    have hbp : es.foldl (fun m p => mxI m p.2) 0 = a6A kx := c4O (hw.over gk.nd hleft)
    unfold a0k
    have htk : (σ ++ MO.mq kx 0 :: [MO.it σ.length 0 seen]).take σ.length = σ := by simp
    have hne : ¬ (false = true \/ (σ ++ .mq kx 0 :: [MO.it σ.length 0 seen]).length = σ.length) := by simp
    rw [if_neg hne]
    simp only [htk]
    rw [if_pos hlow]
    show some (PV.int .i64 (es.foldl (fun m p => mxI m p.2) 0), σ) = _
    rw [hbp]
   ·intro p hp
    obtain ⟨p1, p2⟩ := a4i.1 hp
    have hw' := hw.next hp
    have hk6 := a4d gk rfl p p1
    obtain ⟨pk, pv⟩ := p
    simp only at hw' p1 p2 hk6
    have hlook := (Kv.lookQ_some gk.nd).2 p1
    obtain ⟨c0, c1, c2, c3, c4, c5, rfl⟩ := a1V hk6
    have hnext := ih (seen ++ [[c0, c1, c2, c3, c4, c5]]) (es ++ [([c0, c1, c2, c3, c4, c5], pv)]) hw' (by simp; omega)
    rw [List.foldl_append, Qk, List.foldl_nil] at hnext
    simp only [c8Y, PEnv.push, Q2, Q1, Q3]
    refine b5X rfl (at1 _ _ _ _) (at0 _ _ _) hlook rfl ?_
    simp only [PEnv.push, Q2, Q1, Q3]
    exact a5d rfl rfl hnext
 exact loop _ [] [] (.nil kx) (by simp)
theorem c5n : SysOk Try.prog 18 valueP where
 ct Φ hΦ n aa σ r σ' h := by
  change b6R aa σ = some (r, σ') at h
  unfold b6R at h
  split at h
  case h_2 => cases h
  simp only [Qv] at h
  obtain ⟨e, he, lim, hl, h⟩ := h
  split at h
  case isFalse => cases h
  rename_i hc
  obtain ⟨c1, c2, c3⟩ := hc
  simp only [Qs, Qw] at h
  obtain ⟨rfl, rfl⟩ := h
  rw [a5y hl]
  obtain ⟨l0, l1, l2, l3, l4, l5, rfl⟩ := a1V c1
  exact CtD.one (c5Z (b4v 400 _ _ he) c2 c3)
def c3U (f : Nat) : Option Sx.Sys := if f = 18 then some valueP else Tab f
theorem c7p : ∀ f S, c3U f = some S -> SysOk Try.prog f S := by
 intro f S h
 unfold c3U at h
 split at h
 ·rename_i hf; subst hf; cases h; exact c5n
 ·exact b9M f S h
end Go.Proofs.Ythmkfeiapdbojaa
set_option maxRecDepth 100000
namespace Go.Proofs.Ythmkfeiapdbojaa
open Go.Sx Go.Kv
open Go.Bun (offs)
theorem c6D {α β : Type} (G : α -> β -> α) (a : α) (c : Prop) [Decidable c] (x : β) (l : List β) : ((if c then [x] else []) ++ l).foldl G a = l.foldl G (if c then G a x else a) := by split <;> rfl
section
variable {Φ : Fns} {F : Nat} {caps : List PV} {α : Type} {M : α -> List MO} {G : α -> Int -> α} {I : α -> Prop} {i s0 s1 s2 s3 s4 s5 b0 b1 b2 b3 b4 b5 : Int} {k : Nat}
def a7p (Φ : Fns) (F : Nat) (caps : List PV) (M : α -> List MO) (G : α -> Int -> α) (I : α -> Prop) (i st : Int) : Prop := ∀ a, I a -> Φ F (.int .i64 (i - st) :: caps) (M a) = some (.tup [], M (G a st)) /\ I (G a st)
def bE (i st q s0 s1 s2 s3 s4 s5 b0 b1 b2 b3 b4 b5 : Int) (F : Nat) (caps : List PV) (m : List MO) (k : Nat) : PEnv := { i := [i, st, q, s0, s1, s2, s3, s4, s5, b0, b1, b2, b3, b4, b5], b := [], v := [.fn F caps], m := m, k := k }
theorem a2I (x y : Int) : eqB x y = decide (x = y) := rfl
theorem a1T {x y A B : Int} (hx : 0 <= x /\ x <= A) (hy : 0 <= y /\ y <= B) : 0 <= x * y /\ x * y <= A * B := Go.Bun.mulB hx hy
theorem a1z : a2T [] [] = some ([], [], []) := rfl
theorem a1p : a0a [] (.tup []) = some ([], [], []) := rfl
theorem c8i (fuel : Nat) (st : Int) (a : α) (ha : I a) (h1 : 0 <= i /\ i <= 1000000) (h2 : 0 <= st /\ st <= 1000000) (hs : 0 <= s5 /\ s5 <= 1000000) (hc : 0 < b5 -> a7p Φ F caps M G I i st) :
  I (if 0 < b5 then G a st else a) /\ valuation_below_S.loop Φ (fuel + 1) 0 (bE i st 5 s0 s1 s2 s3 s4 s5 b0 b1 b2 b3 b4 b5 F caps (M a) k) = valuation_below_S.loop Φ fuel 0 (bE i (st * (s5 + 1)) 4 s0 s1 s2 s3 s4 s5 b0 b1 b2 b3 b4 b5 F caps (M (if 0 < b5 then G a st else a)) k) := by
 have q0 : leB 0 5 = true := rfl
 have q1 : (leB (-9223372036854775808) (i - st) && leB (i - st) 9223372036854775807) = true := a0z (by omega)
 have q2 : (leB (-9223372036854775808) (s5 + 1) && leB (s5 + 1) 9223372036854775807) = true := a0z (by omega)
 have hm := a1T (x := st) (y := s5 + 1) (A := 1000000) (B := 1000001) h2 (by omega)
 have q3 : (leB (-9223372036854775808) (st * (s5 + 1)) && leB (st * (s5 + 1)) 9223372036854775807) = true := a0z (by omega)
 rw [Sys.loop, show valuation_below_S.loops[0]? = some _ from rfl]
 by_cases h : 0 < b5
 ·obtain ⟨hc1, hc2⟩ := hc h a ha
  rw [if_pos h]
  refine ⟨hc2, ?_⟩
  have hb : ltB 0 b5 = true := by simp [ltB, h]
  simp only [Q0, a0S, bE]
  simp -implicitDefEqProofs only [↓reduceIte,eq_self,ξ1,ξ2,ξ3,ξ4,ξ5,ξ6,ξ7,ξ8,ξ9,ξa,ξb,ξc,ξd,ξe,ξf,ξg,ξh,Nat.reduceAdd,ξi,if_true,if_false,ξl,ξm,ξn,ξo,ξp,ξq,ξr,ξs,ξt,ξu,ξv,ξw,ξx,ξy,ξz,ξA,ξB,ξC,ξD,ξE, q0, a2I, Int.reduceLE, Int.reduceEq, decide_true, decide_false, q1, q2, q3, hb, hc1, a1p, a1z]
 ·rw [if_neg h]
  refine ⟨ha, ?_⟩
  have hb : ltB 0 b5 = false := by simp [ltB, h]
  simp only [Q0, a0S, bE]
  simp -implicitDefEqProofs only [↓reduceIte,eq_self,ξ1,ξ2,ξ3,ξ4,ξ5,ξ6,ξ7,ξ8,ξ9,ξa,ξb,ξc,ξd,ξe,ξf,ξg,ξh,Nat.reduceAdd,ξi,if_true,if_false,ξl,ξm,ξn,ξo,ξp,ξq,ξr,ξs,ξt,ξu,ξv,ξw,ξx,ξy,ξz,ξA,ξB,ξC,ξD,ξE, q0, a2I, Int.reduceLE, Int.reduceEq, decide_true, decide_false, q1, q2, q3, hb]
theorem c7z (fuel : Nat) (st : Int) (a : α) (ha : I a) (h1 : 0 <= i /\ i <= 1000000) (h2 : 0 <= st /\ st <= 1000000) (hs : 0 <= s4 /\ s4 <= 1000000) (hc : 0 < b4 -> a7p Φ F caps M G I i st) :
  I (if 0 < b4 then G a st else a) /\ valuation_below_S.loop Φ (fuel + 1) 0 (bE i st 4 s0 s1 s2 s3 s4 s5 b0 b1 b2 b3 b4 b5 F caps (M a) k) = valuation_below_S.loop Φ fuel 0 (bE i (st * (s4 + 1)) 3 s0 s1 s2 s3 s4 s5 b0 b1 b2 b3 b4 b5 F caps (M (if 0 < b4 then G a st else a)) k) := by
 have q0 : leB 0 4 = true := rfl
 have q1 : (leB (-9223372036854775808) (i - st) && leB (i - st) 9223372036854775807) = true := a0z (by omega)
 have q2 : (leB (-9223372036854775808) (s4 + 1) && leB (s4 + 1) 9223372036854775807) = true := a0z (by omega)
 have hm := a1T (x := st) (y := s4 + 1) (A := 1000000) (B := 1000001) h2 (by omega)
 have q3 : (leB (-9223372036854775808) (st * (s4 + 1)) && leB (st * (s4 + 1)) 9223372036854775807) = true := a0z (by omega)
 rw [Sys.loop, show valuation_below_S.loops[0]? = some _ from rfl]
 by_cases h : 0 < b4
 ·obtain ⟨hc1, hc2⟩ := hc h a ha
  rw [if_pos h]
  refine ⟨hc2, ?_⟩
  have hb : ltB 0 b4 = true := by simp [ltB, h]
  simp only [Q0, a0S, bE]
  simp -implicitDefEqProofs only [↓reduceIte,eq_self,ξ1,ξ2,ξ3,ξ4,ξ5,ξ6,ξ7,ξ8,ξ9,ξa,ξb,ξc,ξd,ξe,ξf,ξg,ξh,Nat.reduceAdd,ξi,if_true,if_false,ξl,ξm,ξn,ξo,ξp,ξq,ξr,ξs,ξt,ξu,ξv,ξw,ξx,ξy,ξz,ξA,ξB,ξC,ξD,ξE, q0, a2I, Int.reduceLE, Int.reduceEq, decide_true, decide_false, q1, q2, q3, hb, hc1, a1p, a1z]
 ·rw [if_neg h]
  refine ⟨ha, ?_⟩
  have hb : ltB 0 b4 = false := by simp [ltB, h]
  simp only [Q0, a0S, bE]
  simp -implicitDefEqProofs only [↓reduceIte,eq_self,ξ1,ξ2,ξ3,ξ4,ξ5,ξ6,ξ7,ξ8,ξ9,ξa,ξb,ξc,ξd,ξe,ξf,ξg,ξh,Nat.reduceAdd,ξi,if_true,if_false,ξl,ξm,ξn,ξo,ξp,ξq,ξr,ξs,ξt,ξu,ξv,ξw,ξx,ξy,ξz,ξA,ξB,ξC,ξD,ξE, q0, a2I, Int.reduceLE, Int.reduceEq, decide_true, decide_false, q1, q2, q3, hb]
theorem c7O (fuel : Nat) (st : Int) (a : α) (ha : I a) (h1 : 0 <= i /\ i <= 1000000) (h2 : 0 <= st /\ st <= 1000000) (hs : 0 <= s3 /\ s3 <= 1000000) (hc : 0 < b3 -> a7p Φ F caps M G I i st) :
  I (if 0 < b3 then G a st else a) /\ valuation_below_S.loop Φ (fuel + 1) 0 (bE i st 3 s0 s1 s2 s3 s4 s5 b0 b1 b2 b3 b4 b5 F caps (M a) k) = valuation_below_S.loop Φ fuel 0 (bE i (st * (s3 + 1)) 2 s0 s1 s2 s3 s4 s5 b0 b1 b2 b3 b4 b5 F caps (M (if 0 < b3 then G a st else a)) k) := by
 have q0 : leB 0 3 = true := rfl
 have q1 : (leB (-9223372036854775808) (i - st) && leB (i - st) 9223372036854775807) = true := a0z (by omega)
 have q2 : (leB (-9223372036854775808) (s3 + 1) && leB (s3 + 1) 9223372036854775807) = true := a0z (by omega)
 have hm := a1T (x := st) (y := s3 + 1) (A := 1000000) (B := 1000001) h2 (by omega)
 have q3 : (leB (-9223372036854775808) (st * (s3 + 1)) && leB (st * (s3 + 1)) 9223372036854775807) = true := a0z (by omega)
 rw [Sys.loop, show valuation_below_S.loops[0]? = some _ from rfl]
 by_cases h : 0 < b3
 ·obtain ⟨hc1, hc2⟩ := hc h a ha
  rw [if_pos h]
  refine ⟨hc2, ?_⟩
  have hb : ltB 0 b3 = true := by simp [ltB, h]
  simp only [Q0, a0S, bE]
  simp -implicitDefEqProofs only [↓reduceIte,eq_self,ξ1,ξ2,ξ3,ξ4,ξ5,ξ6,ξ7,ξ8,ξ9,ξa,ξb,ξc,ξd,ξe,ξf,ξg,ξh,Nat.reduceAdd,ξi,if_true,if_false,ξl,ξm,ξn,ξo,ξp,ξq,ξr,ξs,ξt,ξu,ξv,ξw,ξx,ξy,ξz,ξA,ξB,ξC,ξD,ξE, q0, a2I, Int.reduceLE, Int.reduceEq, decide_true, decide_false, q1, q2, q3, hb, hc1, a1p, a1z]
 ·rw [if_neg h]
  refine ⟨ha, ?_⟩
  have hb : ltB 0 b3 = false := by simp [ltB, h]
  simp only [Q0, a0S, bE]
  simp -implicitDefEqProofs only [↓reduceIte,eq_self,ξ1,ξ2,ξ3,ξ4,ξ5,ξ6,ξ7,ξ8,ξ9,ξa,ξb,ξc,ξd,ξe,ξf,ξg,ξh,Nat.reduceAdd,ξi,if_true,if_false,ξl,ξm,ξn,ξo,ξp,ξq,ξr,ξs,ξt,ξu,ξv,ξw,ξx,ξy,ξz,ξA,ξB,ξC,ξD,ξE, q0, a2I, Int.reduceLE, Int.reduceEq, decide_true, decide_false, q1, q2, q3, hb]
theorem c7R (fuel : Nat) (st : Int) (a : α) (ha : I a) (h1 : 0 <= i /\ i <= 1000000) (h2 : 0 <= st /\ st <= 1000000) (hs : 0 <= s2 /\ s2 <= 1000000) (hc : 0 < b2 -> a7p Φ F caps M G I i st) :
  I (if 0 < b2 then G a st else a) /\ valuation_below_S.loop Φ (fuel + 1) 0 (bE i st 2 s0 s1 s2 s3 s4 s5 b0 b1 b2 b3 b4 b5 F caps (M a) k) = valuation_below_S.loop Φ fuel 0 (bE i (st * (s2 + 1)) 1 s0 s1 s2 s3 s4 s5 b0 b1 b2 b3 b4 b5 F caps (M (if 0 < b2 then G a st else a)) k) := by
 have q0 : leB 0 2 = true := rfl
 have q1 : (leB (-9223372036854775808) (i - st) && leB (i - st) 9223372036854775807) = true := a0z (by omega)
 have q2 : (leB (-9223372036854775808) (s2 + 1) && leB (s2 + 1) 9223372036854775807) = true := a0z (by omega)
 have hm := a1T (x := st) (y := s2 + 1) (A := 1000000) (B := 1000001) h2 (by omega)
 have q3 : (leB (-9223372036854775808) (st * (s2 + 1)) && leB (st * (s2 + 1)) 9223372036854775807) = true := a0z (by omega)
 rw [Sys.loop, show valuation_below_S.loops[0]? = some _ from rfl]
 by_cases h : 0 < b2
 ·obtain ⟨hc1, hc2⟩ := hc h a ha
  rw [if_pos h]
  refine ⟨hc2, ?_⟩
  have hb : ltB 0 b2 = true := by simp [ltB, h]
  simp only [Q0, a0S, bE]
  simp -implicitDefEqProofs only [↓reduceIte,eq_self,ξ1,ξ2,ξ3,ξ4,ξ5,ξ6,ξ7,ξ8,ξ9,ξa,ξb,ξc,ξd,ξe,ξf,ξg,ξh,Nat.reduceAdd,ξi,if_true,if_false,ξl,ξm,ξn,ξo,ξp,ξq,ξr,ξs,ξt,ξu,ξv,ξw,ξx,ξy,ξz,ξA,ξB,ξC,ξD,ξE, q0, a2I, Int.reduceLE, Int.reduceEq, decide_true, decide_false, q1, q2, q3, hb, hc1, a1p, a1z]
 ·rw [if_neg h]
  refine ⟨ha, ?_⟩
  have hb : ltB 0 b2 = false := by simp [ltB, h]
  simp only [Q0, a0S, bE]
  simp -implicitDefEqProofs only [↓reduceIte,eq_self,ξ1,ξ2,ξ3,ξ4,ξ5,ξ6,ξ7,ξ8,ξ9,ξa,ξb,ξc,ξd,ξe,ξf,ξg,ξh,Nat.reduceAdd,ξi,if_true,if_false,ξl,ξm,ξn,ξo,ξp,ξq,ξr,ξs,ξt,ξu,ξv,ξw,ξx,ξy,ξz,ξA,ξB,ξC,ξD,ξE, q0, a2I, Int.reduceLE, Int.reduceEq, decide_true, decide_false, q1, q2, q3, hb]
theorem c7q (fuel : Nat) (st : Int) (a : α) (ha : I a) (h1 : 0 <= i /\ i <= 1000000) (h2 : 0 <= st /\ st <= 1000000) (hs : 0 <= s1 /\ s1 <= 1000000) (hc : 0 < b1 -> a7p Φ F caps M G I i st) :
  I (if 0 < b1 then G a st else a) /\ valuation_below_S.loop Φ (fuel + 1) 0 (bE i st 1 s0 s1 s2 s3 s4 s5 b0 b1 b2 b3 b4 b5 F caps (M a) k) = valuation_below_S.loop Φ fuel 0 (bE i (st * (s1 + 1)) 0 s0 s1 s2 s3 s4 s5 b0 b1 b2 b3 b4 b5 F caps (M (if 0 < b1 then G a st else a)) k) := by
 have q0 : leB 0 1 = true := rfl
 have q1 : (leB (-9223372036854775808) (i - st) && leB (i - st) 9223372036854775807) = true := a0z (by omega)
 have q2 : (leB (-9223372036854775808) (s1 + 1) && leB (s1 + 1) 9223372036854775807) = true := a0z (by omega)
 have hm := a1T (x := st) (y := s1 + 1) (A := 1000000) (B := 1000001) h2 (by omega)
 have q3 : (leB (-9223372036854775808) (st * (s1 + 1)) && leB (st * (s1 + 1)) 9223372036854775807) = true := a0z (by omega)
 rw [Sys.loop, show valuation_below_S.loops[0]? = some _ from rfl]
 by_cases h : 0 < b1
 ·obtain ⟨hc1, hc2⟩ := hc h a ha
  rw [if_pos h]
  refine ⟨hc2, ?_⟩
  have hb : ltB 0 b1 = true := by simp [ltB, h]
  simp only [Q0, a0S, bE]
  simp -implicitDefEqProofs only [↓reduceIte,eq_self,ξ1,ξ2,ξ3,ξ4,ξ5,ξ6,ξ7,ξ8,ξ9,ξa,ξb,ξc,ξd,ξe,ξf,ξg,ξh,Nat.reduceAdd,ξi,if_true,if_false,ξl,ξm,ξn,ξo,ξp,ξq,ξr,ξs,ξt,ξu,ξv,ξw,ξx,ξy,ξz,ξA,ξB,ξC,ξD,ξE, q0, a2I, Int.reduceLE, Int.reduceEq, decide_true, decide_false, q1, q2, q3, hb, hc1, a1p, a1z]
 ·rw [if_neg h]
  refine ⟨ha, ?_⟩
  have hb : ltB 0 b1 = false := by simp [ltB, h]
  simp only [Q0, a0S, bE]
  simp -implicitDefEqProofs only [↓reduceIte,eq_self,ξ1,ξ2,ξ3,ξ4,ξ5,ξ6,ξ7,ξ8,ξ9,ξa,ξb,ξc,ξd,ξe,ξf,ξg,ξh,Nat.reduceAdd,ξi,if_true,if_false,ξl,ξm,ξn,ξo,ξp,ξq,ξr,ξs,ξt,ξu,ξv,ξw,ξx,ξy,ξz,ξA,ξB,ξC,ξD,ξE, q0, a2I, Int.reduceLE, Int.reduceEq, decide_true, decide_false, q1, q2, q3, hb]
theorem c8p (fuel : Nat) (st : Int) (a : α) (ha : I a) (h1 : 0 <= i /\ i <= 1000000) (h2 : 0 <= st /\ st <= 1000000) (hs : 0 <= s0 /\ s0 <= 1000000) (hc : 0 < b0 -> a7p Φ F caps M G I i st) :
  I (if 0 < b0 then G a st else a) /\ valuation_below_S.loop Φ (fuel + 1) 0 (bE i st 0 s0 s1 s2 s3 s4 s5 b0 b1 b2 b3 b4 b5 F caps (M a) k) = valuation_below_S.loop Φ fuel 0 (bE i (st * (s0 + 1)) (-1) s0 s1 s2 s3 s4 s5 b0 b1 b2 b3 b4 b5 F caps (M (if 0 < b0 then G a st else a)) k) := by
 have q0 : leB 0 0 = true := rfl
 have q1 : (leB (-9223372036854775808) (i - st) && leB (i - st) 9223372036854775807) = true := a0z (by omega)
 have q2 : (leB (-9223372036854775808) (s0 + 1) && leB (s0 + 1) 9223372036854775807) = true := a0z (by omega)
 have hm := a1T (x := st) (y := s0 + 1) (A := 1000000) (B := 1000001) h2 (by omega)
 have q3 : (leB (-9223372036854775808) (st * (s0 + 1)) && leB (st * (s0 + 1)) 9223372036854775807) = true := a0z (by omega)
 rw [Sys.loop, show valuation_below_S.loops[0]? = some _ from rfl]
 by_cases h : 0 < b0
 ·obtain ⟨hc1, hc2⟩ := hc h a ha
  rw [if_pos h]
  refine ⟨hc2, ?_⟩
  have hb : ltB 0 b0 = true := by simp [ltB, h]
  simp only [Q0, a0S, bE]
  simp -implicitDefEqProofs only [↓reduceIte,eq_self,ξ1,ξ2,ξ3,ξ4,ξ5,ξ6,ξ7,ξ8,ξ9,ξa,ξb,ξc,ξd,ξe,ξf,ξg,ξh,Nat.reduceAdd,ξi,if_true,if_false,ξl,ξm,ξn,ξo,ξp,ξq,ξr,ξs,ξt,ξu,ξv,ξw,ξx,ξy,ξz,ξA,ξB,ξC,ξD,ξE, q0, a2I, Int.reduceLE, Int.reduceEq, decide_true, decide_false, q1, q2, q3, hb, hc1, a1p, a1z]
 ·rw [if_neg h]
  refine ⟨ha, ?_⟩
  have hb : ltB 0 b0 = false := by simp [ltB, h]
  simp only [Q0, a0S, bE]
  simp -implicitDefEqProofs only [↓reduceIte,eq_self,ξ1,ξ2,ξ3,ξ4,ξ5,ξ6,ξ7,ξ8,ξ9,ξa,ξb,ξc,ξd,ξe,ξf,ξg,ξh,Nat.reduceAdd,ξi,if_true,if_false,ξl,ξm,ξn,ξo,ξp,ξq,ξr,ξs,ξt,ξu,ξv,ξw,ξx,ξy,ξz,ξA,ξB,ξC,ξD,ξE, q0, a2I, Int.reduceLE, Int.reduceEq, decide_true, decide_false, q1, q2, q3, hb]
theorem c3L (fuel : Nat) (a : α) (ha : I a) (h1 : 0 <= i /\ i <= 1000000) (h0' : 0 <= s0 /\ s0 <= 4) (h1' : 0 <= s1 /\ s1 <= 4) (h2' : 0 <= s2 /\ s2 <= 4) (h3' : 0 <= s3 /\ s3 <= 4) (h4' : 0 <= s4 /\ s4 <= 4) (h5' : 0 <= s5 /\ s5 <= 4)
  (hk : ∀ a, (M a).length = k) (hc : ∀ st ∈ offs 1 [(s5, b5), (s4, b4), (s3, b3), (s2, b2), (s1, b1), (s0, b0)], a7p Φ F caps M G I i st) :
  I ((offs 1 [(s5, b5), (s4, b4), (s3, b3), (s2, b2), (s1, b1), (s0, b0)]).foldl G a) /\
  valuation_below_S.loop Φ (fuel + 7) 0 (bE i 1 5 s0 s1 s2 s3 s4 s5 b0 b1 b2 b3 b4 b5 F caps (M a) k) = some (.tup [], M ((offs 1 [(s5, b5), (s4, b4), (s3, b3), (s2, b2), (s1, b1), (s0, b0)]).foldl G a)) := by
 have m1 := a1T (x := 1) (y := s5 + 1) (A := 1) (B := 5) (by omega) (by omega)
 have m2 := a1T (x := 1 * (s5 + 1)) (y := s4 + 1) (A := 5) (B := 5) (by omega) (by omega)
 have m3 := a1T (x := 1 * (s5 + 1) * (s4 + 1)) (y := s3 + 1) (A := 25) (B := 5) (by omega) (by omega)
 have m4 := a1T (x := 1 * (s5 + 1) * (s4 + 1) * (s3 + 1)) (y := s2 + 1) (A := 125) (B := 5) (by omega) (by omega)
 have m5 := a1T (x := 1 * (s5 + 1) * (s4 + 1) * (s3 + 1) * (s2 + 1)) (y := s1 + 1) (A := 625) (B := 5) (by omega) (by omega)
 have m6 := a1T (x := 1 * (s5 + 1) * (s4 + 1) * (s3 + 1) * (s2 + 1) * (s1 + 1)) (y := s0 + 1) (A := 3125) (B := 5) (by omega) (by omega)
 simp only [offs, Q3] at hc ⊢
 simp only [c6D]
 rw [show ∀ (c : Prop) [Decidable c] (x : Int) (a : α), (if c then [x] else []).foldl G a = if c then G a x else a from fun c _ x a => by split <;> rfl]
 obtain ⟨e5, f5⟩ := c8i (Φ := Φ) (F := F) (caps := caps) (M := M) (G := G) (I := I) (i := i) (s0 := s0) (s1 := s1) (s2 := s2) (s3 := s3) (s4 := s4) (s5 := s5) (b0 := b0) (b1 := b1) (b2 := b2) (b3 := b3) (b4 := b4) (b5 := b5) (k := k) (fuel + 6) 1 a ha h1 (by omega) (by omega) (fun h => hc _ (by simp [h]))
 rw [f5]
 obtain ⟨e4, f4⟩ := c7z (Φ := Φ) (F := F) (caps := caps) (M := M) (G := G) (I := I) (i := i) (s0 := s0) (s1 := s1) (s2 := s2) (s3 := s3) (s4 := s4) (s5 := s5) (b0 := b0) (b1 := b1) (b2 := b2) (b3 := b3) (b4 := b4) (b5 := b5) (k := k) (fuel + 5) (1 * (s5 + 1)) _ e5 h1 (by omega) (by omega) (fun h => hc _ (by simp [h]))
 rw [f4]
 obtain ⟨e3, f3⟩ := c7O (Φ := Φ) (F := F) (caps := caps) (M := M) (G := G) (I := I) (i := i) (s0 := s0) (s1 := s1) (s2 := s2) (s3 := s3) (s4 := s4) (s5 := s5) (b0 := b0) (b1 := b1) (b2 := b2) (b3 := b3) (b4 := b4) (b5 := b5) (k := k) (fuel + 4) (1 * (s5 + 1) * (s4 + 1)) _ e4 h1 (by omega) (by omega) (fun h => hc _ (by simp [h]))
 rw [f3]
 obtain ⟨e2, f2⟩ := c7R (Φ := Φ) (F := F) (caps := caps) (M := M) (G := G) (I := I) (i := i) (s0 := s0) (s1 := s1) (s2 := s2) (s3 := s3) (s4 := s4) (s5 := s5) (b0 := b0) (b1 := b1) (b2 := b2) (b3 := b3) (b4 := b4) (b5 := b5) (k := k) (fuel + 3) (1 * (s5 + 1) * (s4 + 1) * (s3 + 1)) _ e3 h1 (by omega) (by omega) (fun h => hc _ (by simp [h]))
 rw [f2]
 obtain ⟨e1, f1⟩ := c7q (Φ := Φ) (F := F) (caps := caps) (M := M) (G := G) (I := I) (i := i) (s0 := s0) (s1 := s1) (s2 := s2) (s3 := s3) (s4 := s4) (s5 := s5) (b0 := b0) (b1 := b1) (b2 := b2) (b3 := b3) (b4 := b4) (b5 := b5) (k := k) (fuel + 2) (1 * (s5 + 1) * (s4 + 1) * (s3 + 1) * (s2 + 1)) _ e2 h1 (by omega) (by omega) (fun h => hc _ (by simp [h]))
 rw [f1]
 obtain ⟨e0, f0⟩ := c8p (Φ := Φ) (F := F) (caps := caps) (M := M) (G := G) (I := I) (i := i) (s0 := s0) (s1 := s1) (s2 := s2) (s3 := s3) (s4 := s4) (s5 := s5) (b0 := b0) (b1 := b1) (b2 := b2) (b3 := b3) (b4 := b4) (b5 := b5) (k := k) (fuel + 1) (1 * (s5 + 1) * (s4 + 1) * (s3 + 1) * (s2 + 1) * (s1 + 1)) _ e1 h1 (by omega) (by omega) (fun h => hc _ (by simp [h]))
 rw [f0]
 refine ⟨e0, ?_⟩
 generalize (if 0 < b0 then _ else _ : α) = aa
 rw [Sys.loop, show valuation_below_S.loops[0]? = some _ from rfl]
 have q0 : leB 0 (-1) = false := rfl
 have hr : ∀ ρ : PEnv, ρ.m = M aa -> ρ.k = k -> a0k ρ false (.tup []) = some (.tup [], M aa) := by
  intro ρ e1 e2
  unfold a0k
  rw [if_pos (.inr (by rw [e1, e2]; exact hk aa)), e1]
 simp only [Q0, a0S, bE]
 simp -implicitDefEqProofs only [↓reduceIte,eq_self,ξ1,ξ2,ξ3,ξ4,ξ5,ξ6,ξ7,ξ8,ξ9,ξa,ξb,ξc,ξd,ξe,ξf,ξg,ξh,Nat.reduceAdd,ξi,if_true,if_false,ξl,ξm,ξn,ξo,ξp,ξq,ξr,ξs,ξt,ξu,ξv,ξw,ξx,ξy,ξz,ξA,ξB,ξC,ξD,ξE, q0]
 rw [hr _ rfl rfl]
 rfl
theorem c6I {T : Nat -> Option Sx.Sys} {n : Nat} (hT : T 54 = some valuation_below_S) (hΦ : Φ = a0e T (n + 7)) (a : α) (ha : I a) (h1 : 0 <= i /\ i <= 1000000) (h0' : 0 <= s0 /\ s0 <= 4) (h1' : 0 <= s1 /\ s1 <= 4) (h2' : 0 <= s2 /\ s2 <= 4) (h3' : 0 <= s3 /\ s3 <= 4) (h4' : 0 <= s4 /\ s4 <= 4) (h5' : 0 <= s5 /\ s5 <= 4)
  (hlen : ∀ a a', (M a).length = (M a').length)
  (hc : ∀ st ∈ offs 1 [(s5, b5), (s4, b4), (s3, b3), (s2, b2), (s1, b1), (s0, b0)], a7p Φ F caps M G I i st) :
  I ((offs 1 [(s5, b5), (s4, b4), (s3, b3), (s2, b2), (s1, b1), (s0, b0)]).foldl G a) /\
  a0e T (n + 8) 54 [.agg (lpv [s0, s1, s2, s3, s4, s5]), .agg (lpv [b0, b1, b2, b3, b4, b5]), .int .i64 i, .fn F caps] (M a) = some (.tup [], M ((offs 1 [(s5, b5), (s4, b4), (s3, b3), (s2, b2), (s1, b1), (s0, b0)]).foldl G a)) := by
 obtain ⟨e, f⟩ := c3L (k := (M a).length) n a ha h1 h0' h1' h2' h3' h4' h5' (fun a' => hlen a' a) hc
 refine ⟨e, ?_⟩
 rw [a0e, hT]
 simp only [Q0, Sys.run]
 show ((a0i [.sh (.agg [_, _, _, _, _, _]), .sh (.agg [_, _, _, _, _, _]), .sh (.one _), .sh (.one _)] _).bind _) = _
 have hone : (PV.fn F caps).one = true := rfl
 simp only [lpv, List.map_cons, List.map_nil, a0i, a0d, a0c, Q9, Q0, Q3, Q1, Q2, if_true, hone]
 show (PT.ev _ a5t _).bind _ = _
 simp -implicitDefEqProofs only [a5t, ↓reduceIte,eq_self,ξ1,ξ2,ξ3,ξ4,ξ5,ξ6,ξ7,ξ8,ξ9,ξa,ξb,ξc,ξd,ξe,ξf,ξg,ξh,Nat.reduceAdd,ξi,if_true,if_false,ξl,ξm,ξn,ξo,ξp,ξq,ξr,ξs,ξt,ξu,ξv,ξw,ξx,ξy,ξz,ξA,ξB,ξC,ξD,ξE]
 rw [<- hΦ]
 exact f
end
end Go.Proofs.Ythmkfeiapdbojaa
set_option maxRecDepth 100000
namespace Go.Proofs.Ythmkfeiapdbojaa
open Go.Sx Go.Kv Go.Bun
def a6z (n : Nat) (t : List Int) (st : Int) : List Int := t.set n (mxI (t.getD n 0) (t.getD ((n : Int) - st).toNat 0))
theorem c2T (n : Nat) (t : List Int) (st : Int) : (a6z n t st).length = t.length := by simp [a6z]
theorem c1d {n : Nat} : ∀ (L : List Int) (t : List Int) (v : Int), (∀ st ∈ L, ((n : Int) - st).toNat < n) -> n < t.length ->
  L.foldl (a6z n) (t.set n v) = t.set n (L.foldl (fun v st => mxI v (t.getD ((n : Int) - st).toNat 0)) v)
 | [], t, v, _, _ => rfl
 | st :: L, t, v, h, hn => by
  have h1 := h st (by simp)
  rw [Qk, Qk]
  have e : a6z n (t.set n v) st = t.set n (mxI v (t.getD ((n : Int) - st).toNat 0)) := by
   unfold a6z
   rw [Qt]
   congr 2
   ·simp [Qg, hn]
   ·rw [Qg, Qh (by omega), <- Qg]
  rw [e]
  exact c1d L t _ (fun s hs => h s (by simp [hs])) hn
theorem c1Z {t : List Int} {n : Nat} {c : Int} : ∀ (L : List Int) (v : Int), L.foldl (fun v st => mxI v (t.getD ((n : Int) - st).toNat 0)) v <= c ↔ v <= c /\ ∀ st ∈ L, t.getD ((n : Int) - st).toNat 0 <= c
 | [], v => by simp
 | st :: L, v => by
  rw [Qk, c1Z L]
  simp only [Qr, forall_eq_or_imp]
  unfold mxI
  constructor
  ·rintro ⟨h1, h2⟩
   split at h1
   ·exact ⟨by omega, h1, h2⟩
   ·exact ⟨h1, by omega, h2⟩
  ·rintro ⟨h1, h2, h3⟩
   exact ⟨by split <;> omega, h3⟩
def a1y (kv : KV) (s : Bd) (N n : Nat) : List Int := (List.range N).map fun (j : Nat) => if j < n then a0Z kv (s.unr j).l else 0
theorem a3t (kv : KV) (s : Bd) (N n : Nat) : (a1y kv s N n).length = N := by simp [a1y]
theorem a6C {kv : KV} {s : Bd} {N n j : Nat} (h : j < N) : (a1y kv s N n)[j]? = some (if j < n then a0Z kv (s.unr j).l else 0) := by simp [a1y, h]
theorem c4g {lim : List Int} {kv : KV} (h : KvOk lim kv) {s : Bd} {N n : Nat} (hN : (N : Int) = s.cnt) (hn : n < N) :
  (s.offs (s.unr n)).foldl (a6z n) ((a1y kv s N n).set n (gv kv (s.unr n).l)) = a1y kv s N (n + 1) := by
 obtain ⟨h1, _⟩ := b6n (s := s) (n := n) (by omega) rfl
 rw [c1d _ _ _ (fun st hst => by obtain ⟨m, e1, e2, _⟩ := h1 st hst; omega) (by rw [a3t]; exact hn)]
 have hv : (s.offs (s.unr n)).foldl (fun v st => mxI v ((a1y kv s N n).getD ((n : Int) - st).toNat 0)) (gv kv (s.unr n).l) = a0Z kv (s.unr n).l := by
  refine a1C fun c => ?_
  rw [c1Z, c6r h (by omega)]
  constructor
  ·rintro ⟨h2, h3⟩
   refine ⟨Int.le_trans (h.gv_nonneg _) h2, h2, fun st hst => ?_⟩
   have := h3 st hst
   obtain ⟨m, e1, e2, _⟩ := h1 st hst
   rw [e1] at this ⊢
   rw [Qu, Qg, a6C (by omega), if_pos e2] at this
   exact this
  ·rintro ⟨_, h2, h3⟩
   refine ⟨h2, fun st hst => ?_⟩
   have := h3 st hst
   obtain ⟨m, e1, e2, _⟩ := h1 st hst
   rw [e1] at this ⊢
   rw [Qu, Qg, a6C (by omega), if_pos e2]
   exact this
 rw [hv]
 apply Qy
 intro j
 rcases Nat.lt_or_ge j N with hj | hj
 ·rw [a6C hj, List.getElem?_set]
  split
  ·rename_i he; subst he
   rw [if_pos (by rw [a3t]; exact hj), if_pos (by omega)]
  ·rw [a6C hj]
   by_cases hjn : j < n
   ·rw [if_pos hjn, if_pos (by omega)]
   ·rw [if_neg hjn, if_neg (by omega)]
 ·rw [Qp (by simp [a3t]; exact hj), Qp (by simp [a3t]; exact hj)]
def mmT (m0 : List MO) (hT hi : Nat) (i : Int) (t : List Int) : List MO := (m0.set hT (.cells (iPV t) 2)).set hi (.cells [.int .i64 i] 3)
structure MmOk (m0 : List MO) (L hT hV hM hi N : Nat) (kv : KV) : Prop where
 len : m0.length = L + 4
 lo : L <= hT /\ L <= hV /\ L <= hM /\ L <= hi
 up : hT < L + 4 /\ hV < L + 4 /\ hM < L + 4 /\ hi < L + 4
 ne : hT ≠ hV /\ hT ≠ hM /\ hT ≠ hi /\ hV ≠ hM /\ hV ≠ hi /\ hM ≠ hi
 gV : m0[hV]? = some (.cells [.msl hT 0 N N 1] 37)
 gM : m0[hM]? = some (.mq kv 0)
section
variable {m0 : List MO} {L hT hV hM hi N : Nat} {kv : KV}
theorem b9J (h : MmOk m0 L hT hV hM hi N kv) (i : Int) (t : List Int) : (mmT m0 hT hi i t).length = L + 4 := by simp [mmT, h.len]
theorem c6F (h : MmOk m0 L hT hV hM hi N kv) (i : Int) (t : List Int) : (mmT m0 hT hi i t)[hT]? = some (.cells (iPV t) 2) := by
 obtain ⟨a, b, c, d, e, f⟩ := h.ne
 unfold mmT
 rw [Qh (by omega), Qz (by rw [h.len]; exact h.up.1)]
theorem c8E (h : MmOk m0 L hT hV hM hi N kv) (i : Int) (t : List Int) : (mmT m0 hT hi i t)[hi]? = some (.cells [.int .i64 i] 3) := by
 unfold mmT
 rw [Qz (by rw [QA, h.len]; exact h.up.2.2.2)]
theorem c6R (h : MmOk m0 L hT hV hM hi N kv) (i : Int) (t : List Int) : (mmT m0 hT hi i t)[hV]? = some (.cells [.msl hT 0 N N 1] 37) := by
 obtain ⟨a, b, c, d, e, f⟩ := h.ne
 unfold mmT
 rw [Qh (by omega), Qh (by omega), h.gV]
theorem d0G (h : MmOk m0 L hT hV hM hi N kv) (i : Int) (t : List Int) : (mmT m0 hT hi i t)[hM]? = some (.mq kv 0) := by
 obtain ⟨a, b, c, d, e, f⟩ := h.ne
 unfold mmT
 rw [Qh (by omega), Qh (by omega), h.gM]
theorem c2c (h : MmOk m0 L hT hV hM hi N kv) (i : Int) (t t' : List Int) : (mmT m0 hT hi i t).set hT (.cells (iPV t') 2) = mmT m0 hT hi i t' := by
 obtain ⟨a, b, c, d, e, f⟩ := h.ne
 unfold mmT
 rw [List.set_comm _ _ (by omega : hi ≠ hT), Qt]
theorem c8c (i i' : Int) (t : List Int) : (mmT m0 hT hi i t).set hi (.cells [.int .i64 i'] 3) = mmT m0 hT hi i' t := by
 unfold mmT
 rw [Qt]
theorem c4l (h : MmOk m0 L hT hV hM hi N kv) (n i j : Nat) (hi' : i < N) (hj : j < N) (t : List Int) (ht : t.length = N) {T : Nat -> Option Sx.Sys} (hTab : T 55 = some valuation_Table_1_S) :
  a0e T (n + 1) 55 [.int .i64 j, .ref hV 0, .ref hi 0] (mmT m0 hT hi i t) = some (.tup [], mmT m0 hT hi i (t.set i (mxI (t.getD i 0) (t.getD j 0)))) := by
 have gT := c6F h i t
 have gi := c8E h i t
 have gV := c6R h i t
 obtain ⟨x, hx⟩ := a7n (l := t) (i := i) (by omega)
 obtain ⟨y, hy⟩ := a7n (l := t) (i := j) (by omega)
 have l1 := a2B (h := hT) (c := N) hi'
 have l2 := a2B (h := hT) (c := N) hj
 have r1 := a5x hx
 have r2 := a5x hy
 have q1 : (leB 0 (i : Int) && ltB (i : Int) (N : Int)) = true := by simp [leB, ltB]; omega
 have q2 : (leB 0 (j : Int) && ltB (j : Int) (N : Int)) = true := by simp [leB, ltB]; omega
 have hs : i + 1 <= (iPV t).length := by rw [a8e]; omega
 have e1 : t.getD i 0 = x := by rw [Qg, hx]; rfl
 have e2 : t.getD j 0 = y := by rw [Qg, hy]; rfl
 have hone : (PV.msl hT 0 N N 1).one = true := rfl
 have hlen : (PV.msl hT 0 N N 1).len = (N : Int) := rfl
 have hset : (mmT m0 hT hi i t).set hT (.cells (a1H (iPV t) i [.int .i64 (mxI x y)]) 2) = mmT m0 hT hi i (t.set i (mxI x y)) := by rw [b4F (by omega), c2c h]
 rw [a0e, hTab]
 simp only [Q0, Sys.run]
 show ((a0i [.sh (.one (.int .i64)), .ptr, .ptr] _).bind _) = _
 simp only [a0i, a0d, a0c, Q9, Q0, Q3, Q1, Q2, if_true, PV.isPtr]
 show (PT.ev _ a4z _).bind _ = _
 unfold a0f at r1 r2
 simp -implicitDefEqProofs only [a4z, ↓reduceIte,eq_self,ξ1,ξ2,ξ3,ξ4,ξ5,ξ6,ξ7,ξ8,ξ9,ξa,ξb,ξc,ξd,ξe,ξf,ξg,ξh,Nat.reduceAdd,ξi,if_true,if_false,ξl,ξm,ξn,ξo,ξp,ξq,ξr,ξs,ξt,ξu,ξv,ξw,ξx,ξy,ξz,ξA,ξB,ξC,ξD,ξE, gT, gi, gV, MO.list, hone, hlen, l1, l2, r1, r2, q1, q2, hs, hset, a0k, true_or, e1, e2]
end
end Go.Proofs.Ythmkfeiapdbojaa
set_option maxRecDepth 100000
namespace Go.Proofs.Ythmkfeiapdbojaa
open Go.Sx Go.Kv Go.Bun
def b3Z (m0 : List MO) (L hT hV hM hi N : Nat) (kv : KV) (op a b c d e f v : Int) (s : Bd) (fv x : PV) (n : Nat) : PEnv :=
 { i := [op, a, b, c, d, e, f, v, s.a, s.b, s.c, s.d, s.e, s.f], b := [], v := [.ref hV 0, .ref hi 0, fv, x, .mp hM], m := mmT m0 hT hi n (a1y kv s N n), k := L }
section
variable {m0 : List MO} {L hT hV hM hi N : Nat} {kv : KV} {op a b c d e f v : Int} {s : Bd} {fv x : PV} {lim : List Int}
theorem b1t {s : Bd} (h : s.cnt ≠ 0) : 0 < s.cnt /\ s.cnt <= 1024 := by
 have h2 := Bd.ok_of_cnt h
 unfold Bd.cnt at h ⊢
 rw [if_pos h2] at h ⊢
 by_cases h3 : 1024 < s.prod
 ·rw [if_pos h3] at h; exact absurd rfl h
 rw [if_neg h3]
 simp only [Bd.Ok] at h2
 refine ⟨?_, by omega⟩
 unfold Bd.prod
 have p1 : 0 < 1 * (s.a + 1) := by omega
 exact Qj (Qj (Qj (Qj (Qj p1 (by omega)) (by omega)) (by omega)) (by omega)) (by omega)
theorem c1q (h : MmOk m0 L hT hV hM hi N kv) (hk : KvOk lim kv) (hw : a3r 6 kv = true) (hN : (N : Int) = s.cnt) {n : Nat} (hn : n < N) {T : Nat -> Option Sx.Sys} (hT0 : T 54 = some valuation_below_S) (hT1 : T 55 = some valuation_Table_1_S) (q : Nat) :
  a4V.ev (a0e T (q + 8)) ((b3Z m0 L hT hV hM hi N kv op a b c d e f v s fv x n).push ((s.unr n).l, [], [])) = some (.jump 0 (b3Z m0 L hT hV hM hi N kv op a b c d e f v s fv x (n + 1))) := by
 have hs0 : s.cnt ≠ 0 := by omega
 have hs := Bd.ok_of_cnt hs0
 have hc := b1t hs0
 obtain ⟨ho, _⟩ := b6n (s := s) (n := n) (by omega) rfl
 have hrow := c4g hk hN hn
 have hbel := c6I (Φ := a0e T (q + 7)) (F := 55) (caps := [.ref hV 0, .ref hi 0]) (M := fun t => mmT m0 hT hi n t) (G := a6z n) (I := fun t => t.length = N) (i := n) (s0 := s.a) (s1 := s.b) (s2 := s.c) (s3 := s.d) (s4 := s.e) (s5 := s.f)
  (b0 := (s.unr n).a) (b1 := (s.unr n).b) (b2 := (s.unr n).c) (b3 := (s.unr n).d) (b4 := (s.unr n).e) (b5 := (s.unr n).f) hT0 rfl ((a1y kv s N n).set n (gv kv (s.unr n).l)) (by rw [QA, a3t]) (by omega)
  hs.1 hs.2.1 hs.2.2.1 hs.2.2.2.1 hs.2.2.2.2.1 hs.2.2.2.2.2 (fun t t' => by rw [b9J h, b9J h]) (fun st hst t ht => by
   obtain ⟨m, e1, e2, _⟩ := ho st hst
   refine ⟨?_, (c2T n t st).trans ht⟩
   rw [e1, c4l h (q + 6) n m hn (by omega) t ht hT1]
   unfold a6z
   rw [e1, Qu])
 obtain ⟨_, hbel⟩ := hbel
 have hrow' : (offs 1 [(s.f, (s.unr n).f), (s.e, (s.unr n).e), (s.d, (s.unr n).d), (s.c, (s.unr n).c), (s.b, (s.unr n).b), (s.a, (s.unr n).a)]).foldl (a6z n) ((a1y kv s N n).set n (gv kv (s.unr n).l)) = a1y kv s N (n + 1) := hrow
 rw [hrow'] at hbel
 have hg : (a0q kv (s.unr n).l).getD 0 = gv kv (s.unr n).l := rfl
 generalize hB : s.unr n = bb at *
 generalize hG : gv kv bb.l = g at *
 generalize hT2 : a1y kv s N (n + 1) = t2 at *
 have hl1 := a3t kv s N n
 generalize hT3 : a1y kv s N n = t at *
 obtain ⟨x0, x1, x2, x3, x4, x5⟩ := bb
 obtain ⟨s0, s1, s2, s3, s4, s5⟩ := s
 simp only [Bd.l] at hg hG hbel ⊢
 simp only [lpv, List.map_cons, List.map_nil] at hbel
 have gi := fun i t => c8E h i t
 have gV := fun i t => c6R h i t
 have gM := fun i t => d0G h i t
 have gT := c6F h n t
 have l1 := a2B (h := hT) (c := N) hn
 have q1 : (leB 0 (n : Int) && ltB (n : Int) (N : Int)) = true := by simp [leB, ltB]; omega
 have q2 : (leB (-9223372036854775808) ((n : Int) + 1) && leB ((n : Int) + 1) 9223372036854775807) = true := a5p (by omega)
 have hst : n + 1 <= (iPV t).length := by rw [a8e]; omega
 have hone : (PV.msl hT 0 N N 1).one = true := rfl
 have hlen : (PV.msl hT 0 N N 1).len = (N : Int) := rfl
 have hset : (mmT m0 hT hi n t).set hT (.cells (a1H (iPV t) n [.int .i64 g]) 2) = mmT m0 hT hi n (t.set n g) := by rw [b4F (by omega), c2c h]
 have hseti : (mmT m0 hT hi n t2).set hi (.cells (a1H [.int .i64 (n : Int)] 0 [.int .i64 ((n : Int) + 1)]) 3) = mmT m0 hT hi ((n + 1 : Nat) : Int) t2 := c8c _ _ _
 have hw' : a3r [IE.a 14, IE.a 15, IE.a 16, IE.a 17, IE.a 18, IE.a 19].length kv = true := hw
 unfold b3Z
 simp only [hT3, hT2]
 unfold a0f at *
 unfold a4V
 repeat' (first
  | with_reducible rfl
  | apply c2N
  | (unfold a3R; simp -implicitDefEqProofs only [↓reduceIte,eq_self,ξF,ξG,ξH,ξI,ξJ,ξK,ξL,ξM,ξN,ξO,ξP,ξQ,ξR,ξS,ξT,ξU,ξV,ξW,ξX,ξY,ξ2,ξ3,ξ4,ξ5,ξ6,ξ7,ξ8,ξ9,ξa,ξb,ξc,ξd,ξe,ξf,ξg,ξh,Nat.reduceAdd,ξi,if_true,if_false,ξl,ξm,ξn,ξo,ξp,ξq,ξr,ξs,ξt,ξu,ξv,ξw,ξx,ξy,ξz,ξA,ξB,ξC,ξD,ξE, gi, gV, gM, gT, MO.list, hone, hlen, l1, q1, q2, hst, hset, hseti, hw, hw', hg, hbel, PV.on, a0k, true_or, a1z, a1p, a1W, a0j]; done)
  | (unfold a3R; simp -implicitDefEqProofs only [↓reduceIte,eq_self,ξF,ξG,ξH,ξI,ξJ,ξK,ξL,ξM,ξN,ξO,ξP,ξQ,ξR,ξS,ξT,ξU,ξV,ξW,ξX,ξY,ξ2,ξ3,ξ4,ξ5,ξ6,ξ7,ξ8,ξ9,ξa,ξb,ξc,ξd,ξe,ξf,ξg,ξh,Nat.reduceAdd,ξi,if_true,if_false,ξl,ξm,ξn,ξo,ξp,ξq,ξr,ξs,ξt,ξu,ξv,ξw,ξx,ξy,ξz,ξA,ξB,ξC,ξD,ξE, gi, gV, gM, gT, MO.list, hone, hlen, l1, q1, q2, hst, hset, hseti, hw, hw', hg, hbel, PV.on, a0k, true_or, a1z, a1p, a1W, a0j])
  | (unfold a4a; simp -implicitDefEqProofs only [↓reduceIte,eq_self,ξF,ξG,ξH,ξI,ξJ,ξK,ξL,ξM,ξN,ξO,ξP,ξQ,ξR,ξS,ξT,ξU,ξV,ξW,ξX,ξY,ξ2,ξ3,ξ4,ξ5,ξ6,ξ7,ξ8,ξ9,ξa,ξb,ξc,ξd,ξe,ξf,ξg,ξh,Nat.reduceAdd,ξi,if_true,if_false,ξl,ξm,ξn,ξo,ξp,ξq,ξr,ξs,ξt,ξu,ξv,ξw,ξx,ξy,ξz,ξA,ξB,ξC,ξD,ξE, gi, gV, gM, gT, MO.list, hone, hlen, l1, q1, q2, hst, hset, hseti, hw, hw', hg, hbel, PV.on, a0k, true_or, a1z, a1p, a1W, a0j]; done)
  | (unfold a4a; simp -implicitDefEqProofs only [↓reduceIte,eq_self,ξF,ξG,ξH,ξI,ξJ,ξK,ξL,ξM,ξN,ξO,ξP,ξQ,ξR,ξS,ξT,ξU,ξV,ξW,ξX,ξY,ξ2,ξ3,ξ4,ξ5,ξ6,ξ7,ξ8,ξ9,ξa,ξb,ξc,ξd,ξe,ξf,ξg,ξh,Nat.reduceAdd,ξi,if_true,if_false,ξl,ξm,ξn,ξo,ξp,ξq,ξr,ξs,ξt,ξu,ξv,ξw,ξx,ξy,ξz,ξA,ξB,ξC,ξD,ξE, gi, gV, gM, gT, MO.list, hone, hlen, l1, q1, q2, hst, hset, hseti, hw, hw', hg, hbel, PV.on, a0k, true_or, a1z, a1p, a1W, a0j])
  | (unfold a3X; simp -implicitDefEqProofs only [↓reduceIte,eq_self,ξF,ξG,ξH,ξI,ξJ,ξK,ξL,ξM,ξN,ξO,ξP,ξQ,ξR,ξS,ξT,ξU,ξV,ξW,ξX,ξY,ξ2,ξ3,ξ4,ξ5,ξ6,ξ7,ξ8,ξ9,ξa,ξb,ξc,ξd,ξe,ξf,ξg,ξh,Nat.reduceAdd,ξi,if_true,if_false,ξl,ξm,ξn,ξo,ξp,ξq,ξr,ξs,ξt,ξu,ξv,ξw,ξx,ξy,ξz,ξA,ξB,ξC,ξD,ξE, gi, gV, gM, gT, MO.list, hone, hlen, l1, q1, q2, hst, hset, hseti, hw, hw', hg, hbel, PV.on, a0k, true_or, a1z, a1p, a1W, a0j]; done)
  | (unfold a3X; simp -implicitDefEqProofs only [↓reduceIte,eq_self,ξF,ξG,ξH,ξI,ξJ,ξK,ξL,ξM,ξN,ξO,ξP,ξQ,ξR,ξS,ξT,ξU,ξV,ξW,ξX,ξY,ξ2,ξ3,ξ4,ξ5,ξ6,ξ7,ξ8,ξ9,ξa,ξb,ξc,ξd,ξe,ξf,ξg,ξh,Nat.reduceAdd,ξi,if_true,if_false,ξl,ξm,ξn,ξo,ξp,ξq,ξr,ξs,ξt,ξu,ξv,ξw,ξx,ξy,ξz,ξA,ξB,ξC,ξD,ξE, gi, gV, gM, gT, MO.list, hone, hlen, l1, q1, q2, hst, hset, hseti, hw, hw', hg, hbel, PV.on, a0k, true_or, a1z, a1p, a1W, a0j])
  | (unfold a3T; simp -implicitDefEqProofs only [↓reduceIte,eq_self,ξF,ξG,ξH,ξI,ξJ,ξK,ξL,ξM,ξN,ξO,ξP,ξQ,ξR,ξS,ξT,ξU,ξV,ξW,ξX,ξY,ξ2,ξ3,ξ4,ξ5,ξ6,ξ7,ξ8,ξ9,ξa,ξb,ξc,ξd,ξe,ξf,ξg,ξh,Nat.reduceAdd,ξi,if_true,if_false,ξl,ξm,ξn,ξo,ξp,ξq,ξr,ξs,ξt,ξu,ξv,ξw,ξx,ξy,ξz,ξA,ξB,ξC,ξD,ξE, gi, gV, gM, gT, MO.list, hone, hlen, l1, q1, q2, hst, hset, hseti, hw, hw', hg, hbel, PV.on, a0k, true_or, a1z, a1p, a1W, a0j]; done)
  | (unfold a3T; simp -implicitDefEqProofs only [↓reduceIte,eq_self,ξF,ξG,ξH,ξI,ξJ,ξK,ξL,ξM,ξN,ξO,ξP,ξQ,ξR,ξS,ξT,ξU,ξV,ξW,ξX,ξY,ξ2,ξ3,ξ4,ξ5,ξ6,ξ7,ξ8,ξ9,ξa,ξb,ξc,ξd,ξe,ξf,ξg,ξh,Nat.reduceAdd,ξi,if_true,if_false,ξl,ξm,ξn,ξo,ξp,ξq,ξr,ξs,ξt,ξu,ξv,ξw,ξx,ξy,ξz,ξA,ξB,ξC,ξD,ξE, gi, gV, gM, gT, MO.list, hone, hlen, l1, q1, q2, hst, hset, hseti, hw, hw', hg, hbel, PV.on, a0k, true_or, a1z, a1p, a1W, a0j])
  | (unfold a3V; simp -implicitDefEqProofs only [↓reduceIte,eq_self,ξF,ξG,ξH,ξI,ξJ,ξK,ξL,ξM,ξN,ξO,ξP,ξQ,ξR,ξS,ξT,ξU,ξV,ξW,ξX,ξY,ξ2,ξ3,ξ4,ξ5,ξ6,ξ7,ξ8,ξ9,ξa,ξb,ξc,ξd,ξe,ξf,ξg,ξh,Nat.reduceAdd,ξi,if_true,if_false,ξl,ξm,ξn,ξo,ξp,ξq,ξr,ξs,ξt,ξu,ξv,ξw,ξx,ξy,ξz,ξA,ξB,ξC,ξD,ξE, gi, gV, gM, gT, MO.list, hone, hlen, l1, q1, q2, hst, hset, hseti, hw, hw', hg, hbel, PV.on, a0k, true_or, a1z, a1p, a1W, a0j]; done)
  | (unfold a3V; simp -implicitDefEqProofs only [↓reduceIte,eq_self,ξF,ξG,ξH,ξI,ξJ,ξK,ξL,ξM,ξN,ξO,ξP,ξQ,ξR,ξS,ξT,ξU,ξV,ξW,ξX,ξY,ξ2,ξ3,ξ4,ξ5,ξ6,ξ7,ξ8,ξ9,ξa,ξb,ξc,ξd,ξe,ξf,ξg,ξh,Nat.reduceAdd,ξi,if_true,if_false,ξl,ξm,ξn,ξo,ξp,ξq,ξr,ξs,ξt,ξu,ξv,ξw,ξx,ξy,ξz,ξA,ξB,ξC,ξD,ξE, gi, gV, gM, gT, MO.list, hone, hlen, l1, q1, q2, hst, hset, hseti, hw, hw', hg, hbel, PV.on, a0k, true_or, a1z, a1p, a1W, a0j])
  | (unfold a3Z; simp -implicitDefEqProofs only [↓reduceIte,eq_self,ξF,ξG,ξH,ξI,ξJ,ξK,ξL,ξM,ξN,ξO,ξP,ξQ,ξR,ξS,ξT,ξU,ξV,ξW,ξX,ξY,ξ2,ξ3,ξ4,ξ5,ξ6,ξ7,ξ8,ξ9,ξa,ξb,ξc,ξd,ξe,ξf,ξg,ξh,Nat.reduceAdd,ξi,if_true,if_false,ξl,ξm,ξn,ξo,ξp,ξq,ξr,ξs,ξt,ξu,ξv,ξw,ξx,ξy,ξz,ξA,ξB,ξC,ξD,ξE, gi, gV, gM, gT, MO.list, hone, hlen, l1, q1, q2, hst, hset, hseti, hw, hw', hg, hbel, PV.on, a0k, true_or, a1z, a1p, a1W, a0j]; done)
  | (unfold a3Z; simp -implicitDefEqProofs only [↓reduceIte,eq_self,ξF,ξG,ξH,ξI,ξJ,ξK,ξL,ξM,ξN,ξO,ξP,ξQ,ξR,ξS,ξT,ξU,ξV,ξW,ξX,ξY,ξ2,ξ3,ξ4,ξ5,ξ6,ξ7,ξ8,ξ9,ξa,ξb,ξc,ξd,ξe,ξf,ξg,ξh,Nat.reduceAdd,ξi,if_true,if_false,ξl,ξm,ξn,ξo,ξp,ξq,ξr,ξs,ξt,ξu,ξv,ξw,ξx,ξy,ξz,ξA,ξB,ξC,ξD,ξE, gi, gV, gM, gT, MO.list, hone, hlen, l1, q1, q2, hst, hset, hseti, hw, hw', hg, hbel, PV.on, a0k, true_or, a1z, a1p, a1W, a0j])
  | (unfold a3U; simp -implicitDefEqProofs only [↓reduceIte,eq_self,ξF,ξG,ξH,ξI,ξJ,ξK,ξL,ξM,ξN,ξO,ξP,ξQ,ξR,ξS,ξT,ξU,ξV,ξW,ξX,ξY,ξ2,ξ3,ξ4,ξ5,ξ6,ξ7,ξ8,ξ9,ξa,ξb,ξc,ξd,ξe,ξf,ξg,ξh,Nat.reduceAdd,ξi,if_true,if_false,ξl,ξm,ξn,ξo,ξp,ξq,ξr,ξs,ξt,ξu,ξv,ξw,ξx,ξy,ξz,ξA,ξB,ξC,ξD,ξE, gi, gV, gM, gT, MO.list, hone, hlen, l1, q1, q2, hst, hset, hseti, hw, hw', hg, hbel, PV.on, a0k, true_or, a1z, a1p, a1W, a0j]; done)
  | (unfold a3U; simp -implicitDefEqProofs only [↓reduceIte,eq_self,ξF,ξG,ξH,ξI,ξJ,ξK,ξL,ξM,ξN,ξO,ξP,ξQ,ξR,ξS,ξT,ξU,ξV,ξW,ξX,ξY,ξ2,ξ3,ξ4,ξ5,ξ6,ξ7,ξ8,ξ9,ξa,ξb,ξc,ξd,ξe,ξf,ξg,ξh,Nat.reduceAdd,ξi,if_true,if_false,ξl,ξm,ξn,ξo,ξp,ξq,ξr,ξs,ξt,ξu,ξv,ξw,ξx,ξy,ξz,ξA,ξB,ξC,ξD,ξE, gi, gV, gM, gT, MO.list, hone, hlen, l1, q1, q2, hst, hset, hseti, hw, hw', hg, hbel, PV.on, a0k, true_or, a1z, a1p, a1W, a0j])
  | (unfold a4b; simp -implicitDefEqProofs only [↓reduceIte,eq_self,ξF,ξG,ξH,ξI,ξJ,ξK,ξL,ξM,ξN,ξO,ξP,ξQ,ξR,ξS,ξT,ξU,ξV,ξW,ξX,ξY,ξ2,ξ3,ξ4,ξ5,ξ6,ξ7,ξ8,ξ9,ξa,ξb,ξc,ξd,ξe,ξf,ξg,ξh,Nat.reduceAdd,ξi,if_true,if_false,ξl,ξm,ξn,ξo,ξp,ξq,ξr,ξs,ξt,ξu,ξv,ξw,ξx,ξy,ξz,ξA,ξB,ξC,ξD,ξE, gi, gV, gM, gT, MO.list, hone, hlen, l1, q1, q2, hst, hset, hseti, hw, hw', hg, hbel, PV.on, a0k, true_or, a1z, a1p, a1W, a0j]; done)
  | (unfold a4b; simp -implicitDefEqProofs only [↓reduceIte,eq_self,ξF,ξG,ξH,ξI,ξJ,ξK,ξL,ξM,ξN,ξO,ξP,ξQ,ξR,ξS,ξT,ξU,ξV,ξW,ξX,ξY,ξ2,ξ3,ξ4,ξ5,ξ6,ξ7,ξ8,ξ9,ξa,ξb,ξc,ξd,ξe,ξf,ξg,ξh,Nat.reduceAdd,ξi,if_true,if_false,ξl,ξm,ξn,ξo,ξp,ξq,ξr,ξs,ξt,ξu,ξv,ξw,ξx,ξy,ξz,ξA,ξB,ξC,ξD,ξE, gi, gV, gM, gT, MO.list, hone, hlen, l1, q1, q2, hst, hset, hseti, hw, hw', hg, hbel, PV.on, a0k, true_or, a1z, a1p, a1W, a0j]))
end
end Go.Proofs.Ythmkfeiapdbojaa
set_option maxRecDepth 100000
namespace Go.Proofs.Ythmkfeiapdbojaa
open Go.Sx Go.Kv Go.Bun
theorem c2e (s : Bd) : a4B ⟨s.a, s.b, s.c, s.d, s.e, s.f⟩ = s.check := by
 have hiff : (⟨s.a, s.b, s.c, s.d, s.e, s.f⟩ : W6).ok ↔ s.Ok := by
  simp only [W6.ok, Bd.Ok]
  constructor <;> intro h <;> omega
 unfold a4B Bd.check
 by_cases h : s.Ok
 ·rw [if_pos h, if_pos (hiff.2 h)]
 ·rw [if_neg h, if_neg (fun k => h (hiff.1 k))]
theorem b8K (s : Bd) (σ : List MO) (n : Nat) : a0e Tab (n + 1) 48 [.agg (bpv s)] σ = some (.int .i64 s.check, σ) := by
 have := b1Z σ ⟨s.a, s.b, s.c, s.d, s.e, s.f⟩ (n + 1) (by omega)
 rw [c2e] at this
 exact this
theorem b6B (s : Bd) (σ : List MO) (n : Nat) : a0e Tab (n + 1) 16 [.agg (bpv s)] σ = some (.int .i64 s.check, σ) := by
 have := b5o σ ⟨s.a, s.b, s.c, s.d, s.e, s.f⟩ (n + 1) (by omega)
 rw [c2e] at this
 exact this
theorem b6d {s : Bd} (hs : s.Ok) : ∃ p1 p2 p3 p4 p5 p6 : Int, 1 * (s.a + 1) = p1 /\ p1 * (s.b + 1) = p2 /\ p2 * (s.c + 1) = p3 /\ p3 * (s.d + 1) = p4 /\ p4 * (s.e + 1) = p5 /\ p5 * (s.f + 1) = p6 /\
  (1 <= p1 /\ p1 <= 5) /\ (1 <= p2 /\ p2 <= 25) /\ (1 <= p3 /\ p3 <= 125) /\ (1 <= p4 /\ p4 <= 625) /\ (1 <= p5 /\ p5 <= 3125) /\ (1 <= p6 /\ p6 <= 15625) /\ s.prod = p6 := by
 simp only [Bd.Ok] at hs
 have up : ∀ x y A : Int, 1 <= x /\ x <= A -> 0 <= y /\ y <= 4 -> 1 <= x * (y + 1) /\ x * (y + 1) <= A * 5 := fun x y A h1 h2 => by
  have := Qj (show 0 < x by omega) (show 0 < y + 1 by omega)
  have := a1T (x := x) (y := y + 1) (A := A) (B := 5) (by omega) (by omega)
  omega
 have h1 := up 1 s.a 1 (by omega) hs.1
 have h2 := up (1 * (s.a + 1)) s.b 5 (by omega) hs.2.1
 have h3 := up (1 * (s.a + 1) * (s.b + 1)) s.c 25 (by omega) hs.2.2.1
 have h4 := up (1 * (s.a + 1) * (s.b + 1) * (s.c + 1)) s.d 125 (by omega) hs.2.2.2.1
 have h5 := up (1 * (s.a + 1) * (s.b + 1) * (s.c + 1) * (s.d + 1)) s.e 625 (by omega) hs.2.2.2.2.1
 have h6 := up (1 * (s.a + 1) * (s.b + 1) * (s.c + 1) * (s.d + 1) * (s.e + 1)) s.f 3125 (by omega) hs.2.2.2.2.2
 exact ⟨_, _, _, _, _, _, rfl, rfl, rfl, rfl, rfl, rfl, by omega, by omega, by omega, by omega, by omega, by omega, rfl⟩
theorem a9D (s : Bd) (σ : List MO) (n : Nat) : a0e Tab (n + 2) 52 [.agg (bpv s)] σ = some (.int .i64 s.cnt, σ) := by
 have hc : a0e Tab (n + 1) 48 [.agg (bpv s)] σ = some (.int .i64 s.check, σ) := by first | exact b8K s σ n | exact b6B s σ n
 by_cases hs : s.Ok
 case neg =>
  have h0 : s.check = 4 := by unfold Bd.check; rw [if_neg hs]
  have h1 : s.cnt = 0 := by unfold Bd.cnt; rw [if_neg hs]
  rw [h0] at hc
  obtain ⟨a, b, c, d, e, f⟩ := s
  simp only [bpv] at hc ⊢
  rw [a0e, a9a, h1]
  simp only [Q0, Sys.run]
  show ((a0i [.sh (.agg [_, _, _, _, _, _])] _).bind _) = _
  simp only [a0i, a0d, a0c, Q9, Q0, Q3, Q1, Q2, if_true]
  show (PT.ev _ a4f _).bind _ = _
  have q : eqB 4 0 = false := rfl
  simp -implicitDefEqProofs only [a4f, ↓reduceIte,eq_self,ξ1,ξ2,ξ3,ξ4,ξ5,ξ6,ξ7,ξ8,ξ9,ξa,ξb,ξc,ξd,ξe,ξf,ξg,ξh,Nat.reduceAdd,ξi,if_true,if_false,ξl,ξm,ξn,ξo,ξp,ξq,ξr,ξs,ξt,ξu,ξv,ξw,ξx,ξy,ξz,ξA,ξB,ξC,ξD,ξE, hc, a0k, or_true, q]
 have h0 : s.check = 0 := by unfold Bd.check; rw [if_pos hs]
 have h1 : s.cnt = if 1024 < s.prod then 0 else s.prod := by unfold Bd.cnt; rw [if_pos hs]
 obtain ⟨p1, p2, p3, p4, p5, p6, e1, e2, e3, e4, e5, e6, b1, b2, b3, b4, b5, b6, hp⟩ := b6d hs
 rw [h0] at hc
 rw [h1, hp]
 obtain ⟨a, b, c, d, e, f⟩ := s
 simp only [Bd.Ok] at hs
 simp only at e1 e2 e3 e4 e5 e6
 simp only [bpv] at hc ⊢
 rw [a0e, a9a]
 simp only [Q0, Sys.run]
 show ((a0i [.sh (.agg [_, _, _, _, _, _])] _).bind _) = _
 simp only [a0i, a0d, a0c, Q9, Q0, Q3, Q1, Q2, if_true]
 show (PT.ev _ a4f _).bind _ = _
 have q : eqB 0 0 = true := rfl
 have n1 : (leB (-9223372036854775808) (a + 1) && leB (a + 1) 9223372036854775807) = true := a0z (by omega)
 have n2 : (leB (-9223372036854775808) (b + 1) && leB (b + 1) 9223372036854775807) = true := a0z (by omega)
 have n3 : (leB (-9223372036854775808) (c + 1) && leB (c + 1) 9223372036854775807) = true := a0z (by omega)
 have n4 : (leB (-9223372036854775808) (d + 1) && leB (d + 1) 9223372036854775807) = true := a0z (by omega)
 have n5 : (leB (-9223372036854775808) (e + 1) && leB (e + 1) 9223372036854775807) = true := a0z (by omega)
 have n6 : (leB (-9223372036854775808) (f + 1) && leB (f + 1) 9223372036854775807) = true := a0z (by omega)
 have m1 : (leB (-9223372036854775808) p1 && leB p1 9223372036854775807) = true := a0z (by omega)
 have m2 : (leB (-9223372036854775808) p2 && leB p2 9223372036854775807) = true := a0z (by omega)
 have m3 : (leB (-9223372036854775808) p3 && leB p3 9223372036854775807) = true := a0z (by omega)
 have m4 : (leB (-9223372036854775808) p4 && leB p4 9223372036854775807) = true := a0z (by omega)
 have m5 : (leB (-9223372036854775808) p5 && leB p5 9223372036854775807) = true := a0z (by omega)
 have m6 : (leB (-9223372036854775808) p6 && leB p6 9223372036854775807) = true := a0z (by omega)
 simp -implicitDefEqProofs only [a4f, ↓reduceIte,eq_self,ξ1,ξ2,ξ3,ξ4,ξ5,ξ6,ξ7,ξ8,ξ9,ξa,ξb,ξc,ξd,ξe,ξf,ξg,ξh,Nat.reduceAdd,ξi,if_true,if_false,ξl,ξm,ξn,ξo,ξp,ξq,ξr,ξs,ξt,ξu,ξv,ξw,ξx,ξy,ξz,ξA,ξB,ξC,ξD,ξE, hc, a0k, or_true, q, n1, n2, n3, n4, n5, n6, e1, e2, e3, e4, e5, e6, m1, m2, m3, m4, m5, m6, a1k]
 split <;> rfl
theorem c8b (s : Bd) (σ : List MO) (hlow : σ.all (MO.low σ.length) = true) (n : Nat) : a0e Tab (n + 1) 87 [.agg (bpv s)] σ = some (.fn 95 [.cell (bpv s) 0], σ) := by
 obtain ⟨a, b, c, d, e, f⟩ := s
 simp only [bpv]
 rw [a0e, b7l]
 simp only [Q0, Sys.run]
 show ((a0i [.sh (.agg [_, _, _, _, _, _])] _).bind _) = _
 simp only [a0i, a0d, a0c, Q9, Q0, Q3, Q1, Q2, if_true]
 show (PT.ev _ a7D _).bind _ = _
 have hne : ((σ ++ [MO.cells [.int .i64 a, .int .i64 b, .int .i64 c, .int .i64 d, .int .i64 e, .int .i64 f] 23]).length = σ.length) = False := by simp
 have htk : (σ ++ [MO.cells [.int .i64 a, .int .i64 b, .int .i64 c, .int .i64 d, .int .i64 e, .int .i64 f] 23]).take σ.length = σ := by simp
 have hg : (σ ++ [MO.cells [.int .i64 a, .int .i64 b, .int .i64 c, .int .i64 d, .int .i64 e, .int .i64 f] 23])[σ.length]? = some (.cells [.int .i64 a, .int .i64 b, .int .i64 c, .int .i64 d, .int .i64 e, .int .i64 f] 23) := by simp
 simp -implicitDefEqProofs only [a7D, ↓reduceIte,eq_self,ξ1,ξ2,ξ3,ξ4,ξ5,ξ6,ξ7,ξ8,ξ9,ξa,ξb,ξc,ξd,ξe,ξf,ξg,ξh,Nat.reduceAdd,ξi,if_true,if_false,ξl,ξm,ξn,ξo,ξp,ξq,ξr,ξs,ξt,ξu,ξv,ξw,ξx,ξy,ξz,ξA,ξB,ξC,ξD,ξE, PV.on, a0k, hne, htk, hlow, or_false]
 simp only [PV.frz, PV.frzs, Nat.lt_irrefl, if_false, a7a, hg, Q0, Q9, MO.list]
theorem c9e (s : Bd) (hc : s.cnt ≠ 0) (σ : List MO) (hlow : σ.all (MO.low σ.length) = true) (n : Nat) : a0e Tab (n + 3) 53 [.agg (bpv s)] σ = some (.fn 95 [.cell (bpv s) 0], σ) := by
 have h1 := a9D s σ n
 have h2 := c8b s σ hlow (n + 1)
 have hq : eqB s.cnt 0 = false := eqF hc
 obtain ⟨a, b, c, d, e, f⟩ := s
 simp only [bpv] at *
 rw [a0e, b7T]
 simp only [Q0, Sys.run]
 show ((a0i [.sh (.agg [_, _, _, _, _, _])] _).bind _) = _
 simp only [a0i, a0d, a0c, Q9, Q0, Q3, Q1, Q2, if_true]
 show (PT.ev _ a8w _).bind _ = _
 have hone : (PV.fn 95 [.cell [.int .i64 a, .int .i64 b, .int .i64 c, .int .i64 d, .int .i64 e, .int .i64 f] 0]).one = true := rfl
 simp -implicitDefEqProofs only [a8w, ↓reduceIte,eq_self,ξ1,ξ2,ξ3,ξ4,ξ5,ξ6,ξ7,ξ8,ξ9,ξa,ξb,ξc,ξd,ξe,ξf,ξg,ξh,Nat.reduceAdd,ξi,if_true,if_false,ξl,ξm,ξn,ξo,ξp,ξq,ξr,ξs,ξt,ξu,ξv,ξw,ξx,ξy,ξz,ξA,ξB,ξC,ξD,ξE, h1, h2, hq, hone, a0k, or_true]
end Go.Proofs.Ythmkfeiapdbojaa
set_option maxRecDepth 100000
namespace Go.Proofs.Ythmkfeiapdbojaa
open Go.Sx Go.Kv Go.Bun
section
variable {m0 : List MO} {L hT hV hM hi N : Nat} {kv : KV} {op a b c d e f v : Int} {s : Bd} {x : PV} {lim : List Int}
theorem c1B (kv : KV) (s : Bd) (N : Nat) : a1y kv s N 0 = Qd N 0 := by
 apply Qy
 intro j
 rcases Nat.lt_or_ge j N with hj | hj
 ·rw [a6C hj, List.getElem?_replicate, if_pos hj, if_neg (by omega)]
 ·rw [Qp (by simp [a3t]; exact hj), Qp (by simp; exact hj)]
theorem c7J (s : Bd) : bOf (bpv s) = some s := rfl
theorem c6T {s : Bd} (hs : s.Ok) : itB 95 [.cell (bpv s) 0] = some ((Lk s 6).map fun x => [.agg (lpv x)]) := by
 unfold itB
 rw [if_pos rfl]
 simp only [c7J, Q0]
 rw [if_pos hs]
theorem c8J {s : Bd} (hc : s.cnt ≠ 0) : ((Lk s 6).length : Int) = s.cnt := by
 have := c5S (s := s)
 unfold Bd.list at this
 rw [if_neg hc] at this
 exact this
theorem c8z {s : Bd} (hc : s.cnt ≠ 0) {i : Nat} (hi : (i : Int) < s.cnt) : (Lk s 6)[i]? = some (s.unr i).l := by
 have := c6h hi
 unfold Bd.list at this
 rw [if_neg hc] at this
 exact this
theorem c5h (h : MmOk m0 L hT hV hM hi N kv) (hk : KvOk lim kv) (hw : a3r 6 kv = true) (hN : (N : Int) = s.cnt) (hc : s.cnt ≠ 0) (gT : m0[hT]? = some (.cells (iPV (Qd N 0)) 2)) (gi : m0[hi]? = some (.cells [.int .i64 0] 3))
  {σ : List MO} (hσ : m0.take L = σ) (hlow : σ.all (MO.low L) = true) {fv : PV} (hfv : fv = .fn 95 [.cell (bpv s) 0]) (q : Nat) :
  b5D (a0e Tab (q + 8)) valuation_Table_G { i := [op, a, b, c, d, e, f, v, s.a, s.b, s.c, s.d, s.e, s.f], b := [], v := [.ref hV 0, .ref hi 0, fv, x, .mp hM], m := m0, k := L } = some (.tup [.sl 1 (a9J (a1y kv s N N)), .int .i64 0], σ) := by
 have hs := Bd.ok_of_cnt hc
 have hlen := c8J hc
 have hNl : (Lk s 6).length = N := by omega
 have hm0 : mmT m0 hT hi 0 (a1y kv s N 0) = m0 := by
  unfold mmT
  rw [c1B, a6X gT, a6X gi]
 have hst : ({ i := [op, a, b, c, d, e, f, v, s.a, s.b, s.c, s.d, s.e, s.f], b := [], v := [.ref hV 0, .ref hi 0, fv, x, .mp hM], m := m0, k := L } : PEnv) = b3Z m0 L hT hV hM hi N kv op a b c d e f v s fv x 0 := by
  unfold b3Z
  rw [show ((0 : Nat) : Int) = 0 from rfl, hm0]
 rw [hst]
 unfold b5D
 have hv : (b3Z m0 L hT hV hM hi N kv op a b c d e f v s fv x 0).v[valuation_Table_G.n]? = some (.fn 95 [.cell (bpv s) 0]) := by rw [<- hfv]; rfl
 rw [hv]
 simp only
 have hit : valuation_Table_G.it 95 [.cell (bpv s) 0] = some ((Lk s 6).map fun x => [.agg (lpv x)]) := c6T hs
 rw [hit]
 simp only [Q0]
 have hall := c3b (Φ := a0e Tab (q + 8)) (G := valuation_Table_G) (ys := (Lk s 6).map fun x => [.agg (lpv x)]) (fun n => b3Z m0 L hT hV hM hi N kv op a b c d e f v s fv x n) (fun i y hy => by
  have hil : i < N := by
   have := (List.getElem?_eq_some_iff.1 hy).1
   rw [QB] at this; omega
  rw [List.getElem?_map, c8z hc (by omega)] at hy
  simp only [Q9, Qs] at hy
  subst hy
  exact ⟨((s.unr i).l, [], []), rfl, c1q h hk hw hN hil b3w b0F q⟩)
 rw [QB, hNl] at hall
 rw [hall]
 simp only [Q0]
 have gV := c6R h N (a1y kv s N N)
 have gT2 := c6F h N (a1y kv s N N)
 have hml := b9J h N (a1y kv s N N)
 have htk : (mmT m0 hT hi N (a1y kv s N N)).take L = σ := by
  unfold mmT
  rw [QC h.lo.2.2.2, QC h.lo.1, hσ]
 have hone : (PV.msl hT 0 N N 1).one = true := rfl
 generalize hmm : mmT m0 hT hi N (a1y kv s N N) = mm at *
 have hfz : ∀ ρ : PEnv, ρ.m = mm -> ρ.k = L -> a0k ρ false (.tup [.msl hT 0 N N 1, .int .i64 0]) = some (.tup [.sl 1 (a9J (a1y kv s N N)), .int .i64 0], σ) := by
  intro ρ e1 e2
  unfold a0k
  rw [e1, e2, if_neg (by simp [hml]), htk, if_pos hlow]
  have := c8r (k := L) (h := hT) (look := a7a ρ 3) (t := a1y kv s N N) (T := 2) h.lo.1 (c5D (by rw [e1]; exact gT2))
  rw [a3t] at this
  simp only [PV.frz, PV.frzs] at this ⊢
  rw [this]
  rfl
 show ((a4U.ev _ _).bind _) = _
 unfold b3Z
 rw [hmm]
 simp -implicitDefEqProofs only [a4U, ↓reduceIte,eq_self,ξ1,ξ2,ξ3,ξ4,ξ5,ξ6,ξ7,ξ8,ξ9,ξa,ξb,ξc,ξd,ξe,ξf,ξg,ξh,Nat.reduceAdd,ξi,if_true,if_false,ξl,ξm,ξn,ξo,ξp,ξq,ξr,ξs,ξt,ξu,ξv,ξw,ξx,ξy,ξz,ξA,ξB,ξC,ξD,ξE, gV, MO.list, hone, hfz]
end
end Go.Proofs.Ythmkfeiapdbojaa
set_option maxRecDepth 100000
namespace Go.Proofs.Ythmkfeiapdbojaa
open Go.Sx Go.Kv Go.Bun
def c8K (e : Ex) (s : Bd) : List Int := a1y (a0o s.l e) s s.cnt.toNat s.cnt.toNat
def a7q (e : Ex) (s : Bd) : PV := if chk e ≠ 0 then .tup [.nilS, .int .i64 (chk e)] else if s.check ≠ 0 then .tup [.nilS, .int .i64 s.check] else if s.cnt = 0 then .tup [.nilS, .int .i64 3] else .tup [.sl 1 (a9J (c8K e s)), .int .i64 0]
theorem c0g {α : Type} {σ l : List α} {k : Nat} {x : α} (h : l[k]? = some x) : (σ ++ l)[σ.length + k]? = some x := by rw [List.getElem?_append_right (by omega)]; simpa using h
theorem c9z {α : Type} {σ l : List α} {x : α} : (σ ++ x :: l)[σ.length]? = some x := by simp
theorem b0h {α : Type} {σ l : List α} {k : Nat} {z : α} : (σ ++ l).set (σ.length + k) z = σ ++ l.set k z := by rw [List.set_append_right _ _ (by omega)]; simp
theorem a7f {α : Type} {σ l : List α} {y z : α} : (σ ++ y :: l).set σ.length z = σ ++ z :: l := by simp
theorem c1i {σ l : List MO} (h : σ.all (MO.low σ.length) = true) (hl : l.all (MO.low (σ.length + l.length)) = true) : (σ ++ l).all (MO.low (σ ++ l).length) = true := by
 rw [List.all_append, Q6, Qm]
 exact ⟨List.all_eq_true.2 fun o ho => MO.low_mono (by omega) (List.all_eq_true.1 h o ho), hl⟩
theorem a3N (a b : PV) : a1H [a] 0 [b] = [b] := rfl
set_option maxHeartbeats 2000000 in
theorem c6d {e : Ex} {row : List PV} (hrow : IsE e row) (he : e.size <= 400) (s : Bd) {σ : List MO} (hlow : σ.all (MO.low σ.length) = true) :
  (∀ args w, (callFunc 24 args).run Try.prog w = .ok (.enter 24 args) w) /\ ∀ s' m vs, a0r s' (inf σ m) σ m -> Coh σ m -> Reps s' (inf σ m) [.agg row, .agg (bpv s)] vs -> Ct Try.prog 24 vs s' m (QF σ m (a7q e s) σ) := by
 suffices hw : ∃ x, a0i a5s.ps [.agg row, .agg (bpv s)] = some x /\ a5s.start.wp (a0e Tab 500) { i := x.1, b := x.2.1, v := x.2.2, m := σ, k := σ.length } (RgR (a0e Tab 500) valuation_Table_G (a7q e s) σ) from
  b1P.dm (a0e Tab 500) (evalF_good b9M 500) _ _ _ _ hw
 have hc := b8E σ hlow e row hrow 500 (by omega) (by omega)
 have hb := b8K s σ 499
 have hcn := a9D s σ 498
 have hof := fun h1 h2 σ' h3 => c4h (T := Tab) (N := 401) a8A 499 hrow (by omega) he h1 (lim := s.l) h2 (σ := σ') h3
 obtain ⟨op, a, b, c, d, e', f, v, l⟩ := e
 have hrow' := hrow
 simp only [IsE] at hrow'
 obtain ⟨x, rows, rfl, hx, hr⟩ := hrow'
 obtain ⟨x1, x2, x3⟩ := a0y hx
 generalize hE : Ex.node op a b c d e' f v l = E at *
 refine ⟨([op, a, b, c, d, e', f, v, s.a, s.b, s.c, s.d, s.e, s.f], [], [x]), ?_, ?_⟩
 ·show a0i [.sh (.agg [_, _, _, _, _, _, _, _, _]), .sh (.agg [_, _, _, _, _, _])] _ = _
  simp only [bpv, a0i, a0d, a0c, Q9, Q0, Q3, Q1, Q2, if_true, x3]
 show PT.wp _ a7N _ _
 have hret : ∀ (ρ : PEnv) (z : Int), ρ.m = σ -> ρ.k = σ.length -> a0k ρ false (.tup [.nilS, .int .i64 z]) = some (.tup [.nilS, .int .i64 z], σ) := by
  intro ρ z e1 e2
  unfold a0k; rw [if_pos (.inr (by rw [e1, e2])), e1]
 refine a1g rfl hc rfl ?_
 simp only [PEnv.push, Q2, Q1, Q3]
 by_cases hce : chk E = 0
 case neg =>
  refine a2a rfl (by show (!eqB (chk E) 0) = true; rw [eqF hce]; rfl) ?_
  refine ⟨_, rfl, _, hret _ _ rfl rfl, ?_, rfl⟩
  unfold a7q; rw [if_pos hce]; rfl
 refine a1R rfl (by show (!eqB (chk E) 0) = false; rw [hce]; rfl) ?_
 refine a1g rfl hb rfl ?_
 simp only [PEnv.push, Q2, Q1, Q3]
 by_cases hbe : s.check = 0
 case neg =>
  refine a2a rfl (by show (!eqB s.check 0) = true; rw [eqF hbe]; rfl) ?_
  refine ⟨_, rfl, _, hret _ _ rfl rfl, ?_, rfl⟩
  unfold a7q; rw [if_neg (by simp [hce]), if_pos hbe]; rfl
 refine a1R rfl (by show (!eqB s.check 0) = false; rw [hbe]; rfl) ?_
 refine a1g rfl hcn rfl ?_
 simp only [PEnv.push, Q2, Q1, Q3]
 by_cases hcz : s.cnt = 0
 ·refine a2a rfl (by show eqB s.cnt 0 = true; rw [hcz]; rfl) ?_
  refine ⟨_, rfl, _, hret _ _ rfl rfl, ?_, rfl⟩
  unfold a7q; rw [if_neg (by simp [hce]), if_neg (by simp [hbe]), if_pos hcz]; rfl
 refine a1R rfl (eqF hcz) ?_
 have hs := Bd.ok_of_cnt hcz
 have hcl := b1t hcz
 have hlim : a3M s.l = true := by
  simp only [Bd.Ok] at hs
  simp only [a3M, Bd.l, Q4, Q5, Qe, Qf, Qn, Qm, decide_eq_true_eq, true_and]
  omega
 have gk := a2i s.l E (b0G hce)
 have hv : a7q E s = .tup [.sl 1 (a9J (a1y (a0o s.l E) s s.cnt.toNat s.cnt.toNat)), .int .i64 0] := by
  unfold a7q c8K; rw [if_neg (by simp [hce]), if_neg (by simp [hbe]), if_neg hcz]
 have hof := hof (b0G hce) hlim
 rw [hv]
 generalize hkx : a0o s.l E = kx at *
 have hwd : a3r 6 kx = true := a2G (a4d gk rfl)
 obtain ⟨N, hN⟩ : ∃ N : Nat, s.cnt = (N : Int) := ⟨s.cnt.toNat, by omega⟩
 have hNN : s.cnt.toNat = N := by omega
 rw [hNN]
 have hN1 : N <= 1000000 := by omega
 have hZl : ∀ k, MO.low k (.cells (Qd N [.int .i64 0]).flatten 2) = true := fun k => by rw [b4G]; exact c0V k _
 have hCl : ∀ k, MO.low k (.cells [.nilS] 37) = true := fun k => rfl
 have of0 := hof σ hlow
 have ofZ := hof (σ ++ [.cells (Qd N [.int .i64 0]).flatten 2]) (c1i hlow (by simp only [Qe, Qf, hZl, Qq]))
 have ofC := hof (σ ++ [.cells [.nilS] 37]) (c1i hlow (by simp only [Qe, Qf, hCl, Qq]))
 have ofZC := hof (σ ++ [.cells (Qd N [.int .i64 0]).flatten 2, .cells [.nilS] 37]) (c1i hlow (by simp only [Qe, Qf, hZl, hCl, Qq]))
 have ofCZ := hof (σ ++ [.cells [.nilS] 37, .cells (Qd N [.int .i64 0]).flatten 2]) (c1i hlow (by simp only [Qe, Qf, hZl, hCl, Qq]))
 have hall : ∀ l : List MO, l.all (MO.low (σ.length + l.length)) = true -> a0e Tab 500 53 [.agg (bpv s)] (σ ++ l) = some (.fn 95 [.cell (bpv s) 0], σ ++ l) := fun l hl => c9e s hcz (σ ++ l) (c1i hlow hl) 497
 simp only [Q6, Q4, Q5, Q8, Nat.reduceAdd, Q7, Q2, Q1] at of0 ofZ ofC ofZC ofCZ
 have hmp : ∀ k h, MO.low k (.cells [.msl h 0 N N 1] 37) = decide (h < k) := fun k h => by simp only [MO.low, PV.lows, PV.low, Qn]
 have fin : ∀ (l : List MO) (i1 i2 i3 : Nat), l.length = 4 -> l.all (MO.low (σ.length + 4)) = true -> i1 < 3 -> i2 < 3 -> i3 < 3 -> i1 ≠ i2 -> i1 ≠ i3 -> i2 ≠ i3 ->
   l[i1]? = some (.cells (Qd N [.int .i64 0]).flatten 2) -> l[i2]? = some (.cells [.msl (σ.length + i1) 0 N N 1] 37) -> l[i3]? = some (.mq kx 0) -> l[3]? = some (.cells [.int .i64 0] 3) ->
   b5D (a0e Tab 500) valuation_Table_G { i := [op, a, b, c, d, e', f, v, s.a, s.b, s.c, s.d, s.e, s.f], b := [], v := [.ref (σ.length + i2) 0, .ref (σ.length + 3) 0, .fn 95 [.cell (bpv s) 0], x, .mp (σ.length + i3)], m := σ ++ l, k := σ.length } = some (.tup [.sl 1 (a9J (a1y kx s N N)), .int .i64 0], σ) := by
  intro l i1 i2 i3 h4 hl h1 h2 h3 n1 n2 n3 g1 g2 g3 g4
  rw [b4G] at g1
  exact c5h (hT := σ.length + i1) (hi := σ.length + 3) ⟨by simp [h4], by omega, by omega, by omega, c0g g2, c0g g3⟩ gk hwd hN.symm hcz (c0g g1) (c0g g4) (by simp) hlow rfl 492
 have hQ : ∀ k w ver, MO.low k (.mq w ver) = true := fun _ _ _ => rfl
 have hI : ∀ k, MO.low k (.cells [.int .i64 0] 3) = true := fun _ => rfl
 clear hc hb hcn hrow hof
 generalize a0e Tab 500 = Φ at *
 generalize hZ : MO.cells (Qd N [PV.int .i64 0]).flatten 2 = Z at *
 repeat' (first
  | refine b4H ?_ ?_
  | (refine a1g rfl of0 rfl ?_; simp only [PEnv.push, Q2, Q1, Q3, Q7, Q6, Q4, Q5, Q8, Nat.reduceAdd, b0h, a7f, Qa, Qb, a3N, IE.pe, hZ])
  | (refine a1g rfl ofZ rfl ?_; simp only [PEnv.push, Q2, Q1, Q3, Q7, Q6, Q4, Q5, Q8, Nat.reduceAdd, b0h, a7f, Qa, Qb, a3N, IE.pe, hZ])
  | (refine a1g rfl ofC rfl ?_; simp only [PEnv.push, Q2, Q1, Q3, Q7, Q6, Q4, Q5, Q8, Nat.reduceAdd, b0h, a7f, Qa, Qb, a3N, IE.pe, hZ])
  | (refine a1g rfl ofZC rfl ?_; simp only [PEnv.push, Q2, Q1, Q3, Q7, Q6, Q4, Q5, Q8, Nat.reduceAdd, b0h, a7f, Qa, Qb, a3N, IE.pe, hZ])
  | (refine a1g rfl ofCZ rfl ?_; simp only [PEnv.push, Q2, Q1, Q3, Q7, Q6, Q4, Q5, Q8, Nat.reduceAdd, b0h, a7f, Qa, Qb, a3N, IE.pe, hZ])
  | (refine c8I (N := N) (z := [.int .i64 0]) rfl hN hN1 (by decide) ?_; simp only [PEnv.push, Q2, Q1, Q3, Q7, Q6, Q4, Q5, Q8, Nat.reduceAdd, b0h, a7f, Qa, Qb, a3N, IE.pe, hZ])
  | (refine c7C rfl ?_; simp only [PEnv.push, Q2, Q1, Q3, Q7, Q6, Q4, Q5, Q8, Nat.reduceAdd, b0h, a7f, Qa, Qb, a3N, IE.pe, hZ])
  | (refine b8U rfl (c0g rfl) rfl (Nat.le_refl _) ?_; simp only [PEnv.push, Q2, Q1, Q3, Q7, Q6, Q4, Q5, Q8, Nat.reduceAdd, b0h, a7f, Qa, Qb, a3N, IE.pe, hZ])
  | (refine b8U rfl c9z rfl (Nat.le_refl _) ?_; simp only [PEnv.push, Q2, Q1, Q3, Q7, Q6, Q4, Q5, Q8, Nat.reduceAdd, b0h, a7f, Qa, Qb, a3N, IE.pe, hZ])
  | (refine a1g rfl (hall _ (by simp [hZl, hCl, hmp, hQ, hI])) rfl ?_; simp only [PEnv.push, Q2, Q1, Q3, Q7, Q6, Q4, Q5, Q8, Nat.reduceAdd, b0h, a7f, Qa, Qb, a3N, IE.pe, hZ])
  | refine a5d rfl rfl ?_
  | exact fin _ 0 1 2 rfl (by simp [hZl, hCl, hmp, hQ, hI]) (by decide) (by decide) (by decide) (by decide) (by decide) (by decide) rfl rfl rfl rfl
  | exact fin _ 0 2 1 rfl (by simp [hZl, hCl, hmp, hQ, hI]) (by decide) (by decide) (by decide) (by decide) (by decide) (by decide) rfl rfl rfl rfl
  | exact fin _ 1 0 2 rfl (by simp [hZl, hCl, hmp, hQ, hI]) (by decide) (by decide) (by decide) (by decide) (by decide) (by decide) rfl rfl rfl rfl
  | exact fin _ 1 2 0 rfl (by simp [hZl, hCl, hmp, hQ, hI]) (by decide) (by decide) (by decide) (by decide) (by decide) (by decide) rfl rfl rfl rfl
  | exact fin _ 2 0 1 rfl (by simp [hZl, hCl, hmp, hQ, hI]) (by decide) (by decide) (by decide) (by decide) (by decide) (by decide) rfl rfl rfl rfl
  | exact fin _ 2 1 0 rfl (by simp [hZl, hCl, hmp, hQ, hI]) (by decide) (by decide) (by decide) (by decide) (by decide) (by decide) rfl rfl rfl rfl)
end Go.Proofs.Ythmkfeiapdbojaa
set_option maxRecDepth 100000
namespace Go.Proofs.Ythmkfeiapdbojaa
open Go.Sx Go.Kv Go.Bun
def c1c : List PV -> List MO -> Option (PV × List MO)
 | [.agg row, .agg l], σ => (a6M 400 row).bind fun e => (bOf l).bind fun s => if e.size <= 400 /\ σ.all (MO.low σ.length) = true then some (a7q e s, σ) else none
 | _, _ => none
def c4U : Sx.Sys := ⟨[], .stuck, [], some c1c, none⟩
theorem c4z : SysOk Try.prog 24 c4U where
 ct Φ hΦ n aa σ r σ' h := by
  change c1c aa σ = some (r, σ') at h
  unfold c1c at h
  split at h
  case h_2 => cases h
  simp only [Qv] at h
  obtain ⟨e, he, s, hs, h⟩ := h
  split at h
  case isFalse => cases h
  rename_i hc
  obtain ⟨c2, c3⟩ := hc
  simp only [Qs, Qw] at h
  obtain ⟨rfl, rfl⟩ := h
  rw [c4w hs]
  exact c6d (b4v 400 _ _ he) c2 s c3
def a3m (f : Nat) : Option Sx.Sys := if f = 24 then some c4U else c3U f
theorem c8q : ∀ f S, a3m f = some S -> SysOk Try.prog f S := by
 intro f S h
 unfold a3m at h
 split at h
 ·rename_i hf; subst hf; cases h; exact c4z
 ·exact c7p f S h
theorem b4M : ∀ f S, Tab f = some S -> a3m f = some S := by
 intro f S h
 unfold a3m
 rw [if_neg (by rintro rfl; exact absurd (h.symm.trans (show Tab 24 = none by kernel_rfl)) (by simp))]
 unfold c3U
 rw [if_neg (by rintro rfl; exact absurd (h.symm.trans (show Tab 18 = none by kernel_rfl)) (by simp))]
 exact h
theorem evH {n : Nat} {f : Nat} {a : List PV} {m : List MO} {r : PV × List MO} (h : a0e Tab n f a m = some r) : a0e a3m n f a m = some r := b6I b4M n f a m r h
end Go.Proofs.Ythmkfeiapdbojaa
set_option maxRecDepth 1000000
namespace Go.Proofs.Ythmkfeiapdbojaa
open Go.Sx Go.Kv
theorem c7M : a0e a3m 2000 a6e [] [] = some (.bool true, []) := by kernel_rfl
end Go.Proofs.Ythmkfeiapdbojaa
