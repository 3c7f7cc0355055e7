/- Values of bundles: raising one, and merging two maps, as plain values. -/
import Derived.Test.YthmkfeiapdbojaaHTxd
import Derived.Test.YthmkfeiapdbojaaHGx
import Derived.Test.YthmkfeiapdbojaaHIt
import Derived.Test.YthmkfeiapdbojaaHSaa
import Derived.Test.YthmkfeiapdbojaaHSab
import Derived.Test.YthmkfeiapdbojaaHSac
import Derived.Test.YthmkfeiapdbojaaHTab
import Derived.Test.YthmkfeiapdbojaaHTxe
set_option linter.unusedSimpArgs false
set_option linter.unusedVariables false
open Go.Sx.PT renaming ev → ξ1
open Go.Sx.BE renaming safe → ξ2, pe → ξ3, all → ξz
open Go.Sx.IE renaming pe → ξ4
open Go.Sx renaming PEnv.at → ξ5
open Go.Sx.PEnv renaming push → ξt
open List renaming getD_cons_zero → ξ6, getD_cons_succ → ξ7, getElem?_cons_zero → ξ8, getElem?_cons_succ → ξ9, drop_zero → ξf, length_cons → ξg, length_nil → ξh, take_succ_cons → ξm, take_zero → ξn, cons_append → ξu, nil_append → ξv, append_nil → ξw, map_cons → ξD, map_nil → ξE
open Go.Sx renaming a0g → ξa, a0h → ξb, a0b → ξc, a0f → ξd, a0c → ξo, a0a → ξp, a0d → ξq, a0T → ξF, a0W → ξG, a0N → ξH, a0K → ξI, a0X → ξJ, a0V → ξK, a0P → ξL, a0Y → ξM, a0J → ξN, a0O → ξO, a0j → ξP, a0Q → ξQ, a0U → ξR, a0s → ξS, a0M → ξT, a0B → ξU, a0t → ξV, a0u → ξW, a0v → ξX, a0L → ξY
open Nat renaming add_zero → ξe, le_refl → ξi
open Bool renaming false_eq_true → ξl, and_self → ξA, not_true → ξB, not_false → ξC
open Option renaming map_some → ξr, bind_some → ξs
open Go.Sx.SV renaming pvs → ξx, pv → ξy
open List renaming cons_append → Q0, nil_append → Q1, append_nil → Q2, map_cons → Q3, map_nil → Q6, getElem?_cons_zero → Q7, length_cons → Q8, getElem?_cons_succ → Q9, mem_map → Qa, length_nil → Qe, append_assoc → Qf, getElem?_append_right → Qg, all_cons → Qh, getElem?_eq_some_iff → Qj, set_append_right → Qk, zipWith_cons_cons → Qp, mem_cons → Qr, length_set → Qs, length_append → Qt, zipWith_nil_left → Qu, getElem?_append_left → Qv, getLast?_append → Qw, getLast?_singleton → Qy, map_append → QC, drop_eq_getElem?_toList_append → QD, getElem?_eq_getElem → QE, mem_of_getElem? → QH, nodup_cons → QJ, any_eq_true → QK, flatMap_append → QM, flatMap_cons → QN, flatMap_nil → QP, mapM_cons → QQ, drop_eq_nil_iff → QV, getElem?_eq_none → QW, getElem?_eq_none_iff → QY, drop_zero → QZ
open Option renaming bind_some → Q4, map_some → Qd, bind_eq_some_iff → Qm, some_or → Qz, map_eq_some_iff → QL, bind_eq_bind → QS, pure_def → QU, map_none → QX
open Bool renaming and_eq_true → Q5, and_self → Qq, not_eq_true' → QA
open Option.some renaming injEq → Qb
open Nat renaming le_refl → Qn
open Prod.mk renaming injEq → QB
set_option maxRecDepth 100000
namespace Go.Proofs.Ythmkfeiapdbojaa
open Go.Sx Go.Kv
theorem a1V {l : List Int} (h : l.length = 6) : ∃ a b c d e f, l = [a, b, c, d, e, f] := by
 match l, h with
 | [a, b, c, d, e, f], _ => exact ⟨a, b, c, d, e, f, rfl⟩
def tabW (f : Nat) : Option Sx.Sys :=
 if f = 75 then some valuation_worths_raise_S else if f = 62 then some bundle_Within_S else if f = 89 then some bundle_Meet_S
 else if f = 92 then some bundle_Add_S else if f = 78 then some bundle_Join_S else none
theorem c2m : ∀ f S, tabW f = some S -> SysOk Try.prog f S := by
 intro f S h
 unfold tabW at h
 repeat' split at h
 all_goals first | (rename_i hf; subst hf; cases h; first | exact a4I | exact a8V | exact b1u | exact b3d | exact b0Z) | cases h
def Ext (T : Nat -> Option Sx.Sys) : Prop := ∀ f S, tabW f = some S -> T f = some S
theorem Ext.self : Ext tabW := fun _ _ h => h
theorem c7F {T : Nat -> Option Sx.Sys} (hT : Ext T) (n : Nat) (σ : List MO) (a b c d e f a' b' c' d' e' f' : Int) : a0e T (n + 1) 89 [.agg (lpv [a, b, c, d, e, f]), .agg (lpv [a', b', c', d', e', f'])] σ =
  some (.agg (lpv [mnI a a', mnI b b', mnI c c', mnI d d', mnI e e', mnI f f']), σ) := by
 rw [a0e, hT 89 _ rfl]
 simp only [Q4, Sys.run, lpv, Q3, Q6]
 show ((a0i [.sh (.agg [_, _, _, _, _, _]), .sh (.agg [_, _, _, _, _, _])] _).bind _) = _
 simp only [a0i, a0d, a0c, Qd, Q4, Q2, Q1, Q0, if_true]
 show (PT.ev _ a7J _).bind _ = _
 simp -implicitDefEqProofs only [a7J, ↓reduceIte,eq_self,ξ1,ξ2,ξ3,ξ4,ξ5,ξ6,ξ7,ξ8,ξ9,ξa,ξb,ξc,ξd,ξe,ξf,ξg,ξh,Nat.reduceAdd,ξi,if_true,if_false,ξl,ξm,ξn,ξo,ξp,ξq,ξr,ξs,ξt,ξu,ξv,ξw,ξx,ξy,ξz,ξA,ξB,ξC,ξD,ξE, a0k, or_true]
theorem c1D {a b : Int} : (mnI a b = a) ↔ a <= b := by unfold mnI; split <;> omega
theorem c4u {T : Nat -> Option Sx.Sys} (hT : Ext T) (n : Nat) (σ : List MO) {a b : List Int} (ha : a.length = 6) (hb : b.length = 6) : a0e T (n + 2) 62 [.agg (lpv a), .agg (lpv b)] σ = some (.bool (leL a b), σ) := by
 obtain ⟨a0, a1, a2, a3, a4, a5, rfl⟩ := a1V ha
 obtain ⟨b0, b1, b2, b3, b4, b5, rfl⟩ := a1V hb
 have hm := c7F hT n σ a0 a1 a2 a3 a4 a5 b0 b1 b2 b3 b4 b5
 rw [a0e, hT 62 _ rfl]
 simp only [Q4, Sys.run, lpv, Q3, Q6] at hm ⊢
 show ((a0i [.sh (.agg [_, _, _, _, _, _]), .sh (.agg [_, _, _, _, _, _])] _).bind _) = _
 simp only [a0i, a0d, a0c, Qd, Q4, Q2, Q1, Q0, if_true]
 show (PT.ev _ a6D _).bind _ = _
 simp -implicitDefEqProofs only [a6D, ↓reduceIte,eq_self,ξ1,ξ2,ξ3,ξ4,ξ5,ξ6,ξ7,ξ8,ξ9,ξa,ξb,ξc,ξd,ξe,ξf,ξg,ξh,Nat.reduceAdd,ξi,if_true,if_false,ξl,ξm,ξn,ξo,ξp,ξq,ξr,ξs,ξt,ξu,ξv,ξw,ξx,ξy,ξz,ξA,ξB,ξC,ξD,ξE, hm, a0k, or_true, leL, Bool.and_true]
 refine congrArg some (Prod.ext (congrArg PV.bool ?_) rfl)
 rw [Bool.eq_iff_iff]
 simp only [Q5, a2e, decide_eq_true_eq, c1D]
def Sm (l : List Int) : Prop := l.length = 6 /\ ∀ x ∈ l, 0 <= x /\ x <= 1000
theorem c9f {T : Nat -> Option Sx.Sys} (hT : Ext T) (n : Nat) (σ : List MO) {a b : List Int} (ha : Sm a) (hb : Sm b) : a0e T (n + 1) 92 [.agg (lpv a), .agg (lpv b)] σ = some (.agg (lpv (a2y a b)), σ) := by
 obtain ⟨ha, ha'⟩ := ha
 obtain ⟨hb, hb'⟩ := hb
 obtain ⟨a0, a1, a2, a3, a4, a5, rfl⟩ := a1V ha
 obtain ⟨b0, b1, b2, b3, b4, b5, rfl⟩ := a1V hb
 simp only [Qr, List.not_mem_nil, or_false, forall_eq_or_imp, forall_eq] at ha' hb'
 rw [a0e, hT 92 _ rfl]
 simp only [Q4, Sys.run, lpv, Q3, Q6]
 show ((a0i [.sh (.agg [_, _, _, _, _, _]), .sh (.agg [_, _, _, _, _, _])] _).bind _) = _
 simp only [a0i, a0d, a0c, Qd, Q4, Q2, Q1, Q0, if_true]
 show (PT.ev _ a8B _).bind _ = _
 have r : ∀ x : Int, -9223372036854775808 <= x -> x <= 9223372036854775807 -> (leB (-9223372036854775808) x && leB x 9223372036854775807) = true := fun x h1 h2 => by simp [leB, h1, h2]
 have r0 := r (a0 + b0) (by omega) (by omega)
 have r1 := r (a1 + b1) (by omega) (by omega)
 have r2 := r (a2 + b2) (by omega) (by omega)
 have r3 := r (a3 + b3) (by omega) (by omega)
 have r4 := r (a4 + b4) (by omega) (by omega)
 have r5 := r (a5 + b5) (by omega) (by omega)
 simp -implicitDefEqProofs only [a8B, ↓reduceIte,eq_self,ξ1,ξ2,ξ3,ξ4,ξ5,ξ6,ξ7,ξ8,ξ9,ξa,ξb,ξc,ξd,ξe,ξf,ξg,ξh,Nat.reduceAdd,ξi,if_true,if_false,ξl,ξm,ξn,ξo,ξp,ξq,ξr,ξs,ξt,ξu,ξv,ξw,ξx,ξy,ξz,ξA,ξB,ξC,ξD,ξE, a0k, or_true, r0, r1, r2, r3, r4, r5, a2y, Qp, Qu, Q3, Q6]
theorem c7B {T : Nat -> Option Sx.Sys} (hT : Ext T) (n : Nat) (σ : List MO) {a b : List Int} (ha : a.length = 6) (hb : b.length = 6) : a0e T (n + 1) 78 [.agg (lpv a), .agg (lpv b)] σ = some (.agg (lpv (a2b a b)), σ) := by
 obtain ⟨a0, a1, a2, a3, a4, a5, rfl⟩ := a1V ha
 obtain ⟨b0, b1, b2, b3, b4, b5, rfl⟩ := a1V hb
 rw [a0e, hT 78 _ rfl]
 simp only [Q4, Sys.run, lpv, Q3, Q6]
 show ((a0i [.sh (.agg [_, _, _, _, _, _]), .sh (.agg [_, _, _, _, _, _])] _).bind _) = _
 simp only [a0i, a0d, a0c, Qd, Q4, Q2, Q1, Q0, if_true]
 show (PT.ev _ a7C _).bind _ = _
 simp -implicitDefEqProofs only [a7C, ↓reduceIte,eq_self,ξ1,ξ2,ξ3,ξ4,ξ5,ξ6,ξ7,ξ8,ξ9,ξa,ξb,ξc,ξd,ξe,ξf,ξg,ξh,Nat.reduceAdd,ξi,if_true,if_false,ξl,ξm,ξn,ξo,ξp,ξq,ξr,ξs,ξt,ξu,ξv,ξw,ξx,ξy,ξz,ξA,ξB,ξC,ξD,ξE, a0k, or_true, a2b, Qp, Qu, Q3, Q6, mxI]
theorem a2G {kv : KV} (h : ∀ p ∈ kv, p.1.length = 6) : a3r 6 kv = true := by
 unfold a3r
 exact List.all_eq_true.2 fun p hp => by simpa using h p hp
theorem a6K {T : Nat -> Option Sx.Sys} (hT : Ext T) (n : Nat) (σ : List MO) {h : Nat} {kv : KV} {ver : Nat} (h0 : σ[h]? = some (.mq kv ver)) (hw : a3r 6 kv = true) {lim b : List Int} (hl : lim.length = 6) (hb : b.length = 6) (v : Int) :
  ∃ ver', a0e T (n + 3) 75 [.mp h, .agg (lpv lim), .agg (lpv b), .int .i64 v] σ = some (.tup [], σ.set h (.mq (a2q lim kv b v) ver')) := by
 have hwi := c4u hT n σ hb hl
 obtain ⟨a0, a1, a2, a3, a4, a5, rfl⟩ := a1V hl
 obtain ⟨b0, b1, b2, b3, b4, b5, rfl⟩ := a1V hb
 refine ⟨if gv kv [b0, b1, b2, b3, b4, b5] < mnM v /\ leL [b0, b1, b2, b3, b4, b5] [a0, a1, a2, a3, a4, a5] = true then ver + 1 else ver, ?_⟩
 rw [a0e, hT 75 _ rfl]
 simp only [Q4, Sys.run, lpv, Q3, Q6] at hwi ⊢
 show ((a0i [.sh (.one .val), .sh (.agg [_, _, _, _, _, _]), .sh (.agg [_, _, _, _, _, _]), .sh (.one (.int .i64))] _).bind _) = _
 simp only [a0i, a0d, a0c, Qd, Q4, Q2, Q1, Q0, if_true]
 show (PT.ev _ a3j _).bind _ = _
 have e1 : mnI v 1000000 = mnM v := by unfold mnI mnM; split <;> split <;> omega
 have e2 : ∀ k, (a0q kv k).getD 0 = gv kv k := fun _ => rfl
 have hs : σ.set h (.mq kv ver) = σ := a6X h0
 simp -implicitDefEqProofs only [a3j, ↓reduceIte,eq_self,ξ1,ξ2,ξ3,ξ4,ξ5,ξ6,ξ7,ξ8,ξ9,ξa,ξb,ξc,ξd,ξe,ξf,ξg,ξh,Nat.reduceAdd,ξi,if_true,if_false,ξl,ξm,ξn,ξo,ξp,ξq,ξr,ξs,ξt,ξu,ξv,ξw,ξx,ξy,ξz,ξA,ξB,ξC,ξD,ξE, h0, hw, hwi, e1, e2, Q3, Q6, Q8, Qe, a0k, or_true, a1k, a2q]
 by_cases c1 : gv kv [b0, b1, b2, b3, b4, b5] < mnM v
 ·cases c2 : leL [b0, b1, b2, b3, b4, b5] [a0, a1, a2, a3, a4, a5] with
  | true => simp -implicitDefEqProofs only [c1, c2, and_self, ↓reduceIte,eq_self,ξ1,ξ2,ξ3,ξ4,ξ5,ξ6,ξ7,ξ8,ξ9,ξa,ξb,ξc,ξd,ξe,ξf,ξg,ξh,Nat.reduceAdd,ξi,if_true,if_false,ξl,ξm,ξn,ξo,ξp,ξq,ξr,ξs,ξt,ξu,ξv,ξw,ξx,ξy,ξz,ξA,ξB,ξC,ξD,ξE, h0, hw, e1, Q3, Q6, Q8, Qe, a0k, or_true, Qs]
  | false => simp -implicitDefEqProofs only [c1, c2, Bool.false_eq_true, and_false, ↓reduceIte,eq_self,ξ1,ξ2,ξ3,ξ4,ξ5,ξ6,ξ7,ξ8,ξ9,ξa,ξb,ξc,ξd,ξe,ξf,ξg,ξh,Nat.reduceAdd,ξi,if_true,if_false,ξl,ξm,ξn,ξo,ξp,ξq,ξr,ξs,ξt,ξu,ξv,ξw,ξx,ξy,ξz,ξA,ξB,ξC,ξD,ξE, hs, a0k, or_true]
 ·simp -implicitDefEqProofs only [c1, false_and, ↓reduceIte,eq_self,ξ1,ξ2,ξ3,ξ4,ξ5,ξ6,ξ7,ξ8,ξ9,ξa,ξb,ξc,ξd,ξe,ξf,ξg,ξh,Nat.reduceAdd,ξi,if_true,if_false,ξl,ξm,ξn,ξo,ξp,ξq,ξr,ξs,ξt,ξu,ξv,ξw,ξx,ξy,ξz,ξA,ξB,ξC,ξD,ξE, hs, a0k, or_true]
end Go.Proofs.Ythmkfeiapdbojaa
set_option maxRecDepth 100000
namespace Go.Proofs.Ythmkfeiapdbojaa
open Go.Sx Go.Kv
theorem c4F (n f : Nat) : CtP Try.prog f (a0e tabW n f) := evalF_good c2m n f
theorem a4p {lim : List Int} (hl : lim.length = 6) : ∀ {L kv : KV}, (∀ p ∈ kv, p.1.length = 6) -> (∀ p ∈ L, p.1.length = 6) -> ∀ p ∈ raises lim kv L, p.1.length = 6
 | [], _, h, _ => h
 | q :: L, kv, h, hL => by
  rw [a7c]
  refine a4p hl (fun p hp => ?_) (fun p hp => hL p (by simp [hp]))
  unfold a2q at hp
  split at hp
  ·rcases b6g.1 hp with rfl | ⟨hp, _⟩
   ·exact hL q (by simp)
   ·exact h p hp
  ·exact h p hp
theorem c2s {σ : List MO} {k h : Nat} {o : MO} (hl : σ.all (MO.low k) = true) (ho : o.low k = true) : (σ.set h o).all (MO.low k) = true := by
 rw [List.all_eq_true] at *
 intro x hx
 rcases List.mem_or_eq_of_mem_set hx with hx | rfl
 ·exact hl x hx
 ·exact ho
theorem c6n {σ : List MO} {h hx : Nat} {kv kx : KV} {v vx : Nat} {lim : List Int} (h0 : σ[h]? = some (.mq kv v)) (h1 : σ[hx]? = some (.mq kx vx)) (hne : h ≠ hx) (hl : lim.length = 6)
  (hkv : ∀ p ∈ kv, p.1.length = 6) (hkx : ∀ p ∈ kx, p.1.length = 6) (hn : Nd kx) (hlow : σ.all (MO.low σ.length) = true) :
  CtD Try.prog 76 [.mp h, .agg (lpv lim), .mp hx] σ (fun r σ' => r = .tup [] /\ ∃ es v1, es.Perm kx /\ σ' = σ.set h (.mq (raises lim kv es) v1)) := by
 have hh := (Qj.1 h0).1
 have hhx := (Qj.1 h1).1
 refine a8d.dm (a0e tabW 5) (c4F 5) (kx.length + 2) _ _ _ ?_
 have loop : ∀ (n : Nat) (seen : List (List Int)) (es : KV) (v1 : Nat), Went kx seen es -> kx.length < seen.length + n ->
   valuation_worths_merge_S.loopD (a0e tabW 5) n 0 { i := lim, b := [], v := [.mp h, .ref σ.length 0], m := σ.set h (.mq (raises lim kv es) v1) ++ [MO.it hx vx seen], k := σ.length }
    (fun r σ' => r = .tup [] /\ ∃ es v1, es.Perm kx /\ σ' = σ.set h (.mq (raises lim kv es) v1)) := by
  intro n
  induction n with
  | zero => intro seen es v1 hw hlt; have := hw.len hn; omega
  | succ n ih =>
   intro seen es v1 hw hlt
   have hes : ∀ p ∈ es, p.1.length = 6 := fun p hp => hkx p (hw.sub p hp)
   refine ⟨_, rfl, ?_⟩
   have g1 : (σ.set h (.mq (raises lim kv es) v1) ++ [MO.it hx vx seen])[σ.length]? = some (.it hx vx seen) := by
    rw [Qg (by simp)]; simp
   have g2 : ∀ sn, (σ.set h (.mq (raises lim kv es) v1) ++ [MO.it hx vx sn])[hx]? = some (.mq kx vx) := fun sn => by
    rw [Qv (by simpa using hhx), List.getElem?_set_ne hne]; exact h1
   have g3 : ∀ sn, (σ.set h (.mq (raises lim kv es) v1) ++ [MO.it hx vx sn])[h]? = some (.mq (raises lim kv es) v1) := fun sn => by
    rw [Qv (by simpa using hh), List.getElem?_set_self hh]
   have g4 : ∀ sn, (σ.set h (.mq (raises lim kv es) v1) ++ [MO.it hx vx seen]).set σ.length (MO.it hx vx sn) = σ.set h (.mq (raises lim kv es) v1) ++ [MO.it hx vx sn] := fun sn => by
    rw [Qk _ _ (by simp)]; simp
   have g5 : ∀ sn, (σ.set h (.mq (raises lim kv es) v1) ++ [MO.it hx vx sn])[σ.length]? = some (.it hx vx sn) := fun sn => by
    rw [Qg (by simp)]; simp
   show PT.wp _ a2Q _ _
   unfold a2Q
   simp only [PT.wp, Q9, Q7, g1, g2, a2G hkx, and_self, if_true]
   split
   ·
    rename_i hleft
    refine ⟨.tup [], rfl, (.tup [], σ.set h (.mq (raises lim kv es) v1)), ?_, rfl, es, v1, hw.over hn hleft, rfl⟩
    unfold a0k
    rw [if_neg (by simp), if_pos (by simp only [List.take_append_of_le_length (Nat.le_of_eq (Qs).symm), List.take_of_length_le (Nat.le_of_eq Qs)]; exact c2s hlow rfl)]
    simp [PV.frz, PV.frzs]
   ·rename_i hleft
    intro p hp
    obtain ⟨p1, p2⟩ := a4i.1 hp
    have hw' := hw.next hp
    have hk6 := hkx p p1
    obtain ⟨v2, hr⟩ := a6K .self 2 (σ.set h (.mq (raises lim kv es) v1) ++ [MO.it hx vx (seen ++ [p.1])]) (g3 _) (a2G (a4p hl hkv hes)) hl hk6 p.2
    obtain ⟨pk, pv⟩ := p
    simp only at hk6 hr hw' p1 p2
    have hlook := (Kv.lookQ_some hn).2 p1
    obtain ⟨l0, l1, l2, l3, l4, l5, rfl⟩ := a1V hl
    obtain ⟨b0, b1, b2, b3, b4, b5, rfl⟩ := a1V hk6
    simp only [lpv, Q3, Q6] at hr
    simp only [PEnv.push, Q0, Q1, Q9, Q7, g4, g5, g2, Qw, Qy, Qz, hlook, if_true, Q8, Qe]
    refine ⟨pv, rfl, _, rfl, _, hr, _, rfl, _, rfl, _, rfl, ?_⟩
    have := ih (seen ++ [[b0, b1, b2, b3, b4, b5]]) (es ++ [([b0, b1, b2, b3, b4, b5], pv)]) v2 hw' (by simp; omega)
    rw [a7i] at this
    rw [List.set_append_left _ _ (by simpa using hh), List.set_set]
    exact this
 obtain ⟨l0, l1, l2, l3, l4, l5, rfl⟩ := a1V hl
 refine ⟨_, rfl, ?_⟩
 show PT.wp _ a3g _ _
 unfold a3g
 simp only [PT.wp, Q0, Q1, Q2, Q9, Q7, h1]
 have := loop (kx.length + 2) [] [] v (.nil kx) (by simp)
 rw [b2h, a6X h0] at this
 exact ⟨_, rfl, _, rfl, this⟩
end Go.Proofs.Ythmkfeiapdbojaa
set_option maxRecDepth 100000
namespace Go.Proofs.Ythmkfeiapdbojaa
open Go.Sx Go.Kv
def ndB : KV -> Bool
 | [] => true
 | p :: l => (!l.any fun q => decide (q.1 = p.1)) && ndB l
theorem c0t : ∀ {kv : KV}, ndB kv = true -> Nd kv
 | [], _ => by simp [Nd]
 | p :: l, h => by
  simp only [ndB, Q5, QA] at h
  unfold Nd
  rw [Q3, QJ]
  refine ⟨fun hm => ?_, c0t h.2⟩
  obtain ⟨q, hq, he⟩ := Qa.1 hm
  have : (l.any fun q => decide (q.1 = p.1)) = true := QK.2 ⟨q, hq, by simpa using he⟩
  rw [h.1] at this; cases this
theorem c5p : ∀ {kv : KV}, Nd kv -> ndB kv = true
 | [], _ => rfl
 | p :: l, h => by
  unfold Nd at h
  rw [Q3, QJ] at h
  simp only [ndB, Q5, QA]
  refine ⟨?_, c5p h.2⟩
  cases hb : l.any fun q => decide (q.1 = p.1) with
  | false => rfl
  | true =>
   obtain ⟨q, hq, he⟩ := QK.1 hb
   exact absurd (Qa.2 ⟨q, hq, by simpa using he⟩) h.1
def a9F (lim : List Int) (kv : KV) : Bool := ndB kv && kv.all fun p => decide (0 < p.2) && decide (p.2 <= 1000000) && leL p.1 lim && nnL p.1
theorem a8c {lim : List Int} {kv : KV} (h : a9F lim kv = true) : KvOk lim kv := by
 simp only [a9F, Q5, List.all_eq_true, decide_eq_true_eq] at h
 exact ⟨c0t h.1, fun p hp => ⟨(h.2 p hp).1.1.1, (h.2 p hp).1.1.2, (h.2 p hp).1.2, (h.2 p hp).2⟩⟩
theorem b1Q {lim : List Int} {kv : KV} (h : KvOk lim kv) : a9F lim kv = true := by
 simp only [a9F, Q5, List.all_eq_true, decide_eq_true_eq]
 exact ⟨c5p h.nd, fun p hp => ⟨⟨⟨(h.all p hp).1, (h.all p hp).2.1⟩, (h.all p hp).2.2.1⟩, (h.all p hp).2.2.2⟩⟩
theorem b7X : ∀ {a b : List Int}, leL a b = true -> a.length = b.length
 | [], [], _ => rfl
 | x :: a, y :: b, h => by simp only [leL, Q5] at h; simp [b7X h.2]
 | [], _ :: _, h => by simp [leL] at h
 | _ :: _, [], h => by simp [leL] at h
def a3M (l : List Int) : Bool := decide (l.length = 6) && l.all fun x => decide (0 <= x) && decide (x <= 4)
def a5b : List PV -> Option (List Int)
 | [] => some []
 | .int .i64 z :: l => (a5b l).map (z :: ·)
 | _ => none
theorem a5y : ∀ {l : List PV} {z : List Int}, a5b l = some z -> l = lpv z
 | [], z, h => by simp only [a5b, Qb] at h; subst h; rfl
 | p :: l, z, h => by
  unfold a5b at h
  split at h
  ·rename_i he; cases he
  ·rename_i he
   simp only [List.cons.injEq] at he
   obtain ⟨rfl, rfl⟩ := he
   simp only [QL] at h
   obtain ⟨z', hz, rfl⟩ := h
   rw [a5y hz]; rfl
  ·cases h
theorem a6y : ∀ z : List Int, a5b (lpv z) = some z
 | [] => rfl
 | x :: z => by
  have := a6y z
  unfold lpv at *
  simp only [Q3, a5b, this, Qd]
theorem a4d {lim : List Int} {kv : KV} (h : KvOk lim kv) (hl : lim.length = 6) : ∀ p ∈ kv, p.1.length = 6 := fun p hp => (b7X (h.all p hp).2.2.1).trans hl
def b6J : List PV -> List MO -> Option (PV × List MO)
 | [.mp h, .agg l, .mp hx], σ => (a5b l).bind fun lim => match σ[h]?, σ[hx]? with
  | some (.mq kv v), some (.mq kx _) => if h ≠ hx /\ a3M lim = true /\ a9F lim kv = true /\ a9F lim kx = true /\ σ.all (MO.low σ.length) = true then some (.tup [], σ.set h (.mq (raises lim kv kx) (v + 1))) else none
  | _, _ => none
 | _, _ => none
def b3Q : Sx.Sys := ⟨[], .stuck, [], some b6J, none⟩
theorem b8T : SysOk Try.prog 76 b3Q where
 ct Φ hΦ n aa σ r σ' h := by
  change b6J aa σ = some (r, σ') at h
  unfold b6J at h
  split at h
  case h_2 => cases h
  rename_i σ hh l hx
  simp only [Qm] at h
  obtain ⟨lim, hl, h⟩ := h
  split at h
  case h_2 => cases h
  rename_i kv v kx vx h0 h1
  split at h
  case isFalse => cases h
  rename_i hc
  obtain ⟨c1, c2, c3, c4, c5⟩ := hc
  simp only [Qb, QB] at h
  obtain ⟨rfl, rfl⟩ := h
  have hl6 : lim.length = 6 := by simp only [a3M, Q5, decide_eq_true_eq] at c2; exact c2.1
  have g1 := a8c c3
  have g2 := a8c c4
  rw [a5y hl]
  refine CtD.one (CtD.turned (c6n h0 h1 c1 hl6 (a4d g1 hl6) (a4d g2 hl6) g2.nd c5) h0 (Nat.lt_succ_self v) c5 ?_)
  rintro r' σ' ⟨rfl, es, v1, hp, rfl⟩
  exact ⟨rfl, _, v1, rfl, a7e g1 (.refl _) hp fun p hp2 => (g2.all p (hp.mem_iff.1 hp2)).2.2.2⟩
def tabX (f : Nat) : Option Sx.Sys := if f = 76 then some b3Q else tabW f
theorem c2v : ∀ f S, tabX f = some S -> SysOk Try.prog f S := by
 intro f S h
 unfold tabX at h
 split at h
 ·rename_i hf; subst hf; cases h; exact b8T
 ·exact c2m f S h
theorem b6o : Ext tabX := by
 intro f S h
 unfold tabX
 rw [if_neg]
 ·exact h
 ·rintro rfl; cases h
theorem c4K (n f : Nat) : CtP Try.prog f (a0e tabX n f) := evalF_good c2v n f
theorem b2z {T : Nat -> Option Sx.Sys} (hT : T 76 = some b3Q) (n : Nat) {σ : List MO} {h hx : Nat} {kv kx : KV} {v vx : Nat} {lim : List Int} (h0 : σ[h]? = some (.mq kv v)) (h1 : σ[hx]? = some (.mq kx vx)) (hne : h ≠ hx) (hl : a3M lim = true)
  (g1 : KvOk lim kv) (g2 : KvOk lim kx) (hlow : σ.all (MO.low σ.length) = true) :
  a0e T (n + 1) 76 [.mp h, .agg (lpv lim), .mp hx] σ = some (.tup [], σ.set h (.mq (raises lim kv kx) (v + 1))) := by
 rw [a0e, hT]
 simp only [Q4, Sys.run, b3Q]
 simp only [b6J, a6y, Q4, h0, h1]
 rw [if_pos ⟨hne, hl, b1Q g1, b1Q g2, hlow⟩]
end Go.Proofs.Ythmkfeiapdbojaa
set_option maxRecDepth 100000
namespace Go.Proofs.Ythmkfeiapdbojaa
open Go.Sx Go.Kv
theorem at0 (σ : List MO) (x : MO) (l : List MO) : (σ ++ x :: l)[σ.length]? = some x := by rw [Qg (Qn _)]; simp
theorem at1 (σ : List MO) (x y : MO) (l : List MO) : (σ ++ x :: y :: l)[σ.length + 1]? = some y := by rw [Qg (by omega)]; simp
theorem at2 (σ : List MO) (x y z : MO) (l : List MO) : (σ ++ x :: y :: (l ++ [z]))[σ.length + 2 + l.length]? = some z := by
 rw [Qg (by omega), show σ.length + 2 + l.length - σ.length = l.length + 1 + 1 by omega]; simp
theorem c6o (σ : List MO) (x x' : MO) (l : List MO) : (σ ++ x :: l).set σ.length x' = σ ++ x' :: l := by rw [Qk _ _ (Qn _)]; simp
theorem c8Y (σ : List MO) (x y y' : MO) (l : List MO) : (σ ++ x :: y :: l).set (σ.length + 1) y' = σ ++ x :: y' :: l := by rw [Qk _ _ (by omega)]; simp
theorem d1c (σ : List MO) (x y z z' : MO) (l : List MO) : (σ ++ x :: y :: (l ++ [z])).set (σ.length + 2 + l.length) z' = σ ++ x :: y :: (l ++ [z']) := by
 rw [Qk _ _ (by omega), show σ.length + 2 + l.length - σ.length = l.length + 1 + 1 by omega]; simp
theorem atL {σ : List MO} {i : Nat} {o : MO} (h : σ[i]? = some o) (l : List MO) : (σ ++ l)[i]? = some o := by
 rw [Qv (Qj.1 h).1]; exact h
def a6q (p q : List Int × Int) : List Int × Int := (a2y p.1 q.1, p.2 + q.2)
def a5D (kx ky : KV) : KV := kx.flatMap fun p => ky.map (a6q p)
def a2R (lim : List Int) (kx ky : KV) : KV := raises lim (raises lim (raises lim [] kx) ky) (a5D kx ky)
theorem a9I {l : List Int} (h : a3M l = true) : l.length = 6 /\ ∀ x ∈ l, 0 <= x /\ x <= 4 := by
 simp only [a3M, Q5, decide_eq_true_eq, List.all_eq_true] at h
 exact h
theorem c5d : ∀ {a b : List Int} {c : Int}, leL a b = true -> (∀ x ∈ b, x <= c) -> ∀ x ∈ a, x <= c
 | [], _, _, _, _ => by simp
 | x :: a, y :: b, c, h, hb => by
  simp only [leL, Q5, decide_eq_true_eq] at h
  intro z hz
  rcases Qr.1 hz with rfl | hz
  ·have := hb y (by simp); omega
  ·exact c5d h.2 (fun w hw => hb w (by simp [hw])) z hz
 | _ :: _, [], _, h, _ => by simp [leL] at h
theorem c7a {lim : List Int} {kv : KV} (h : KvOk lim kv) (hl : a3M lim = true) {p : List Int × Int} (hp : p ∈ kv) : Sm p.1 := by
 obtain ⟨h1, h2⟩ := a9I hl
 obtain ⟨_, _, h3, h4⟩ := h.all p hp
 refine ⟨(b7X h3).trans h1, fun x hx => ⟨?_, ?_⟩⟩
 ·simpa [nnL] using List.all_eq_true.1 h4 x hx
 ·have := c5d h3 (fun y hy => (h2 y hy).2) x hx; omega
theorem c9g {σ : List MO} {hx hy : Nat} {kx ky : KV} {vx vy : Nat} {lim : List Int} (h0 : σ[hx]? = some (.mq kx vx)) (h1 : σ[hy]? = some (.mq ky vy)) (hlim : a3M lim = true)
  (gx : KvOk lim kx) (gy : KvOk lim ky) (hlow : σ.all (MO.low σ.length) = true) :
  CtD Try.prog 77 [.agg (lpv lim), .mp hx, .mp hy] σ (fun r σ' => r = .mp σ.length /\ ∃ L v1 rest, L.Perm (a5D kx ky) /\ σ' = σ ++ .mq (raises lim (raises lim (raises lim [] kx) ky) L) v1 :: rest) := by
 obtain ⟨hl, hl4⟩ := a9I hlim
 have hhx := (Qj.1 h0).1
 have hhy := (Qj.1 h1).1
 refine b6l.dm (a0e tabX 6) (c4K 6) (kx.length * (ky.length + 3) + 1) _ _ _ ?_
 generalize hw2 : raises lim (raises lim [] kx) ky = w2
 have w6 : ∀ p ∈ w2, p.1.length = 6 := by
  rw [<- hw2]
  exact a4p hl (a4p hl (by simp) (a4d gx hl)) (a4d gy hl)
 have x6 := a4d gx hl
 have y6 := a4d gy hl
 obtain ⟨l0, l1, l2, l3, l4, l5, rfl⟩ := a1V hl
 generalize hR : (fun (r : PV) (σ' : List MO) => r = .mp σ.length /\ ∃ L v1 rest, L.Perm (a5D kx ky) /\ σ' = σ ++ .mq (raises [l0, l1, l2, l3, l4, l5] w2 L) v1 :: rest) = R
 have outer : ∀ (d : Nat) (seen : List (List Int)) (es L : KV) (v1 : Nat) (g : List MO), Went kx seen es -> kx.length <= seen.length + d -> L.Perm (es.flatMap fun p => ky.map (a6q p)) -> (∀ q ∈ L, q.1.length = 6) -> ∀ n, d * (ky.length + 3) + 1 <= n ->
   valuation_sum_S.loopD (a0e tabX 6) n 0 { i := [l0, l1, l2, l3, l4, l5], b := [], v := [.mp hy, .mp σ.length, .ref (σ.length + 1) 0], m := σ ++ .mq (raises [l0, l1, l2, l3, l4, l5] w2 L) v1 :: .it hx vx seen :: g, k := σ.length } R := by
  intro d
  induction d with
  | zero =>
   intro seen es L v1 g hw hlen hL hL6 n hn
   obtain ⟨n, rfl⟩ : ∃ m, n = m + 1 := ⟨n - 1, by omega⟩
   refine ⟨_, rfl, ?_⟩
   show PT.wp _ a3h _ _
   unfold a3h
   simp only [PT.wp, Q9, Q7, at1, atL h0, a2G x6, and_self, if_true]
   split
   ·rename_i hleft
    refine ⟨.mp σ.length, rfl, (.mp σ.length, _), by unfold a0k; rw [if_pos (.inl rfl)], ?_⟩
    rw [<- hR]
    exact ⟨rfl, L, v1, _, hL.trans ((hw.over gx.nd hleft).flatMap_right _), rfl⟩
   ·intro p hp
    have := (hw.next hp).len gx.nd
    simp at this; omega
  | succ d ih =>
   intro seen es L v1 g hw hlen hL hL6 n hn
   rw [Nat.succ_mul] at hn
   obtain ⟨n, rfl⟩ : ∃ m, n = m + 1 := ⟨n - 1, by omega⟩
   refine ⟨_, rfl, ?_⟩
   show PT.wp _ a3h _ _
   unfold a3h
   simp only [PT.wp, Q9, Q7, at1, atL h0, a2G x6, and_self, if_true]
   split
   ·rename_i hleft
    refine ⟨.mp σ.length, rfl, (.mp σ.length, _), by unfold a0k; rw [if_pos (.inl rfl)], ?_⟩
    rw [<- hR]
    exact ⟨rfl, L, v1, _, hL.trans ((hw.over gx.nd hleft).flatMap_right _), rfl⟩
   intro p hp
   obtain ⟨p1, p2⟩ := a4i.1 hp
   have hw' := hw.next hp
   have hps := c7a gx hlim p1
   have hpv := (gx.all p p1)
   obtain ⟨pk, pv⟩ := p
   simp only at hps hw' p1 p2 hpv
   have hlook := (Kv.lookQ_some gx.nd).2 p1
   have hk6 := hps.1
   obtain ⟨b0, b1, b2, b3, b4, b5, rfl⟩ := a1V hk6
   have hLes : ∀ es', Went ky (es'.map (·.1)) es' -> ∀ q ∈ L ++ es'.map (a6q ([b0, b1, b2, b3, b4, b5], pv)), q.1.length = 6 := by
    intro es' hwy q hq
    rcases List.mem_append.1 hq with hq | hq
    ·exact hL6 q hq
    ·obtain ⟨z, hz, rfl⟩ := Qa.1 hq
     have := y6 z (hwy.sub z hz)
     simp [a6q, a2y, this]
   replace hLes : ∀ {seen'} es', Went ky seen' es' -> ∀ q ∈ L ++ es'.map (a6q ([b0, b1, b2, b3, b4, b5], pv)), q.1.length = 6 := fun {seen'} es' h => hLes es' ⟨rfl, h.nd, h.sub⟩
   have inner : ∀ (e : Nat) (seen' : List (List Int)) (es' : KV) (v1 : Nat), Went ky seen' es' -> ky.length <= seen'.length + e -> ∀ n, d * (ky.length + 3) + 1 + e + 1 <= n ->
     valuation_sum_S.loopD (a0e tabX 6) n 1 { i := [pv, l0, l1, l2, l3, l4, l5, b0, b1, b2, b3, b4, b5], b := [], v := [.mp hy, .mp σ.length, .ref (σ.length + 1) 0, .ref (σ.length + 2 + g.length) 0], m := σ ++ .mq (raises [l0, l1, l2, l3, l4, l5] w2 (L ++ es'.map (a6q ([b0, b1, b2, b3, b4, b5], pv)))) v1 :: .it hx vx (seen ++ [[b0, b1, b2, b3, b4, b5]]) :: (g ++ [.it hy vy seen']), k := σ.length } R := by
    intro e
    induction e with
    | zero =>
     intro seen' es' v1 hwy hleny n hn
     obtain ⟨n, rfl⟩ : ∃ m, n = m + 1 := ⟨n - 1, by omega⟩
     refine ⟨_, rfl, ?_⟩
     show PT.wp _ a2Y _ _
     unfold a2Y
     simp only [PT.wp, Q9, Q7, at2, atL h1, a2G y6, and_self, if_true]
     split
     ·rename_i hleft
      refine ⟨_, rfl, _, rfl, ?_⟩
      refine ih (seen ++ [[b0, b1, b2, b3, b4, b5]]) (es ++ [([b0, b1, b2, b3, b4, b5], pv)]) (L ++ es'.map (a6q ([b0, b1, b2, b3, b4, b5], pv))) v1 (g ++ [.it hy vy seen']) hw' (by simp; omega) ?_ ?_ n (by omega)
      ·rw [QM]
       refine hL.append ?_
       simp only [QN, QP, Q2]
       exact (hwy.over gy.nd hleft).map _
      ·exact hLes es' hwy
     ·intro q hq
      have := (hwy.next hq).len gy.nd
      simp at this; omega
    | succ e ihe =>
     intro seen' es' v1 hwy hleny n hn
     obtain ⟨n, rfl⟩ : ∃ m, n = m + 1 := ⟨n - 1, by omega⟩
     refine ⟨_, rfl, ?_⟩
     show PT.wp _ a2Y _ _
     unfold a2Y
     simp only [PT.wp, Q9, Q7, at2, atL h1, a2G y6, and_self, if_true]
     split
     ·rename_i hleft
      refine ⟨_, rfl, _, rfl, ?_⟩
      refine ih (seen ++ [[b0, b1, b2, b3, b4, b5]]) (es ++ [([b0, b1, b2, b3, b4, b5], pv)]) (L ++ es'.map (a6q ([b0, b1, b2, b3, b4, b5], pv))) v1 (g ++ [.it hy vy seen']) hw' (by simp; omega) ?_ ?_ n (by omega)
      ·rw [QM]
       refine hL.append ?_
       simp only [QN, QP, Q2]
       exact (hwy.over gy.nd hleft).map _
      ·exact hLes es' hwy
     ·intro q hq
      obtain ⟨q1, q2⟩ := a4i.1 hq
      have hwy' := hwy.next hq
      have hqs := c7a gy hlim q1
      have hqv := gy.all q q1
      obtain ⟨qk, qv⟩ := q
      simp only at hqs hwy' q1 q2 hqv
      have hlookq := (Kv.lookQ_some gy.nd).2 q1
      have hq6 := hqs.1
      have hadd := c9f (σ := σ ++ .mq (raises [l0, l1, l2, l3, l4, l5] w2 (L ++ es'.map (a6q ([b0, b1, b2, b3, b4, b5], pv)))) v1 :: .it hx vx (seen ++ [[b0, b1, b2, b3, b4, b5]]) :: (g ++ [.it hy vy (seen' ++ [qk])])) b6o 5 hps hqs
      obtain ⟨v2, hr⟩ := a6K b6o 3 (σ ++ .mq (raises [l0, l1, l2, l3, l4, l5] w2 (L ++ es'.map (a6q ([b0, b1, b2, b3, b4, b5], pv)))) v1 :: .it hx vx (seen ++ [[b0, b1, b2, b3, b4, b5]]) :: (g ++ [.it hy vy (seen' ++ [qk])])) (at0 _ _ _)
       (a2G (a4p hl w6 (hLes es' hwy))) hl (b := a2y [b0, b1, b2, b3, b4, b5] qk) (by unfold a2y; simp [hq6]) (pv + qv)
      obtain ⟨c0, c1, c2, c3, c4, c5, rfl⟩ := a1V hq6
      have hn8 : (leB (-9223372036854775808) (pv + qv) && leB (pv + qv) 9223372036854775807) = true := by simp [leB]; omega
      simp only [lpv, a2y, Qp, Qu, Q3, Q6] at hadd hr
      simp only [PEnv.push, Q0, Q1, Qf, Q9, Q7, d1c, at2, atL h1, Qw, Qy, Qz, hlookq, if_true, Q8, Qe]
      refine ⟨qv, rfl, ?_⟩
      simp only [BE.safe, BE.pe, IE.pe, PEnv.at, List.getD_cons_zero, List.getD_cons_succ, Qq, if_true, hn8]
      refine ⟨_, rfl, _, hadd, _, rfl, _, rfl, _, hr, _, rfl, _, rfl, _, rfl, ?_⟩
      have := ihe (seen' ++ [[c0, c1, c2, c3, c4, c5]]) (es' ++ [([c0, c1, c2, c3, c4, c5], qv)]) v2 hwy' (by simp; omega) n (by omega)
      rw [QC, <- Qf, Q3, Q6, a7i] at this
      rw [c6o]
      exact this
   simp only [PEnv.push, Q0, Q1, Qf, Q9, Q7, c8Y, at1, atL h0, atL h1, Qw, Qy, Qz, hlook, if_true, Q8, Qe]
   refine ⟨pv, rfl, ?_⟩
   have := inner ky.length [] [] v1 (.nil ky) (by simp) n (by omega)
   rw [Q6, Q2] at this
   have hlen : (σ ++ .mq (raises [l0, l1, l2, l3, l4, l5] w2 L) v1 :: .it hx vx (seen ++ [[b0, b1, b2, b3, b4, b5]]) :: g).length = σ.length + 2 + g.length := by simp; omega
   rw [hlen]
   exact ⟨_, rfl, _, rfl, this⟩
 have hlow1 := a6H (o := .mq [] 0) hlow rfl
 have nx : σ.length ≠ hx := by omega
 have ny : σ.length ≠ hy := by omega
 have m1 := b2z (T := tabX) rfl 5 (σ := σ ++ [.mq [] 0]) (at0 σ _ []) (atL h0 _) nx hlim (KvOk.nil _) gx hlow1
 rw [c6o] at m1
 have gx1 := (KvOk.nil [l0, l1, l2, l3, l4, l5]).raises (L := kx) fun p hp => (gx.all p hp).2.2.2
 have hlow2 := a6H (o := .mq (raises [l0, l1, l2, l3, l4, l5] [] kx) (0 + 1)) hlow rfl
 have m2 := b2z (T := tabX) rfl 5 (σ := σ ++ [.mq (raises [l0, l1, l2, l3, l4, l5] [] kx) (0 + 1)]) (at0 σ _ []) (atL h1 _) ny hlim gx1 gy hlow2
 rw [c6o, hw2] at m2
 simp only [lpv, Q3, Q6] at m1 m2
 refine ⟨_, rfl, ?_⟩
 show PT.wp _ a6s _ _
 unfold a6s
 simp only [PT.wp, Q0, Q1, Q2]
 refine ⟨_, rfl, _, m1, _, rfl, _, rfl, _, m2, _, rfl, ?_⟩
 simp only [PEnv.push, Q0, Q1, Q2, Q9, Q7, atL h0, Qf, Qt, Q8, Qe]
 have := outer kx.length [] [] [] (0 + 1 + 1) [] (.nil kx) (by simp) (by simp) (by simp) (kx.length * (ky.length + 3) + 1) (Qn _)
 rw [b2h] at this
 exact ⟨_, rfl, _, rfl, this⟩
end Go.Proofs.Ythmkfeiapdbojaa
set_option maxRecDepth 100000
namespace Go.Proofs.Ythmkfeiapdbojaa
open Go.Sx Go.Kv
theorem c5y : ∀ {a b : List Int}, nnL a = true -> nnL b = true -> nnL (a2y a b) = true
 | [], _, _, _ => rfl
 | _ :: _, [], _, _ => rfl
 | x :: a, y :: b, ha, hb => by
  simp only [nnL, Qh, Q5, decide_eq_true_eq] at ha hb
  have := c5y (a := a) (b := b) ha.2 hb.2
  simp only [nnL, a2y, Qp, Qh, Q5, decide_eq_true_eq] at *
  exact ⟨by omega, this⟩
theorem b9T {lim : List Int} {kx ky : KV} (gx : KvOk lim kx) (gy : KvOk lim ky) : ∀ p ∈ a5D kx ky, nnL p.1 = true := by
 intro p hp
 simp only [a5D, List.mem_flatMap, Qa] at hp
 obtain ⟨x, hx, y, hy, rfl⟩ := hp
 exact c5y (gx.all x hx).2.2.2 (gy.all y hy).2.2.2
theorem c4y {lim : List Int} {kx ky : KV} (gx : KvOk lim kx) (gy : KvOk lim ky) : KvOk lim (raises lim (raises lim [] kx) ky) :=
 ((KvOk.nil lim).raises fun p hp => (gx.all p hp).2.2.2).raises fun p hp => (gy.all p hp).2.2.2
theorem b1n {lim : List Int} {kx ky : KV} (gx : KvOk lim kx) (gy : KvOk lim ky) : KvOk lim (a2R lim kx ky) := (c4y gx gy).raises (b9T gx gy)
def c2U : List PV -> List MO -> Option (PV × List MO)
 | [.agg l, .mp hx, .mp hy], σ => (a5b l).bind fun lim => match σ[hx]?, σ[hy]? with
  | some (.mq kx _), some (.mq ky _) => if a3M lim = true /\ a9F lim kx = true /\ a9F lim ky = true /\ σ.all (MO.low σ.length) = true then some (.mp σ.length, σ ++ [.mq (a2R lim kx ky) 0]) else none
  | _, _ => none
 | _, _ => none
def c1f : Sx.Sys := ⟨[], .stuck, [], some c2U, none⟩
theorem c2x : SysOk Try.prog 77 c1f where
 ct Φ hΦ n aa σ r σ' h := by
  change c2U aa σ = some (r, σ') at h
  unfold c2U at h
  split at h
  case h_2 => cases h
  rename_i σ l hx hy
  simp only [Qm] at h
  obtain ⟨lim, hl, h⟩ := h
  split at h
  case h_2 => cases h
  rename_i kx vx ky vy h0 h1
  split at h
  case isFalse => cases h
  rename_i hc
  obtain ⟨c2, c3, c4, c5⟩ := hc
  simp only [Qb, QB] at h
  obtain ⟨rfl, rfl⟩ := h
  have g1 := a8c c3
  have g2 := a8c c4
  rw [a5y hl]
  refine CtD.one (CtD.fresh (c9g h0 h1 c2 g1 g2 c5) c5 ?_)
  rintro r' σ' ⟨rfl, L, v1, rest, hp, rfl⟩
  exact ⟨_, _, v1, _, rfl, rfl, Qn _, at0 _ _ _, a7e (c4y g1 g2) (.refl _) hp fun p hp2 => b9T g1 g2 p (hp.mem_iff.1 hp2)⟩
def c3D (f : Nat) : Option Sx.Sys := if f = 77 then some c1f else tabX f
theorem c7H : ∀ f S, c3D f = some S -> SysOk Try.prog f S := by
 intro f S h
 unfold c3D at h
 split at h
 ·rename_i hf; subst hf; cases h; exact c2x
 ·exact c2v f S h
theorem c8D {T : Nat -> Option Sx.Sys} (hT : T 77 = some c1f) (n : Nat) {σ : List MO} {hx hy : Nat} {kx ky : KV} {vx vy : Nat} {lim : List Int} (h0 : σ[hx]? = some (.mq kx vx)) (h1 : σ[hy]? = some (.mq ky vy)) (hl : a3M lim = true)
  (g1 : KvOk lim kx) (g2 : KvOk lim ky) (hlow : σ.all (MO.low σ.length) = true) :
  a0e T (n + 1) 77 [.agg (lpv lim), .mp hx, .mp hy] σ = some (.mp σ.length, σ ++ [.mq (a2R lim kx ky) 0]) := by
 rw [a0e, hT]
 simp only [Q4, Sys.run, c1f, c2U, a6y, h0, h1]
 rw [if_pos ⟨hl, b1Q g1, b1Q g2, hlow⟩]
end Go.Proofs.Ythmkfeiapdbojaa
set_option maxRecDepth 10000
namespace Go.Proofs.Ythmkfeiapdbojaa
open Go.Sx
inductive Ex where
 | node (op a b c d e f v : Int) (args : List Ex)
def Ex.args : Ex -> List Ex | .node _ _ _ _ _ _ _ _ l => l
mutual
def Ex.size : Ex -> Nat | .node _ _ _ _ _ _ _ _ l => a1P l + 1
def a1P : List Ex -> Nat | [] => 0 | e :: l => e.size + a1P l
end
mutual
def Ex.depth : Ex -> Int | .node _ _ _ _ _ _ _ _ l => a4X 0 l + 1
def a4X (m : Int) : List Ex -> Int | [] => m | e :: l => a4X (mxI m e.depth) l
end
mutual
def IsE : Ex -> List PV -> Prop
 | .node op a b c d e f v l, row => ∃ x rows, row = [.int .i64 op, .int .i64 a, .int .i64 b, .int .i64 c, .int .i64 d, .int .i64 e, .int .i64 f, .int .i64 v, x] /\ x.rowsOf 9 = some rows /\ a1e l rows
def a1e : List Ex -> List (List PV) -> Prop
 | [], rows => rows = []
 | e :: l, rows => ∃ r rs, rows = r :: rs /\ IsE e r /\ a1e l rs
end
theorem a1e.length : ∀ {l : List Ex} {rows : List (List PV)}, a1e l rows -> rows.length = l.length
 | [], rows, h => by simp only [a1e] at h; subst h; rfl
 | e :: l, rows, h => by
  simp only [a1e] at h
  obtain ⟨r, rs, rfl, _, h⟩ := h
  simp [a1e.length h]
theorem a1e.split : ∀ {l : List Ex} {rows : List (List PV)}, a1e l rows -> ∀ i : Nat, a1e (l.drop i) (rows.drop i)
 | l, rows, h, 0 => by simpa using h
 | [], rows, h, i + 1 => by simp only [a1e] at h; subst h; simp [a1e]
 | e :: l, rows, h, i + 1 => by
  simp only [a1e] at h
  obtain ⟨r, rs, rfl, _, h⟩ := h
  simpa using a1e.split h i
mutual
theorem Ex.depth_le : ∀ e : Ex, 1 <= e.depth /\ e.depth <= e.size
 | .node _ _ _ _ _ _ _ _ l => by
  have := b8u 0 l
  simp only [mxI] at this
  simp only [Ex.depth, Ex.size]; split at this <;> omega
theorem b8u (m : Int) : ∀ l : List Ex, m <= a4X m l /\ a4X m l <= mxI m (a1P l)
 | [] => by simp [a4X, a1P, mxI]; split <;> omega
 | e :: l => by
  have h1 := e.depth_le
  have h2 := b8u (mxI m e.depth) l
  simp only [a4X, a1P, mxI] at *
  repeat' split at h2
  all_goals (repeat' split)
  all_goals omega
end
theorem c0h : ∀ e : Ex, 1 <= e.size
 | .node _ _ _ _ _ _ _ _ l => by simp only [Ex.size]; omega
theorem a2E : ∀ l : List Ex, l.length <= a1P l
 | [] => Qn _
 | e :: l => by have := a2E l; have := c0h e; simp only [a1P, Q8]; omega
theorem a2t : ∀ {l : List Ex} {e : Ex}, e ∈ l -> e.size <= a1P l
 | [], e, h => by simp at h
 | x :: l, e, h => by
  simp only [a1P]
  rcases Qr.1 h with rfl | h
  ·omega
  ·have := a2t h; omega
end Go.Proofs.Ythmkfeiapdbojaa
set_option maxRecDepth 100000
namespace Go.Proofs.Ythmkfeiapdbojaa
open Go.Sx Go.Kv
def a8G (lim w : List Int) (v : Int) (x : KV) : KV := raises lim (a2q lim (raises lim [] x) w v) (x.map fun p => (a2b p.1 w, p.2 + v))
def a7r (lim : List Int) (v : Int) (x : KV) : KV := raises lim [] (x.map fun p => (p.1, mnI p.2 v))
mutual
def a0o (lim : List Int) : Ex -> KV
 | .node op a b c d e f v l =>
  if op = 1 then a2q lim [] [a, b, c, d, e, f] v
  else if op = 2 then (a1i lim l).foldl (raises lim) []
  else if op = 3 then (a1i lim l).foldl (a2R lim) []
  else if op = 4 then a8G lim [a, b, c, d, e, f] v ((a1i lim l).headD [])
  else if op = 5 then a7r lim v ((a1i lim l).headD [])
  else []
def a1i (lim : List Int) : List Ex -> List KV
 | [] => []
 | e :: l => a0o lim e :: a1i lim l
end
mutual
def okX : Ex -> Bool
 | .node op a b c d e f v l => nnL [a, b, c, d, e, f] && decide (0 <= v) && decide (v <= 1000000) && ((!decide (op = 4) && !decide (op = 5)) || decide (1 <= l.length)) && a2J l
def a2J : List Ex -> Bool
 | [] => true
 | e :: l => okX e && a2J l
end
theorem b4O : ∀ {a b : List Int}, nnL a = true -> nnL b = true -> nnL (a2b a b) = true
 | [], _, _, _ => rfl
 | _ :: _, [], _, _ => rfl
 | x :: a, y :: b, ha, hb => by
  simp only [nnL, Qh, Q5, decide_eq_true_eq] at ha hb
  have := b4O (a := a) (b := b) ha.2 hb.2
  simp only [nnL, a2b, Qp, Qh, Q5, decide_eq_true_eq] at *
  exact ⟨by split <;> omega, this⟩
theorem a2O {lim : List Int} {a b : KV} (h : KvOk lim a) (g : KvOk lim b) : KvOk lim (raises lim a b) := h.raises fun p hp => (g.all p hp).2.2.2
theorem c5C {lim w : List Int} {v : Int} {x : KV} (h : KvOk lim x) (hw : nnL w = true) : KvOk lim (a8G lim w v x) := by
 unfold a8G
 refine (KvOk.raise (a2O (.nil lim) h) hw).raises fun p hp => ?_
 obtain ⟨q, hq, rfl⟩ := Qa.1 hp
 exact b4O (h.all q hq).2.2.2 hw
theorem c4E {lim : List Int} {v : Int} {x : KV} (h : KvOk lim x) : KvOk lim (a7r lim v x) := by
 unfold a7r
 refine (KvOk.nil lim).raises fun p hp => ?_
 obtain ⟨q, hq, rfl⟩ := Qa.1 hp
 exact (h.all q hq).2.2.2
theorem b2Q {lim : List Int} {F : KV -> KV -> KV} (hF : ∀ a b, KvOk lim a -> KvOk lim b -> KvOk lim (F a b)) : ∀ {l : List KV} {a : KV}, KvOk lim a -> (∀ x ∈ l, KvOk lim x) -> KvOk lim (l.foldl F a)
 | [], _, h, _ => h
 | x :: l, a, h, hl => by rw [List.foldl_cons]; exact b2Q hF (hF a x h (hl x (by simp))) (fun y hy => hl y (by simp [hy]))
mutual
theorem a2i (lim : List Int) : ∀ e : Ex, okX e = true -> KvOk lim (a0o lim e)
 | .node op a b c d e f v l, h => by
  simp only [okX, Q5] at h
  obtain ⟨⟨⟨⟨h1, h2⟩, h3⟩, h4⟩, h5⟩ := h
  have hl := b6a lim l h5
  have hhead : KvOk lim ((a1i lim l).headD []) := by
   cases hk : a1i lim l with
   | nil => exact .nil lim
   | cons x r => exact hl x (by rw [hk]; simp)
  simp only [a0o]
  split
  ·exact (KvOk.nil lim).raise h1
  split
  ·exact b2Q (fun a b => a2O) (.nil lim) hl
  split
  ·exact b2Q (fun a b => b1n) (.nil lim) hl
  split
  ·exact c5C hhead h1
  split
  ·exact c4E hhead
  ·exact .nil lim
theorem b6a (lim : List Int) : ∀ l : List Ex, a2J l = true -> ∀ x ∈ a1i lim l, KvOk lim x
 | [], _ => by simp [a1i]
 | e :: l, h => by
  simp only [a2J, Q5] at h
  intro x hx
  simp only [a1i, Qr] at hx
  rcases hx with rfl | hx
  ·exact a2i lim e h.1
  ·exact b6a lim l h.2 x hx
end
theorem a5Z (lim : List Int) : ∀ (l : List Ex) (i : Nat), (a1i lim l)[i]? = (l[i]?).map (a0o lim)
 | [], i => by simp [a1i]
 | e :: l, 0 => by simp [a1i]
 | e :: l, i + 1 => by simp [a1i, a5Z lim l i]
theorem a5L : ∀ {l : List Ex}, a2J l = true -> ∀ {i : Nat} {e : Ex}, l[i]? = some e -> okX e = true
 | [], _, i, e, h => by simp at h
 | x :: l, h, 0, e, hi => by
  simp only [a2J, Q5] at h
  simp only [Q7, Qb] at hi
  subst hi; exact h.1
 | x :: l, h, i + 1, e, hi => by
  simp only [a2J, Q5] at h
  exact a5L h.2 (by simpa using hi)
def a6M : Nat -> List PV -> Option Ex
 | 0, _ => none
 | n + 1, [.int .i64 op, .int .i64 a, .int .i64 b, .int .i64 c, .int .i64 d, .int .i64 e, .int .i64 f, .int .i64 v, x] => (x.rowsOf 9).bind fun rows => (rows.mapM (a6M n)).map (.node op a b c d e f v)
 | _, _ => none
theorem b8R {n : Nat} (hd : ∀ row e, a6M n row = some e -> IsE e row) : ∀ {rows : List (List PV)} {l : List Ex}, rows.mapM (a6M n) = some l -> a1e l rows
 | [], l, h => by simp at h; subst h; rfl
 | r :: rows, l, h => by
  simp only [QQ, QS, Qm, QU, Qb] at h
  obtain ⟨e, he, l', hl, rfl⟩ := h
  exact ⟨r, rows, rfl, hd _ _ he, b8R hd hl⟩
theorem b4v : ∀ (n : Nat) (row : List PV) (e : Ex), a6M n row = some e -> IsE e row := by
 intro n
 induction n with
 | zero => intro row e h; simp [a6M] at h
 | succ n ih =>
  intro row e h
  unfold a6M at h
  split at h
  ·rename_i heq; cases heq
  ·rename_i heq
   cases heq
   simp only [Qm, QL] at h
   obtain ⟨rows, hr, l, hl, rfl⟩ := h
   exact ⟨_, rows, rfl, hr, b8R ih hl⟩
  ·cases h
theorem c1S {n : Nat} : ∀ {l : List Ex} {rows : List (List PV)}, a1e l rows -> (∀ e ∈ l, ∀ row, IsE e row -> a6M n row = some e) -> rows.mapM (a6M n) = some l
 | [], rows, h, _ => by simp only [a1e] at h; subst h; rfl
 | e :: l, rows, h, hd => by
  simp only [a1e] at h
  obtain ⟨r, rs, rfl, h1, h2⟩ := h
  simp only [QQ, hd e (by simp) r h1, c1S h2 (fun x hx => hd x (by simp [hx])), QS, Q4, QU]
theorem b8p : ∀ (n : Nat) (e : Ex) (row : List PV), IsE e row -> e.size <= n -> a6M n row = some e
 | 0, e, row, _, h => by have := c0h e; omega
 | n + 1, .node op a b c d e f v l, row, h, hs => by
  simp only [IsE] at h
  obtain ⟨x, rows, rfl, hr, hl⟩ := h
  simp only [Ex.size] at hs
  simp only [a6M, hr, Q4]
  rw [c1S hl fun e he row hrow => b8p n e row hrow (by have := a2t he; omega)]
  rfl
mutual
theorem c2g (k : Nat) : ∀ (e : Ex) (row : List PV), IsE e row -> PV.lows k row = true
 | .node op a b c d e f v l, row, h => by
  simp only [IsE] at h
  obtain ⟨x, rows, rfl, hr, hl⟩ := h
  have := b5O k l rows hl
  have hx : x.low k = true := by
   cases x <;> simp only [PV.rowsOf] at hr <;> try (cases hr)
   ·rfl
   ·split at hr
    ·cases hr; exact this
    ·cases hr
  simp only [PV.lows, PV.low, hx, Qq]
theorem b5O (k : Nat) : ∀ (l : List Ex) (rows : List (List PV)), a1e l rows -> PV.lowss k rows = true
 | [], rows, h => by simp only [a1e] at h; subst h; rfl
 | e :: l, rows, h => by
  simp only [a1e] at h
  obtain ⟨r, rs, rfl, h1, h2⟩ := h
  simp only [PV.lowss, c2g k e r h1, b5O k l rs h2, Qq]
end
end Go.Proofs.Ythmkfeiapdbojaa
set_option maxRecDepth 100000
namespace Go.Proofs.Ythmkfeiapdbojaa
open Go.Sx Go.Kv
def ofF (N : Nat) : List PV -> List MO -> Option (PV × List MO)
 | [.agg row, .agg l], σ => (a6M 400 row).bind fun e => (a5b l).bind fun lim =>
  if e.size < N /\ e.size <= 400 /\ okX e = true /\ a3M lim = true /\ σ.all (MO.low σ.length) = true then some (.mp σ.length, σ ++ [.mq (a0o lim e) 0]) else none
 | _, _ => none
def ofP (N : Nat) : Sx.Sys := ⟨[], .stuck, [], some (ofF N), none⟩
theorem c4h {T : Nat -> Option Sx.Sys} {N : Nat} (hT : T 49 = some (ofP N)) (n : Nat) {σ : List MO} {e : Ex} {row : List PV} (hrow : IsE e row) (h1 : e.size < N) (h2 : e.size <= 400) (h3 : okX e = true) {lim : List Int} (hl : a3M lim = true)
  (hlow : σ.all (MO.low σ.length) = true) : a0e T (n + 1) 49 [.agg row, .agg (lpv lim)] σ = some (.mp σ.length, σ ++ [.mq (a0o lim e) 0]) := by
 rw [a0e, hT]
 simp only [Q4, Sys.run, ofP, ofF, a6y, b8p 400 e row hrow h2]
 rw [if_pos ⟨h1, h2, h3, hl, hlow⟩]
def a3c (N : Nat) (f : Nat) : Option Sx.Sys := if f = 49 then some (ofP N) else if f = 74 then some valuation_of_1_S else c3D f
theorem c7L {N : Nat} (hN : SysOk Try.prog 49 (ofP N)) : ∀ f S, a3c N f = some S -> SysOk Try.prog f S := by
 intro f S h
 unfold a3c at h
 split at h
 ·rename_i hf; subst hf; cases h; exact hN
 split at h
 ·rename_i hf; subst hf; cases h; exact a7Q
 ·exact c7H f S h
theorem a1e.at {l : List Ex} {rows : List (List PV)} (h : a1e l rows) {i : Nat} {e : Ex} (he : l[i]? = some e) : ∃ r, rows[i]? = some r /\ IsE e r := by
 have hd := h.split i
 rw [QD, he] at hd
 simp only [Option.toList_some, List.singleton_append, a1e] at hd
 obtain ⟨r, rs, hd1, hd2, hd3⟩ := hd
 refine ⟨r, ?_, hd2⟩
 have := congrArg (fun l => l[0]?) hd1
 simpa using this
theorem c9j (h : Nat) : (PV.mp h).one = true := rfl
theorem c9G {α : Type} (p0 p1 p2 p3 p4 p5 p6 p7 x : α) : List.drop 8 [p0, p1, p2, p3, p4, p5, p6, p7, x] = [x] := rfl
theorem c0E {T : Nat -> Option Sx.Sys} {N : Nat} (hT : T 49 = some (ofP N)) (hT1 : T 74 = some valuation_of_1_S) (n : Nat) {σ rest : List MO} {op a b c d e f v : Int} {l : List Ex} {x : PV} {rows : List (List PV)} (hx : x.rowsOf 9 = some rows) (hr : a1e l rows)
  {lim : List Int} (hl : a3M lim = true) {i : Nat} {ei : Ex} (hi : l[i]? = some ei) (h1 : ei.size < N) (h2 : ei.size <= 400) (h3 : okX ei = true)
  {m : List MO} (hm : m = σ ++ .cells [.int .i64 op, .int .i64 a, .int .i64 b, .int .i64 c, .int .i64 d, .int .i64 e, .int .i64 f, .int .i64 v, x] 26 :: .cells (lpv lim) 23 :: rest) (hlow : m.all (MO.low m.length) = true) :
  a0e T (n + 2) 74 [.int .i64 i, .ref σ.length 0, .ref (σ.length + 1) 0] m = some (.mp m.length, m ++ [.mq (a0o lim ei) 0]) := by
 obtain ⟨ri, hri, hei⟩ := hr.at hi
 have hof := c4h hT n hei h1 h2 h3 hl hlow
 have hloc := a3z (off := 0) hx hri
 obtain ⟨x1, x2, x3⟩ := a0y hx
 have hlen := hr.length
 have hil := (Qj.1 hi).1
 have g0 : m[σ.length]? = some (.cells [.int .i64 op, .int .i64 a, .int .i64 b, .int .i64 c, .int .i64 d, .int .i64 e, .int .i64 f, .int .i64 v, x] 26) := by rw [hm]; exact at0 _ _ _
 have g1 : m[σ.length + 1]? = some (.cells (lpv lim) 23) := by rw [hm]; exact at1 _ _ _ _
 obtain ⟨l0, l1, l2, l3, l4, l5, rfl⟩ := a1V (a9I hl).1
 obtain ⟨op', a', b', c', d', e', f', v', l'⟩ := ei
 simp only [IsE] at hei
 obtain ⟨y, rows', rfl, hy, hl'⟩ := hei
 obtain ⟨y1, y2, y3⟩ := a0y hy
 simp only [lpv, Q3, Q6] at g1 hof
 have q1 : (leB 0 (i : Int) && ltB (i : Int) (rows.length : Int)) = true := by simp [leB, ltB]; omega
 rw [a0e, hT1]
 simp only [Q4, Sys.run]
 show ((a0i [.sh (.one (.int .i64)), .ptr, .ptr] _).bind _) = _
 simp only [a0i, a0d, a0c, Qd, Q4, Q2, Q1, Q0, if_true, PV.isPtr]
 show (PT.ev _ a5P _).bind _ = _
 simp -implicitDefEqProofs only [a5P, ↓reduceIte,eq_self,ξ1,ξ2,ξ3,ξ4,ξ5,ξ6,ξ7,ξ8,ξ9,ξa,ξb,ξc,ξd,ξe,ξf,ξg,ξh,Nat.reduceAdd,ξi,if_true,if_false,ξl,ξm,ξn,ξo,ξp,ξq,ξr,ξs,ξt,ξu,ξv,ξw,ξx,ξy,ξz,ξA,ξB,ξC,ξD,ξE, g0, g1, hloc, hof, a0k, or_true, x1, x2, x3, y3, q1, MO.list, true_or, c9G, c9j]
end Go.Proofs.Ythmkfeiapdbojaa
set_option maxRecDepth 100000
namespace Go.Proofs.Ythmkfeiapdbojaa
open Go.Sx Go.Kv
theorem a8s (N : Nat) : Ext (a3c N) := by
 intro f S h
 unfold a3c
 rw [if_neg (by rintro rfl; cases h), if_neg (by rintro rfl; cases h)]
 unfold c3D
 rw [if_neg (by rintro rfl; cases h)]
 exact b6o f S h
theorem a7I (σ : List MO) (x y z : MO) (l : List MO) : (σ ++ x :: y :: z :: l)[σ.length + 2]? = some z := by rw [Qg (by omega)]; simp
theorem b4Q (σ : List MO) (x y z z' : MO) (l : List MO) : (σ ++ x :: y :: z :: l).set (σ.length + 2) z' = σ ++ x :: y :: z' :: l := by rw [Qk _ _ (by omega)]; simp
theorem b5C (σ : List MO) (x y z u : MO) (l : List MO) : (σ ++ x :: y :: z :: u :: l)[σ.length + 3]? = some u := by rw [Qg (by omega)]; simp
theorem c3N (σ : List MO) (x y z u t : MO) (l : List MO) : (σ ++ x :: y :: z :: u :: t :: l)[σ.length + 4]? = some t := by rw [Qg (by omega)]; simp
theorem c7d (σ : List MO) (x y z u t t' : MO) (l : List MO) : (σ ++ x :: y :: z :: u :: t :: l).set (σ.length + 4) t' = σ ++ x :: y :: z :: u :: t' :: l := by rw [Qk _ _ (by omega)]; simp
abbrev a3B (op a b c d e f v : Int) (x : PV) : List PV := [.int .i64 op, .int .i64 a, .int .i64 b, .int .i64 c, .int .i64 d, .int .i64 e, .int .i64 f, .int .i64 v, x]
abbrev a3f (l0 l1 l2 l3 l4 l5 : Int) : List PV := [.int .i64 l0, .int .i64 l1, .int .i64 l2, .int .i64 l3, .int .i64 l4, .int .i64 l5]
def b7R (σ : List MO) (kv : KV) (r' : PV) (σ' : List MO) : Prop := ∃ (j : Nat) (kv1 : KV) (v1 : Nat) (rest : List MO), r' = .mp j /\ σ' = σ ++ rest /\ σ.length <= j /\ σ'[j]? = some (.mq kv1 v1) /\ kv1.Perm kv
theorem c7X {Φ : Fns} {R : Res -> Prop} {op a b c d e f v l0 l1 l2 l3 l4 l5 : Int} {x : PV} {σ : List MO} (K : PT)
  (h : K.wp Φ { i := [op, a, b, c, d, e, f, v, l0, l1, l2, l3, l4, l5], b := [], v := [x, .ref σ.length 0, .ref (σ.length + 1) 0, .mp (σ.length + 2)], m := σ ++ .cells (a3B op a b c d e f v x) 26 :: .cells (a3f l0 l1 l2 l3 l4 l5) 23 :: [.mq [] 0], k := σ.length } R) :
  (PT.newM [(.int .i64 (.a 0)), (.int .i64 (.a 1)), (.int .i64 (.a 2)), (.int .i64 (.a 3)), (.int .i64 (.a 4)), (.int .i64 (.a 5)), (.int .i64 (.a 6)), (.int .i64 (.a 7)), (.va 0)] 26
   (.newM [(.int .i64 (.a 8)), (.int .i64 (.a 9)), (.int .i64 (.a 10)), (.int .i64 (.a 11)), (.int .i64 (.a 12)), (.int .i64 (.a 13))] 23 (.mkQ K))).wp Φ
   { i := [op, a, b, c, d, e, f, v, l0, l1, l2, l3, l4, l5], b := [], v := [x], m := σ, k := σ.length } R := by
 refine ⟨_, rfl, _, rfl, ?_⟩
 simp only [PT.wp, Qt, Q8, Qe, Qf, Q0, Q1, Nat.zero_add]
 exact h
theorem c2C {N n : Nat} {op a b c d e f v l0 l1 l2 l3 l4 l5 : Int} {x : PV} {σ : List MO} (hx3 : x.one = true) {R : PV -> List MO -> Prop} {K : PT}
  (hs : ∃ k1 k2 k3, a6Q = .newM k1 26 (.newM k2 23 (.mkQ (.load false (.pa 1 0) k3 K))))
  (h : K.wp (a0e (a3c N) 9) { i := [op, a, b, c, d, e, f, v, l0, l1, l2, l3, l4, l5, op], b := [], v := [x, .ref σ.length 0, .ref (σ.length + 1) 0, .mp (σ.length + 2)], m := σ ++ .cells (a3B op a b c d e f v x) 26 :: .cells (a3f l0 l1 l2 l3 l4 l5) 23 :: [.mq [] 0], k := σ.length }
   (fun | .ret r σ => R r σ | .jump q ρ => valuation_of_S.loopD (a0e (a3c N) 9) n q ρ R)) :
  valuation_of_S.runD (a0e (a3c N) 9) n [.agg (a3B op a b c d e f v x), .agg (a3f l0 l1 l2 l3 l4 l5)] σ R := by
 refine ⟨([op, a, b, c, d, e, f, v, l0, l1, l2, l3, l4, l5], [], [x]), ?_, ?_⟩
 ·show a0i [.sh (.agg [_, _, _, _, _, _, _, _, _]), .sh (.agg [_, _, _, _, _, _])] _ = _
  simp only [a0i, a0d, a0c, Qd, Q4, Q2, Q1, Q0, if_true, hx3]
 ·refine c7X _ ?_
  refine a1Y rfl (a2x (at0 _ _ _) rfl) rfl ?_
  obtain ⟨k1, k2, k3, hs⟩ := hs
  unfold a6Q at hs
  simp only [PT.newM.injEq, PT.mkQ.injEq, PT.load.injEq] at hs
  obtain ⟨_, _, _, _, _, _, _, hK⟩ := hs
  rw [hK]
  exact h
end Go.Proofs.Ythmkfeiapdbojaa
set_option maxRecDepth 100000
namespace Go.Proofs.Ythmkfeiapdbojaa
open Go.Sx Go.Kv
section
variable {N n : Nat} {op a b c d e f v l0 l1 l2 l3 l4 l5 : Int} {l : List Ex} {x : PV} {rows : List (List PV)} {σ : List MO}
theorem c7K (hx3 : x.one = true) (hop : op = 1) (R : PV -> List MO -> Prop)
  (hR : ∀ v1, R (.mp (σ.length + 2)) (σ ++ .cells (a3B op a b c d e f v x) 26 :: .cells (a3f l0 l1 l2 l3 l4 l5) 23 :: [MO.mq (a2q [l0, l1, l2, l3, l4, l5] [] [a, b, c, d, e, f] v) v1])) :
  valuation_of_S.runD (a0e (a3c N) 9) n [.agg (a3B op a b c d e f v x), .agg (a3f l0 l1 l2 l3 l4 l5)] σ R := by
 refine c2C hx3 ⟨_, _, _, rfl⟩ ?_
 refine a2a rfl (by subst hop; rfl) ?_
 refine a1Y rfl (a2x (at1 _ _ _ _) rfl) rfl ?_
 refine a1Y rfl (a2x (at0 _ _ _) rfl) rfl ?_
 refine a1Y rfl (a2x (at0 _ _ _) rfl) rfl ?_
 obtain ⟨v1, hr⟩ := a6K (a8s N) 6 (σ ++ .cells (a3B op a b c d e f v x) 26 :: .cells (a3f l0 l1 l2 l3 l4 l5) 23 :: [MO.mq [] 0]) (a7I _ _ _ _ _) rfl (lim := [l0, l1, l2, l3, l4, l5]) (b := [a, b, c, d, e, f]) rfl rfl v
 refine a1g rfl hr rfl ?_
 refine a8g rfl ?_
 have := hR v1
 rw [<- b4Q σ _ _ (MO.mq [] 0)] at this
 exact this
theorem c6y {row l : List PV} (T T' : Nat) (hlow : σ.all (MO.low σ.length) = true) (hr : PV.lows (σ.length + 3) row = true) (hl : PV.lows (σ.length + 3) l = true) (w : KV) (v1 : Nat) :
  (σ ++ .cells row T :: .cells l T' :: [MO.mq w v1]).all (MO.low (σ ++ .cells row T :: .cells l T' :: [MO.mq w v1]).length) = true := by
 have he : (σ ++ .cells row T :: .cells l T' :: [MO.mq w v1]).length = σ.length + 3 := by simp
 rw [he, List.all_append, Qh, Qh, Qh, List.all_nil]
 simp only [MO.low, hr, hl, Qq, Bool.and_true]
 rw [List.all_eq_true] at hlow ⊢
 exact fun o ho => MO.low_mono (by omega) (hlow o ho)
theorem c2j (k : Nat) : ∀ z : List Int, PV.lows k (lpv z) = true
 | [] => rfl
 | y :: z => by
  have := c2j k z
  unfold lpv at *
  simp only [Q3, PV.lows, PV.low, this, Qq]
theorem c1l (hx : x.rowsOf 9 = some rows) (hr : a1e l rows) (hs : a1P l < N) (h4 : a1P l < 400) (hok : a2J l = true) (hl : a3M [l0, l1, l2, l3, l4, l5] = true) {kv : KV} :
  ∀ (n i : Nat) (w : KV) (v1 : Nat) (rest m : List MO), l.length < i + n -> m = σ ++ .cells (a3B op a b c d e f v x) 26 :: .cells (a3f l0 l1 l2 l3 l4 l5) 23 :: .mq w v1 :: rest -> m.all (MO.low m.length) = true -> i <= l.length ->
   KvOk [l0, l1, l2, l3, l4, l5] w -> ((a1i [l0, l1, l2, l3, l4, l5] l).drop i).foldl (raises [l0, l1, l2, l3, l4, l5]) w = kv ->
   valuation_of_S.loopD (a0e (a3c N) 9) n 0 { i := [x.len, i], b := [], v := [.ref (σ.length + 1) 0, .mp (σ.length + 2), .ref σ.length 0], m := m, k := σ.length } (b7R σ kv) := by
 obtain ⟨x1, x2, x3⟩ := a0y hx
 have hlen := hr.length
 intro n
 induction n with
 | zero => intro i w v1 rest m h1 _ _ h2; omega
 | succ n ih =>
  intro i w v1 rest m hin hm hlow hil gw hkv
  refine ⟨_, rfl, ?_⟩
  show PT.wp _ a9E _ _
  by_cases hlt : i < l.length
  ·obtain ⟨ei, hei⟩ : ∃ e1, l[i]? = some e1 := ⟨_, QE hlt⟩
   have hsz := a2t (QH hei)
   have harg := fun n => c0E (T := a3c N) rfl rfl n hx hr hl hei (by omega) (by omega) (a5L hok hei) hm hlow
   have gk := a2i [l0, l1, l2, l3, l4, l5] ei (a5L hok hei)
   have hlow2 := a6H (o := .mq (a0o [l0, l1, l2, l3, l4, l5] ei) 0) hlow rfl
   have hm2 : m ++ [MO.mq (a0o [l0, l1, l2, l3, l4, l5] ei) 0] = σ ++ .cells (a3B op a b c d e f v x) 26 :: .cells (a3f l0 l1 l2 l3 l4 l5) 23 :: .mq w v1 :: (rest ++ [MO.mq (a0o [l0, l1, l2, l3, l4, l5] ei) 0]) := by rw [hm]; simp
   have q0 : (m ++ [MO.mq (a0o [l0, l1, l2, l3, l4, l5] ei) 0])[σ.length + 2]? = some (MO.mq w v1) := by rw [hm2]; exact a7I _ _ _ _ _
   have qne : σ.length + 2 ≠ m.length := by rw [hm]; simp
   have hmrg := b2z (T := a3c N) rfl 8 (σ := m ++ [MO.mq (a0o [l0, l1, l2, l3, l4, l5] ei) 0]) q0 (at0 m _ []) qne hl gw gk hlow2
   have hnext := ih (i + 1) (raises [l0, l1, l2, l3, l4, l5] w (a0o [l0, l1, l2, l3, l4, l5] ei)) (v1 + 1) (rest ++ [MO.mq (a0o [l0, l1, l2, l3, l4, l5] ei) 0]) ((m ++ [MO.mq (a0o [l0, l1, l2, l3, l4, l5] ei) 0]).set (σ.length + 2) (MO.mq (raises [l0, l1, l2, l3, l4, l5] w (a0o [l0, l1, l2, l3, l4, l5] ei)) (v1 + 1)))
    (by omega) (by rw [hm2, b4Q]) (by rw [Qs]; exact c2s hlow2 rfl) (by omega) (a2O gw gk)
    (by rw [<- hkv, QD (i := i), a5Z, hei]; simp)
   have hcast : ((i + 1 : Nat) : Int) = (i : Int) + 1 := by omega
   rw [hcast] at hnext
   have g0 : m[σ.length]? = some (.cells (a3B op a b c d e f v x) 26) := by rw [hm]; exact at0 _ _ _
   have g1 : m[σ.length + 1]? = some (.cells (a3f l0 l1 l2 l3 l4 l5) 23) := by rw [hm]; exact at1 _ _ _ _
   have g1' : (m ++ [MO.mq (a0o [l0, l1, l2, l3, l4, l5] ei) 0])[σ.length + 1]? = some (.cells (a3f l0 l1 l2 l3 l4 l5) 23) := atL g1 _
   have hneed : (leB (-9223372036854775808) ((i : Int) + 1) && leB ((i : Int) + 1) 9223372036854775807) = true := by
    have := a2E l
    simp [leB]; omega
   refine a2a rfl (by show ltB (i : Int) x.len = true; rw [x1]; simp [ltB]; omega) ?_
   have harg7 : a0e (a3c N) 9 74 [.int .i64 i, .ref σ.length 0, .ref (σ.length + 1) 0] m = _ := harg 7
   refine b4H ?_ ?_
   ·refine a1Y rfl (a2x g1 rfl) rfl ?_
    refine a1g (aa := [.int .i64 i, .ref σ.length 0, .ref (σ.length + 1) 0]) (r := .mp m.length) (σ := m ++ [MO.mq (a0o [l0, l1, l2, l3, l4, l5] ei) 0]) (z := ([], [], [.mp m.length])) ?_ harg7 ?_ ?_
    ·rfl
    ·rfl
    refine a1g (aa := [.mp (σ.length + 2), .agg (lpv [l0, l1, l2, l3, l4, l5]), .mp m.length]) (r := .tup []) (σ := (m ++ [MO.mq (a0o [l0, l1, l2, l3, l4, l5] ei) 0]).set (σ.length + 2) (MO.mq (raises [l0, l1, l2, l3, l4, l5] w (a0o [l0, l1, l2, l3, l4, l5] ei)) (v1 + 1))) (z := ([], [], [])) ?_ hmrg ?_ ?_
    ·rfl
    ·rfl
    simp only [PEnv.push, Q0, Q1, Q2]
    simp only [PT.wp, ↓reduceIte,eq_self,ξ1,ξ2,ξ3,ξ4,ξ5,ξ6,ξ7,ξ8,ξ9,ξa,ξb,ξc,ξd,ξe,ξf,ξg,ξh,Nat.reduceAdd,ξi,if_true,if_false,ξl,ξm,ξn,ξo,ξp,ξq,ξr,ξs,ξt,ξu,ξv,ξw,ξx,ξy,ξz,ξA,ξB,ξC,ξD,ξE, hneed, exists_eq_left', Qb]
    exact hnext
   ·refine a1g (aa := [.int .i64 i, .ref σ.length 0, .ref (σ.length + 1) 0]) (r := .mp m.length) (σ := m ++ [MO.mq (a0o [l0, l1, l2, l3, l4, l5] ei) 0]) (z := ([], [], [.mp m.length])) ?_ harg7 ?_ ?_
    ·rfl
    ·rfl
    refine a1Y rfl (a2x g1' rfl) rfl ?_
    refine a1g (aa := [.mp (σ.length + 2), .agg (lpv [l0, l1, l2, l3, l4, l5]), .mp m.length]) (r := .tup []) (σ := (m ++ [MO.mq (a0o [l0, l1, l2, l3, l4, l5] ei) 0]).set (σ.length + 2) (MO.mq (raises [l0, l1, l2, l3, l4, l5] w (a0o [l0, l1, l2, l3, l4, l5] ei)) (v1 + 1))) (z := ([], [], [])) ?_ hmrg ?_ ?_
    ·rfl
    ·rfl
    simp only [PEnv.push, Q0, Q1, Q2]
    simp only [PT.wp, ↓reduceIte,eq_self,ξ1,ξ2,ξ3,ξ4,ξ5,ξ6,ξ7,ξ8,ξ9,ξa,ξb,ξc,ξd,ξe,ξf,ξg,ξh,Nat.reduceAdd,ξi,if_true,if_false,ξl,ξm,ξn,ξo,ξp,ξq,ξr,ξs,ξt,ξu,ξv,ξw,ξx,ξy,ξz,ξA,ξB,ξC,ξD,ξE, hneed, exists_eq_left', Qb]
    exact hnext
  ·have hi : i = l.length := by omega
   subst hi
   refine a1R rfl (by show ltB (l.length : Int) x.len = false; rw [x1]; simp [ltB]; omega) ?_
   refine a8g rfl ?_
   have hk : (a1i [l0, l1, l2, l3, l4, l5] l).drop l.length = [] := by
    rw [QV]
    have := a5Z [l0, l1, l2, l3, l4, l5] l l.length
    rw [QW (by omega : l.length <= l.length), QX] at this
    exact QY.1 this
   rw [hk] at hkv
   refine ⟨_, w, v1, _, rfl, hm, by omega, by rw [hm]; exact a7I _ _ _ _ _, ?_⟩
   rw [<- hkv]; exact .refl _
end
end Go.Proofs.Ythmkfeiapdbojaa
set_option maxRecDepth 100000
namespace Go.Proofs.Ythmkfeiapdbojaa
open Go.Sx Go.Kv
section
variable {N n : Nat} {op a b c d e f v l0 l1 l2 l3 l4 l5 : Int} {l : List Ex} {x : PV} {rows : List (List PV)} {σ : List MO}
theorem c3k (hx : x.rowsOf 9 = some rows) (hr : a1e l rows) (hs : a1P l < N) (h4 : a1P l < 400) (hok : a2J l = true) (hl : a3M [l0, l1, l2, l3, l4, l5] = true) {kv : KV} :
  ∀ (n i j : Nat) (w : KV) (v1 : Nat) (rest m : List MO), l.length < i + n -> m = σ ++ .cells (a3B op a b c d e f v x) 26 :: .cells (a3f l0 l1 l2 l3 l4 l5) 23 :: rest -> σ.length <= j -> m[j]? = some (.mq w v1) -> m.all (MO.low m.length) = true -> i <= l.length ->
   KvOk [l0, l1, l2, l3, l4, l5] w -> ((a1i [l0, l1, l2, l3, l4, l5] l).drop i).foldl (a2R [l0, l1, l2, l3, l4, l5]) w = kv ->
   valuation_of_S.loopD (a0e (a3c N) 9) n 1 { i := [x.len, i], b := [], v := [.ref (σ.length + 1) 0, .mp j, .ref σ.length 0], m := m, k := σ.length } (b7R σ kv) := by
 obtain ⟨x1, x2, x3⟩ := a0y hx
 have hlen := hr.length
 intro n
 induction n with
 | zero => intro i j w v1 rest m h1 _ _ _ _ h2; omega
 | succ n ih =>
  intro i j w v1 rest m hin hm hj hjg hlow hil gw hkv
  refine ⟨_, rfl, ?_⟩
  show PT.wp _ a9O _ _
  by_cases hlt : i < l.length
  ·obtain ⟨ei, hei⟩ : ∃ e1, l[i]? = some e1 := ⟨_, QE hlt⟩
   have hsz := a2t (QH hei)
   have harg := fun n => c0E (T := a3c N) rfl rfl n hx hr hl hei (by omega) (by omega) (a5L hok hei) hm hlow
   have gk := a2i [l0, l1, l2, l3, l4, l5] ei (a5L hok hei)
   have hlow2 := a6H (o := .mq (a0o [l0, l1, l2, l3, l4, l5] ei) 0) hlow rfl
   have hsum := c8D (T := a3c N) rfl 8 (σ := m ++ [MO.mq (a0o [l0, l1, l2, l3, l4, l5] ei) 0]) (atL hjg _) (at0 m _ []) hl gw gk hlow2
   have hlow3 := a6H (o := .mq (a2R [l0, l1, l2, l3, l4, l5] w (a0o [l0, l1, l2, l3, l4, l5] ei)) 0) hlow2 rfl
   have hnext := ih (i + 1) (m ++ [MO.mq (a0o [l0, l1, l2, l3, l4, l5] ei) 0]).length (a2R [l0, l1, l2, l3, l4, l5] w (a0o [l0, l1, l2, l3, l4, l5] ei)) 0 (rest ++ [MO.mq (a0o [l0, l1, l2, l3, l4, l5] ei) 0] ++ [MO.mq (a2R [l0, l1, l2, l3, l4, l5] w (a0o [l0, l1, l2, l3, l4, l5] ei)) 0])
    (m ++ [MO.mq (a0o [l0, l1, l2, l3, l4, l5] ei) 0] ++ [MO.mq (a2R [l0, l1, l2, l3, l4, l5] w (a0o [l0, l1, l2, l3, l4, l5] ei)) 0])
    (by omega) (by rw [hm]; simp) (by rw [hm]; simp) (at0 _ _ []) hlow3 (by omega) (b1n gw gk)
    (by rw [<- hkv, QD (i := i), a5Z, hei]; simp)
   have hcast : ((i + 1 : Nat) : Int) = (i : Int) + 1 := by omega
   rw [hcast] at hnext
   have g0 : m[σ.length]? = some (.cells (a3B op a b c d e f v x) 26) := by rw [hm]; exact at0 _ _ _
   have g1 : m[σ.length + 1]? = some (.cells (a3f l0 l1 l2 l3 l4 l5) 23) := by rw [hm]; exact at1 _ _ _ _
   have g1' : (m ++ [MO.mq (a0o [l0, l1, l2, l3, l4, l5] ei) 0])[σ.length + 1]? = some (.cells (a3f l0 l1 l2 l3 l4 l5) 23) := atL g1 _
   have hneed : (leB (-9223372036854775808) ((i : Int) + 1) && leB ((i : Int) + 1) 9223372036854775807) = true := by
    have := a2E l
    simp [leB]; omega
   refine a2a rfl (by show ltB (i : Int) x.len = true; rw [x1]; simp [ltB]; omega) ?_
   have harg7 : a0e (a3c N) 9 74 [.int .i64 i, .ref σ.length 0, .ref (σ.length + 1) 0] m = _ := harg 7
   refine b4H ?_ ?_
   ·refine a1Y rfl (a2x g1 rfl) rfl ?_
    refine a1g (aa := [.int .i64 i, .ref σ.length 0, .ref (σ.length + 1) 0]) (r := .mp m.length) (σ := m ++ [MO.mq (a0o [l0, l1, l2, l3, l4, l5] ei) 0]) (z := ([], [], [.mp m.length])) ?_ harg7 ?_ ?_
    ·rfl
    ·rfl
    refine a1g (aa := [.agg (lpv [l0, l1, l2, l3, l4, l5]), .mp j, .mp m.length]) (r := .mp (m ++ [MO.mq (a0o [l0, l1, l2, l3, l4, l5] ei) 0]).length) (σ := m ++ [MO.mq (a0o [l0, l1, l2, l3, l4, l5] ei) 0] ++ [MO.mq (a2R [l0, l1, l2, l3, l4, l5] w (a0o [l0, l1, l2, l3, l4, l5] ei)) 0]) (z := ([], [], [.mp (m ++ [MO.mq (a0o [l0, l1, l2, l3, l4, l5] ei) 0]).length])) ?_ hsum ?_ ?_
    ·rfl
    ·rfl
    simp only [PEnv.push, Q0, Q1, Q2]
    simp only [PT.wp, ↓reduceIte,eq_self,ξ1,ξ2,ξ3,ξ4,ξ5,ξ6,ξ7,ξ8,ξ9,ξa,ξb,ξc,ξd,ξe,ξf,ξg,ξh,Nat.reduceAdd,ξi,if_true,if_false,ξl,ξm,ξn,ξo,ξp,ξq,ξr,ξs,ξt,ξu,ξv,ξw,ξx,ξy,ξz,ξA,ξB,ξC,ξD,ξE, hneed, exists_eq_left', Qb]
    exact hnext
   ·refine a1g (aa := [.int .i64 i, .ref σ.length 0, .ref (σ.length + 1) 0]) (r := .mp m.length) (σ := m ++ [MO.mq (a0o [l0, l1, l2, l3, l4, l5] ei) 0]) (z := ([], [], [.mp m.length])) ?_ harg7 ?_ ?_
    ·rfl
    ·rfl
    refine a1Y rfl (a2x g1' rfl) rfl ?_
    refine a1g (aa := [.agg (lpv [l0, l1, l2, l3, l4, l5]), .mp j, .mp m.length]) (r := .mp (m ++ [MO.mq (a0o [l0, l1, l2, l3, l4, l5] ei) 0]).length) (σ := m ++ [MO.mq (a0o [l0, l1, l2, l3, l4, l5] ei) 0] ++ [MO.mq (a2R [l0, l1, l2, l3, l4, l5] w (a0o [l0, l1, l2, l3, l4, l5] ei)) 0]) (z := ([], [], [.mp (m ++ [MO.mq (a0o [l0, l1, l2, l3, l4, l5] ei) 0]).length])) ?_ hsum ?_ ?_
    ·rfl
    ·rfl
    simp only [PEnv.push, Q0, Q1, Q2]
    simp only [PT.wp, ↓reduceIte,eq_self,ξ1,ξ2,ξ3,ξ4,ξ5,ξ6,ξ7,ξ8,ξ9,ξa,ξb,ξc,ξd,ξe,ξf,ξg,ξh,Nat.reduceAdd,ξi,if_true,if_false,ξl,ξm,ξn,ξo,ξp,ξq,ξr,ξs,ξt,ξu,ξv,ξw,ξx,ξy,ξz,ξA,ξB,ξC,ξD,ξE, hneed, exists_eq_left', Qb]
    exact hnext
  ·have hi : i = l.length := by omega
   subst hi
   refine a1R rfl (by show ltB (l.length : Int) x.len = false; rw [x1]; simp [ltB]; omega) ?_
   refine a8g rfl ?_
   have hk : (a1i [l0, l1, l2, l3, l4, l5] l).drop l.length = [] := by
    rw [QV]
    have := a5Z [l0, l1, l2, l3, l4, l5] l l.length
    rw [QW (by omega : l.length <= l.length), QX] at this
    exact QY.1 this
   rw [hk] at hkv
   refine ⟨j, w, v1, _, rfl, hm, hj, hjg, ?_⟩
   rw [<- hkv]; exact .refl _
end
end Go.Proofs.Ythmkfeiapdbojaa
set_option maxRecDepth 100000
namespace Go.Proofs.Ythmkfeiapdbojaa
open Go.Sx Go.Kv
section
variable {N n : Nat} {op a b c d e f v l0 l1 l2 l3 l4 l5 : Int} {x : PV} {σ : List MO} {kx : KV}
theorem b9e (gx : KvOk [l0, l1, l2, l3, l4, l5] kx) :
  ∀ (n : Nat) (seen : List (List Int)) (es : KV) (v1 : Nat), Went kx seen es -> kx.length < seen.length + n ->
   valuation_of_S.loopD (a0e (a3c N) 9) n 3 { i := [], b := [], v := [.ref σ.length 0, .ref (σ.length + 1) 0, .mp (σ.length + 2), .ref (σ.length + 4) 0], m := σ ++ .cells (a3B op a b c d e f v x) 26 :: .cells (a3f l0 l1 l2 l3 l4 l5) 23 :: .mq (raises [l0, l1, l2, l3, l4, l5] [] (es.map fun p => (p.1, mnI p.2 v))) v1 :: .mq kx 0 :: [.it (σ.length + 3) 0 seen], k := σ.length }
    (b7R σ (a7r [l0, l1, l2, l3, l4, l5] v kx)) := by
 have x6 : ∀ p ∈ kx, p.1.length = 6 := a4d gx rfl
 intro n
 induction n with
 | zero => intro seen es v1 hw h; have := hw.len gx.nd; omega
 | succ n ih =>
  intro seen es v1 hw h
  refine ⟨_, rfl, ?_⟩
  show PT.wp _ a9R _ _
  refine Go.Sx.wp_next rfl (c3N _ _ _ _ _ _ _) (b5C _ _ _ _ _ _) (a2G x6) ?_ ?_
  ·intro hleft
   refine a8g rfl ?_
   refine ⟨σ.length + 2, _, v1, _, rfl, rfl, by omega, a7I _ _ _ _ _, ?_⟩
   refine a7e (.nil _) (.refl _) ((hw.over gx.nd hleft).map _) fun p hp => ?_
   obtain ⟨q, hq, rfl⟩ := Qa.1 hp
   exact (gx.all q (hw.sub q hq)).2.2.2
  ·intro p hp
   obtain ⟨p1, p2⟩ := a4i.1 hp
   have hw' := hw.next hp
   have hk6 := x6 p p1
   obtain ⟨pk, pv⟩ := p
   simp only at hw' p1 p2 hk6
   have hlook := (Kv.lookQ_some gx.nd).2 p1
   obtain ⟨b0, b1, b2, b3, b4, b5, rfl⟩ := a1V hk6
   obtain ⟨v2, hr⟩ := a6K (a8s N) 6 (σ ++ .cells (a3B op a b c d e f v x) 26 :: .cells (a3f l0 l1 l2 l3 l4 l5) 23 :: .mq (raises [l0, l1, l2, l3, l4, l5] [] (es.map fun p => (p.1, mnI p.2 v))) v1 :: .mq kx 0 :: [MO.it (σ.length + 3) 0 (seen ++ [[b0, b1, b2, b3, b4, b5]])]) (a7I _ _ _ _ _)
    (a2G (a4p rfl (by simp) fun p hp => by obtain ⟨q, hq, rfl⟩ := Qa.1 hp; exact x6 q (hw.sub q hq))) (lim := [l0, l1, l2, l3, l4, l5]) (b := [b0, b1, b2, b3, b4, b5]) rfl rfl (mnI pv v)
   have hnext := ih (seen ++ [[b0, b1, b2, b3, b4, b5]]) (es ++ [([b0, b1, b2, b3, b4, b5], pv)]) v2 hw' (by simp; omega)
   rw [QC, Q3, Q6, a7i] at hnext
   rw [b4Q] at hr
   simp only [c7d, PEnv.push, Q0, Q1, Q2]
   refine b5X rfl (c3N _ _ _ _ _ _ _) (b5C _ _ _ _ _ _) hlook rfl ?_
   simp only [PEnv.push, Q0, Q1, Q2]
   refine a1Y rfl (a2x (at1 _ _ _ _) rfl) rfl ?_
   refine a1Y rfl (a2x (at0 _ _ _) rfl) rfl ?_
   refine a1g rfl hr rfl ?_
   exact a5d rfl rfl hnext
set_option maxHeartbeats 2000000 in
theorem b9m (gx : KvOk [l0, l1, l2, l3, l4, l5] kx) (hw0 : nnL [a, b, c, d, e, f] = true) (hv0 : 0 <= v) (hv1 : v <= 1000000) {w0 : KV} (gw : KvOk [l0, l1, l2, l3, l4, l5] w0) :
  ∀ (n : Nat) (seen : List (List Int)) (es : KV) (v1 : Nat), Went kx seen es -> kx.length < seen.length + n ->
   valuation_of_S.loopD (a0e (a3c N) 9) n 2 { i := [], b := [], v := [.ref σ.length 0, .ref (σ.length + 1) 0, .mp (σ.length + 2), .ref (σ.length + 4) 0], m := σ ++ .cells (a3B op a b c d e f v x) 26 :: .cells (a3f l0 l1 l2 l3 l4 l5) 23 :: .mq (raises [l0, l1, l2, l3, l4, l5] w0 (es.map fun p => (a2b p.1 [a, b, c, d, e, f], p.2 + v))) v1 :: .mq kx 0 :: [.it (σ.length + 3) 0 seen], k := σ.length }
    (b7R σ (raises [l0, l1, l2, l3, l4, l5] w0 (kx.map fun p => (a2b p.1 [a, b, c, d, e, f], p.2 + v)))) := by
 have x6 : ∀ p ∈ kx, p.1.length = 6 := a4d gx rfl
 have w6 : ∀ p ∈ w0, p.1.length = 6 := a4d gw rfl
 intro n
 induction n with
 | zero => intro seen es v1 hw h; have := hw.len gx.nd; omega
 | succ n ih =>
  intro seen es v1 hw h
  refine ⟨_, rfl, ?_⟩
  show PT.wp _ a9K _ _
  refine Go.Sx.wp_next rfl (c3N _ _ _ _ _ _ _) (b5C _ _ _ _ _ _) (a2G x6) ?_ ?_
  ·intro hleft
   refine a8g rfl ?_
   refine ⟨σ.length + 2, _, v1, _, rfl, rfl, by omega, a7I _ _ _ _ _, ?_⟩
   refine a7e gw (.refl _) ((hw.over gx.nd hleft).map _) fun p hp => ?_
   obtain ⟨q, hq, rfl⟩ := Qa.1 hp
   exact b4O (gx.all q (hw.sub q hq)).2.2.2 hw0
  ·intro p hp
   obtain ⟨p1, p2⟩ := a4i.1 hp
   have hw' := hw.next hp
   have hk6 := x6 p p1
   have hpv := gx.all p p1
   obtain ⟨pk, pv⟩ := p
   simp only at hw' p1 p2 hk6 hpv
   have hlook := (Kv.lookQ_some gx.nd).2 p1
   obtain ⟨b0, b1, b2, b3, b4, b5, rfl⟩ := a1V hk6
   have hj := c7B (a8s N) 8 (σ ++ .cells (a3B op a b c d e f v x) 26 :: .cells (a3f l0 l1 l2 l3 l4 l5) 23 :: .mq (raises [l0, l1, l2, l3, l4, l5] w0 (es.map fun p => (a2b p.1 [a, b, c, d, e, f], p.2 + v))) v1 :: .mq kx 0 :: [MO.it (σ.length + 3) 0 (seen ++ [[b0, b1, b2, b3, b4, b5]])]) (a := [b0, b1, b2, b3, b4, b5]) (b := [a, b, c, d, e, f]) rfl rfl
   obtain ⟨v2, hr⟩ := a6K (a8s N) 6 (σ ++ .cells (a3B op a b c d e f v x) 26 :: .cells (a3f l0 l1 l2 l3 l4 l5) 23 :: .mq (raises [l0, l1, l2, l3, l4, l5] w0 (es.map fun p => (a2b p.1 [a, b, c, d, e, f], p.2 + v))) v1 :: .mq kx 0 :: [MO.it (σ.length + 3) 0 (seen ++ [[b0, b1, b2, b3, b4, b5]])]) (a7I _ _ _ _ _)
    (a2G (a4p rfl w6 fun p hp => by obtain ⟨q, hq, rfl⟩ := Qa.1 hp; simp [a2b, x6 q (hw.sub q hq)])) (lim := [l0, l1, l2, l3, l4, l5]) (b := a2b [b0, b1, b2, b3, b4, b5] [a, b, c, d, e, f]) rfl rfl (pv + v)
   have hnext := ih (seen ++ [[b0, b1, b2, b3, b4, b5]]) (es ++ [([b0, b1, b2, b3, b4, b5], pv)]) v2 hw' (by simp; omega)
   rw [QC, Q3, Q6, a7i] at hnext
   rw [b4Q] at hr
   have hneed : (leB (-9223372036854775808) (pv + v) && leB (pv + v) 9223372036854775807) = true := by simp [leB]; omega
   simp only [c7d, PEnv.push, Q0, Q1, Q2]
   refine b5X rfl (c3N _ _ _ _ _ _ _) (b5C _ _ _ _ _ _) hlook rfl ?_
   simp only [PEnv.push, Q0, Q1, Q2]
   generalize hjl : a2b [b0, b1, b2, b3, b4, b5] [a, b, c, d, e, f] = jl at *
   obtain ⟨j0, j1, j2, j3, j4, j5, rfl⟩ := a1V (l := jl) (by rw [<- hjl]; rfl)
   repeat' (first
    | exact a5d rfl rfl hnext
    | refine b4H ?_ ?_
    | (refine a1Y rfl (a2x (at0 _ _ _) rfl) rfl ?_; simp only [PEnv.push, Q0, Q1, Q2])
    | (refine a1Y rfl (a2x (at1 _ _ _ _) rfl) rfl ?_; simp only [PEnv.push, Q0, Q1, Q2])
    | (refine a1g rfl hj rfl ?_; simp only [PEnv.push, Q0, Q1, Q2])
    | (refine a1g rfl hr rfl ?_; simp only [PEnv.push, Q0, Q1, Q2])
    | (rw [PT.wp, if_pos (by simp only [↓reduceIte,eq_self,ξ1,ξ2,ξ3,ξ4,ξ5,ξ6,ξ7,ξ8,ξ9,ξa,ξb,ξc,ξd,ξe,ξf,ξg,ξh,Nat.reduceAdd,ξi,if_true,if_false,ξl,ξm,ξn,ξo,ξp,ξq,ξr,ξs,ξt,ξu,ξv,ξw,ξx,ξy,ξz,ξA,ξB,ξC,ξD,ξE]), if_pos (by simp only [↓reduceIte,eq_self,ξ1,ξ2,ξ3,ξ4,ξ5,ξ6,ξ7,ξ8,ξ9,ξa,ξb,ξc,ξd,ξe,ξf,ξg,ξh,Nat.reduceAdd,ξi,if_true,if_false,ξl,ξm,ξn,ξo,ξp,ξq,ξr,ξs,ξt,ξu,ξv,ξw,ξx,ξy,ξz,ξA,ξB,ξC,ξD,ξE, hneed])]))
end
end Go.Proofs.Ythmkfeiapdbojaa
set_option maxRecDepth 100000
namespace Go.Proofs.Ythmkfeiapdbojaa
open Go.Sx Go.Kv
section
variable {N n : Nat} {op a b c d e f v l0 l1 l2 l3 l4 l5 : Int} {l : List Ex} {x : PV} {rows : List (List PV)} {σ : List MO}
theorem eqF {a b : Int} (h : a ≠ b) : eqB a b = false := by simp [eqB, h]
theorem c9d (r q : List PV) (T T' : Nat) (w : KV) (v1 : Nat) : (σ ++ .cells r T :: .cells q T' :: [MO.mq w v1]).length = σ.length + 3 := by simp
set_option maxHeartbeats 1000000 in
theorem c8F (hx : x.rowsOf 9 = some rows) (hr : a1e l rows) (hs : a1P l < N) (h4 : a1P l < 400) (hok : okX (.node op a b c d e f v l) = true) (hl : a3M [l0, l1, l2, l3, l4, l5] = true) (hlow : σ.all (MO.low σ.length) = true)
  (hn : l.length + ((a1i [l0, l1, l2, l3, l4, l5] l).headD []).length + 3 <= n) :
  valuation_of_S.runD (a0e (a3c N) 9) n [.agg (a3B op a b c d e f v x), .agg (a3f l0 l1 l2 l3 l4 l5)] σ (b7R σ (a0o [l0, l1, l2, l3, l4, l5] (.node op a b c d e f v l))) := by
 obtain ⟨x1, x2, x3⟩ := a0y hx
 simp only [okX, Q5, decide_eq_true_eq, Bool.or_eq_true, QA, decide_eq_false_iff_not] at hok
 obtain ⟨⟨⟨⟨ok1, ok2⟩, ok3⟩, ok4⟩, ok5⟩ := hok
 have hrl := b5O (σ.length + 3) l rows hr
 have hrow : PV.lows (σ.length + 3) (a3B op a b c d e f v x) = true := c2g _ (.node op a b c d e f v l) _ ⟨x, rows, rfl, hx, hr⟩
 have hlow0 := fun w v1 => c6y 26 23 hlow hrow (c2j (σ.length + 3) [l0, l1, l2, l3, l4, l5]) w v1
 have hb : a0c [.val] [x] = some ([], [], [x]) := by simp only [a0c, x3, if_true, Qd]
 by_cases o1 : op = 1
 ·refine c7K x3 o1 _ fun v1 => ⟨σ.length + 2, _, v1, _, rfl, rfl, by omega, a7I _ _ _ _ _, ?_⟩
  simp only [a0o, o1, if_true]; exact .refl _
 refine c2C x3 ⟨_, _, _, rfl⟩ ?_
 refine a1R rfl (eqF o1) ?_
 by_cases o2 : op = 2
 ·refine a2a rfl (by subst o2; rfl) ?_
  refine a1Y rfl (a2x (at0 _ _ _) rfl) hb ?_
  simp only [PEnv.push, Q0, Q1, Q2]
  rw [PT.wp, if_pos (by simp only [↓reduceIte,eq_self,ξ1,ξ2,ξ3,ξ4,ξ5,ξ6,ξ7,ξ8,ξ9,ξa,ξb,ξc,ξd,ξe,ξf,ξg,ξh,Nat.reduceAdd,ξi,if_true,if_false,ξl,ξm,ξn,ξo,ξp,ξq,ξr,ξs,ξt,ξu,ξv,ξw,ξx,ξy,ξz,ξA,ξB,ξC,ξD,ξE]), if_pos (by simp only [↓reduceIte,eq_self,ξ1,ξ2,ξ3,ξ4,ξ5,ξ6,ξ7,ξ8,ξ9,ξa,ξb,ξc,ξd,ξe,ξf,ξg,ξh,Nat.reduceAdd,ξi,if_true,if_false,ξl,ξm,ξn,ξo,ξp,ξq,ξr,ξs,ξt,ξu,ξv,ξw,ξx,ξy,ξz,ξA,ξB,ξC,ξD,ξE, x2])]
  refine a5d rfl rfl ?_
  exact c1l hx hr hs h4 ok5 hl n 0 [] 0 [] _ (by omega) rfl (hlow0 _ _) (by omega) (.nil _) (by simp only [a0o, o2, QZ]; rfl)
 refine a1R rfl (eqF o2) ?_
 by_cases o3 : op = 3
 ·refine a2a rfl (by subst o3; rfl) ?_
  refine a1Y rfl (a2x (at0 _ _ _) rfl) hb ?_
  simp only [PEnv.push, Q0, Q1, Q2]
  rw [PT.wp, if_pos (by simp only [↓reduceIte,eq_self,ξ1,ξ2,ξ3,ξ4,ξ5,ξ6,ξ7,ξ8,ξ9,ξa,ξb,ξc,ξd,ξe,ξf,ξg,ξh,Nat.reduceAdd,ξi,if_true,if_false,ξl,ξm,ξn,ξo,ξp,ξq,ξr,ξs,ξt,ξu,ξv,ξw,ξx,ξy,ξz,ξA,ξB,ξC,ξD,ξE]), if_pos (by simp only [↓reduceIte,eq_self,ξ1,ξ2,ξ3,ξ4,ξ5,ξ6,ξ7,ξ8,ξ9,ξa,ξb,ξc,ξd,ξe,ξf,ξg,ξh,Nat.reduceAdd,ξi,if_true,if_false,ξl,ξm,ξn,ξo,ξp,ξq,ξr,ξs,ξt,ξu,ξv,ξw,ξx,ξy,ξz,ξA,ξB,ξC,ξD,ξE, x2])]
  refine a5d rfl rfl ?_
  exact c3k hx hr hs h4 ok5 hl n 0 (σ.length + 2) [] 0 _ _ (by omega) rfl (by omega) (a7I _ _ _ _ _) (hlow0 _ _) (by omega) (.nil _) (by simp only [a0o, o3, QZ]; rfl)
 refine a1R rfl (eqF o3) ?_
 by_cases o45 : op ≠ 4 /\ op ≠ 5
 ·refine a1R rfl (eqF o45.1) ?_
  refine a1R rfl (eqF o45.2) ?_
  refine a8g rfl ⟨σ.length + 2, [], 0, _, rfl, rfl, by omega, a7I _ _ _ _ _, ?_⟩
  simp only [a0o, o1, o2, o3, o45.1, o45.2, if_false]; exact .refl _
 have hlen : 1 <= l.length := by
  rcases ok4 with h | h
  ·exact absurd h o45
  ·exact h
 obtain ⟨e0, he0⟩ : ∃ e0, l[0]? = some e0 := ⟨_, QE hlen⟩
 have hhd : (a1i [l0, l1, l2, l3, l4, l5] l).headD [] = a0o [l0, l1, l2, l3, l4, l5] e0 := by
  have := a5Z [l0, l1, l2, l3, l4, l5] l 0
  rw [he0] at this
  cases hk : a1i [l0, l1, l2, l3, l4, l5] l with
  | nil => rw [hk] at this; cases this
  | cons y r => rw [hk] at this; simpa using this
 have hsz := a2t (QH he0)
 have gk := a2i [l0, l1, l2, l3, l4, l5] e0 (a5L ok5 he0)
 have harg : a0e (a3c N) 9 74 [.int .i64 0, .ref σ.length 0, .ref (σ.length + 1) 0] (σ ++ .cells (a3B op a b c d e f v x) 26 :: .cells (a3f l0 l1 l2 l3 l4 l5) 23 :: [.mq [] 0]) = _ :=
  c0E (T := a3c N) rfl rfl 7 hx hr hl he0 (by omega) (by omega) (a5L ok5 he0) rfl (hlow0 _ _)
 rw [c9d, Qf, Q0, Q0, Q0, Q1] at harg
 rw [hhd] at hn
 generalize hkx : a0o [l0, l1, l2, l3, l4, l5] e0 = kx at *
 by_cases o4 : op = 4
 ·refine a2a rfl (by subst o4; rfl) ?_
  have hlow1 := a6H (o := .mq kx 0) (hlow0 [] 0) rfl
  rw [Qf, Q0, Q0, Q0, Q1] at hlow1
  have hm := b2z (T := a3c N) rfl 8 (a7I σ (.cells (a3B op a b c d e f v x) 26) (.cells (a3f l0 l1 l2 l3 l4 l5) 23) (.mq [] 0) [.mq kx 0]) (b5C _ _ _ _ _ _) (by omega) hl (.nil _) gk hlow1
  rw [b4Q] at hm
  have g1 := a2O (.nil [l0, l1, l2, l3, l4, l5]) gk
  obtain ⟨v1, hr1⟩ := a6K (a8s N) 6 (σ ++ .cells (a3B op a b c d e f v x) 26 :: .cells (a3f l0 l1 l2 l3 l4 l5) 23 :: .mq (raises [l0, l1, l2, l3, l4, l5] [] kx) (0 + 1) :: [.mq kx 0]) (a7I _ _ _ _ _) (a2G (a4d g1 rfl)) (lim := [l0, l1, l2, l3, l4, l5]) (b := [a, b, c, d, e, f]) rfl rfl v
  rw [b4Q] at hr1
  have hloop := b9m (N := N) (x := x) (σ := σ) (op := op) (a := a) (b := b) (c := c) (d := d) (e := e) (f := f) (v := v) gk ok1 ok2 ok3 (g1.raise (b := [a, b, c, d, e, f]) (v := v) ok1) n [] [] v1 (.nil kx) (by simp; omega)
  refine a1g rfl harg rfl ?_
  simp only [PEnv.push, Q0, Q1, Q2]
  refine a1Y rfl (a2x (at1 _ _ _ _) rfl) rfl ?_
  simp only [PEnv.push, Q0, Q1, Q2]
  refine a1g rfl hm rfl ?_
  simp only [PEnv.push, Q0, Q1, Q2]
  refine a1Y rfl (a2x (at1 _ _ _ _) rfl) rfl ?_
  simp only [PEnv.push, Q0, Q1, Q2]
  refine a1Y rfl (a2x (at0 _ _ _) rfl) rfl ?_
  simp only [PEnv.push, Q0, Q1, Q2]
  refine a1Y rfl (a2x (at0 _ _ _) rfl) rfl ?_
  simp only [PEnv.push, Q0, Q1, Q2]
  refine a1g rfl hr1 rfl ?_
  simp only [PEnv.push, Q0, Q1, Q2]
  refine c0d rfl (b5C _ _ _ _ _ _) ?_
  simp only [Qt, Q8, Qe, Qf, Q0, Q1]
  refine a5d rfl rfl ?_
  have hkv : a0o [l0, l1, l2, l3, l4, l5] (.node op a b c d e f v l) = raises [l0, l1, l2, l3, l4, l5] (a2q [l0, l1, l2, l3, l4, l5] (raises [l0, l1, l2, l3, l4, l5] [] kx) [a, b, c, d, e, f] v) (kx.map fun p => (a2b p.1 [a, b, c, d, e, f], p.2 + v)) := by
   simp only [a0o, o1, o2, o3, o4, if_false, if_true, hhd, a8G, Int.reduceEq]
  rw [hkv]
  exact hloop
 ·have o5 : op = 5 := Classical.byContradiction fun h => o45 ⟨o4, h⟩
  refine a1R rfl (eqF o4) ?_
  refine a2a rfl (by subst o5; rfl) ?_
  have hloop := b9e (N := N) (x := x) (σ := σ) (op := op) (a := a) (b := b) (c := c) (d := d) (e := e) (f := f) (v := v) gk n [] [] 0 (.nil kx) (by simp; omega)
  refine a1g rfl harg rfl ?_
  simp only [PEnv.push, Q0, Q1, Q2]
  refine c0d rfl (b5C _ _ _ _ _ _) ?_
  simp only [Qt, Q8, Qe, Qf, Q0, Q1]
  refine a5d rfl rfl ?_
  have hkv : a0o [l0, l1, l2, l3, l4, l5] (.node op a b c d e f v l) = a7r [l0, l1, l2, l3, l4, l5] v kx := by
   simp only [a0o, o5, if_false, if_true, hhd, Int.reduceEq]
  rw [hkv]
  exact hloop
end
end Go.Proofs.Ythmkfeiapdbojaa
set_option maxRecDepth 100000
namespace Go.Proofs.Ythmkfeiapdbojaa
open Go.Sx Go.Kv
theorem c8f {l : List Int} (h : a3M l = true) : ∃ a b c d e f, l = [a, b, c, d, e, f] := a1V (a9I h).1
theorem c8g {N : Nat} (hN : SysOk Try.prog 49 (ofP N)) : SysOk Try.prog 49 (ofP (N + 1)) where
 ct Φ hΦ n aa σ r σ' h := by
  change ofF (N + 1) aa σ = some (r, σ') at h
  unfold ofF at h
  split at h
  case h_2 => cases h
  simp only [Qm] at h
  obtain ⟨e, he, lim, hl, h⟩ := h
  split at h
  case isFalse => cases h
  rename_i hc
  obtain ⟨c1, c2, c3, c4, c5⟩ := hc
  simp only [Qb, QB] at h
  obtain ⟨rfl, rfl⟩ := h
  have hrow := b4v 400 _ _ he
  rw [a5y hl]
  obtain ⟨op, a, b, c, d, e', f, v, l⟩ := e
  simp only [IsE] at hrow
  obtain ⟨x, rows, rfl, hx, hr⟩ := hrow
  obtain ⟨l0, l1, l2, l3, l4, l5, rfl⟩ := c8f c4
  simp only [Ex.size] at c1 c2
  refine CtD.one (CtD.fresh (R := b7R σ _) (b7y.dm (a0e (a3c N) 9) (evalF_good (c7L hN) 9) _ _ _ _ (c8F hx hr (by omega) (by omega) c3 c4 c5 (Qn _))) c5 fun r' σ' h => h)
theorem c4Z : ∀ N : Nat, SysOk Try.prog 49 (ofP N)
 | 0 => ⟨fun Φ hΦ n aa σ r σ' h => by
   change ofF 0 aa σ = some (r, σ') at h
   unfold ofF at h
   split at h
   case h_2 => cases h
   simp only [Qm] at h
   obtain ⟨e, he, lim, hl, h⟩ := h
   rw [if_neg (by omega)] at h
   cases h⟩
 | N + 1 => c8g (c4Z N)
def valuation_of_Q : Sx.Sys := ofP 401
theorem b5P : SysOk Try.prog 49 valuation_of_Q := c4Z 401
def valuation_sum_Q : Sx.Sys := c1f
theorem b5c : SysOk Try.prog 77 valuation_sum_Q := c2x
def valuation_worths_merge_Q : Sx.Sys := b3Q
theorem a7E : SysOk Try.prog 76 valuation_worths_merge_Q := b8T
end Go.Proofs.Ythmkfeiapdbojaa
