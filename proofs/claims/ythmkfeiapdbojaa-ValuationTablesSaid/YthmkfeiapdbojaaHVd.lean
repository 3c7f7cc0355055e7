/- Values of bundles: raising one, and merging two maps, as plain values. -/
import Derived.Test.YthmkfeiapdbojaaHTxd
import Derived.Test.YthmkfeiapdbojaaHGx
import Derived.Test.YthmkfeiapdbojaaHIt
import Derived.Test.YthmkfeiapdbojaaHSaa
import Derived.Test.YthmkfeiapdbojaaHSab
import Derived.Test.YthmkfeiapdbojaaHSac
import Derived.Test.YthmkfeiapdbojaaHTab
import Derived.Test.YthmkfeiapdbojaaHTxe
set_option linter.unusedSimpArgs false
set_option linter.unusedVariables false
open Go.Sx.PT renaming ev → ξ1
open Go.Sx.BE renaming safe → ξ2, pe → ξ3, all → ξz
open Go.Sx.IE renaming pe → ξ4
open Go.Sx renaming PEnv.at → ξ5
open Go.Sx.PEnv renaming push → ξt
open List renaming getD_cons_zero → ξ6, getD_cons_succ → ξ7, getElem?_cons_zero → ξ8, getElem?_cons_succ → ξ9, drop_zero → ξf, length_cons → ξg, length_nil → ξh, take_succ_cons → ξm, take_zero → ξn, cons_append → ξu, nil_append → ξv, append_nil → ξw, map_cons → ξD, map_nil → ξE
open Go.Sx renaming a0g → ξa, a0h → ξb, a0b → ξc, a0f → ξd, a0c → ξo, a0a → ξp, a0d → ξq, a0N → ξF, a0D → ξG, a0p → ξH, a0q → ξI, a0C → ξJ, a1d → ξK, a0Z → ξL, a1e → ξM, a0Y → ξN, a0A → ξO, a0n → ξP, a0B → ξQ, a0M → ξR, a0m → ξS, a0y → ξT, a0R → ξU, a0H → ξV, a0I → ξW, a0J → ξX, a0r → ξY
open Nat renaming add_zero → ξe, le_refl → ξi
open Bool renaming false_eq_true → ξl, and_self → ξA, not_true → ξB, not_false → ξC
open Option renaming map_some → ξr, bind_some → ξs
open Go.Sx.SV renaming pvs → ξx, pv → ξy
open List renaming cons_append → Q0, nil_append → Q1, append_nil → Q2, map_cons → Q3, map_nil → Q6, getElem?_cons_zero → Q7, length_cons → Q8, getElem?_cons_succ → Q9, mem_map → Qa, length_nil → Qe, append_assoc → Qf, getElem?_append_right → Qg, all_cons → Qh, getElem?_eq_some_iff → Qj, set_append_right → Qk, zipWith_cons_cons → Qp, mem_cons → Qr, length_set → Qs, length_append → Qt, zipWith_nil_left → Qu, getElem?_append_left → Qv, getLast?_append → Qw, getLast?_singleton → Qy, map_append → QC, drop_eq_getElem?_toList_append → QD, getElem?_eq_getElem → QE, mem_of_getElem? → QH, nodup_cons → QJ, any_eq_true → QK, flatMap_append → QM, flatMap_cons → QN, flatMap_nil → QP, mapM_cons → QQ, drop_eq_nil_iff → QV, getElem?_eq_none → QW, getElem?_eq_none_iff → QY, drop_zero → QZ
open Option renaming bind_some → Q4, map_some → Qd, bind_eq_some_iff → Qm, some_or → Qz, map_eq_some_iff → QL, bind_eq_bind → QS, pure_def → QU, map_none → QX
open Bool renaming and_eq_true → Q5, and_self → Qq, not_eq_true' → QA
open Option.some renaming injEq → Qb
open Nat renaming le_refl → Qn
open Prod.mk renaming injEq → QB
set_option maxRecDepth 100000
namespace Go.Proofs.Ythmkfeiapdbojaa
open Go.Sx Go.Kv
theorem a1z {l:List Int} (h:l.length=6):∃ a b c d e f,l=[a,b,c,d,e,f]:=by
 match l,h with
 | [a,b,c,d,e,f],_=>exact ⟨a,b,c,d,e,f,rfl⟩
def tabW (f:Nat):Option Sx.Sys :=
 if f=75 then some valuation_worths_raise_S else if f=62 then some bundle_Within_S else if f=89 then some bundle_Meet_S
 else if f=92 then some bundle_Add_S else if f=78 then some bundle_Join_S else none
theorem c3s:∀ f S,tabW f=some S->SysOk Try.prog f S:=by
 intro f S h
 unfold tabW at h
 repeat' split at h
 all_goals first | (rename_i hf; subst hf; cases h; first | exact a5l | exact b0a | exact b1x | exact b3R | exact b1P) | cases h
def Ext (T:Nat->Option Sx.Sys):Prop:=∀ f S,tabW f=some S->T f=some S
theorem Ext.self:Ext tabW:=fun _ _ h=>h
theorem c8V {T:Nat->Option Sx.Sys} (hT:Ext T) (n:Nat) (σ:List MO) (a b c d e f a' b' c' d' e' f':Int):a0e T (n+1) 89 [.agg (lpv [a,b,c,d,e,f]),.agg (lpv [a',b',c',d',e',f'])] σ =
  some (.agg (lpv [mnI a a',mnI b b',mnI c c',mnI d d',mnI e e',mnI f f']),σ):=by
 rw [a0e,hT 89 _ rfl]
 simp only [Q4,Sys.run,lpv,Q3,Q6]
 show ((a0i [.sh (.agg [_,_,_,_,_,_]),.sh (.agg [_,_,_,_,_,_])] _).bind _)=_
 simp only [a0i,a0d,a0c,Qd,Q4,Q2,Q1,Q0,if_true]
 show (PT.ev _ a8x _).bind _=_
 simp -implicitDefEqProofs only [a8x,↓reduceIte,eq_self,ξ1,ξ2,ξ3,ξ4,ξ5,ξ6,ξ7,ξ8,ξ9,ξa,ξb,ξc,ξd,ξe,ξf,ξg,ξh,Nat.reduceAdd,ξi,if_true,if_false,ξl,ξm,ξn,ξo,ξp,ξq,ξr,ξs,ξt,ξu,ξv,ξw,ξx,ξy,ξz,ξA,ξB,ξC,ξD,ξE,a0k,or_true]
theorem c2n {a b:Int}:(mnI a b=a)↔a<=b:=by unfold mnI; split<;>omega
theorem c5Q {T:Nat->Option Sx.Sys} (hT:Ext T) (n:Nat) (σ:List MO) {a b:List Int} (ha:a.length=6) (hb:b.length=6):a0e T (n+2) 62 [.agg (lpv a),.agg (lpv b)] σ=some (.bool (leL a b),σ):=by
 obtain ⟨a0,a1,a2,a3,a4,a5,rfl⟩:=a1z ha
 obtain ⟨b0,b1,b2,b3,b4,b5,rfl⟩:=a1z hb
 have hm:=c8V hT n σ a0 a1 a2 a3 a4 a5 b0 b1 b2 b3 b4 b5
 rw [a0e,hT 62 _ rfl]
 simp only [Q4,Sys.run,lpv,Q3,Q6] at hm ⊢
 show ((a0i [.sh (.agg [_,_,_,_,_,_]),.sh (.agg [_,_,_,_,_,_])] _).bind _)=_
 simp only [a0i,a0d,a0c,Qd,Q4,Q2,Q1,Q0,if_true]
 show (PT.ev _ a7u _).bind _=_
 simp -implicitDefEqProofs only [a7u,↓reduceIte,eq_self,ξ1,ξ2,ξ3,ξ4,ξ5,ξ6,ξ7,ξ8,ξ9,ξa,ξb,ξc,ξd,ξe,ξf,ξg,ξh,Nat.reduceAdd,ξi,if_true,if_false,ξl,ξm,ξn,ξo,ξp,ξq,ξr,ξs,ξt,ξu,ξv,ξw,ξx,ξy,ξz,ξA,ξB,ξC,ξD,ξE,hm,a0k,or_true,leL,Bool.and_true]
 refine congrArg some (Prod.ext (congrArg PV.bool ?_) rfl)
 rw [Bool.eq_iff_iff]
 simp only [Q5,a2p,decide_eq_true_eq,c2n]
def Sm (l:List Int):Prop:=l.length=6/\∀ x∈l,0<=x/\x<=1000
theorem d0r {T:Nat->Option Sx.Sys} (hT:Ext T) (n:Nat) (σ:List MO) {a b:List Int} (ha:Sm a) (hb:Sm b):a0e T (n+1) 92 [.agg (lpv a),.agg (lpv b)] σ=some (.agg (lpv (a2X a b)),σ):=by
 obtain ⟨ha,ha'⟩:=ha
 obtain ⟨hb,hb'⟩:=hb
 obtain ⟨a0,a1,a2,a3,a4,a5,rfl⟩:=a1z ha
 obtain ⟨b0,b1,b2,b3,b4,b5,rfl⟩:=a1z hb
 simp only [Qr,List.not_mem_nil,or_false,forall_eq_or_imp,forall_eq] at ha' hb'
 rw [a0e,hT 92 _ rfl]
 simp only [Q4,Sys.run,lpv,Q3,Q6]
 show ((a0i [.sh (.agg [_,_,_,_,_,_]),.sh (.agg [_,_,_,_,_,_])] _).bind _)=_
 simp only [a0i,a0d,a0c,Qd,Q4,Q2,Q1,Q0,if_true]
 show (PT.ev _ a9I _).bind _=_
 have r:∀ x:Int,-9223372036854775808<=x->x<=9223372036854775807->(leB (-9223372036854775808) x&&leB x 9223372036854775807)=true:=fun x h1 h2=>by simp [leB,h1,h2]
 have r0:=r (a0+b0) (by omega) (by omega)
 have r1:=r (a1+b1) (by omega) (by omega)
 have r2:=r (a2+b2) (by omega) (by omega)
 have r3:=r (a3+b3) (by omega) (by omega)
 have r4:=r (a4+b4) (by omega) (by omega)
 have r5:=r (a5+b5) (by omega) (by omega)
 simp -implicitDefEqProofs only [a9I,↓reduceIte,eq_self,ξ1,ξ2,ξ3,ξ4,ξ5,ξ6,ξ7,ξ8,ξ9,ξa,ξb,ξc,ξd,ξe,ξf,ξg,ξh,Nat.reduceAdd,ξi,if_true,if_false,ξl,ξm,ξn,ξo,ξp,ξq,ξr,ξs,ξt,ξu,ξv,ξw,ξx,ξy,ξz,ξA,ξB,ξC,ξD,ξE,a0k,or_true,r0,r1,r2,r3,r4,r5,a2X,Qp,Qu,Q3,Q6]
theorem c9I {T:Nat->Option Sx.Sys} (hT:Ext T) (n:Nat) (σ:List MO) {a b:List Int} (ha:a.length=6) (hb:b.length=6):a0e T (n+1) 78 [.agg (lpv a),.agg (lpv b)] σ=some (.agg (lpv (a2o a b)),σ):=by
 obtain ⟨a0,a1,a2,a3,a4,a5,rfl⟩:=a1z ha
 obtain ⟨b0,b1,b2,b3,b4,b5,rfl⟩:=a1z hb
 rw [a0e,hT 78 _ rfl]
 simp only [Q4,Sys.run,lpv,Q3,Q6]
 show ((a0i [.sh (.agg [_,_,_,_,_,_]),.sh (.agg [_,_,_,_,_,_])] _).bind _)=_
 simp only [a0i,a0d,a0c,Qd,Q4,Q2,Q1,Q0,if_true]
 show (PT.ev _ a8C _).bind _=_
 simp -implicitDefEqProofs only [a8C,↓reduceIte,eq_self,ξ1,ξ2,ξ3,ξ4,ξ5,ξ6,ξ7,ξ8,ξ9,ξa,ξb,ξc,ξd,ξe,ξf,ξg,ξh,Nat.reduceAdd,ξi,if_true,if_false,ξl,ξm,ξn,ξo,ξp,ξq,ξr,ξs,ξt,ξu,ξv,ξw,ξx,ξy,ξz,ξA,ξB,ξC,ξD,ξE,a0k,or_true,a2o,Qp,Qu,Q3,Q6,mxI]
theorem a3h {kv:KV} (h:∀ p∈kv,p.1.length=6):a3U 6 kv=true:=by
 unfold a3U
 exact List.all_eq_true.2 fun p hp=>by simpa using h p hp
theorem a7Q {T:Nat->Option Sx.Sys} (hT:Ext T) (n:Nat) (σ:List MO) {h:Nat} {kv:KV} {ver:Nat} (h0:σ[h]?=some (.mq kv ver)) (hw:a3U 6 kv=true) {lim b:List Int} (hl:lim.length=6) (hb:b.length=6) (v:Int) :
  ∃ ver',a0e T (n+3) 75 [.mp h,.agg (lpv lim),.agg (lpv b),.int .i64 v] σ=some (.tup [],σ.set h (.mq (a2I lim kv b v) ver')):=by
 have hwi:=c5Q hT n σ hb hl
 obtain ⟨a0,a1,a2,a3,a4,a5,rfl⟩:=a1z hl
 obtain ⟨b0,b1,b2,b3,b4,b5,rfl⟩:=a1z hb
 refine ⟨if gv kv [b0,b1,b2,b3,b4,b5] < mnM v/\leL [b0,b1,b2,b3,b4,b5] [a0,a1,a2,a3,a4,a5]=true then ver+1 else ver,?_⟩
 rw [a0e,hT 75 _ rfl]
 simp only [Q4,Sys.run,lpv,Q3,Q6] at hwi ⊢
 show ((a0i [.sh (.one .val),.sh (.agg [_,_,_,_,_,_]),.sh (.agg [_,_,_,_,_,_]),.sh (.one (.int .i64))] _).bind _)=_
 simp only [a0i,a0d,a0c,Qd,Q4,Q2,Q1,Q0,if_true]
 show (PT.ev _ a3J _).bind _=_
 have e1:mnI v 1000000=mnM v:=by unfold mnI mnM; split<;>split<;>omega
 have e2:∀ k,(a0F kv k).getD 0=gv kv k:=fun _=>rfl
 have hs:σ.set h (.mq kv ver)=σ:=a7L h0
 simp -implicitDefEqProofs only [a3J,↓reduceIte,eq_self,ξ1,ξ2,ξ3,ξ4,ξ5,ξ6,ξ7,ξ8,ξ9,ξa,ξb,ξc,ξd,ξe,ξf,ξg,ξh,Nat.reduceAdd,ξi,if_true,if_false,ξl,ξm,ξn,ξo,ξp,ξq,ξr,ξs,ξt,ξu,ξv,ξw,ξx,ξy,ξz,ξA,ξB,ξC,ξD,ξE,h0,hw,hwi,e1,e2,Q3,Q6,Q8,Qe,a0k,or_true,a1n,a2I]
 by_cases c1:gv kv [b0,b1,b2,b3,b4,b5] < mnM v
 ·cases c2:leL [b0,b1,b2,b3,b4,b5] [a0,a1,a2,a3,a4,a5] with
  | true=>simp -implicitDefEqProofs only [c1,c2,and_self,↓reduceIte,eq_self,ξ1,ξ2,ξ3,ξ4,ξ5,ξ6,ξ7,ξ8,ξ9,ξa,ξb,ξc,ξd,ξe,ξf,ξg,ξh,Nat.reduceAdd,ξi,if_true,if_false,ξl,ξm,ξn,ξo,ξp,ξq,ξr,ξs,ξt,ξu,ξv,ξw,ξx,ξy,ξz,ξA,ξB,ξC,ξD,ξE,h0,hw,e1,Q3,Q6,Q8,Qe,a0k,or_true,Qs]
  | false=>simp -implicitDefEqProofs only [c1,c2,Bool.false_eq_true,and_false,↓reduceIte,eq_self,ξ1,ξ2,ξ3,ξ4,ξ5,ξ6,ξ7,ξ8,ξ9,ξa,ξb,ξc,ξd,ξe,ξf,ξg,ξh,Nat.reduceAdd,ξi,if_true,if_false,ξl,ξm,ξn,ξo,ξp,ξq,ξr,ξs,ξt,ξu,ξv,ξw,ξx,ξy,ξz,ξA,ξB,ξC,ξD,ξE,hs,a0k,or_true]
 ·simp -implicitDefEqProofs only [c1,false_and,↓reduceIte,eq_self,ξ1,ξ2,ξ3,ξ4,ξ5,ξ6,ξ7,ξ8,ξ9,ξa,ξb,ξc,ξd,ξe,ξf,ξg,ξh,Nat.reduceAdd,ξi,if_true,if_false,ξl,ξm,ξn,ξo,ξp,ξq,ξr,ξs,ξt,ξu,ξv,ξw,ξx,ξy,ξz,ξA,ξB,ξC,ξD,ξE,hs,a0k,or_true]
end Go.Proofs.Ythmkfeiapdbojaa
set_option maxRecDepth 100000
namespace Go.Proofs.Ythmkfeiapdbojaa
open Go.Sx Go.Kv
theorem c6q (n f:Nat):CtP Try.prog f (a0e tabW n f):=evalF_good c3s n f
theorem a4T {lim:List Int} (hl:lim.length=6):∀ {L kv:KV},(∀ p∈kv,p.1.length=6)->(∀ p∈L,p.1.length=6)->∀ p∈raises lim kv L,p.1.length=6
 | [],_,h,_=>h
 | q::L,kv,h,hL=>by
  rw [a7Z]
  refine a4T hl (fun p hp=>?_) (fun p hp=>hL p (by simp [hp]))
  unfold a2I at hp
  split at hp
  ·rcases b7a.1 hp with rfl | ⟨hp,_⟩
   ·exact hL q (by simp)
   ·exact h p hp
  ·exact h p hp
theorem c3u {σ:List MO} {k h:Nat} {o:MO} (hl:σ.all (MO.low k)=true) (ho:o.low k=true):(σ.set h o).all (MO.low k)=true:=by
 rw [List.all_eq_true] at *
 intro x hx
 rcases List.mem_or_eq_of_mem_set hx with hx | rfl
 ·exact hl x hx
 ·exact ho
theorem c8e {σ:List MO} {h hx:Nat} {kv kx:KV} {v vx:Nat} {lim:List Int} (h0:σ[h]?=some (.mq kv v)) (h1:σ[hx]?=some (.mq kx vx)) (hne:h≠hx) (hl:lim.length=6)
  (hkv:∀ p∈kv,p.1.length=6) (hkx:∀ p∈kx,p.1.length=6) (hn:Nd kx) (hlow:σ.all (MO.low σ.length)=true) :
  CtD Try.prog 76 [.mp h,.agg (lpv lim),.mp hx] σ (fun r σ'=>r=.tup []/\∃ es v1,es.Perm kx/\σ'=σ.set h (.mq (raises lim kv es) v1)):=by
 have hh:=(Qj.1 h0).1
 have hhx:=(Qj.1 h1).1
 refine a8R.dm (a0e tabW 5) (c6q 5) (kx.length+2) _ _ _ ?_
 have loop:∀ (n:Nat) (seen:List (List Int)) (es:KV) (v1:Nat),Went kx seen es->kx.length < seen.length+n ->
   valuation_worths_merge_S.loopD (a0e tabW 5) n 0 { i:=lim,b:=[],v:=[.mp h,.ref σ.length 0],m:=σ.set h (.mq (raises lim kv es) v1)++[MO.it hx vx seen],k:=σ.length }
    (fun r σ'=>r=.tup []/\∃ es v1,es.Perm kx/\σ'=σ.set h (.mq (raises lim kv es) v1)):=by
  intro n
  induction n with
  | zero=>intro seen es v1 hw hlt; have:=hw.len hn; omega
  | succ n ih =>
   intro seen es v1 hw hlt
   have hes:∀ p∈es,p.1.length=6:=fun p hp=>hkx p (hw.sub p hp)
   refine ⟨_,rfl,?_⟩
   have g1:(σ.set h (.mq (raises lim kv es) v1)++[MO.it hx vx seen])[σ.length]?=some (.it hx vx seen):=by
    rw [Qg (by simp)]; simp
   have g2:∀ sn,(σ.set h (.mq (raises lim kv es) v1)++[MO.it hx vx sn])[hx]?=some (.mq kx vx):=fun sn=>by
    rw [Qv (by simpa using hhx),List.getElem?_set_ne hne]; exact h1
   have g3:∀ sn,(σ.set h (.mq (raises lim kv es) v1)++[MO.it hx vx sn])[h]?=some (.mq (raises lim kv es) v1):=fun sn=>by
    rw [Qv (by simpa using hh),List.getElem?_set_self hh]
   have g4:∀ sn,(σ.set h (.mq (raises lim kv es) v1)++[MO.it hx vx seen]).set σ.length (MO.it hx vx sn)=σ.set h (.mq (raises lim kv es) v1)++[MO.it hx vx sn]:=fun sn=>by
    rw [Qk _ _ (by simp)]; simp
   have g5:∀ sn,(σ.set h (.mq (raises lim kv es) v1)++[MO.it hx vx sn])[σ.length]?=some (.it hx vx sn):=fun sn=>by
    rw [Qg (by simp)]; simp
   show PT.wp _ a3u _ _
   unfold a3u
   simp only [PT.wp,Q9,Q7,g1,g2,a3h hkx,and_self,if_true]
   split
   ·
    rename_i hleft
    refine ⟨.tup [],rfl,(.tup [],σ.set h (.mq (raises lim kv es) v1)),?_,rfl,es,v1,hw.over hn hleft,rfl⟩
    unfold a0k
    rw [if_neg (by simp),if_pos (by simp only [List.take_append_of_le_length (Nat.le_of_eq (Qs).symm),List.take_of_length_le (Nat.le_of_eq Qs)]; exact c3u hlow rfl)]
    simp [PV.frz,PV.frzs]
   ·rename_i hleft
    intro p hp
    obtain ⟨p1,p2⟩:=a4Q.1 hp
    have hw':=hw.next hp
    have hk6:=hkx p p1
    obtain ⟨v2,hr⟩:=a7Q .self 2 (σ.set h (.mq (raises lim kv es) v1)++[MO.it hx vx (seen++[p.1])]) (g3 _) (a3h (a4T hl hkv hes)) hl hk6 p.2
    obtain ⟨pk,pv⟩:=p
    simp only at hk6 hr hw' p1 p2
    have hlook:=(Kv.lookQ_some hn).2 p1
    obtain ⟨l0,l1,l2,l3,l4,l5,rfl⟩:=a1z hl
    obtain ⟨b0,b1,b2,b3,b4,b5,rfl⟩:=a1z hk6
    simp only [lpv,Q3,Q6] at hr
    simp only [PEnv.push,Q0,Q1,Q9,Q7,g4,g5,g2,Qw,Qy,Qz,hlook,if_true,Q8,Qe]
    refine ⟨pv,rfl,_,rfl,_,hr,_,rfl,_,rfl,_,rfl,?_⟩
    have:=ih (seen++[[b0,b1,b2,b3,b4,b5]]) (es++[([b0,b1,b2,b3,b4,b5],pv)]) v2 hw' (by simp; omega)
    rw [a7Y] at this
    rw [List.set_append_left _ _ (by simpa using hh),List.set_set]
    exact this
 obtain ⟨l0,l1,l2,l3,l4,l5,rfl⟩:=a1z hl
 refine ⟨_,rfl,?_⟩
 show PT.wp _ a3M _ _
 unfold a3M
 simp only [PT.wp,Q0,Q1,Q2,Q9,Q7,h1]
 have:=loop (kx.length+2) [] [] v (.nil kx) (by simp)
 rw [b2S,a7L h0] at this
 exact ⟨_,rfl,_,rfl,this⟩
end Go.Proofs.Ythmkfeiapdbojaa
set_option maxRecDepth 100000
namespace Go.Proofs.Ythmkfeiapdbojaa
open Go.Sx Go.Kv
def ndB:KV->Bool
 | []=>true
 | p::l=>(!l.any fun q=>decide (q.1=p.1))&&ndB l
theorem c2a:∀ {kv:KV},ndB kv=true->Nd kv
 | [],_=>by simp [Nd]
 | p::l,h=>by
  simp only [ndB,Q5,QA] at h
  unfold Nd
  rw [Q3,QJ]
  refine ⟨fun hm=>?_,c2a h.2⟩
  obtain ⟨q,hq,he⟩:=Qa.1 hm
  have:(l.any fun q=>decide (q.1=p.1))=true:=QK.2 ⟨q,hq,by simpa using he⟩
  rw [h.1] at this; cases this
theorem c5N:∀ {kv:KV},Nd kv->ndB kv=true
 | [],_=>rfl
 | p::l,h=>by
  unfold Nd at h
  rw [Q3,QJ] at h
  simp only [ndB,Q5,QA]
  refine ⟨?_,c5N h.2⟩
  cases hb:l.any fun q=>decide (q.1=p.1) with
  | false=>rfl
  | true =>
   obtain ⟨q,hq,he⟩:=QK.1 hb
   exact absurd (Qa.2 ⟨q,hq,by simpa using he⟩) h.1
def b0G (lim:List Int) (kv:KV):Bool:=ndB kv&&kv.all fun p=>decide (0 < p.2)&&decide (p.2<=1000000)&&leL p.1 lim&&nnL p.1
theorem a8Z {lim:List Int} {kv:KV} (h:b0G lim kv=true):KvOk lim kv:=by
 simp only [b0G,Q5,List.all_eq_true,decide_eq_true_eq] at h
 exact ⟨c2a h.1,fun p hp=>⟨(h.2 p hp).1.1.1,(h.2 p hp).1.1.2,(h.2 p hp).1.2,(h.2 p hp).2⟩⟩
theorem b3g {lim:List Int} {kv:KV} (h:KvOk lim kv):b0G lim kv=true:=by
 simp only [b0G,Q5,List.all_eq_true,decide_eq_true_eq]
 exact ⟨c5N h.nd,fun p hp=>⟨⟨⟨(h.all p hp).1,(h.all p hp).2.1⟩,(h.all p hp).2.2.1⟩,(h.all p hp).2.2.2⟩⟩
theorem b8Q:∀ {a b:List Int},leL a b=true->a.length=b.length
 | [],[],_=>rfl
 | x::a,y::b,h=>by simp only [leL,Q5] at h; simp [b8Q h.2]
 | [],_::_,h=>by simp [leL] at h
 | _::_,[],h=>by simp [leL] at h
def a4r (l:List Int):Bool:=decide (l.length=6)&&l.all fun x=>decide (0<=x)&&decide (x<=4)
def a5B:List PV->Option (List Int)
 | []=>some []
 | .int .i64 z::l=>(a5B l).map (z::·)
 | _=>none
theorem a6h:∀ {l:List PV} {z:List Int},a5B l=some z->l=lpv z
 | [],z,h=>by simp only [a5B,Qb] at h; subst h; rfl
 | p::l,z,h=>by
  unfold a5B at h
  split at h
  ·rename_i he; cases he
  ·rename_i he
   simp only [List.cons.injEq] at he
   obtain ⟨rfl,rfl⟩:=he
   simp only [QL] at h
   obtain ⟨z',hz,rfl⟩:=h
   rw [a6h hz]; rfl
  ·cases h
theorem a7s:∀ z:List Int,a5B (lpv z)=some z
 | []=>rfl
 | x::z=>by
  have:=a7s z
  unfold lpv at *
  simp only [Q3,a5B,this,Qd]
theorem a4H {lim:List Int} {kv:KV} (h:KvOk lim kv) (hl:lim.length=6):∀ p∈kv,p.1.length=6:=fun p hp=>(b8Q (h.all p hp).2.2.1).trans hl
def b8v:List PV->List MO->Option (PV × List MO)
 | [.mp h,.agg l,.mp hx],σ=>(a5B l).bind fun lim=>match σ[h]?,σ[hx]? with
  | some (.mq kv v),some (.mq kx _)=>if h≠hx/\a4r lim=true/\b0G lim kv=true/\b0G lim kx=true/\σ.all (MO.low σ.length)=true then some (.tup [],σ.set h (.mq (raises lim kv kx) (v+1))) else none
  | _,_=>none
 | _,_=>none
def b4O:Sx.Sys:=⟨[],.stuck,[],some b8v,none⟩
theorem b9B:SysOk Try.prog 76 b4O where
 ct Φ hΦ n aa σ r σ' h:=by
  change b8v aa σ=some (r,σ') at h
  unfold b8v at h
  split at h
  case h_2=>cases h
  rename_i σ hh l hx
  simp only [Qm] at h
  obtain ⟨lim,hl,h⟩:=h
  split at h
  case h_2=>cases h
  rename_i kv v kx vx h0 h1
  split at h
  case isFalse=>cases h
  rename_i hc
  obtain ⟨c1,c2,c3,c4,c5⟩:=hc
  simp only [Qb,QB] at h
  obtain ⟨rfl,rfl⟩:=h
  have hl6:lim.length=6:=by simp only [a4r,Q5,decide_eq_true_eq] at c2; exact c2.1
  have g1:=a8Z c3
  have g2:=a8Z c4
  rw [a6h hl]
  refine CtD.one (CtD.turned (c8e h0 h1 c1 hl6 (a4H g1 hl6) (a4H g2 hl6) g2.nd c5) h0 (Nat.lt_succ_self v) c5 ?_)
  rintro r' σ' ⟨rfl,es,v1,hp,rfl⟩
  exact ⟨rfl,_,v1,rfl,a7X g1 (.refl _) hp fun p hp2=>(g2.all p (hp.mem_iff.1 hp2)).2.2.2⟩
def tabX (f:Nat):Option Sx.Sys:=if f=76 then some b4O else tabW f
theorem c3C:∀ f S,tabX f=some S->SysOk Try.prog f S:=by
 intro f S h
 unfold tabX at h
 split at h
 ·rename_i hf; subst hf; cases h; exact b9B
 ·exact c3s f S h
theorem b6T:Ext tabX:=by
 intro f S h
 unfold tabX
 rw [if_neg]
 ·exact h
 ·rintro rfl; cases h
theorem c6c (n f:Nat):CtP Try.prog f (a0e tabX n f):=evalF_good c3C n f
theorem b3i {T:Nat->Option Sx.Sys} (hT:T 76=some b4O) (n:Nat) {σ:List MO} {h hx:Nat} {kv kx:KV} {v vx:Nat} {lim:List Int} (h0:σ[h]?=some (.mq kv v)) (h1:σ[hx]?=some (.mq kx vx)) (hne:h≠hx) (hl:a4r lim=true)
  (g1:KvOk lim kv) (g2:KvOk lim kx) (hlow:σ.all (MO.low σ.length)=true) :
  a0e T (n+1) 76 [.mp h,.agg (lpv lim),.mp hx] σ=some (.tup [],σ.set h (.mq (raises lim kv kx) (v+1))):=by
 rw [a0e,hT]
 simp only [Q4,Sys.run,b4O]
 simp only [b8v,a7s,Q4,h0,h1]
 rw [if_pos ⟨hne,hl,b3g g1,b3g g2,hlow⟩]
end Go.Proofs.Ythmkfeiapdbojaa
set_option maxRecDepth 100000
namespace Go.Proofs.Ythmkfeiapdbojaa
open Go.Sx Go.Kv
theorem at0 (σ:List MO) (x:MO) (l:List MO):(σ++x::l)[σ.length]?=some x:=by rw [Qg (Qn _)]; simp
theorem at1 (σ:List MO) (x y:MO) (l:List MO):(σ++x::y::l)[σ.length+1]?=some y:=by rw [Qg (by omega)]; simp
theorem at2 (σ:List MO) (x y z:MO) (l:List MO):(σ++x::y::(l++[z]))[σ.length+2+l.length]?=some z:=by
 rw [Qg (by omega),show σ.length+2+l.length-σ.length=l.length+1+1 by omega]; simp
theorem c8s (σ:List MO) (x x':MO) (l:List MO):(σ++x::l).set σ.length x'=σ++x'::l:=by rw [Qk _ _ (Qn _)]; simp
theorem d0q (σ:List MO) (x y y':MO) (l:List MO):(σ++x::y::l).set (σ.length+1) y'=σ++x::y'::l:=by rw [Qk _ _ (by omega)]; simp
theorem d1F (σ:List MO) (x y z z':MO) (l:List MO):(σ++x::y::(l++[z])).set (σ.length+2+l.length) z'=σ++x::y::(l++[z']):=by
 rw [Qk _ _ (by omega),show σ.length+2+l.length-σ.length=l.length+1+1 by omega]; simp
theorem atL {σ:List MO} {i:Nat} {o:MO} (h:σ[i]?=some o) (l:List MO):(σ++l)[i]?=some o:=by
 rw [Qv (Qj.1 h).1]; exact h
def a7o (p q:List Int × Int):List Int × Int:=(a2X p.1 q.1,p.2+q.2)
def a6r (kx ky:KV):KV:=kx.flatMap fun p=>ky.map (a7o p)
def a3r (lim:List Int) (kx ky:KV):KV:=raises lim (raises lim (raises lim [] kx) ky) (a6r kx ky)
theorem b0L {l:List Int} (h:a4r l=true):l.length=6/\∀ x∈l,0<=x/\x<=4:=by
 simp only [a4r,Q5,decide_eq_true_eq,List.all_eq_true] at h
 exact h
theorem c5Z:∀ {a b:List Int} {c:Int},leL a b=true->(∀ x∈b,x<=c)->∀ x∈a,x<=c
 | [],_,_,_,_=>by simp
 | x::a,y::b,c,h,hb=>by
  simp only [leL,Q5,decide_eq_true_eq] at h
  intro z hz
  rcases Qr.1 hz with rfl | hz
  ·have:=hb y (by simp); omega
  ·exact c5Z h.2 (fun w hw=>hb w (by simp [hw])) z hz
 | _::_,[],_,h,_=>by simp [leL] at h
theorem c8J {lim:List Int} {kv:KV} (h:KvOk lim kv) (hl:a4r lim=true) {p:List Int × Int} (hp:p∈kv):Sm p.1:=by
 obtain ⟨h1,h2⟩:=b0L hl
 obtain ⟨_,_,h3,h4⟩:=h.all p hp
 refine ⟨(b8Q h3).trans h1,fun x hx=>⟨?_,?_⟩⟩
 ·simpa [nnL] using List.all_eq_true.1 h4 x hx
 ·have:=c5Z h3 (fun y hy=>(h2 y hy).2) x hx; omega
theorem d0j {σ:List MO} {hx hy:Nat} {kx ky:KV} {vx vy:Nat} {lim:List Int} (h0:σ[hx]?=some (.mq kx vx)) (h1:σ[hy]?=some (.mq ky vy)) (hlim:a4r lim=true)
  (gx:KvOk lim kx) (gy:KvOk lim ky) (hlow:σ.all (MO.low σ.length)=true) :
  CtD Try.prog 77 [.agg (lpv lim),.mp hx,.mp hy] σ (fun r σ'=>r=.mp σ.length/\∃ L v1 rest,L.Perm (a6r kx ky)/\σ'=σ++.mq (raises lim (raises lim (raises lim [] kx) ky) L) v1::rest):=by
 obtain ⟨hl,hl4⟩:=b0L hlim
 have hhx:=(Qj.1 h0).1
 have hhy:=(Qj.1 h1).1
 refine b6Q.dm (a0e tabX 6) (c6c 6) (kx.length*(ky.length+3)+1) _ _ _ ?_
 generalize hw2:raises lim (raises lim [] kx) ky=w2
 have w6:∀ p∈w2,p.1.length=6:=by
  rw [<- hw2]
  exact a4T hl (a4T hl (by simp) (a4H gx hl)) (a4H gy hl)
 have x6:=a4H gx hl
 have y6:=a4H gy hl
 obtain ⟨l0,l1,l2,l3,l4,l5,rfl⟩:=a1z hl
 generalize hR:(fun (r:PV) (σ':List MO)=>r=.mp σ.length/\∃ L v1 rest,L.Perm (a6r kx ky)/\σ'=σ++.mq (raises [l0,l1,l2,l3,l4,l5] w2 L) v1::rest)=R
 have outer:∀ (d:Nat) (seen:List (List Int)) (es L:KV) (v1:Nat) (g:List MO),Went kx seen es->kx.length<=seen.length+d->L.Perm (es.flatMap fun p=>ky.map (a7o p))->(∀ q∈L,q.1.length=6)->∀ n,d*(ky.length+3)+1<=n ->
   valuation_sum_S.loopD (a0e tabX 6) n 0 { i:=[l0,l1,l2,l3,l4,l5],b:=[],v:=[.mp hy,.mp σ.length,.ref (σ.length+1) 0],m:=σ++.mq (raises [l0,l1,l2,l3,l4,l5] w2 L) v1::.it hx vx seen::g,k:=σ.length } R:=by
  intro d
  induction d with
  | zero =>
   intro seen es L v1 g hw hlen hL hL6 n hn
   obtain ⟨n,rfl⟩:∃ m,n=m+1:=⟨n-1,by omega⟩
   refine ⟨_,rfl,?_⟩
   show PT.wp _ a3F _ _
   unfold a3F
   simp only [PT.wp,Q9,Q7,at1,atL h0,a3h x6,and_self,if_true]
   split
   ·rename_i hleft
    refine ⟨.mp σ.length,rfl,(.mp σ.length,_),by unfold a0k; rw [if_pos (.inl rfl)],?_⟩
    rw [<- hR]
    exact ⟨rfl,L,v1,_,hL.trans ((hw.over gx.nd hleft).flatMap_right _),rfl⟩
   ·intro p hp
    have:=(hw.next hp).len gx.nd
    simp at this; omega
  | succ d ih =>
   intro seen es L v1 g hw hlen hL hL6 n hn
   rw [Nat.succ_mul] at hn
   obtain ⟨n,rfl⟩:∃ m,n=m+1:=⟨n-1,by omega⟩
   refine ⟨_,rfl,?_⟩
   show PT.wp _ a3F _ _
   unfold a3F
   simp only [PT.wp,Q9,Q7,at1,atL h0,a3h x6,and_self,if_true]
   split
   ·rename_i hleft
    refine ⟨.mp σ.length,rfl,(.mp σ.length,_),by unfold a0k; rw [if_pos (.inl rfl)],?_⟩
    rw [<- hR]
    exact ⟨rfl,L,v1,_,hL.trans ((hw.over gx.nd hleft).flatMap_right _),rfl⟩
   intro p hp
   obtain ⟨p1,p2⟩:=a4Q.1 hp
   have hw':=hw.next hp
   have hps:=c8J gx hlim p1
   have hpv:=(gx.all p p1)
   obtain ⟨pk,pv⟩:=p
   simp only at hps hw' p1 p2 hpv
   have hlook:=(Kv.lookQ_some gx.nd).2 p1
   have hk6:=hps.1
   obtain ⟨b0,b1,b2,b3,b4,b5,rfl⟩:=a1z hk6
   have hLes:∀ es',Went ky (es'.map (·.1)) es'->∀ q∈L++es'.map (a7o ([b0,b1,b2,b3,b4,b5],pv)),q.1.length=6:=by
    intro es' hwy q hq
    rcases List.mem_append.1 hq with hq | hq
    ·exact hL6 q hq
    ·obtain ⟨z,hz,rfl⟩:=Qa.1 hq
     have:=y6 z (hwy.sub z hz)
     simp [a7o,a2X,this]
   replace hLes:∀ {seen'} es',Went ky seen' es'->∀ q∈L++es'.map (a7o ([b0,b1,b2,b3,b4,b5],pv)),q.1.length=6:=fun {seen'} es' h=>hLes es' ⟨rfl,h.nd,h.sub⟩
   have inner:∀ (e:Nat) (seen':List (List Int)) (es':KV) (v1:Nat),Went ky seen' es'->ky.length<=seen'.length+e->∀ n,d*(ky.length+3)+1+e+1<=n ->
     valuation_sum_S.loopD (a0e tabX 6) n 1 { i:=[pv,l0,l1,l2,l3,l4,l5,b0,b1,b2,b3,b4,b5],b:=[],v:=[.mp hy,.mp σ.length,.ref (σ.length+1) 0,.ref (σ.length+2+g.length) 0],m:=σ++.mq (raises [l0,l1,l2,l3,l4,l5] w2 (L++es'.map (a7o ([b0,b1,b2,b3,b4,b5],pv)))) v1::.it hx vx (seen++[[b0,b1,b2,b3,b4,b5]])::(g++[.it hy vy seen']),k:=σ.length } R:=by
    intro e
    induction e with
    | zero =>
     intro seen' es' v1 hwy hleny n hn
     obtain ⟨n,rfl⟩:∃ m,n=m+1:=⟨n-1,by omega⟩
     refine ⟨_,rfl,?_⟩
     show PT.wp _ a3E _ _
     unfold a3E
     simp only [PT.wp,Q9,Q7,at2,atL h1,a3h y6,and_self,if_true]
     split
     ·rename_i hleft
      refine ⟨_,rfl,_,rfl,?_⟩
      refine ih (seen++[[b0,b1,b2,b3,b4,b5]]) (es++[([b0,b1,b2,b3,b4,b5],pv)]) (L++es'.map (a7o ([b0,b1,b2,b3,b4,b5],pv))) v1 (g++[.it hy vy seen']) hw' (by simp; omega) ?_ ?_ n (by omega)
      ·rw [QM]
       refine hL.append ?_
       simp only [QN,QP,Q2]
       exact (hwy.over gy.nd hleft).map _
      ·exact hLes es' hwy
     ·intro q hq
      have:=(hwy.next hq).len gy.nd
      simp at this; omega
    | succ e ihe =>
     intro seen' es' v1 hwy hleny n hn
     obtain ⟨n,rfl⟩:∃ m,n=m+1:=⟨n-1,by omega⟩
     refine ⟨_,rfl,?_⟩
     show PT.wp _ a3E _ _
     unfold a3E
     simp only [PT.wp,Q9,Q7,at2,atL h1,a3h y6,and_self,if_true]
     split
     ·rename_i hleft
      refine ⟨_,rfl,_,rfl,?_⟩
      refine ih (seen++[[b0,b1,b2,b3,b4,b5]]) (es++[([b0,b1,b2,b3,b4,b5],pv)]) (L++es'.map (a7o ([b0,b1,b2,b3,b4,b5],pv))) v1 (g++[.it hy vy seen']) hw' (by simp; omega) ?_ ?_ n (by omega)
      ·rw [QM]
       refine hL.append ?_
       simp only [QN,QP,Q2]
       exact (hwy.over gy.nd hleft).map _
      ·exact hLes es' hwy
     ·intro q hq
      obtain ⟨q1,q2⟩:=a4Q.1 hq
      have hwy':=hwy.next hq
      have hqs:=c8J gy hlim q1
      have hqv:=gy.all q q1
      obtain ⟨qk,qv⟩:=q
      simp only at hqs hwy' q1 q2 hqv
      have hlookq:=(Kv.lookQ_some gy.nd).2 q1
      have hq6:=hqs.1
      have hadd:=d0r (σ:=σ++.mq (raises [l0,l1,l2,l3,l4,l5] w2 (L++es'.map (a7o ([b0,b1,b2,b3,b4,b5],pv)))) v1::.it hx vx (seen++[[b0,b1,b2,b3,b4,b5]])::(g++[.it hy vy (seen'++[qk])])) b6T 5 hps hqs
      obtain ⟨v2,hr⟩:=a7Q b6T 3 (σ++.mq (raises [l0,l1,l2,l3,l4,l5] w2 (L++es'.map (a7o ([b0,b1,b2,b3,b4,b5],pv)))) v1::.it hx vx (seen++[[b0,b1,b2,b3,b4,b5]])::(g++[.it hy vy (seen'++[qk])])) (at0 _ _ _)
       (a3h (a4T hl w6 (hLes es' hwy))) hl (b:=a2X [b0,b1,b2,b3,b4,b5] qk) (by unfold a2X; simp [hq6]) (pv+qv)
      obtain ⟨c0,c1,c2,c3,c4,c5,rfl⟩:=a1z hq6
      have hn8:(leB (-9223372036854775808) (pv+qv)&&leB (pv+qv) 9223372036854775807)=true:=by simp [leB]; omega
      simp only [lpv,a2X,Qp,Qu,Q3,Q6] at hadd hr
      simp only [PEnv.push,Q0,Q1,Qf,Q9,Q7,d1F,at2,atL h1,Qw,Qy,Qz,hlookq,if_true,Q8,Qe]
      refine ⟨qv,rfl,?_⟩
      simp only [BE.safe,BE.pe,IE.pe,PEnv.at,List.getD_cons_zero,List.getD_cons_succ,Qq,if_true,hn8]
      refine ⟨_,rfl,_,hadd,_,rfl,_,rfl,_,hr,_,rfl,_,rfl,_,rfl,?_⟩
      have:=ihe (seen'++[[c0,c1,c2,c3,c4,c5]]) (es'++[([c0,c1,c2,c3,c4,c5],qv)]) v2 hwy' (by simp; omega) n (by omega)
      rw [QC,<- Qf,Q3,Q6,a7Y] at this
      rw [c8s]
      exact this
   simp only [PEnv.push,Q0,Q1,Qf,Q9,Q7,d0q,at1,atL h0,atL h1,Qw,Qy,Qz,hlook,if_true,Q8,Qe]
   refine ⟨pv,rfl,?_⟩
   have:=inner ky.length [] [] v1 (.nil ky) (by simp) n (by omega)
   rw [Q6,Q2] at this
   have hlen:(σ++.mq (raises [l0,l1,l2,l3,l4,l5] w2 L) v1::.it hx vx (seen++[[b0,b1,b2,b3,b4,b5]])::g).length=σ.length+2+g.length:=by simp; omega
   rw [hlen]
   exact ⟨_,rfl,_,rfl,this⟩
 have hlow1:=a7J (o:=.mq [] 0) hlow rfl
 have nx:σ.length≠hx:=by omega
 have ny:σ.length≠hy:=by omega
 have m1:=b3i (T:=tabX) rfl 5 (σ:=σ++[.mq [] 0]) (at0 σ _ []) (atL h0 _) nx hlim (KvOk.nil _) gx hlow1
 rw [c8s] at m1
 have gx1:=(KvOk.nil [l0,l1,l2,l3,l4,l5]).raises (L:=kx) fun p hp=>(gx.all p hp).2.2.2
 have hlow2:=a7J (o:=.mq (raises [l0,l1,l2,l3,l4,l5] [] kx) (0+1)) hlow rfl
 have m2:=b3i (T:=tabX) rfl 5 (σ:=σ++[.mq (raises [l0,l1,l2,l3,l4,l5] [] kx) (0+1)]) (at0 σ _ []) (atL h1 _) ny hlim gx1 gy hlow2
 rw [c8s,hw2] at m2
 simp only [lpv,Q3,Q6] at m1 m2
 refine ⟨_,rfl,?_⟩
 show PT.wp _ a7t _ _
 unfold a7t
 simp only [PT.wp,Q0,Q1,Q2]
 refine ⟨_,rfl,_,m1,_,rfl,_,rfl,_,m2,_,rfl,?_⟩
 simp only [PEnv.push,Q0,Q1,Q2,Q9,Q7,atL h0,Qf,Qt,Q8,Qe]
 have:=outer kx.length [] [] [] (0+1+1) [] (.nil kx) (by simp) (by simp) (by simp) (kx.length*(ky.length+3)+1) (Qn _)
 rw [b2S] at this
 exact ⟨_,rfl,_,rfl,this⟩
end Go.Proofs.Ythmkfeiapdbojaa
set_option maxRecDepth 100000
namespace Go.Proofs.Ythmkfeiapdbojaa
open Go.Sx Go.Kv
theorem c5O:∀ {a b:List Int},nnL a=true->nnL b=true->nnL (a2X a b)=true
 | [],_,_,_=>rfl
 | _::_,[],_,_=>rfl
 | x::a,y::b,ha,hb=>by
  simp only [nnL,Qh,Q5,decide_eq_true_eq] at ha hb
  have:=c5O (a:=a) (b:=b) ha.2 hb.2
  simp only [nnL,a2X,Qp,Qh,Q5,decide_eq_true_eq] at *
  exact ⟨by omega,this⟩
theorem c0Y {lim:List Int} {kx ky:KV} (gx:KvOk lim kx) (gy:KvOk lim ky):∀ p∈a6r kx ky,nnL p.1=true:=by
 intro p hp
 simp only [a6r,List.mem_flatMap,Qa] at hp
 obtain ⟨x,hx,y,hy,rfl⟩:=hp
 exact c5O (gx.all x hx).2.2.2 (gy.all y hy).2.2.2
theorem c6O {lim:List Int} {kx ky:KV} (gx:KvOk lim kx) (gy:KvOk lim ky):KvOk lim (raises lim (raises lim [] kx) ky) :=
 ((KvOk.nil lim).raises fun p hp=>(gx.all p hp).2.2.2).raises fun p hp=>(gy.all p hp).2.2.2
theorem b2b {lim:List Int} {kx ky:KV} (gx:KvOk lim kx) (gy:KvOk lim ky):KvOk lim (a3r lim kx ky):=(c6O gx gy).raises (c0Y gx gy)
def c4H:List PV->List MO->Option (PV × List MO)
 | [.agg l,.mp hx,.mp hy],σ=>(a5B l).bind fun lim=>match σ[hx]?,σ[hy]? with
  | some (.mq kx _),some (.mq ky _)=>if a4r lim=true/\b0G lim kx=true/\b0G lim ky=true/\σ.all (MO.low σ.length)=true then some (.mp σ.length,σ++[.mq (a3r lim kx ky) 0]) else none
  | _,_=>none
 | _,_=>none
def c1B:Sx.Sys:=⟨[],.stuck,[],some c4H,none⟩
theorem c3k:SysOk Try.prog 77 c1B where
 ct Φ hΦ n aa σ r σ' h:=by
  change c4H aa σ=some (r,σ') at h
  unfold c4H at h
  split at h
  case h_2=>cases h
  rename_i σ l hx hy
  simp only [Qm] at h
  obtain ⟨lim,hl,h⟩:=h
  split at h
  case h_2=>cases h
  rename_i kx vx ky vy h0 h1
  split at h
  case isFalse=>cases h
  rename_i hc
  obtain ⟨c2,c3,c4,c5⟩:=hc
  simp only [Qb,QB] at h
  obtain ⟨rfl,rfl⟩:=h
  have g1:=a8Z c3
  have g2:=a8Z c4
  rw [a6h hl]
  refine CtD.one (CtD.fresh (d0j h0 h1 c2 g1 g2 c5) c5 ?_)
  rintro r' σ' ⟨rfl,L,v1,rest,hp,rfl⟩
  exact ⟨_,_,v1,_,rfl,rfl,Qn _,at0 _ _ _,a7X (c6O g1 g2) (.refl _) hp fun p hp2=>c0Y g1 g2 p (hp.mem_iff.1 hp2)⟩
def c4j (f:Nat):Option Sx.Sys:=if f=77 then some c1B else tabX f
theorem c8T:∀ f S,c4j f=some S->SysOk Try.prog f S:=by
 intro f S h
 unfold c4j at h
 split at h
 ·rename_i hf; subst hf; cases h; exact c3k
 ·exact c3C f S h
theorem d0B {T:Nat->Option Sx.Sys} (hT:T 77=some c1B) (n:Nat) {σ:List MO} {hx hy:Nat} {kx ky:KV} {vx vy:Nat} {lim:List Int} (h0:σ[hx]?=some (.mq kx vx)) (h1:σ[hy]?=some (.mq ky vy)) (hl:a4r lim=true)
  (g1:KvOk lim kx) (g2:KvOk lim ky) (hlow:σ.all (MO.low σ.length)=true) :
  a0e T (n+1) 77 [.agg (lpv lim),.mp hx,.mp hy] σ=some (.mp σ.length,σ++[.mq (a3r lim kx ky) 0]):=by
 rw [a0e,hT]
 simp only [Q4,Sys.run,c1B,c4H,a7s,h0,h1]
 rw [if_pos ⟨hl,b3g g1,b3g g2,hlow⟩]
end Go.Proofs.Ythmkfeiapdbojaa
set_option maxRecDepth 10000
namespace Go.Proofs.Ythmkfeiapdbojaa
open Go.Sx
inductive Ex where
 | node (op a b c d e f v:Int) (args:List Ex)
def Ex.args:Ex->List Ex | .node _ _ _ _ _ _ _ _ l=>l
mutual
def Ex.size:Ex->Nat | .node _ _ _ _ _ _ _ _ l=>a2a l+1
def a2a:List Ex->Nat | []=>0 | e::l=>e.size+a2a l
end
mutual
def Ex.depth:Ex->Int | .node _ _ _ _ _ _ _ _ l=>a5o 0 l+1
def a5o (m:Int):List Ex->Int | []=>m | e::l=>a5o (mxI m e.depth) l
end
mutual
def IsE:Ex->List PV->Prop
 | .node op a b c d e f v l,row=>∃ x rows,row=[.int .i64 op,.int .i64 a,.int .i64 b,.int .i64 c,.int .i64 d,.int .i64 e,.int .i64 f,.int .i64 v,x]/\x.rowsOf 9=some rows/\a1k l rows
def a1k:List Ex->List (List PV)->Prop
 | [],rows=>rows=[]
 | e::l,rows=>∃ r rs,rows=r::rs/\IsE e r/\a1k l rs
end
theorem a1k.length:∀ {l:List Ex} {rows:List (List PV)},a1k l rows->rows.length=l.length
 | [],rows,h=>by simp only [a1k] at h; subst h; rfl
 | e::l,rows,h=>by
  simp only [a1k] at h
  obtain ⟨r,rs,rfl,_,h⟩:=h
  simp [a1k.length h]
theorem a1k.split:∀ {l:List Ex} {rows:List (List PV)},a1k l rows->∀ i:Nat,a1k (l.drop i) (rows.drop i)
 | l,rows,h,0=>by simpa using h
 | [],rows,h,i+1=>by simp only [a1k] at h; subst h; simp [a1k]
 | e::l,rows,h,i+1=>by
  simp only [a1k] at h
  obtain ⟨r,rs,rfl,_,h⟩:=h
  simpa using a1k.split h i
mutual
theorem Ex.depth_le:∀ e:Ex,1<=e.depth/\e.depth<=e.size
 | .node _ _ _ _ _ _ _ _ l=>by
  have:=b9A 0 l
  simp only [mxI] at this
  simp only [Ex.depth,Ex.size]; split at this<;>omega
theorem b9A (m:Int):∀ l:List Ex,m<=a5o m l/\a5o m l<=mxI m (a2a l)
 | []=>by simp [a5o,a2a,mxI]; split<;>omega
 | e::l=>by
  have h1:=e.depth_le
  have h2:=b9A (mxI m e.depth) l
  simp only [a5o,a2a,mxI] at *
  repeat' split at h2
  all_goals (repeat' split)
  all_goals omega
end
theorem c0O:∀ e:Ex,1<=e.size
 | .node _ _ _ _ _ _ _ _ l=>by simp only [Ex.size]; omega
theorem a3d:∀ l:List Ex,l.length<=a2a l
 | []=>Qn _
 | e::l=>by have:=a3d l; have:=c0O e; simp only [a2a,Q8]; omega
theorem a2Q:∀ {l:List Ex} {e:Ex},e∈l->e.size<=a2a l
 | [],e,h=>by simp at h
 | x::l,e,h=>by
  simp only [a2a]
  rcases Qr.1 h with rfl | h
  ·omega
  ·have:=a2Q h; omega
end Go.Proofs.Ythmkfeiapdbojaa
set_option maxRecDepth 100000
namespace Go.Proofs.Ythmkfeiapdbojaa
open Go.Sx Go.Kv
def a9U (lim w:List Int) (v:Int) (x:KV):KV:=raises lim (a2I lim (raises lim [] x) w v) (x.map fun p=>(a2o p.1 w,p.2+v))
def a8r (lim:List Int) (v:Int) (x:KV):KV:=raises lim [] (x.map fun p=>(p.1,mnI p.2 v))
mutual
def a0z (lim:List Int):Ex->KV
 | .node op a b c d e f v l =>
  if op=1 then a2I lim [] [a,b,c,d,e,f] v
  else if op=2 then (a1p lim l).foldl (raises lim) []
  else if op=3 then (a1p lim l).foldl (a3r lim) []
  else if op=4 then a9U lim [a,b,c,d,e,f] v ((a1p lim l).headD [])
  else if op=5 then a8r lim v ((a1p lim l).headD [])
  else []
def a1p (lim:List Int):List Ex->List KV
 | []=>[]
 | e::l=>a0z lim e::a1p lim l
end
mutual
def okX:Ex->Bool
 | .node op a b c d e f v l=>nnL [a,b,c,d,e,f]&&decide (0<=v)&&decide (v<=1000000)&&((!decide (op=4)&&!decide (op=5))||decide (1<=l.length))&&a3k l
def a3k:List Ex->Bool
 | []=>true
 | e::l=>okX e&&a3k l
end
theorem b5V:∀ {a b:List Int},nnL a=true->nnL b=true->nnL (a2o a b)=true
 | [],_,_,_=>rfl
 | _::_,[],_,_=>rfl
 | x::a,y::b,ha,hb=>by
  simp only [nnL,Qh,Q5,decide_eq_true_eq] at ha hb
  have:=b5V (a:=a) (b:=b) ha.2 hb.2
  simp only [nnL,a2o,Qp,Qh,Q5,decide_eq_true_eq] at *
  exact ⟨by split<;>omega,this⟩
theorem a3s {lim:List Int} {a b:KV} (h:KvOk lim a) (g:KvOk lim b):KvOk lim (raises lim a b):=h.raises fun p hp=>(g.all p hp).2.2.2
theorem c6H {lim w:List Int} {v:Int} {x:KV} (h:KvOk lim x) (hw:nnL w=true):KvOk lim (a9U lim w v x):=by
 unfold a9U
 refine (KvOk.raise (a3s (.nil lim) h) hw).raises fun p hp=>?_
 obtain ⟨q,hq,rfl⟩:=Qa.1 hp
 exact b5V (h.all q hq).2.2.2 hw
theorem c5R {lim:List Int} {v:Int} {x:KV} (h:KvOk lim x):KvOk lim (a8r lim v x):=by
 unfold a8r
 refine (KvOk.nil lim).raises fun p hp=>?_
 obtain ⟨q,hq,rfl⟩:=Qa.1 hp
 exact (h.all q hq).2.2.2
theorem b3c {lim:List Int} {F:KV->KV->KV} (hF:∀ a b,KvOk lim a->KvOk lim b->KvOk lim (F a b)):∀ {l:List KV} {a:KV},KvOk lim a->(∀ x∈l,KvOk lim x)->KvOk lim (l.foldl F a)
 | [],_,h,_=>h
 | x::l,a,h,hl=>by rw [List.foldl_cons]; exact b3c hF (hF a x h (hl x (by simp))) (fun y hy=>hl y (by simp [hy]))
mutual
theorem a2P (lim:List Int):∀ e:Ex,okX e=true->KvOk lim (a0z lim e)
 | .node op a b c d e f v l,h=>by
  simp only [okX,Q5] at h
  obtain ⟨⟨⟨⟨h1,h2⟩,h3⟩,h4⟩,h5⟩:=h
  have hl:=b7u lim l h5
  have hhead:KvOk lim ((a1p lim l).headD []):=by
   cases hk:a1p lim l with
   | nil=>exact .nil lim
   | cons x r=>exact hl x (by rw [hk]; simp)
  simp only [a0z]
  split
  ·exact (KvOk.nil lim).raise h1
  split
  ·exact b3c (fun a b=>a3s) (.nil lim) hl
  split
  ·exact b3c (fun a b=>b2b) (.nil lim) hl
  split
  ·exact c6H hhead h1
  split
  ·exact c5R hhead
  ·exact .nil lim
theorem b7u (lim:List Int):∀ l:List Ex,a3k l=true->∀ x∈a1p lim l,KvOk lim x
 | [],_=>by simp [a1p]
 | e::l,h=>by
  simp only [a3k,Q5] at h
  intro x hx
  simp only [a1p,Qr] at hx
  rcases hx with rfl | hx
  ·exact a2P lim e h.1
  ·exact b7u lim l h.2 x hx
end
theorem a6T (lim:List Int):∀ (l:List Ex) (i:Nat),(a1p lim l)[i]?=(l[i]?).map (a0z lim)
 | [],i=>by simp [a1p]
 | e::l,0=>by simp [a1p]
 | e::l,i+1=>by simp [a1p,a6T lim l i]
theorem a6A:∀ {l:List Ex},a3k l=true->∀ {i:Nat} {e:Ex},l[i]?=some e->okX e=true
 | [],_,i,e,h=>by simp at h
 | x::l,h,0,e,hi=>by
  simp only [a3k,Q5] at h
  simp only [Q7,Qb] at hi
  subst hi; exact h.1
 | x::l,h,i+1,e,hi=>by
  simp only [a3k,Q5] at h
  exact a6A h.2 (by simpa using hi)
def a7H:Nat->List PV->Option Ex
 | 0,_=>none
 | n+1,[.int .i64 op,.int .i64 a,.int .i64 b,.int .i64 c,.int .i64 d,.int .i64 e,.int .i64 f,.int .i64 v,x]=>(x.rowsOf 9).bind fun rows=>(rows.mapM (a7H n)).map (.node op a b c d e f v)
 | _,_=>none
theorem b9L {n:Nat} (hd:∀ row e,a7H n row=some e->IsE e row):∀ {rows:List (List PV)} {l:List Ex},rows.mapM (a7H n)=some l->a1k l rows
 | [],l,h=>by simp at h; subst h; rfl
 | r::rows,l,h=>by
  simp only [QQ,QS,Qm,QU,Qb] at h
  obtain ⟨e,he,l',hl,rfl⟩:=h
  exact ⟨r,rows,rfl,hd _ _ he,b9L hd hl⟩
theorem b4u:∀ (n:Nat) (row:List PV) (e:Ex),a7H n row=some e->IsE e row:=by
 intro n
 induction n with
 | zero=>intro row e h; simp [a7H] at h
 | succ n ih =>
  intro row e h
  unfold a7H at h
  split at h
  ·rename_i heq; cases heq
  ·rename_i heq
   cases heq
   simp only [Qm,QL] at h
   obtain ⟨rows,hr,l,hl,rfl⟩:=h
   exact ⟨_,rows,rfl,hr,b9L ih hl⟩
  ·cases h
theorem c3L {n:Nat}:∀ {l:List Ex} {rows:List (List PV)},a1k l rows->(∀ e∈l,∀ row,IsE e row->a7H n row=some e)->rows.mapM (a7H n)=some l
 | [],rows,h,_=>by simp only [a1k] at h; subst h; rfl
 | e::l,rows,h,hd=>by
  simp only [a1k] at h
  obtain ⟨r,rs,rfl,h1,h2⟩:=h
  simp only [QQ,hd e (by simp) r h1,c3L h2 (fun x hx=>hd x (by simp [hx])),QS,Q4,QU]
theorem b5F:∀ (n:Nat) (e:Ex) (row:List PV),IsE e row->e.size<=n->a7H n row=some e
 | 0,e,row,_,h=>by have:=c0O e; omega
 | n+1,.node op a b c d e f v l,row,h,hs=>by
  simp only [IsE] at h
  obtain ⟨x,rows,rfl,hr,hl⟩:=h
  simp only [Ex.size] at hs
  simp only [a7H,hr,Q4]
  rw [c3L hl fun e he row hrow=>b5F n e row hrow (by have:=a2Q he; omega)]
  rfl
mutual
theorem c3f (k:Nat):∀ (e:Ex) (row:List PV),IsE e row->PV.lows k row=true
 | .node op a b c d e f v l,row,h=>by
  simp only [IsE] at h
  obtain ⟨x,rows,rfl,hr,hl⟩:=h
  have:=b6G k l rows hl
  have hx:x.low k=true:=by
   cases x<;>simp only [PV.rowsOf] at hr<;>try (cases hr)
   ·rfl
   ·split at hr
    ·cases hr; exact this
    ·cases hr
  simp only [PV.lows,PV.low,hx,Qq]
theorem b6G (k:Nat):∀ (l:List Ex) (rows:List (List PV)),a1k l rows->PV.lowss k rows=true
 | [],rows,h=>by simp only [a1k] at h; subst h; rfl
 | e::l,rows,h=>by
  simp only [a1k] at h
  obtain ⟨r,rs,rfl,h1,h2⟩:=h
  simp only [PV.lowss,c3f k e r h1,b6G k l rs h2,Qq]
end
end Go.Proofs.Ythmkfeiapdbojaa
set_option maxRecDepth 100000
namespace Go.Proofs.Ythmkfeiapdbojaa
open Go.Sx Go.Kv
def ofF (N:Nat):List PV->List MO->Option (PV × List MO)
 | [.agg row,.agg l],σ=>(a7H 400 row).bind fun e=>(a5B l).bind fun lim =>
  if e.size < N/\e.size<=400/\okX e=true/\a4r lim=true/\σ.all (MO.low σ.length)=true then some (.mp σ.length,σ++[.mq (a0z lim e) 0]) else none
 | _,_=>none
def ofP (N:Nat):Sx.Sys:=⟨[],.stuck,[],some (ofF N),none⟩
theorem c4L {T:Nat->Option Sx.Sys} {N:Nat} (hT:T 49=some (ofP N)) (n:Nat) {σ:List MO} {e:Ex} {row:List PV} (hrow:IsE e row) (h1:e.size < N) (h2:e.size<=400) (h3:okX e=true) {lim:List Int} (hl:a4r lim=true)
  (hlow:σ.all (MO.low σ.length)=true):a0e T (n+1) 49 [.agg row,.agg (lpv lim)] σ=some (.mp σ.length,σ++[.mq (a0z lim e) 0]):=by
 rw [a0e,hT]
 simp only [Q4,Sys.run,ofP,ofF,a7s,b5F 400 e row hrow h2]
 rw [if_pos ⟨h1,h2,h3,hl,hlow⟩]
def a3G (N:Nat) (f:Nat):Option Sx.Sys:=if f=49 then some (ofP N) else if f=74 then some valuation_of_1_S else c4j f
theorem c9t {N:Nat} (hN:SysOk Try.prog 49 (ofP N)):∀ f S,a3G N f=some S->SysOk Try.prog f S:=by
 intro f S h
 unfold a3G at h
 split at h
 ·rename_i hf; subst hf; cases h; exact hN
 split at h
 ·rename_i hf; subst hf; cases h; exact a8I
 ·exact c8T f S h
theorem a1k.at {l:List Ex} {rows:List (List PV)} (h:a1k l rows) {i:Nat} {e:Ex} (he:l[i]?=some e):∃ r,rows[i]?=some r/\IsE e r:=by
 have hd:=h.split i
 rw [QD,he] at hd
 simp only [Option.toList_some,List.singleton_append,a1k] at hd
 obtain ⟨r,rs,hd1,hd2,hd3⟩:=hd
 refine ⟨r,?_,hd2⟩
 have:=congrArg (fun l=>l[0]?) hd1
 simpa using this
theorem d0s (h:Nat):(PV.mp h).one=true:=rfl
theorem d0X {α:Type} (p0 p1 p2 p3 p4 p5 p6 p7 x:α):List.drop 8 [p0,p1,p2,p3,p4,p5,p6,p7,x]=[x]:=rfl
theorem c1R {T:Nat->Option Sx.Sys} {N:Nat} (hT:T 49=some (ofP N)) (hT1:T 74=some valuation_of_1_S) (n:Nat) {σ rest:List MO} {op a b c d e f v:Int} {l:List Ex} {x:PV} {rows:List (List PV)} (hx:x.rowsOf 9=some rows) (hr:a1k l rows)
  {lim:List Int} (hl:a4r lim=true) {i:Nat} {ei:Ex} (hi:l[i]?=some ei) (h1:ei.size < N) (h2:ei.size<=400) (h3:okX ei=true)
  {m:List MO} (hm:m=σ++.cells [.int .i64 op,.int .i64 a,.int .i64 b,.int .i64 c,.int .i64 d,.int .i64 e,.int .i64 f,.int .i64 v,x] 26::.cells (lpv lim) 23::rest) (hlow:m.all (MO.low m.length)=true) :
  a0e T (n+2) 74 [.int .i64 i,.ref σ.length 0,.ref (σ.length+1) 0] m=some (.mp m.length,m++[.mq (a0z lim ei) 0]):=by
 obtain ⟨ri,hri,hei⟩:=hr.at hi
 have hof:=c4L hT n hei h1 h2 h3 hl hlow
 have hloc:=a4d (off:=0) hx hri
 obtain ⟨x1,x2,x3⟩:=a0T hx
 have hlen:=hr.length
 have hil:=(Qj.1 hi).1
 have g0:m[σ.length]?=some (.cells [.int .i64 op,.int .i64 a,.int .i64 b,.int .i64 c,.int .i64 d,.int .i64 e,.int .i64 f,.int .i64 v,x] 26):=by rw [hm]; exact at0 _ _ _
 have g1:m[σ.length+1]?=some (.cells (lpv lim) 23):=by rw [hm]; exact at1 _ _ _ _
 obtain ⟨l0,l1,l2,l3,l4,l5,rfl⟩:=a1z (b0L hl).1
 obtain ⟨op',a',b',c',d',e',f',v',l'⟩:=ei
 simp only [IsE] at hei
 obtain ⟨y,rows',rfl,hy,hl'⟩:=hei
 obtain ⟨y1,y2,y3⟩:=a0T hy
 simp only [lpv,Q3,Q6] at g1 hof
 have q1:(leB 0 (i:Int)&&ltB (i:Int) (rows.length:Int))=true:=by simp [leB,ltB]; omega
 rw [a0e,hT1]
 simp only [Q4,Sys.run]
 show ((a0i [.sh (.one (.int .i64)),.ptr,.ptr] _).bind _)=_
 simp only [a0i,a0d,a0c,Qd,Q4,Q2,Q1,Q0,if_true,PV.isPtr]
 show (PT.ev _ a6F _).bind _=_
 simp -implicitDefEqProofs only [a6F,↓reduceIte,eq_self,ξ1,ξ2,ξ3,ξ4,ξ5,ξ6,ξ7,ξ8,ξ9,ξa,ξb,ξc,ξd,ξe,ξf,ξg,ξh,Nat.reduceAdd,ξi,if_true,if_false,ξl,ξm,ξn,ξo,ξp,ξq,ξr,ξs,ξt,ξu,ξv,ξw,ξx,ξy,ξz,ξA,ξB,ξC,ξD,ξE,g0,g1,hloc,hof,a0k,or_true,x1,x2,x3,y3,q1,MO.list,true_or,d0X,d0s]
end Go.Proofs.Ythmkfeiapdbojaa
set_option maxRecDepth 100000
namespace Go.Proofs.Ythmkfeiapdbojaa
open Go.Sx Go.Kv
theorem a9F (N:Nat):Ext (a3G N):=by
 intro f S h
 unfold a3G
 rw [if_neg (by rintro rfl; cases h),if_neg (by rintro rfl; cases h)]
 unfold c4j
 rw [if_neg (by rintro rfl; cases h)]
 exact b6T f S h
theorem a8H (σ:List MO) (x y z:MO) (l:List MO):(σ++x::y::z::l)[σ.length+2]?=some z:=by rw [Qg (by omega)]; simp
theorem b5K (σ:List MO) (x y z z':MO) (l:List MO):(σ++x::y::z::l).set (σ.length+2) z'=σ++x::y::z'::l:=by rw [Qk _ _ (by omega)]; simp
theorem b6Y (σ:List MO) (x y z u:MO) (l:List MO):(σ++x::y::z::u::l)[σ.length+3]?=some u:=by rw [Qg (by omega)]; simp
theorem c3Y (σ:List MO) (x y z u t:MO) (l:List MO):(σ++x::y::z::u::t::l)[σ.length+4]?=some t:=by rw [Qg (by omega)]; simp
theorem c8H (σ:List MO) (x y z u t t':MO) (l:List MO):(σ++x::y::z::u::t::l).set (σ.length+4) t'=σ++x::y::z::u::t'::l:=by rw [Qk _ _ (by omega)]; simp
abbrev a3Z (op a b c d e f v:Int) (x:PV):List PV:=[.int .i64 op,.int .i64 a,.int .i64 b,.int .i64 c,.int .i64 d,.int .i64 e,.int .i64 f,.int .i64 v,x]
abbrev a3D (l0 l1 l2 l3 l4 l5:Int):List PV:=[.int .i64 l0,.int .i64 l1,.int .i64 l2,.int .i64 l3,.int .i64 l4,.int .i64 l5]
def b9a (σ:List MO) (kv:KV) (r':PV) (σ':List MO):Prop:=∃ (j:Nat) (kv1:KV) (v1:Nat) (rest:List MO),r'=.mp j/\σ'=σ++rest/\σ.length<=j/\σ'[j]?=some (.mq kv1 v1)/\kv1.Perm kv
theorem c9q {Φ:Fns} {R:Res->Prop} {op a b c d e f v l0 l1 l2 l3 l4 l5:Int} {x:PV} {σ:List MO} (K:PT)
  (h:K.wp Φ { i:=[op,a,b,c,d,e,f,v,l0,l1,l2,l3,l4,l5],b:=[],v:=[x,.ref σ.length 0,.ref (σ.length+1) 0,.mp (σ.length+2)],m:=σ++.cells (a3Z op a b c d e f v x) 26::.cells (a3D l0 l1 l2 l3 l4 l5) 23::[.mq [] 0],k:=σ.length } R) :
  (PT.newM [(.int .i64 (.a 0)),(.int .i64 (.a 1)),(.int .i64 (.a 2)),(.int .i64 (.a 3)),(.int .i64 (.a 4)),(.int .i64 (.a 5)),(.int .i64 (.a 6)),(.int .i64 (.a 7)),(.va 0)] 26
   (.newM [(.int .i64 (.a 8)),(.int .i64 (.a 9)),(.int .i64 (.a 10)),(.int .i64 (.a 11)),(.int .i64 (.a 12)),(.int .i64 (.a 13))] 23 (.mkQ K))).wp Φ
   { i:=[op,a,b,c,d,e,f,v,l0,l1,l2,l3,l4,l5],b:=[],v:=[x],m:=σ,k:=σ.length } R:=by
 refine ⟨_,rfl,_,rfl,?_⟩
 simp only [PT.wp,Qt,Q8,Qe,Qf,Q0,Q1,Nat.zero_add]
 exact h
theorem c3R {N n:Nat} {op a b c d e f v l0 l1 l2 l3 l4 l5:Int} {x:PV} {σ:List MO} (hx3:x.one=true) {R:PV->List MO->Prop} {K:PT}
  (hs:∃ k1 k2 k3,a7E=.newM k1 26 (.newM k2 23 (.mkQ (.load false (.pa 1 0) k3 K))))
  (h:K.wp (a0e (a3G N) 9) { i:=[op,a,b,c,d,e,f,v,l0,l1,l2,l3,l4,l5,op],b:=[],v:=[x,.ref σ.length 0,.ref (σ.length+1) 0,.mp (σ.length+2)],m:=σ++.cells (a3Z op a b c d e f v x) 26::.cells (a3D l0 l1 l2 l3 l4 l5) 23::[.mq [] 0],k:=σ.length }
   (fun | .ret r σ=>R r σ | .jump q ρ=>valuation_of_S.loopD (a0e (a3G N) 9) n q ρ R)) :
  valuation_of_S.runD (a0e (a3G N) 9) n [.agg (a3Z op a b c d e f v x),.agg (a3D l0 l1 l2 l3 l4 l5)] σ R:=by
 refine ⟨([op,a,b,c,d,e,f,v,l0,l1,l2,l3,l4,l5],[],[x]),?_,?_⟩
 ·show a0i [.sh (.agg [_,_,_,_,_,_,_,_,_]),.sh (.agg [_,_,_,_,_,_])] _=_
  simp only [a0i,a0d,a0c,Qd,Q4,Q2,Q1,Q0,if_true,hx3]
 ·refine c9q _ ?_
  refine a2j rfl (a2V (at0 _ _ _) rfl) rfl ?_
  obtain ⟨k1,k2,k3,hs⟩:=hs
  unfold a7E at hs
  simp only [PT.newM.injEq,PT.mkQ.injEq,PT.load.injEq] at hs
  obtain ⟨_,_,_,_,_,_,_,hK⟩:=hs
  rw [hK]
  exact h
end Go.Proofs.Ythmkfeiapdbojaa
set_option maxRecDepth 100000
namespace Go.Proofs.Ythmkfeiapdbojaa
open Go.Sx Go.Kv
section
variable {N n:Nat} {op a b c d e f v l0 l1 l2 l3 l4 l5:Int} {l:List Ex} {x:PV} {rows:List (List PV)} {σ:List MO}
theorem c9r (hx3:x.one=true) (hop:op=1) (R:PV->List MO->Prop)
  (hR:∀ v1,R (.mp (σ.length+2)) (σ++.cells (a3Z op a b c d e f v x) 26::.cells (a3D l0 l1 l2 l3 l4 l5) 23::[MO.mq (a2I [l0,l1,l2,l3,l4,l5] [] [a,b,c,d,e,f] v) v1])) :
  valuation_of_S.runD (a0e (a3G N) 9) n [.agg (a3Z op a b c d e f v x),.agg (a3D l0 l1 l2 l3 l4 l5)] σ R:=by
 refine c3R hx3 ⟨_,_,_,rfl⟩ ?_
 refine a2n rfl (by subst hop; rfl) ?_
 refine a2j rfl (a2V (at1 _ _ _ _) rfl) rfl ?_
 refine a2j rfl (a2V (at0 _ _ _) rfl) rfl ?_
 refine a2j rfl (a2V (at0 _ _ _) rfl) rfl ?_
 obtain ⟨v1,hr⟩:=a7Q (a9F N) 6 (σ++.cells (a3Z op a b c d e f v x) 26::.cells (a3D l0 l1 l2 l3 l4 l5) 23::[MO.mq [] 0]) (a8H _ _ _ _ _) rfl (lim:=[l0,l1,l2,l3,l4,l5]) (b:=[a,b,c,d,e,f]) rfl rfl v
 refine a1m rfl hr rfl ?_
 refine a9i rfl ?_
 have:=hR v1
 rw [<- b5K σ _ _ (MO.mq [] 0)] at this
 exact this
theorem c6Z {row l:List PV} (T T':Nat) (hlow:σ.all (MO.low σ.length)=true) (hr:PV.lows (σ.length+3) row=true) (hl:PV.lows (σ.length+3) l=true) (w:KV) (v1:Nat) :
  (σ++.cells row T::.cells l T'::[MO.mq w v1]).all (MO.low (σ++.cells row T::.cells l T'::[MO.mq w v1]).length)=true:=by
 have he:(σ++.cells row T::.cells l T'::[MO.mq w v1]).length=σ.length+3:=by simp
 rw [he,List.all_append,Qh,Qh,Qh,List.all_nil]
 simp only [MO.low,hr,hl,Qq,Bool.and_true]
 rw [List.all_eq_true] at hlow ⊢
 exact fun o ho=>MO.low_mono (by omega) (hlow o ho)
theorem c3P (k:Nat):∀ z:List Int,PV.lows k (lpv z)=true
 | []=>rfl
 | y::z=>by
  have:=c3P k z
  unfold lpv at *
  simp only [Q3,PV.lows,PV.low,this,Qq]
theorem c2x (hx:x.rowsOf 9=some rows) (hr:a1k l rows) (hs:a2a l < N) (h4:a2a l < 400) (hok:a3k l=true) (hl:a4r [l0,l1,l2,l3,l4,l5]=true) {kv:KV} :
  ∀ (n i:Nat) (w:KV) (v1:Nat) (rest m:List MO),l.length < i+n->m=σ++.cells (a3Z op a b c d e f v x) 26::.cells (a3D l0 l1 l2 l3 l4 l5) 23::.mq w v1::rest->m.all (MO.low m.length)=true->i<=l.length ->
   KvOk [l0,l1,l2,l3,l4,l5] w->((a1p [l0,l1,l2,l3,l4,l5] l).drop i).foldl (raises [l0,l1,l2,l3,l4,l5]) w=kv ->
   valuation_of_S.loopD (a0e (a3G N) 9) n 0 { i:=[x.len,i],b:=[],v:=[.ref (σ.length+1) 0,.mp (σ.length+2),.ref σ.length 0],m:=m,k:=σ.length } (b9a σ kv):=by
 obtain ⟨x1,x2,x3⟩:=a0T hx
 have hlen:=hr.length
 intro n
 induction n with
 | zero=>intro i w v1 rest m h1 _ _ h2; omega
 | succ n ih =>
  intro i w v1 rest m hin hm hlow hil gw hkv
  refine ⟨_,rfl,?_⟩
  show PT.wp _ b0R _ _
  by_cases hlt:i < l.length
  ·obtain ⟨ei,hei⟩:∃ e1,l[i]?=some e1:=⟨_,QE hlt⟩
   have hsz:=a2Q (QH hei)
   have harg:=fun n=>c1R (T:=a3G N) rfl rfl n hx hr hl hei (by omega) (by omega) (a6A hok hei) hm hlow
   have gk:=a2P [l0,l1,l2,l3,l4,l5] ei (a6A hok hei)
   have hlow2:=a7J (o:=.mq (a0z [l0,l1,l2,l3,l4,l5] ei) 0) hlow rfl
   have hm2:m++[MO.mq (a0z [l0,l1,l2,l3,l4,l5] ei) 0]=σ++.cells (a3Z op a b c d e f v x) 26::.cells (a3D l0 l1 l2 l3 l4 l5) 23::.mq w v1::(rest++[MO.mq (a0z [l0,l1,l2,l3,l4,l5] ei) 0]):=by rw [hm]; simp
   have q0:(m++[MO.mq (a0z [l0,l1,l2,l3,l4,l5] ei) 0])[σ.length+2]?=some (MO.mq w v1):=by rw [hm2]; exact a8H _ _ _ _ _
   have qne:σ.length+2≠m.length:=by rw [hm]; simp
   have hmrg:=b3i (T:=a3G N) rfl 8 (σ:=m++[MO.mq (a0z [l0,l1,l2,l3,l4,l5] ei) 0]) q0 (at0 m _ []) qne hl gw gk hlow2
   have hnext:=ih (i+1) (raises [l0,l1,l2,l3,l4,l5] w (a0z [l0,l1,l2,l3,l4,l5] ei)) (v1+1) (rest++[MO.mq (a0z [l0,l1,l2,l3,l4,l5] ei) 0]) ((m++[MO.mq (a0z [l0,l1,l2,l3,l4,l5] ei) 0]).set (σ.length+2) (MO.mq (raises [l0,l1,l2,l3,l4,l5] w (a0z [l0,l1,l2,l3,l4,l5] ei)) (v1+1)))
    (by omega) (by rw [hm2,b5K]) (by rw [Qs]; exact c3u hlow2 rfl) (by omega) (a3s gw gk)
    (by rw [<- hkv,QD (i:=i),a6T,hei]; simp)
   have hcast:((i+1:Nat):Int)=(i:Int)+1:=by omega
   rw [hcast] at hnext
   have g0:m[σ.length]?=some (.cells (a3Z op a b c d e f v x) 26):=by rw [hm]; exact at0 _ _ _
   have g1:m[σ.length+1]?=some (.cells (a3D l0 l1 l2 l3 l4 l5) 23):=by rw [hm]; exact at1 _ _ _ _
   have g1':(m++[MO.mq (a0z [l0,l1,l2,l3,l4,l5] ei) 0])[σ.length+1]?=some (.cells (a3D l0 l1 l2 l3 l4 l5) 23):=atL g1 _
   have hneed:(leB (-9223372036854775808) ((i:Int)+1)&&leB ((i:Int)+1) 9223372036854775807)=true:=by
    have:=a3d l
    simp [leB]; omega
   refine a2n rfl (by show ltB (i:Int) x.len=true; rw [x1]; simp [ltB]; omega) ?_
   have harg7:a0e (a3G N) 9 74 [.int .i64 i,.ref σ.length 0,.ref (σ.length+1) 0] m=_:=harg 7
   refine b5S ?_ ?_
   ·refine a2j rfl (a2V g1 rfl) rfl ?_
    refine a1m (aa:=[.int .i64 i,.ref σ.length 0,.ref (σ.length+1) 0]) (r:=.mp m.length) (σ:=m++[MO.mq (a0z [l0,l1,l2,l3,l4,l5] ei) 0]) (z:=([],[],[.mp m.length])) ?_ harg7 ?_ ?_
    ·rfl
    ·rfl
    refine a1m (aa:=[.mp (σ.length+2),.agg (lpv [l0,l1,l2,l3,l4,l5]),.mp m.length]) (r:=.tup []) (σ:=(m++[MO.mq (a0z [l0,l1,l2,l3,l4,l5] ei) 0]).set (σ.length+2) (MO.mq (raises [l0,l1,l2,l3,l4,l5] w (a0z [l0,l1,l2,l3,l4,l5] ei)) (v1+1))) (z:=([],[],[])) ?_ hmrg ?_ ?_
    ·rfl
    ·rfl
    simp only [PEnv.push,Q0,Q1,Q2]
    simp only [PT.wp,↓reduceIte,eq_self,ξ1,ξ2,ξ3,ξ4,ξ5,ξ6,ξ7,ξ8,ξ9,ξa,ξb,ξc,ξd,ξe,ξf,ξg,ξh,Nat.reduceAdd,ξi,if_true,if_false,ξl,ξm,ξn,ξo,ξp,ξq,ξr,ξs,ξt,ξu,ξv,ξw,ξx,ξy,ξz,ξA,ξB,ξC,ξD,ξE,hneed,exists_eq_left',Qb]
    exact hnext
   ·refine a1m (aa:=[.int .i64 i,.ref σ.length 0,.ref (σ.length+1) 0]) (r:=.mp m.length) (σ:=m++[MO.mq (a0z [l0,l1,l2,l3,l4,l5] ei) 0]) (z:=([],[],[.mp m.length])) ?_ harg7 ?_ ?_
    ·rfl
    ·rfl
    refine a2j rfl (a2V g1' rfl) rfl ?_
    refine a1m (aa:=[.mp (σ.length+2),.agg (lpv [l0,l1,l2,l3,l4,l5]),.mp m.length]) (r:=.tup []) (σ:=(m++[MO.mq (a0z [l0,l1,l2,l3,l4,l5] ei) 0]).set (σ.length+2) (MO.mq (raises [l0,l1,l2,l3,l4,l5] w (a0z [l0,l1,l2,l3,l4,l5] ei)) (v1+1))) (z:=([],[],[])) ?_ hmrg ?_ ?_
    ·rfl
    ·rfl
    simp only [PEnv.push,Q0,Q1,Q2]
    simp only [PT.wp,↓reduceIte,eq_self,ξ1,ξ2,ξ3,ξ4,ξ5,ξ6,ξ7,ξ8,ξ9,ξa,ξb,ξc,ξd,ξe,ξf,ξg,ξh,Nat.reduceAdd,ξi,if_true,if_false,ξl,ξm,ξn,ξo,ξp,ξq,ξr,ξs,ξt,ξu,ξv,ξw,ξx,ξy,ξz,ξA,ξB,ξC,ξD,ξE,hneed,exists_eq_left',Qb]
    exact hnext
  ·have hi:i=l.length:=by omega
   subst hi
   refine a1Z rfl (by show ltB (l.length:Int) x.len=false; rw [x1]; simp [ltB]; omega) ?_
   refine a9i rfl ?_
   have hk:(a1p [l0,l1,l2,l3,l4,l5] l).drop l.length=[]:=by
    rw [QV]
    have:=a6T [l0,l1,l2,l3,l4,l5] l l.length
    rw [QW (by omega:l.length<=l.length),QX] at this
    exact QY.1 this
   rw [hk] at hkv
   refine ⟨_,w,v1,_,rfl,hm,by omega,by rw [hm]; exact a8H _ _ _ _ _,?_⟩
   rw [<- hkv]; exact .refl _
end
end Go.Proofs.Ythmkfeiapdbojaa
set_option maxRecDepth 100000
namespace Go.Proofs.Ythmkfeiapdbojaa
open Go.Sx Go.Kv
section
variable {N n:Nat} {op a b c d e f v l0 l1 l2 l3 l4 l5:Int} {l:List Ex} {x:PV} {rows:List (List PV)} {σ:List MO}
theorem c5b (hx:x.rowsOf 9=some rows) (hr:a1k l rows) (hs:a2a l < N) (h4:a2a l < 400) (hok:a3k l=true) (hl:a4r [l0,l1,l2,l3,l4,l5]=true) {kv:KV} :
  ∀ (n i j:Nat) (w:KV) (v1:Nat) (rest m:List MO),l.length < i+n->m=σ++.cells (a3Z op a b c d e f v x) 26::.cells (a3D l0 l1 l2 l3 l4 l5) 23::rest->σ.length<=j->m[j]?=some (.mq w v1)->m.all (MO.low m.length)=true->i<=l.length ->
   KvOk [l0,l1,l2,l3,l4,l5] w->((a1p [l0,l1,l2,l3,l4,l5] l).drop i).foldl (a3r [l0,l1,l2,l3,l4,l5]) w=kv ->
   valuation_of_S.loopD (a0e (a3G N) 9) n 1 { i:=[x.len,i],b:=[],v:=[.ref (σ.length+1) 0,.mp j,.ref σ.length 0],m:=m,k:=σ.length } (b9a σ kv):=by
 obtain ⟨x1,x2,x3⟩:=a0T hx
 have hlen:=hr.length
 intro n
 induction n with
 | zero=>intro i j w v1 rest m h1 _ _ _ _ h2; omega
 | succ n ih =>
  intro i j w v1 rest m hin hm hj hjg hlow hil gw hkv
  refine ⟨_,rfl,?_⟩
  show PT.wp _ b0F _ _
  by_cases hlt:i < l.length
  ·obtain ⟨ei,hei⟩:∃ e1,l[i]?=some e1:=⟨_,QE hlt⟩
   have hsz:=a2Q (QH hei)
   have harg:=fun n=>c1R (T:=a3G N) rfl rfl n hx hr hl hei (by omega) (by omega) (a6A hok hei) hm hlow
   have gk:=a2P [l0,l1,l2,l3,l4,l5] ei (a6A hok hei)
   have hlow2:=a7J (o:=.mq (a0z [l0,l1,l2,l3,l4,l5] ei) 0) hlow rfl
   have hsum:=d0B (T:=a3G N) rfl 8 (σ:=m++[MO.mq (a0z [l0,l1,l2,l3,l4,l5] ei) 0]) (atL hjg _) (at0 m _ []) hl gw gk hlow2
   have hlow3:=a7J (o:=.mq (a3r [l0,l1,l2,l3,l4,l5] w (a0z [l0,l1,l2,l3,l4,l5] ei)) 0) hlow2 rfl
   have hnext:=ih (i+1) (m++[MO.mq (a0z [l0,l1,l2,l3,l4,l5] ei) 0]).length (a3r [l0,l1,l2,l3,l4,l5] w (a0z [l0,l1,l2,l3,l4,l5] ei)) 0 (rest++[MO.mq (a0z [l0,l1,l2,l3,l4,l5] ei) 0]++[MO.mq (a3r [l0,l1,l2,l3,l4,l5] w (a0z [l0,l1,l2,l3,l4,l5] ei)) 0])
    (m++[MO.mq (a0z [l0,l1,l2,l3,l4,l5] ei) 0]++[MO.mq (a3r [l0,l1,l2,l3,l4,l5] w (a0z [l0,l1,l2,l3,l4,l5] ei)) 0])
    (by omega) (by rw [hm]; simp) (by rw [hm]; simp) (at0 _ _ []) hlow3 (by omega) (b2b gw gk)
    (by rw [<- hkv,QD (i:=i),a6T,hei]; simp)
   have hcast:((i+1:Nat):Int)=(i:Int)+1:=by omega
   rw [hcast] at hnext
   have g0:m[σ.length]?=some (.cells (a3Z op a b c d e f v x) 26):=by rw [hm]; exact at0 _ _ _
   have g1:m[σ.length+1]?=some (.cells (a3D l0 l1 l2 l3 l4 l5) 23):=by rw [hm]; exact at1 _ _ _ _
   have g1':(m++[MO.mq (a0z [l0,l1,l2,l3,l4,l5] ei) 0])[σ.length+1]?=some (.cells (a3D l0 l1 l2 l3 l4 l5) 23):=atL g1 _
   have hneed:(leB (-9223372036854775808) ((i:Int)+1)&&leB ((i:Int)+1) 9223372036854775807)=true:=by
    have:=a3d l
    simp [leB]; omega
   refine a2n rfl (by show ltB (i:Int) x.len=true; rw [x1]; simp [ltB]; omega) ?_
   have harg7:a0e (a3G N) 9 74 [.int .i64 i,.ref σ.length 0,.ref (σ.length+1) 0] m=_:=harg 7
   refine b5S ?_ ?_
   ·refine a2j rfl (a2V g1 rfl) rfl ?_
    refine a1m (aa:=[.int .i64 i,.ref σ.length 0,.ref (σ.length+1) 0]) (r:=.mp m.length) (σ:=m++[MO.mq (a0z [l0,l1,l2,l3,l4,l5] ei) 0]) (z:=([],[],[.mp m.length])) ?_ harg7 ?_ ?_
    ·rfl
    ·rfl
    refine a1m (aa:=[.agg (lpv [l0,l1,l2,l3,l4,l5]),.mp j,.mp m.length]) (r:=.mp (m++[MO.mq (a0z [l0,l1,l2,l3,l4,l5] ei) 0]).length) (σ:=m++[MO.mq (a0z [l0,l1,l2,l3,l4,l5] ei) 0]++[MO.mq (a3r [l0,l1,l2,l3,l4,l5] w (a0z [l0,l1,l2,l3,l4,l5] ei)) 0]) (z:=([],[],[.mp (m++[MO.mq (a0z [l0,l1,l2,l3,l4,l5] ei) 0]).length])) ?_ hsum ?_ ?_
    ·rfl
    ·rfl
    simp only [PEnv.push,Q0,Q1,Q2]
    simp only [PT.wp,↓reduceIte,eq_self,ξ1,ξ2,ξ3,ξ4,ξ5,ξ6,ξ7,ξ8,ξ9,ξa,ξb,ξc,ξd,ξe,ξf,ξg,ξh,Nat.reduceAdd,ξi,if_true,if_false,ξl,ξm,ξn,ξo,ξp,ξq,ξr,ξs,ξt,ξu,ξv,ξw,ξx,ξy,ξz,ξA,ξB,ξC,ξD,ξE,hneed,exists_eq_left',Qb]
    exact hnext
   ·refine a1m (aa:=[.int .i64 i,.ref σ.length 0,.ref (σ.length+1) 0]) (r:=.mp m.length) (σ:=m++[MO.mq (a0z [l0,l1,l2,l3,l4,l5] ei) 0]) (z:=([],[],[.mp m.length])) ?_ harg7 ?_ ?_
    ·rfl
    ·rfl
    refine a2j rfl (a2V g1' rfl) rfl ?_
    refine a1m (aa:=[.agg (lpv [l0,l1,l2,l3,l4,l5]),.mp j,.mp m.length]) (r:=.mp (m++[MO.mq (a0z [l0,l1,l2,l3,l4,l5] ei) 0]).length) (σ:=m++[MO.mq (a0z [l0,l1,l2,l3,l4,l5] ei) 0]++[MO.mq (a3r [l0,l1,l2,l3,l4,l5] w (a0z [l0,l1,l2,l3,l4,l5] ei)) 0]) (z:=([],[],[.mp (m++[MO.mq (a0z [l0,l1,l2,l3,l4,l5] ei) 0]).length])) ?_ hsum ?_ ?_
    ·rfl
    ·rfl
    simp only [PEnv.push,Q0,Q1,Q2]
    simp only [PT.wp,↓reduceIte,eq_self,ξ1,ξ2,ξ3,ξ4,ξ5,ξ6,ξ7,ξ8,ξ9,ξa,ξb,ξc,ξd,ξe,ξf,ξg,ξh,Nat.reduceAdd,ξi,if_true,if_false,ξl,ξm,ξn,ξo,ξp,ξq,ξr,ξs,ξt,ξu,ξv,ξw,ξx,ξy,ξz,ξA,ξB,ξC,ξD,ξE,hneed,exists_eq_left',Qb]
    exact hnext
  ·have hi:i=l.length:=by omega
   subst hi
   refine a1Z rfl (by show ltB (l.length:Int) x.len=false; rw [x1]; simp [ltB]; omega) ?_
   refine a9i rfl ?_
   have hk:(a1p [l0,l1,l2,l3,l4,l5] l).drop l.length=[]:=by
    rw [QV]
    have:=a6T [l0,l1,l2,l3,l4,l5] l l.length
    rw [QW (by omega:l.length<=l.length),QX] at this
    exact QY.1 this
   rw [hk] at hkv
   refine ⟨j,w,v1,_,rfl,hm,hj,hjg,?_⟩
   rw [<- hkv]; exact .refl _
end
end Go.Proofs.Ythmkfeiapdbojaa
set_option maxRecDepth 100000
namespace Go.Proofs.Ythmkfeiapdbojaa
open Go.Sx Go.Kv
section
variable {N n:Nat} {op a b c d e f v l0 l1 l2 l3 l4 l5:Int} {x:PV} {σ:List MO} {kx:KV}
theorem c0i (gx:KvOk [l0,l1,l2,l3,l4,l5] kx) :
  ∀ (n:Nat) (seen:List (List Int)) (es:KV) (v1:Nat),Went kx seen es->kx.length < seen.length+n ->
   valuation_of_S.loopD (a0e (a3G N) 9) n 3 { i:=[],b:=[],v:=[.ref σ.length 0,.ref (σ.length+1) 0,.mp (σ.length+2),.ref (σ.length+4) 0],m:=σ++.cells (a3Z op a b c d e f v x) 26::.cells (a3D l0 l1 l2 l3 l4 l5) 23::.mq (raises [l0,l1,l2,l3,l4,l5] [] (es.map fun p=>(p.1,mnI p.2 v))) v1::.mq kx 0::[.it (σ.length+3) 0 seen],k:=σ.length }
    (b9a σ (a8r [l0,l1,l2,l3,l4,l5] v kx)):=by
 have x6:∀ p∈kx,p.1.length=6:=a4H gx rfl
 intro n
 induction n with
 | zero=>intro seen es v1 hw h; have:=hw.len gx.nd; omega
 | succ n ih =>
  intro seen es v1 hw h
  refine ⟨_,rfl,?_⟩
  show PT.wp _ b0J _ _
  refine Go.Sx.wp_next rfl (c3Y _ _ _ _ _ _ _) (b6Y _ _ _ _ _ _) (a3h x6) ?_ ?_
  ·intro hleft
   refine a9i rfl ?_
   refine ⟨σ.length+2,_,v1,_,rfl,rfl,by omega,a8H _ _ _ _ _,?_⟩
   refine a7X (.nil _) (.refl _) ((hw.over gx.nd hleft).map _) fun p hp=>?_
   obtain ⟨q,hq,rfl⟩:=Qa.1 hp
   exact (gx.all q (hw.sub q hq)).2.2.2
  ·intro p hp
   obtain ⟨p1,p2⟩:=a4Q.1 hp
   have hw':=hw.next hp
   have hk6:=x6 p p1
   obtain ⟨pk,pv⟩:=p
   simp only at hw' p1 p2 hk6
   have hlook:=(Kv.lookQ_some gx.nd).2 p1
   obtain ⟨b0,b1,b2,b3,b4,b5,rfl⟩:=a1z hk6
   obtain ⟨v2,hr⟩:=a7Q (a9F N) 6 (σ++.cells (a3Z op a b c d e f v x) 26::.cells (a3D l0 l1 l2 l3 l4 l5) 23::.mq (raises [l0,l1,l2,l3,l4,l5] [] (es.map fun p=>(p.1,mnI p.2 v))) v1::.mq kx 0::[MO.it (σ.length+3) 0 (seen++[[b0,b1,b2,b3,b4,b5]])]) (a8H _ _ _ _ _)
    (a3h (a4T rfl (by simp) fun p hp=>by obtain ⟨q,hq,rfl⟩:=Qa.1 hp; exact x6 q (hw.sub q hq))) (lim:=[l0,l1,l2,l3,l4,l5]) (b:=[b0,b1,b2,b3,b4,b5]) rfl rfl (mnI pv v)
   have hnext:=ih (seen++[[b0,b1,b2,b3,b4,b5]]) (es++[([b0,b1,b2,b3,b4,b5],pv)]) v2 hw' (by simp; omega)
   rw [QC,Q3,Q6,a7Y] at hnext
   rw [b5K] at hr
   simp only [c8H,PEnv.push,Q0,Q1,Q2]
   refine b7w rfl (c3Y _ _ _ _ _ _ _) (b6Y _ _ _ _ _ _) hlook rfl ?_
   simp only [PEnv.push,Q0,Q1,Q2]
   refine a2j rfl (a2V (at1 _ _ _ _) rfl) rfl ?_
   refine a2j rfl (a2V (at0 _ _ _) rfl) rfl ?_
   refine a1m rfl hr rfl ?_
   exact a5L rfl rfl hnext
set_option maxHeartbeats 2000000 in
theorem b9Z (gx:KvOk [l0,l1,l2,l3,l4,l5] kx) (hw0:nnL [a,b,c,d,e,f]=true) (hv0:0<=v) (hv1:v<=1000000) {w0:KV} (gw:KvOk [l0,l1,l2,l3,l4,l5] w0) :
  ∀ (n:Nat) (seen:List (List Int)) (es:KV) (v1:Nat),Went kx seen es->kx.length < seen.length+n ->
   valuation_of_S.loopD (a0e (a3G N) 9) n 2 { i:=[],b:=[],v:=[.ref σ.length 0,.ref (σ.length+1) 0,.mp (σ.length+2),.ref (σ.length+4) 0],m:=σ++.cells (a3Z op a b c d e f v x) 26::.cells (a3D l0 l1 l2 l3 l4 l5) 23::.mq (raises [l0,l1,l2,l3,l4,l5] w0 (es.map fun p=>(a2o p.1 [a,b,c,d,e,f],p.2+v))) v1::.mq kx 0::[.it (σ.length+3) 0 seen],k:=σ.length }
    (b9a σ (raises [l0,l1,l2,l3,l4,l5] w0 (kx.map fun p=>(a2o p.1 [a,b,c,d,e,f],p.2+v)))):=by
 have x6:∀ p∈kx,p.1.length=6:=a4H gx rfl
 have w6:∀ p∈w0,p.1.length=6:=a4H gw rfl
 intro n
 induction n with
 | zero=>intro seen es v1 hw h; have:=hw.len gx.nd; omega
 | succ n ih =>
  intro seen es v1 hw h
  refine ⟨_,rfl,?_⟩
  show PT.wp _ b0O _ _
  refine Go.Sx.wp_next rfl (c3Y _ _ _ _ _ _ _) (b6Y _ _ _ _ _ _) (a3h x6) ?_ ?_
  ·intro hleft
   refine a9i rfl ?_
   refine ⟨σ.length+2,_,v1,_,rfl,rfl,by omega,a8H _ _ _ _ _,?_⟩
   refine a7X gw (.refl _) ((hw.over gx.nd hleft).map _) fun p hp=>?_
   obtain ⟨q,hq,rfl⟩:=Qa.1 hp
   exact b5V (gx.all q (hw.sub q hq)).2.2.2 hw0
  ·intro p hp
   obtain ⟨p1,p2⟩:=a4Q.1 hp
   have hw':=hw.next hp
   have hk6:=x6 p p1
   have hpv:=gx.all p p1
   obtain ⟨pk,pv⟩:=p
   simp only at hw' p1 p2 hk6 hpv
   have hlook:=(Kv.lookQ_some gx.nd).2 p1
   obtain ⟨b0,b1,b2,b3,b4,b5,rfl⟩:=a1z hk6
   have hj:=c9I (a9F N) 8 (σ++.cells (a3Z op a b c d e f v x) 26::.cells (a3D l0 l1 l2 l3 l4 l5) 23::.mq (raises [l0,l1,l2,l3,l4,l5] w0 (es.map fun p=>(a2o p.1 [a,b,c,d,e,f],p.2+v))) v1::.mq kx 0::[MO.it (σ.length+3) 0 (seen++[[b0,b1,b2,b3,b4,b5]])]) (a:=[b0,b1,b2,b3,b4,b5]) (b:=[a,b,c,d,e,f]) rfl rfl
   obtain ⟨v2,hr⟩:=a7Q (a9F N) 6 (σ++.cells (a3Z op a b c d e f v x) 26::.cells (a3D l0 l1 l2 l3 l4 l5) 23::.mq (raises [l0,l1,l2,l3,l4,l5] w0 (es.map fun p=>(a2o p.1 [a,b,c,d,e,f],p.2+v))) v1::.mq kx 0::[MO.it (σ.length+3) 0 (seen++[[b0,b1,b2,b3,b4,b5]])]) (a8H _ _ _ _ _)
    (a3h (a4T rfl w6 fun p hp=>by obtain ⟨q,hq,rfl⟩:=Qa.1 hp; simp [a2o,x6 q (hw.sub q hq)])) (lim:=[l0,l1,l2,l3,l4,l5]) (b:=a2o [b0,b1,b2,b3,b4,b5] [a,b,c,d,e,f]) rfl rfl (pv+v)
   have hnext:=ih (seen++[[b0,b1,b2,b3,b4,b5]]) (es++[([b0,b1,b2,b3,b4,b5],pv)]) v2 hw' (by simp; omega)
   rw [QC,Q3,Q6,a7Y] at hnext
   rw [b5K] at hr
   have hneed:(leB (-9223372036854775808) (pv+v)&&leB (pv+v) 9223372036854775807)=true:=by simp [leB]; omega
   simp only [c8H,PEnv.push,Q0,Q1,Q2]
   refine b7w rfl (c3Y _ _ _ _ _ _ _) (b6Y _ _ _ _ _ _) hlook rfl ?_
   simp only [PEnv.push,Q0,Q1,Q2]
   generalize hjl:a2o [b0,b1,b2,b3,b4,b5] [a,b,c,d,e,f]=jl at *
   obtain ⟨j0,j1,j2,j3,j4,j5,rfl⟩:=a1z (l:=jl) (by rw [<- hjl]; rfl)
   repeat' (first
    | exact a5L rfl rfl hnext
    | refine b5S ?_ ?_
    | (refine a2j rfl (a2V (at0 _ _ _) rfl) rfl ?_; simp only [PEnv.push,Q0,Q1,Q2])
    | (refine a2j rfl (a2V (at1 _ _ _ _) rfl) rfl ?_; simp only [PEnv.push,Q0,Q1,Q2])
    | (refine a1m rfl hj rfl ?_; simp only [PEnv.push,Q0,Q1,Q2])
    | (refine a1m rfl hr rfl ?_; simp only [PEnv.push,Q0,Q1,Q2])
    | (rw [PT.wp,if_pos (by simp only [↓reduceIte,eq_self,ξ1,ξ2,ξ3,ξ4,ξ5,ξ6,ξ7,ξ8,ξ9,ξa,ξb,ξc,ξd,ξe,ξf,ξg,ξh,Nat.reduceAdd,ξi,if_true,if_false,ξl,ξm,ξn,ξo,ξp,ξq,ξr,ξs,ξt,ξu,ξv,ξw,ξx,ξy,ξz,ξA,ξB,ξC,ξD,ξE]),if_pos (by simp only [↓reduceIte,eq_self,ξ1,ξ2,ξ3,ξ4,ξ5,ξ6,ξ7,ξ8,ξ9,ξa,ξb,ξc,ξd,ξe,ξf,ξg,ξh,Nat.reduceAdd,ξi,if_true,if_false,ξl,ξm,ξn,ξo,ξp,ξq,ξr,ξs,ξt,ξu,ξv,ξw,ξx,ξy,ξz,ξA,ξB,ξC,ξD,ξE,hneed])]))
end
end Go.Proofs.Ythmkfeiapdbojaa
set_option maxRecDepth 100000
namespace Go.Proofs.Ythmkfeiapdbojaa
open Go.Sx Go.Kv
section
variable {N n:Nat} {op a b c d e f v l0 l1 l2 l3 l4 l5:Int} {l:List Ex} {x:PV} {rows:List (List PV)} {σ:List MO}
theorem eqF {a b:Int} (h:a≠b):eqB a b=false:=by simp [eqB,h]
theorem d0f (r q:List PV) (T T':Nat) (w:KV) (v1:Nat):(σ++.cells r T::.cells q T'::[MO.mq w v1]).length=σ.length+3:=by simp
set_option maxHeartbeats 1000000 in
theorem d0A (hx:x.rowsOf 9=some rows) (hr:a1k l rows) (hs:a2a l < N) (h4:a2a l < 400) (hok:okX (.node op a b c d e f v l)=true) (hl:a4r [l0,l1,l2,l3,l4,l5]=true) (hlow:σ.all (MO.low σ.length)=true)
  (hn:l.length+((a1p [l0,l1,l2,l3,l4,l5] l).headD []).length+3<=n) :
  valuation_of_S.runD (a0e (a3G N) 9) n [.agg (a3Z op a b c d e f v x),.agg (a3D l0 l1 l2 l3 l4 l5)] σ (b9a σ (a0z [l0,l1,l2,l3,l4,l5] (.node op a b c d e f v l))):=by
 obtain ⟨x1,x2,x3⟩:=a0T hx
 simp only [okX,Q5,decide_eq_true_eq,Bool.or_eq_true,QA,decide_eq_false_iff_not] at hok
 obtain ⟨⟨⟨⟨ok1,ok2⟩,ok3⟩,ok4⟩,ok5⟩:=hok
 have hrl:=b6G (σ.length+3) l rows hr
 have hrow:PV.lows (σ.length+3) (a3Z op a b c d e f v x)=true:=c3f _ (.node op a b c d e f v l) _ ⟨x,rows,rfl,hx,hr⟩
 have hlow0:=fun w v1=>c6Z 26 23 hlow hrow (c3P (σ.length+3) [l0,l1,l2,l3,l4,l5]) w v1
 have hb:a0c [.val] [x]=some ([],[],[x]):=by simp only [a0c,x3,if_true,Qd]
 by_cases o1:op=1
 ·refine c9r x3 o1 _ fun v1=>⟨σ.length+2,_,v1,_,rfl,rfl,by omega,a8H _ _ _ _ _,?_⟩
  simp only [a0z,o1,if_true]; exact .refl _
 refine c3R x3 ⟨_,_,_,rfl⟩ ?_
 refine a1Z rfl (eqF o1) ?_
 by_cases o2:op=2
 ·refine a2n rfl (by subst o2; rfl) ?_
  refine a2j rfl (a2V (at0 _ _ _) rfl) hb ?_
  simp only [PEnv.push,Q0,Q1,Q2]
  rw [PT.wp,if_pos (by simp only [↓reduceIte,eq_self,ξ1,ξ2,ξ3,ξ4,ξ5,ξ6,ξ7,ξ8,ξ9,ξa,ξb,ξc,ξd,ξe,ξf,ξg,ξh,Nat.reduceAdd,ξi,if_true,if_false,ξl,ξm,ξn,ξo,ξp,ξq,ξr,ξs,ξt,ξu,ξv,ξw,ξx,ξy,ξz,ξA,ξB,ξC,ξD,ξE]),if_pos (by simp only [↓reduceIte,eq_self,ξ1,ξ2,ξ3,ξ4,ξ5,ξ6,ξ7,ξ8,ξ9,ξa,ξb,ξc,ξd,ξe,ξf,ξg,ξh,Nat.reduceAdd,ξi,if_true,if_false,ξl,ξm,ξn,ξo,ξp,ξq,ξr,ξs,ξt,ξu,ξv,ξw,ξx,ξy,ξz,ξA,ξB,ξC,ξD,ξE,x2])]
  refine a5L rfl rfl ?_
  exact c2x hx hr hs h4 ok5 hl n 0 [] 0 [] _ (by omega) rfl (hlow0 _ _) (by omega) (.nil _) (by simp only [a0z,o2,QZ]; rfl)
 refine a1Z rfl (eqF o2) ?_
 by_cases o3:op=3
 ·refine a2n rfl (by subst o3; rfl) ?_
  refine a2j rfl (a2V (at0 _ _ _) rfl) hb ?_
  simp only [PEnv.push,Q0,Q1,Q2]
  rw [PT.wp,if_pos (by simp only [↓reduceIte,eq_self,ξ1,ξ2,ξ3,ξ4,ξ5,ξ6,ξ7,ξ8,ξ9,ξa,ξb,ξc,ξd,ξe,ξf,ξg,ξh,Nat.reduceAdd,ξi,if_true,if_false,ξl,ξm,ξn,ξo,ξp,ξq,ξr,ξs,ξt,ξu,ξv,ξw,ξx,ξy,ξz,ξA,ξB,ξC,ξD,ξE]),if_pos (by simp only [↓reduceIte,eq_self,ξ1,ξ2,ξ3,ξ4,ξ5,ξ6,ξ7,ξ8,ξ9,ξa,ξb,ξc,ξd,ξe,ξf,ξg,ξh,Nat.reduceAdd,ξi,if_true,if_false,ξl,ξm,ξn,ξo,ξp,ξq,ξr,ξs,ξt,ξu,ξv,ξw,ξx,ξy,ξz,ξA,ξB,ξC,ξD,ξE,x2])]
  refine a5L rfl rfl ?_
  exact c5b hx hr hs h4 ok5 hl n 0 (σ.length+2) [] 0 _ _ (by omega) rfl (by omega) (a8H _ _ _ _ _) (hlow0 _ _) (by omega) (.nil _) (by simp only [a0z,o3,QZ]; rfl)
 refine a1Z rfl (eqF o3) ?_
 by_cases o45:op≠4/\op≠5
 ·refine a1Z rfl (eqF o45.1) ?_
  refine a1Z rfl (eqF o45.2) ?_
  refine a9i rfl ⟨σ.length+2,[],0,_,rfl,rfl,by omega,a8H _ _ _ _ _,?_⟩
  simp only [a0z,o1,o2,o3,o45.1,o45.2,if_false]; exact .refl _
 have hlen:1<=l.length:=by
  rcases ok4 with h | h
  ·exact absurd h o45
  ·exact h
 obtain ⟨e0,he0⟩:∃ e0,l[0]?=some e0:=⟨_,QE hlen⟩
 have hhd:(a1p [l0,l1,l2,l3,l4,l5] l).headD []=a0z [l0,l1,l2,l3,l4,l5] e0:=by
  have:=a6T [l0,l1,l2,l3,l4,l5] l 0
  rw [he0] at this
  cases hk:a1p [l0,l1,l2,l3,l4,l5] l with
  | nil=>rw [hk] at this; cases this
  | cons y r=>rw [hk] at this; simpa using this
 have hsz:=a2Q (QH he0)
 have gk:=a2P [l0,l1,l2,l3,l4,l5] e0 (a6A ok5 he0)
 have harg:a0e (a3G N) 9 74 [.int .i64 0,.ref σ.length 0,.ref (σ.length+1) 0] (σ++.cells (a3Z op a b c d e f v x) 26::.cells (a3D l0 l1 l2 l3 l4 l5) 23::[.mq [] 0])=_ :=
  c1R (T:=a3G N) rfl rfl 7 hx hr hl he0 (by omega) (by omega) (a6A ok5 he0) rfl (hlow0 _ _)
 rw [d0f,Qf,Q0,Q0,Q0,Q1] at harg
 rw [hhd] at hn
 generalize hkx:a0z [l0,l1,l2,l3,l4,l5] e0=kx at *
 by_cases o4:op=4
 ·refine a2n rfl (by subst o4; rfl) ?_
  have hlow1:=a7J (o:=.mq kx 0) (hlow0 [] 0) rfl
  rw [Qf,Q0,Q0,Q0,Q1] at hlow1
  have hm:=b3i (T:=a3G N) rfl 8 (a8H σ (.cells (a3Z op a b c d e f v x) 26) (.cells (a3D l0 l1 l2 l3 l4 l5) 23) (.mq [] 0) [.mq kx 0]) (b6Y _ _ _ _ _ _) (by omega) hl (.nil _) gk hlow1
  rw [b5K] at hm
  have g1:=a3s (.nil [l0,l1,l2,l3,l4,l5]) gk
  obtain ⟨v1,hr1⟩:=a7Q (a9F N) 6 (σ++.cells (a3Z op a b c d e f v x) 26::.cells (a3D l0 l1 l2 l3 l4 l5) 23::.mq (raises [l0,l1,l2,l3,l4,l5] [] kx) (0+1)::[.mq kx 0]) (a8H _ _ _ _ _) (a3h (a4H g1 rfl)) (lim:=[l0,l1,l2,l3,l4,l5]) (b:=[a,b,c,d,e,f]) rfl rfl v
  rw [b5K] at hr1
  have hloop:=b9Z (N:=N) (x:=x) (σ:=σ) (op:=op) (a:=a) (b:=b) (c:=c) (d:=d) (e:=e) (f:=f) (v:=v) gk ok1 ok2 ok3 (g1.raise (b:=[a,b,c,d,e,f]) (v:=v) ok1) n [] [] v1 (.nil kx) (by simp; omega)
  refine a1m rfl harg rfl ?_
  simp only [PEnv.push,Q0,Q1,Q2]
  refine a2j rfl (a2V (at1 _ _ _ _) rfl) rfl ?_
  simp only [PEnv.push,Q0,Q1,Q2]
  refine a1m rfl hm rfl ?_
  simp only [PEnv.push,Q0,Q1,Q2]
  refine a2j rfl (a2V (at1 _ _ _ _) rfl) rfl ?_
  simp only [PEnv.push,Q0,Q1,Q2]
  refine a2j rfl (a2V (at0 _ _ _) rfl) rfl ?_
  simp only [PEnv.push,Q0,Q1,Q2]
  refine a2j rfl (a2V (at0 _ _ _) rfl) rfl ?_
  simp only [PEnv.push,Q0,Q1,Q2]
  refine a1m rfl hr1 rfl ?_
  simp only [PEnv.push,Q0,Q1,Q2]
  refine c0R rfl (b6Y _ _ _ _ _ _) ?_
  simp only [Qt,Q8,Qe,Qf,Q0,Q1]
  refine a5L rfl rfl ?_
  have hkv:a0z [l0,l1,l2,l3,l4,l5] (.node op a b c d e f v l)=raises [l0,l1,l2,l3,l4,l5] (a2I [l0,l1,l2,l3,l4,l5] (raises [l0,l1,l2,l3,l4,l5] [] kx) [a,b,c,d,e,f] v) (kx.map fun p=>(a2o p.1 [a,b,c,d,e,f],p.2+v)):=by
   simp only [a0z,o1,o2,o3,o4,if_false,if_true,hhd,a9U,Int.reduceEq]
  rw [hkv]
  exact hloop
 ·have o5:op=5:=Classical.byContradiction fun h=>o45 ⟨o4,h⟩
  refine a1Z rfl (eqF o4) ?_
  refine a2n rfl (by subst o5; rfl) ?_
  have hloop:=c0i (N:=N) (x:=x) (σ:=σ) (op:=op) (a:=a) (b:=b) (c:=c) (d:=d) (e:=e) (f:=f) (v:=v) gk n [] [] 0 (.nil kx) (by simp; omega)
  refine a1m rfl harg rfl ?_
  simp only [PEnv.push,Q0,Q1,Q2]
  refine c0R rfl (b6Y _ _ _ _ _ _) ?_
  simp only [Qt,Q8,Qe,Qf,Q0,Q1]
  refine a5L rfl rfl ?_
  have hkv:a0z [l0,l1,l2,l3,l4,l5] (.node op a b c d e f v l)=a8r [l0,l1,l2,l3,l4,l5] v kx:=by
   simp only [a0z,o5,if_false,if_true,hhd,Int.reduceEq]
  rw [hkv]
  exact hloop
end
end Go.Proofs.Ythmkfeiapdbojaa
set_option maxRecDepth 100000
namespace Go.Proofs.Ythmkfeiapdbojaa
open Go.Sx Go.Kv
theorem c9l {l:List Int} (h:a4r l=true):∃ a b c d e f,l=[a,b,c,d,e,f]:=a1z (b0L h).1
theorem c9v {N:Nat} (hN:SysOk Try.prog 49 (ofP N)):SysOk Try.prog 49 (ofP (N+1)) where
 ct Φ hΦ n aa σ r σ' h:=by
  change ofF (N+1) aa σ=some (r,σ') at h
  unfold ofF at h
  split at h
  case h_2=>cases h
  simp only [Qm] at h
  obtain ⟨e,he,lim,hl,h⟩:=h
  split at h
  case isFalse=>cases h
  rename_i hc
  obtain ⟨c1,c2,c3,c4,c5⟩:=hc
  simp only [Qb,QB] at h
  obtain ⟨rfl,rfl⟩:=h
  have hrow:=b4u 400 _ _ he
  rw [a6h hl]
  obtain ⟨op,a,b,c,d,e',f,v,l⟩:=e
  simp only [IsE] at hrow
  obtain ⟨x,rows,rfl,hx,hr⟩:=hrow
  obtain ⟨l0,l1,l2,l3,l4,l5,rfl⟩:=c9l c4
  simp only [Ex.size] at c1 c2
  refine CtD.one (CtD.fresh (R:=b9a σ _) (b7B.dm (a0e (a3G N) 9) (evalF_good (c9t hN) 9) _ _ _ _ (d0A hx hr (by omega) (by omega) c3 c4 c5 (Qn _))) c5 fun r' σ' h=>h)
theorem c5E:∀ N:Nat,SysOk Try.prog 49 (ofP N)
 | 0=>⟨fun Φ hΦ n aa σ r σ' h=>by
   change ofF 0 aa σ=some (r,σ') at h
   unfold ofF at h
   split at h
   case h_2=>cases h
   simp only [Qm] at h
   obtain ⟨e,he,lim,hl,h⟩:=h
   rw [if_neg (by omega)] at h
   cases h⟩
 | N+1=>c9v (c5E N)
def valuation_of_Q:Sx.Sys:=ofP 401
theorem b6z:SysOk Try.prog 49 valuation_of_Q:=c5E 401
def valuation_sum_Q:Sx.Sys:=c1B
theorem b5Y:SysOk Try.prog 77 valuation_sum_Q:=c3k
def valuation_worths_merge_Q:Sx.Sys:=b4O
theorem a8z:SysOk Try.prog 76 valuation_worths_merge_Q:=b9B
end Go.Proofs.Ythmkfeiapdbojaa
