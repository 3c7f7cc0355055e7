/- TX: what the trees compute over plain values is what the machine does: the parts. -/
import Derived.Test.YtflcopaopimlpaaHTxc
set_option linter.unusedSimpArgs false
set_option linter.unusedVariables false
open Option.some renaming injEq → Q0
open Option renaming bind_eq_some_iff → Q1, map_eq_some_iff → Q2, getD_some → Qe, some_or → Xe
open Prod.mk renaming injEq → Q3
open List renaming getElem?_eq_some_iff → Q4, length_append → Q5, mem_cons → Q7, mem_map → Q9, replicate → Qd, getElem?_take → Qf, getElem?_drop → Qg, getElem?_set_ne → Qh, getElem?_append_left → Qj, mem_append → Qk, mem_of_getElem? → Qn, size_toArray → Qp, getElem?_set_self → Qq, map_cons → Qr, getElem?_set → Qs, mem_filter → Qu, getElem?_take_of_lt → Qw, mem_of_mem_take → Qz, length_take → QA, nodup_cons → QB, length_map → QD, getElem?_append_right → QE, mem_iff_getElem? → QH, length_cons → QJ, ext_getElem? → QK, mem_or_eq_of_mem_set → QL, map_congr_left → QP, getElem?_eq_getElem → QQ, getElem_mem → QS, all_cons → QU, getElem?_cons_zero → QV, length_eq_zero_iff → QW, getElem?_append → QX, zipWith_cons_cons → X0, replicate_succ → X4, flatten_cons → X5, zipWith_append → X6, getElem?_zipWith → X7, mem_of_mem_drop → X8, filter_cons → X9, filter_eq_self → Xa, getLast?_append → Xc, getLast?_singleton → Xd, length_zipWith → Xf, length_nil → Xg
open Bool renaming and_eq_true → Q6, false_eq_true → Qa, not_eq_true' → QC, not_eq_true → Xb
open Nat renaming add_assoc → Q8, le_refl → Qb, zero_add → Qm, mul_le_mul → Qt, add_zero → Qv, add_mul → Qy, one_mul → QY, min_eq_left → QZ
open Array renaming toList_filter → QM, length_toList → QN
namespace Go.Sx
open Go.RowKit
def QF (σ0:List MO) (m0:MS) (r:PV) (σ:List MO):Value->Hp->MS->Prop:=fun v s m=>Le2 σ0 m0 σ m/\Rep s (inf σ m) r v/\a0P s (inf σ m) σ m/\Coh σ m
def CtP (P:Program) (f:Nat) (F:List PV->List MO->Option (PV × List MO)):Prop :=
 ∀ as σ r σ',F as σ=some (r,σ')->(∀ args w,(callFunc f args).run P w=.ok (.enter f args) w) /\
  ∀ s m vs,a0P s (inf σ m) σ m->Coh σ m->Reps s (inf σ m) as vs->Ct P f vs s m (QF σ m r σ')
structure At (e:Env) (ni nb nv:Nat) (is:List Int) (bs:List Bool) (vs:List Value):Prop where
 i:∀ j z,is[j]?=some z->e.i[ni+j]?=some z
 b:∀ j z,bs[j]?=some z->e.b[nb+j]?=some z
 v:∀ j z,vs[j]?=some z->e.v[nv+j]?=some z
theorem At.push {ρ:Env} {ni nb nv:Nat} (h1:ρ.i.length=ni) (h2:ρ.b.length=nb) (h3:ρ.v.length=nv) (is:List Int) (bs:List Bool) (vs:List Value):At (ρ.push is bs vs) ni nb nv is bs vs:=by
 subst h1 h2 h3
 refine ⟨fun j z h=>?_,fun j z h=>?_,fun j z h=>?_⟩<;>simp only [Env.push]<;>rw [QE (by omega)]<;>simpa using h
theorem At.split {e:Env} {ni nb nv:Nat} {is is':List Int} {bs bs':List Bool} {vs vs':List Value} (h:At e ni nb nv (is++is') (bs++bs') (vs++vs')) :
  At e ni nb nv is bs vs/\At e (ni+is.length) (nb+bs.length) (nv+vs.length) is' bs' vs':=by
 refine ⟨⟨fun j z k=>h.i j z ?_,fun j z k=>h.b j z ?_,fun j z k=>h.v j z ?_⟩,⟨fun j z k=>?_,fun j z k=>?_,fun j z k=>?_⟩⟩
 ·rw [Qj (Q4.1 k).1]; exact k
 ·rw [Qj (Q4.1 k).1]; exact k
 ·rw [Qj (Q4.1 k).1]; exact k
 ·rw [Q8]; exact h.i _ z (by rw [QE (by omega)]; simpa using k)
 ·rw [Q8]; exact h.b _ z (by rw [QE (by omega)]; simpa using k)
 ·rw [Q8]; exact h.v _ z (by rw [QE (by omega)]; simpa using k)
theorem b3Y {α:Type} {l:List α} {n:Nat} {d z:α} (h:l[n]?=some z):l.getD n d=z:=by simp [List.getD_eq_getElem?_getD,h]
abbrev a5F (s:Hp) (B:Inf) (r:List Int × List Bool × List PV) (vvs:List Value):Prop:=Reps s B r.2.2 vvs/\∀ p∈r.2.2,p.one=true
theorem a5F.fine {s:Hp} {B:Inf} {r:List Int × List Bool × List PV} {vvs:List Value} (h:a5F s B r vvs):vvs.all a2Y=true:=by
 rw [List.all_eq_true]
 intro x hx
 obtain ⟨i,hi⟩:=QH.1 hx
 have hl:=h.1.length
 have hlt:=(Q4.1 hi).1
 obtain ⟨v,h1,h2⟩:=h.1.get (QQ (l:=r.2.2) (i:=i) (by omega))
 rw [hi] at h1
 simp only [Q0] at h1
 subst h1
 exact h2.fine (h.2 _ (QS _))
section
variable {s:Hp} {B:Inf}
theorem a5H:∀ (ks:List Kd) (l:List PV) {r} (xs:List Value),a0w ks l=some r->Reps s B l xs->∃ vvs,a5F s B r vvs/\∀ ni nb nv,
  (a0Y ks ni nb nv).2=(ni+r.1.length,nb+r.2.1.length,nv+vvs.length)/\∀ (e:Env) (β:Nat->Nat),At e ni nb nv r.1 r.2.1 vvs->SV.dens e β (a0Y ks ni nb nv).1=xs
 | [],[],r,xs,h,k=>by
  simp only [a0w,Q0] at h; subst h
  simp only [Reps] at k; subst k
  exact ⟨[],⟨rfl,by simp⟩,fun ni nb nv=>⟨by simp [a0Y],fun e β _=>rfl⟩⟩
 | .int kd::ks,p::l,r,xs,h,k=>by
  cases p<;>simp only [a0w,reduceCtorEq] at h
  rename_i kd' z
  split at h
  case isFalse=>cases h
  rename_i hk
  subst hk
  simp only [Q2] at h
  obtain ⟨r',h1,rfl⟩:=h
  simp only [Reps] at k
  obtain ⟨v,xs',rfl,hv,k⟩:=k
  simp only [Rep] at hv; subst hv
  obtain ⟨vvs,b1,b2⟩:=a5H ks l xs' h1 k
  refine ⟨vvs,b1,fun ni nb nv=>?_⟩
  obtain ⟨c1,c2⟩:=b2 (ni+1) nb nv
  refine ⟨by simp only [a0Y,c1,QJ]; congr 1; omega,fun e β ha=>?_⟩
  simp only [a0Y,SV.dens,SV.den,IE.den]
  have h0:=ha.i 0 z rfl
  rw [Qv] at h0
  rw [b3Y h0,c2 e β ⟨fun j y hj=>by have:=ha.i (j+1) y (by simpa using hj); rw [show ni+(j+1)=ni+1+j by omega] at this; exact this,ha.b,ha.v⟩]
 | .bool::ks,p::l,r,xs,h,k=>by
  cases p<;>simp only [a0w,reduceCtorEq] at h
  rename_i z
  simp only [Q2] at h
  obtain ⟨r',h1,rfl⟩:=h
  simp only [Reps] at k
  obtain ⟨v,xs',rfl,hv,k⟩:=k
  simp only [Rep] at hv; subst hv
  obtain ⟨vvs,b1,b2⟩:=a5H ks l xs' h1 k
  refine ⟨vvs,b1,fun ni nb nv=>?_⟩
  obtain ⟨c1,c2⟩:=b2 ni (nb+1) nv
  refine ⟨by simp only [a0Y,c1,QJ,Q3,true_and,and_true]; omega,fun e β ha=>?_⟩
  simp only [a0Y,SV.dens,SV.den,BE.den]
  have h0:=ha.b 0 z rfl
  rw [Qv] at h0
  rw [b3Y h0,c2 e β ⟨ha.i,fun j y hj=>by have:=ha.b (j+1) y (by simpa using hj); rw [show nb+(j+1)=nb+1+j by omega] at this; exact this,ha.v⟩]
 | .val::ks,p::l,r,xs,h,k=>by
  simp only [a0w] at h
  split at h
  case isFalse=>cases h
  rename_i hone
  simp only [Q2] at h
  obtain ⟨r',h1,rfl⟩:=h
  simp only [Reps] at k
  obtain ⟨v,xs',rfl,hv,k⟩:=k
  obtain ⟨vvs,b1,b2⟩:=a5H ks l xs' h1 k
  refine ⟨v::vvs,⟨⟨v,vvs,rfl,hv,b1.1⟩,fun q hq=>?_⟩,fun ni nb nv=>?_⟩
  ·rcases Q7.1 hq with rfl | hq
   ·exact hone
   ·exact b1.2 q hq
  obtain ⟨c1,c2⟩:=b2 ni nb (nv+1)
  refine ⟨by simp only [a0Y,c1,QJ,Q3,true_and]; omega,fun e β ha=>?_⟩
  simp only [a0Y,SV.dens,SV.den]
  have h0:=ha.v 0 v rfl
  rw [Qv] at h0
  rw [b3Y h0,c2 e β ⟨ha.i,ha.b,fun j y hj=>by have:=ha.v (j+1) y (by simpa using hj); rw [show nv+(j+1)=nv+1+j by omega] at this; exact this⟩]
 | [],_::_,r,xs,h,_=>by simp [a0w] at h
 | .int _::_,[],r,xs,h,_=>by simp [a0w] at h
 | .bool::_,[],r,xs,h,_=>by simp [a0w] at h
 | .val::_,[],r,xs,h,_=>by simp [a0w] at h
theorem b2q {sh:Sh} {p:PV} {r} {x:Value} (h:a0x sh p=some r) (k:Rep s B p x):∃ vvs,a5F s B r vvs/\∀ ni nb nv,
  (a1b [sh] ni nb nv).2=(ni+r.1.length,nb+r.2.1.length,nv+vvs.length)/\∀ (e:Env) (β:Nat->Nat),At e ni nb nv r.1 r.2.1 vvs->SV.dens e β (a1b [sh] ni nb nv).1=[x]:=by
 cases sh with
 | one kd =>
  simp only [a0x] at h
  obtain ⟨vvs,b1,b2⟩:=a5H [kd] [p] [x] h ⟨x,[],rfl,k,rfl⟩
  refine ⟨vvs,b1,fun ni nb nv=>?_⟩
  obtain ⟨c1,c2⟩:=b2 ni nb nv
  refine ⟨by simp only [a1b]; exact c1,fun e β ha=>?_⟩
  simp only [a1b,List.append_nil]
  exact c2 e β ha
 | agg ks =>
  cases p<;>simp only [a0x,reduceCtorEq] at h
  rename_i l
  simp only [Rep] at k
  obtain ⟨xs,rfl,k⟩:=k
  obtain ⟨vvs,b1,b2⟩:=a5H ks l xs h k
  refine ⟨vvs,b1,fun ni nb nv=>?_⟩
  obtain ⟨c1,c2⟩:=b2 ni nb nv
  refine ⟨by simp only [a1b]; exact c1,fun e β ha=>?_⟩
  simp only [a1b,SV.dens,SV.den,c2 e β ha]
theorem b9Y (sh:Sh) (shs:List Sh) (a b c:Nat):a1b (sh::shs) a b c =
  ((a1b [sh] a b c).1++(a1b shs (a1b [sh] a b c).2.1 (a1b [sh] a b c).2.2.1 (a1b [sh] a b c).2.2.2).1,(a1b shs (a1b [sh] a b c).2.1 (a1b [sh] a b c).2.2.1 (a1b [sh] a b c).2.2.2).2):=by
 cases sh<;>simp [a1b]
theorem b8S (e:Env) (β:Nat->Nat) (l m:List SV):SV.dens e β (l++m)=SV.dens e β l++SV.dens e β m:=by simp [SV.dens_map]
theorem a5F.append {r r':List Int × List Bool × List PV} {v v':List Value} (h:a5F s B r v) (h':a5F s B r' v'):a5F s B (r.1++r'.1,r.2.1++r'.2.1,r.2.2++r'.2.2) (v++v') :=
 ⟨h.1.append h'.1,fun p hp=>(Qk.1 hp).elim (h.2 p) (h'.2 p)⟩
theorem b3E:∀ (shs:List Sh) (l:List PV) {r} (xs:List Value),a1w shs l=some r->Reps s B l xs->∃ vvs,a5F s B r vvs/\∀ ni nb nv,
  (a1b shs ni nb nv).2=(ni+r.1.length,nb+r.2.1.length,nv+vvs.length)/\∀ (e:Env) (β:Nat->Nat),At e ni nb nv r.1 r.2.1 vvs->SV.dens e β (a1b shs ni nb nv).1=xs
 | [],[],r,xs,h,k=>by
  simp only [a1w,Q0] at h; subst h
  simp only [Reps] at k; subst k
  exact ⟨[],⟨rfl,by simp⟩,fun ni nb nv=>⟨by simp [a1b],fun e β _=>rfl⟩⟩
 | sh::shs,p::l,r,xs,h,k=>by
  simp only [a1w,Q1,Q2] at h
  obtain ⟨a,h1,r',h2,rfl⟩:=h
  simp only [Reps] at k
  obtain ⟨x,xs',rfl,k1,k2⟩:=k
  obtain ⟨v1,b1,b2⟩:=b2q h1 k1
  obtain ⟨v2,d1,d2⟩:=b3E shs l xs' h2 k2
  refine ⟨v1++v2,b1.append d1,fun ni nb nv=>?_⟩
  obtain ⟨c1,c2⟩:=b2 ni nb nv
  obtain ⟨e1,e2⟩:=d2 (ni+a.1.length) (nb+a.2.1.length) (nv+v1.length)
  rw [b9Y]
  simp only [c1,Q5]
  refine ⟨by rw [e1]; simp only [Q8],fun e β ha=>?_⟩
  obtain ⟨ha1,ha2⟩:=ha.split
  rw [b8S,c2 e β ha1,e2 e β ha2]; rfl
 | [],_::_,r,xs,h,_=>by simp [a1w] at h
 | _::_,[],r,xs,h,_=>by simp [a1w] at h
theorem b3j {shs:List Sh} {l:List PV} {r} {x:Value} (hne:∀ sh,shs≠[sh]) (h:a1w shs l=some r) (k:Rep s B (.tup l) x):∃ vvs,a5F s B r vvs/\∀ ni nb nv,
  (a1b shs ni nb nv).2=(ni+r.1.length,nb+r.2.1.length,nv+vvs.length)/\∀ (e:Env) (β:Nat->Nat),At e ni nb nv r.1 r.2.1 vvs->(a1E (a1b shs ni nb nv).1).den e β=x:=by
 simp only [Rep] at k
 obtain ⟨xs,rfl,k⟩:=k
 obtain ⟨vvs,b1,b2⟩:=b3E shs l xs h k
 refine ⟨vvs,b1,fun ni nb nv=>?_⟩
 obtain ⟨c1,c2⟩:=b2 ni nb nv
 refine ⟨c1,fun e β ha=>?_⟩
 have:=c2 e β ha
 have hlen:(a1b shs ni nb nv).1.length≠1:=by
  intro hl
  have hl2:=congrArg List.length this
  rw [a0R,k.length,hl] at hl2
  match shs,l,h,hl2 with
  | [],[p],h,_=>simp [a1w] at h
  | [sh],[p],h,_=>exact hne sh rfl
  | sh1::sh2::shs,[p],h,_=>simp [a1w] at h
 generalize (a1b shs ni nb nv).1=L at this hlen ⊢
 match L,hlen with
 | [],_=>simp [a1E,SV.den,<- this]
 | [y],hl=>exact absurd rfl hl
 | y1::y2::L,_=>simp [a1E,SV.den,<- this]
theorem a9q {shs:List Sh} {p:PV} {r} {x:Value} (h:a0p shs p=some r) (k:Rep s B p x):∃ vvs,a5F s B r vvs/\∀ ni nb nv,
  (a1b shs ni nb nv).2=(ni+r.1.length,nb+r.2.1.length,nv+vvs.length)/\∀ (e:Env) (β:Nat->Nat),At e ni nb nv r.1 r.2.1 vvs->(a1E (a1b shs ni nb nv).1).den e β=x:=by
 match shs,h with
 | [sh],h =>
  obtain ⟨vvs,b1,b2⟩:=b2q h k
  refine ⟨vvs,b1,fun ni nb nv=>?_⟩
  obtain ⟨c1,c2⟩:=b2 ni nb nv
  refine ⟨c1,fun e β ha=>?_⟩
  have:=c2 e β ha
  generalize (a1b [sh] ni nb nv).1=L at this ⊢
  match L,this with
  | [y],this=>simpa [a1E,SV.dens] using this
  | [],this=>simp [SV.dens] at this
  | y1::y2::L,this=>simp [SV.dens] at this
 | [],h =>
  cases p<;>simp only [a0p,reduceCtorEq] at h
  exact b3j (by simp) h k
 | sh1::sh2::shs,h =>
  cases p<;>simp only [a0p,reduceCtorEq] at h
  exact b3j (by simp) h k
theorem b0K:∀ (shs:List PSh) (l:List PV) {r} (xs:List Value),a0E shs l=some r->Reps s B l xs->∃ vvs,a5F s B r vvs/\∀ ni nb nv,
  (a6X shs ni nb nv).2=(ni+r.1.length,nb+r.2.1.length,nv+vvs.length)/\∀ (e:Env) (β:Nat->Nat),At e ni nb nv r.1 r.2.1 vvs->SV.dens e β (a6X shs ni nb nv).1=xs
 | [],[],r,xs,h,k=>by
  simp only [a0E,Q0] at h; subst h
  simp only [Reps] at k; subst k
  exact ⟨[],⟨rfl,by simp⟩,fun ni nb nv=>⟨by simp [a6X],fun e β _=>rfl⟩⟩
 | .sh sh::shs,p::l,r,xs,h,k=>by
  simp only [a0E,Q1,Q2] at h
  obtain ⟨a,h1,r',h2,rfl⟩:=h
  simp only [Reps] at k
  obtain ⟨x,xs',rfl,k1,k2⟩:=k
  obtain ⟨v1,b1,b2⟩:=b2q h1 k1
  obtain ⟨v2,d1,d2⟩:=b0K shs l xs' h2 k2
  refine ⟨v1++v2,b1.append d1,fun ni nb nv=>?_⟩
  obtain ⟨c1,c2⟩:=b2 ni nb nv
  obtain ⟨e1,e2⟩:=d2 (ni+a.1.length) (nb+a.2.1.length) (nv+v1.length)
  simp only [a6X,c1,Q5]
  refine ⟨by rw [e1]; simp only [Q8],fun e β ha=>?_⟩
  obtain ⟨ha1,ha2⟩:=ha.split
  rw [b8S,c2 e β ha1,e2 e β ha2]; rfl
 | .ptr::shs,p::l,r,xs,h,k=>by
  simp only [a0E] at h
  split at h
  case isFalse=>cases h
  rename_i hp
  simp only [Q2] at h
  obtain ⟨r',h2,rfl⟩:=h
  simp only [Reps] at k
  obtain ⟨x,xs',rfl,k1,k2⟩:=k
  obtain ⟨v2,d1,d2⟩:=b0K shs l xs' h2 k2
  have hx:∃ b o,x=.pointer (some ⟨b,o,none⟩):=by
   cases p<;>simp only [PV.isPtr,Qa] at hp<;>simp only [Rep] at k1
   ·obtain ⟨b,base,_,h,_⟩:=k1; exact ⟨_,_,h⟩
   ·obtain ⟨b,_,_,h⟩:=k1; exact ⟨_,_,h⟩
  have hone:p.one=true:=by cases p<;>first | rfl | (simp [PV.isPtr] at hp)
  refine ⟨x::v2,⟨⟨x,v2,rfl,k1,d1.1⟩,fun q hq=>?_⟩,fun ni nb nv=>?_⟩
  ·rcases Q7.1 hq with rfl | hq
   ·exact hone
   ·exact d1.2 q hq
  obtain ⟨e1,e2⟩:=d2 ni nb (nv+1)
  simp only [a6X,QJ]
  refine ⟨by rw [e1]; simp only [Q3,true_and]; omega,fun e β ha=>?_⟩
  have h0:=ha.v 0 x rfl
  rw [Qv] at h0
  rw [SV.dens,e2 e β ⟨ha.i,ha.b,fun j y hj=>by have:=ha.v (j+1) y (by simpa using hj); rw [show nv+(j+1)=nv+1+j by omega] at this; exact this⟩]
  obtain ⟨b,o,rfl⟩:=hx
  simp only [SV.den,b3Y h0,a1D,Qe,a4Y,Qv]
 | [],_::_,r,xs,h,_=>by simp [a0E] at h
 | .sh _::_,[],r,xs,h,_=>by simp [a0E] at h
 | .ptr::_,[],r,xs,h,_=>by simp [a0E] at h
end
section
variable {s:Hp} {ρp:PEnv} {ρ:Env}
theorem EnvRep.push (h:EnvRep s ρp ρ) {r:List Int × List Bool × List PV} {vvs:List Value} (hb:a5F s (inf ρp.m ρ.m) r vvs):EnvRep s (ρp.push r) (ρ.push r.1 r.2.1 vvs) :=
 ⟨by simp [PEnv.push,Env.push,h.i],by simp [PEnv.push,Env.push,h.b],h.v.append hb.1,h.m,h.k,fun p hp=>(Qk.1 hp).elim (h.one p) (hb.2 p),h.coh⟩
theorem EnvRep.turn (h:EnvRep s ρp ρ) {t:Hp} (hst:s.le t) {m':MS} {σ:List MO} (hpre:Le2 ρp.m ρ.m σ m') (hm:a0P t (inf σ m') σ m') (hc:Coh σ m'):EnvRep t { ρp with m:=σ } { ρ with m:=m' } :=
 ⟨h.i,h.b,Reps.mono hst hpre.ble _ _ h.v,hm,h.k,h.one,hc⟩
theorem c0L (h:EnvRep s ρp ρ) {a:SV} {hd len i sz off:Nat} (hl:a0y ρp a=some (.elt hd len i sz off)) {b n0:Nat} (hB:(inf ρp.m ρ.m)[hd]?=some (b,n0,len)):a1D (a.den ρ id)=some ⟨b,i*sz+off,none⟩/\i < len:=by
 cases a<;>simp only [a0y,reduceCtorEq,Q1] at hl
 case ea q i' size off' =>
  obtain ⟨p,h1,h2⟩:=hl
  obtain ⟨v,_,h3,h4⟩:=h.get h1
  cases p<;>simp only [a1z,reduceCtorEq] at h2
  case sl=>split at h2<;>simp at h2
  case msl=>split at h2<;>simp at h2
  case rsl hh len' sz' =>
   split at h2
   case isFalse=>cases h2
   rename_i hc
   simp only [Q0,Loc.elt.injEq] at h2
   obtain ⟨rfl,rfl,rfl,rfl,rfl⟩:=h2
   obtain ⟨c1,c2,rfl⟩:=hc
   simp only [Rep] at h4
   obtain ⟨_,b',cap,rfl,b2,n2,r2,k1,_,k2⟩:=h4
   rw [hB] at k1
   simp only [Q0,Q3] at k1
   obtain ⟨rfl,rfl,rfl⟩:=k1
   obtain ⟨rfl,_⟩:=k2 rfl
   refine ⟨?_,by omega⟩
   simp only [SV.den,h3,a1D,Qe,IE.pe_den h,a4Y,Qm]
  case rpl hh len' r' sz' =>
   split at h2
   case isFalse=>cases h2
   rename_i hc
   simp only [Q0,Loc.elt.injEq] at h2
   obtain ⟨rfl,rfl,rfl,rfl,rfl⟩:=h2
   obtain ⟨c1,c2,c3,rfl⟩:=hc
   simp only [Rep] at h4
   obtain ⟨_,_,b',cap,rfl,b2,n2,r2,k1,_,k2⟩:=h4
   rw [hB] at k1
   simp only [Q0,Q3] at k1
   obtain ⟨rfl,rfl,rfl⟩:=k1
   obtain ⟨rfl,_⟩:=k2 rfl
   refine ⟨?_,by omega⟩
   simp only [SV.den,h3,a1D,Qe,IE.pe_den h,a4Y,Qm]
 case pa q off' =>
  obtain ⟨p,h1,h2⟩:=hl
  cases p<;>simp [a0A] at h2
theorem c3r (h:EnvRep s ρp ρ) {a:SV} {l:Loc} (hl:a0y ρp a=some l) {fl:Bool} {n:Nat} {x:List PV} (hx:a0o ρp fl n l=some x) :
  x.length=n/\∃ vals,b8w s (if fl then [] else ρ.m) (a.den ρ id) vals/\Reps s (inf ρp.m ρ.m) x vals:=by
 have tk:∀ {l:List PV},a0z n l=some x->x=l.take n/\x.length=n:=by
  intro l h
  simp only [a0z] at h
  split at h
  ·simp only [Q0] at h; subst h
   exact ⟨rfl,by simp; omega⟩
  ·cases h
 cases l with
 | row l off =>
  simp only [a0o] at hx
  obtain ⟨rfl,hn⟩:=tk hx
  refine ⟨hn,?_⟩
  cases a<;>simp only [a0y,reduceCtorEq,Q1] at hl
  case ea q i size off' =>
   obtain ⟨p,h1,h2⟩:=hl
   obtain ⟨v,_,h3,h4⟩:=h.get h1
   cases p<;>simp only [a1z,reduceCtorEq] at h2
   case sl sz rows =>
    split at h2
    case isFalse=>cases h2
    rename_i hc
    obtain ⟨rfl,hi0⟩:=hc
    simp only [Q2,Loc.row.injEq] at h2
    obtain ⟨r,hr,rfl,rfl⟩:=h2
    simp only [Rep] at h4
    obtain ⟨xs,⟨hsz,a,cap,rfl,_,hcell⟩,hrs,_⟩:=h4
    obtain ⟨xv,g1,g2⟩:=hrs.get hr
    obtain ⟨b,o,rfl,hc⟩:=hcell (by intro h0; subst h0; simp at g1)
    refine ⟨(xv.drop off').take n,⟨b,o+(i.pe ρp).toNat*sz+off',?_,.inl fun j u hj=>?_⟩,(g2.drop off').take n⟩
    ·simp only [SV.den,h3,a1D,Qe,IE.pe_den h,a4Y]
    ·have hj':xv[off'+j]?=some u:=by
      rw [Qf] at hj
      split at hj
      ·rw [Qg] at hj; exact hj
      ·cases hj
     have:=hc _ xv g1 (off'+j) u hj'
     rw [show o+(i.pe ρp).toNat*sz+(off'+j)=o+(i.pe ρp).toNat*sz+off'+j by omega] at this
     exact this
   case msl=>split at h2<;>simp at h2
   case rsl=>split at h2<;>simp at h2
   case rpl=>split at h2<;>simp at h2
  case pa q off' =>
   obtain ⟨p,h1,h2⟩:=hl
   obtain ⟨v,_,h3,h4⟩:=h.get h1
   cases p<;>simp only [a0A,reduceCtorEq,Q0,Loc.row.injEq] at h2
   case cell l' o =>
    obtain ⟨rfl,rfl⟩:=h2
    simp only [Rep] at h4
    obtain ⟨b,base,vs,rfl,g1,g2⟩:=h4
    refine ⟨(vs.drop (o+off')).take n,⟨b,base+(o+off'),?_,.inl fun j u hj=>?_⟩,(g1.drop _).take n⟩
    ·simp only [SV.den,h3,a1D,Qe,a4Y,Q8]
    ·rw [Qf] at hj
     split at hj
     ·rw [Qg] at hj
      have:=g2 _ u hj
      rw [<- Q8] at this; exact this
     ·cases hj
 | obj hd off =>
  simp only [a0o] at hx
  cases fl with
  | true=>simp at hx
  | false =>
  simp only [Qa,if_false,Q1] at hx ⊢
  obtain ⟨o,ho,l,hol,hx⟩:=hx
  cases o<;>simp only [MO.list,reduceCtorEq,Q0] at hol
  rename_i l' T
  subst hol
  obtain ⟨b,vs,g1,g2⟩:=h.m.get ho
  obtain ⟨rfl,hn⟩:=tk hx
  have hB:=a1C ho g1
  simp only [a1L] at hB
  have key:a1D (a.den ρ id)=some ⟨b,off,none⟩:=by
   cases a<;>simp only [a0y,reduceCtorEq,Q1] at hl
   case ea q i size off' =>
    obtain ⟨p,h1,h2⟩:=hl
    obtain ⟨v,_,h3,h4⟩:=h.get h1
    cases p<;>simp only [a1z,reduceCtorEq] at h2
    case sl=>split at h2<;>simp at h2
    case rsl=>split at h2<;>simp at h2
    case rpl=>split at h2<;>simp at h2
    case msl hh o len cap sz =>
     split at h2
     case isFalse=>cases h2
     simp only [Q0,Loc.obj.injEq] at h2
     obtain ⟨rfl,rfl⟩:=h2
     simp only [Rep] at h4
     obtain ⟨b',n',k1,rfl⟩:=h4
     rw [hB] at k1
     simp only [Q0,Q3] at k1
     obtain ⟨rfl,_⟩:=k1
     simp only [SV.den,h3,a1D,Qe,IE.pe_den h,a4Y,Q8]
   case pa q off' =>
    obtain ⟨p,h1,h2⟩:=hl
    obtain ⟨v,_,h3,h4⟩:=h.get h1
    cases p<;>simp only [a0A,reduceCtorEq,Q0,Loc.obj.injEq] at h2
    case ref hh o =>
     obtain ⟨rfl,rfl⟩:=h2
     simp only [Rep] at h4
     obtain ⟨b',n',k1,rfl⟩:=h4
     rw [hB] at k1
     simp only [Q0,Q3] at k1
     obtain ⟨rfl,_⟩:=k1
     simp only [SV.den,h3,a1D,Qe,a4Y]
  refine ⟨hn,(vs.drop off).take n,⟨b,off,key,.inr ⟨vs.toArray,T,(0,0),Qn g1,fun j u hj=>?_⟩⟩,(g2.drop off).take n⟩
  rw [Qf] at hj
  split at hj
  ·rw [Qg] at hj
   simpa using hj
  ·cases hj
 | elt hd len i sz off =>
  simp only [a0o] at hx
  cases fl with
  | true=>simp at hx
  | false =>
  simp only [Qa,if_false,Q1] at hx ⊢
  obtain ⟨o,ho,rows,hrows,r,hr,hx⟩:=hx
  cases o<;>simp only [MO.elts,reduceCtorEq] at hrows
  rename_i rows' sz' T
  split at hrows
  case isFalse=>cases hrows
  rename_i hc
  obtain ⟨hc1,hc2⟩:=hc
  simp only [Q0] at hrows
  subst hrows
  subst hc2
  obtain ⟨⟨b,ob⟩,g1,cur,g2,a1,a2,a3,a4,xs,a5,a6,a7⟩:=h.m.obj ho
  simp only at g2
  subst g2
  have hB:=a1C ho g1
  simp only [a1L,a3d,hc1] at hB
  obtain ⟨rfl,hn⟩:=tk hx
  obtain ⟨hadr,hi⟩:=c0L h hl hB
  obtain ⟨xv,g3,g4⟩:=a5.get hr
  refine ⟨hn,(xv.drop off).take n,⟨b,i*sz'+off,hadr,.inr ⟨cur,T,(0,0),Qn g1,fun j u hj=>?_⟩⟩,(g4.drop off).take n⟩
  rw [Qf] at hj
  split at hj
  ·rw [Qg] at hj
   have:=a7 _ u (a5b sz' xs a6 i xv (off+j) u g3 hj)
   rw [<- Q8] at this; exact this
  ·cases hj
theorem c5F (h:EnvRep s ρp ρ) {a:SV} {hd off b n0:Nat} (hl:a0y ρp a=some (.obj hd off)) (hB:(inf ρp.m ρ.m)[hd]?=some (b,n0,0)):a1D (a.den ρ id)=some ⟨b,off,none⟩:=by
 cases a<;>simp only [a0y,reduceCtorEq,Q1] at hl
 case ea q i size off' =>
  obtain ⟨p,h1,h2⟩:=hl
  obtain ⟨v,_,h3,h4⟩:=h.get h1
  cases p<;>simp only [a1z,reduceCtorEq] at h2
  case sl=>split at h2<;>simp at h2
  case rsl=>split at h2<;>simp at h2
  case rpl=>split at h2<;>simp at h2
  case msl hh o len cap sz =>
   split at h2
   case isFalse=>cases h2
   simp only [Q0,Loc.obj.injEq] at h2
   obtain ⟨rfl,rfl⟩:=h2
   simp only [Rep] at h4
   obtain ⟨b',n',k1,rfl⟩:=h4
   rw [hB] at k1
   simp only [Q0,Q3] at k1
   obtain ⟨rfl,_⟩:=k1
   simp only [SV.den,h3,a1D,Qe,IE.pe_den h,a4Y,Q8]
 case pa q off' =>
  obtain ⟨p,h1,h2⟩:=hl
  obtain ⟨v,_,h3,h4⟩:=h.get h1
  cases p<;>simp only [a0A,reduceCtorEq,Q0,Loc.obj.injEq] at h2
  case ref hh o =>
   obtain ⟨rfl,rfl⟩:=h2
   simp only [Rep] at h4
   obtain ⟨b',n',k1,rfl⟩:=h4
   rw [hB] at k1
   simp only [Q0,Q3] at k1
   obtain ⟨rfl,_⟩:=k1
   simp only [SV.den,h3,a1D,Qe,a4Y]
theorem a4g {B:Inf} {p:PV} {v:Value} {size:Nat} {rows:List (List PV)} (h:Rep s B p v) (hr:p.rowsOf size=some rows):∃ xs,a1s s size v xs/\a0M s B rows xs/\∀ r∈rows,∀ p∈r,p.one=true:=by
 cases p<;>simp only [PV.rowsOf,reduceCtorEq,Q0] at hr
 case nilS =>
  subst hr
  simp only [Rep] at h; subst h
  exact ⟨[],⟨by simp,none,0,rfl,Qb _,by simp⟩,rfl,by simp⟩
 case sl n rows =>
  split at hr
  ·rename_i hn
   simp only [Q0] at hr; subst hr hn
   simpa only [Rep] using h
  ·cases hr
end
end Go.Sx
namespace Go.Sx
open Go.RowKit
section
variable {s:Hp} {B:Inf} {k:Nat}
theorem a5v {i:Nat} {b:Nat × Nat × Nat} (h:B[i]?=some b) (hi:i < k):(B.take k)[i]?=some b:=by rw [Qw hi]; exact h
mutual
theorem PV.low_rep:∀ (p:PV) (v:Value),Rep s B p v->p.low k=true->Rep s (B.take k) p v
 | .int ..,v,h,_=>h
 | .bool ..,v,h,_=>h
 | .str ..,v,h,_=>h
 | .undef,v,h,_=>h
 | .nilS,v,h,_=>h
 | .nilF,v,h,_=>h
 | .nilP,v,h,_=>h
 | .nilI,v,h,_=>h
 | .nilM,v,h,_=>h
 | .sl n rows,v,h,hl=>by
  simp only [Rep,PV.low] at h hl ⊢
  obtain ⟨xs,h1,h2,h3⟩:=h
  exact ⟨xs,h1,PV.lowss_rep rows xs h2 hl,h3⟩
 | .cell l off,v,h,hl=>by
  simp only [Rep,PV.low] at h hl ⊢
  obtain ⟨b,base,vs,h1,h2,h3⟩:=h
  exact ⟨b,base,vs,h1,PV.lows_rep l vs h2 hl,h3⟩
 | .ref i off,v,h,hl=>by
  simp only [Rep,PV.low,decide_eq_true_eq] at h hl ⊢
  obtain ⟨b,n,h1,h2⟩:=h
  exact ⟨b,n,a5v h1 hl,h2⟩
 | .mp i,v,h,hl=>by
  simp only [Rep,PV.low,decide_eq_true_eq] at h hl ⊢
  obtain ⟨b,n,h1,h2⟩:=h
  exact ⟨b,n,a5v h1 hl,h2⟩
 | .msl i off len cap _,v,h,hl=>by
  simp only [Rep,PV.low,decide_eq_true_eq] at h hl ⊢
  obtain ⟨b,n,h1,h2⟩:=h
  exact ⟨b,n,a5v h1 hl,h2⟩
 | .rsl i len sz,v,h,hl=>by
  simp only [Rep,PV.low,decide_eq_true_eq] at h hl ⊢
  obtain ⟨h0,b,cap,h1,b',n,r,h2,h3,h4⟩:=h
  exact ⟨h0,b,cap,h1,b',n,r,a5v h2 hl,h3,h4⟩
 | .rpl i len r0 sz,v,h,hl=>by
  simp only [Rep,PV.low,decide_eq_true_eq] at h hl ⊢
  obtain ⟨h0,hlr,b,cap,h1,b',n,r,h2,h3,h4⟩:=h
  exact ⟨h0,hlr,b,cap,h1,b',n,r,a5v h2 hl,h3,h4⟩
 | .fn f l,v,h,hl=>by
  simp only [Rep,PV.low] at h hl ⊢
  obtain ⟨vs,h1,h2⟩:=h
  exact ⟨vs,h1,PV.lows_rep l vs h2 hl⟩
 | .agg l,v,h,hl=>by
  simp only [Rep,PV.low] at h hl ⊢
  obtain ⟨vs,h1,h2⟩:=h
  exact ⟨vs,h1,PV.lows_rep l vs h2 hl⟩
 | .tup l,v,h,hl=>by
  simp only [Rep,PV.low] at h hl ⊢
  obtain ⟨vs,h1,h2⟩:=h
  exact ⟨vs,h1,PV.lows_rep l vs h2 hl⟩
theorem PV.lows_rep:∀ (l:List PV) (v:List Value),Reps s B l v->PV.lows k l=true->Reps s (B.take k) l v
 | [],v,h,_=>h
 | p::l,v,h,hl=>by
  simp only [PV.lows,Q6] at hl
  simp only [Reps] at h ⊢
  obtain ⟨x,r,h1,h2,h3⟩:=h
  exact ⟨x,r,h1,PV.low_rep p x h2 hl.1,PV.lows_rep l r h3 hl.2⟩
theorem PV.lowss_rep:∀ (l:List (List PV)) (v:List (List Value)),a0M s B l v->PV.lowss k l=true->a0M s (B.take k) l v
 | [],v,h,_=>h
 | p::l,v,h,hl=>by
  simp only [PV.lowss,Q6] at hl
  simp only [a0M] at h ⊢
  obtain ⟨x,r,h1,h2,h3⟩:=h
  exact ⟨x,r,h1,PV.lows_rep p x h2 hl.1,PV.lowss_rep l r h3 hl.2⟩
end
theorem MO.low_obj {o:MO} {x:Nat × Obj} (h:a3m s B o x) (hl:o.low k=true):a3m s (B.take k) o x:=by
 cases o with
 | cells l T=>obtain ⟨vs,h1,h2⟩:=h; exact ⟨vs,h1,PV.lows_rep l vs h2 hl⟩
 | row rows sz T=>obtain ⟨cur,h1,a1,a2,a3,a4,xs,a5,a6,a7⟩:=h; exact ⟨cur,h1,a1,a2,a3,a4,xs,PV.lowss_rep rows xs a5 hl,a6,a7⟩
 | mp ks vs K=>obtain ⟨es,clock,vv,h1,h2,h3⟩:=h; exact ⟨es,clock,vv,h1,h2,PV.lows_rep vs vv h3 hl⟩
 | mq kv ver=>exact h
 | it hd ver seen=>simp [MO.low] at hl
 | dead=>exact h
theorem MO.low_rep:∀ (σ:List MO) (m:MS),a0P s B σ m->σ.all (MO.low k)=true->a0P s (B.take k) σ m
 | [],m,h,_=>h
 | o::σ,m,h,hl=>by
  simp only [QU,Q6] at hl
  obtain ⟨x,r,rfl,h1,h2⟩:=a2r.1 h
  exact a2r.2 ⟨x,r,rfl,MO.low_obj h1 hl.1,MO.low_rep σ r h2 hl.2⟩
theorem b7X {sz b:Nat}:∀ (n:Nat) (l:List PV) (vs:List Value) (o:Nat) {rows},b6j sz n l=some rows->Reps s B l vs->(∀ j u,vs[j]?=some u->s b (o+j)=some u) ->
  ∃ xs,xs.length=n/\(∀ x∈xs,x.length=sz)/\a0M s B rows xs/\(∀ r∈rows,∀ p∈r,p.one=true)/\∀ i x,xs[i]?=some x->∀ j u,x[j]?=some u->s b (o+i*sz+j)=some u
 | 0,l,vs,o,rows,h,_,_=>by
  simp only [b6j,Q0] at h; subst h
  exact ⟨[],rfl,by simp,rfl,by simp,by simp⟩
 | n+1,l,vs,o,rows,h,hr,hc=>by
  simp only [b6j] at h
  split at h
  case isFalse=>cases h
  rename_i hcond
  simp only [Q2] at h
  obtain ⟨rows',h1,rfl⟩:=h
  obtain ⟨xs,e1,e2,e3,e4,e5⟩:=b7X n (l.drop sz) (vs.drop sz) (o+sz) h1 (hr.drop sz) (fun j u hj=>by
   rw [Qg] at hj
   have:=hc _ u hj
   rw [<- Q8] at this; exact this)
  have hlen:sz<=vs.length:=by rw [hr.length]; exact hcond.1
  refine ⟨vs.take sz::xs,by simp [e1],fun x hx=>?_,⟨_,_,rfl,hr.take sz,e3⟩,fun r hr'=>?_,fun i x hi j u hj=>?_⟩
  ·rcases Q7.1 hx with rfl | hx
   ·simp; omega
   ·exact e2 x hx
  ·rcases Q7.1 hr' with rfl | hr'
   ·exact fun p hp=>List.all_eq_true.1 hcond.2 p hp
   ·exact e4 r hr'
  ·cases i with
   | zero =>
    simp only [QV,Q0] at hi; subst hi
    rw [Qf] at hj
    split at hj
    ·simpa using hc j u hj
    ·cases hj
   | succ i =>
    have:=e5 i x (by simpa using hi) j u hj
    rw [show o+(i+1)*sz+j=o+sz+i*sz+j by rw [Qy]; omega]
    exact this
def b1l (s:Hp) (B:Inf) (k:Nat) (look:Nat->Option MO):Prop:=∀ h o,k<=h->look h=some o->match o with
 | .cells l _=>∃ b n vs,B[h]?=some (b,n,0)/\Reps s (B.take k) l vs/\∀ o u,vs[o]?=some u->s b o=some u
 | .row rows sz _=>∃ b n xs,B[h]?=some (b,n,rows.length)/\a0M s (B.take k) rows xs/\(∀ r∈rows,∀ p∈r,p.one=true)/\(∀ x∈xs,x.length=sz)/\∀ o u,xs.flatten[o]?=some u->s b o=some u
 | .mp .. | .mq .. | .it .. | .dead=>False
mutual
theorem PV.frz_rep {look:Nat->Option MO} (hk:b1l s B k look):∀ (p:PV) (v:Value) {q:PV},Rep s B p v->p.frz k look=some q->Rep s (B.take k) q v
 | .int ..,v,q,h,hq=>by simp only [PV.frz,Q0] at hq; subst hq; exact h
 | .bool ..,v,q,h,hq=>by simp only [PV.frz,Q0] at hq; subst hq; exact h
 | .str ..,v,q,h,hq=>by simp only [PV.frz,Q0] at hq; subst hq; exact h
 | .undef,v,q,h,hq=>by simp only [PV.frz,Q0] at hq; subst hq; exact h
 | .nilS,v,q,h,hq=>by simp only [PV.frz,Q0] at hq; subst hq; exact h
 | .nilF,v,q,h,hq=>by simp only [PV.frz,Q0] at hq; subst hq; exact h
 | .nilP,v,q,h,hq=>by simp only [PV.frz,Q0] at hq; subst hq; exact h
 | .nilI,v,q,h,hq=>by simp only [PV.frz,Q0] at hq; subst hq; exact h
 | .nilM,v,q,h,hq=>by simp only [PV.frz,Q0] at hq; subst hq; exact h
 | .sl n rows,v,q,h,hq=>by
  simp only [PV.frz] at hq
  split at hq
  ·rename_i hl
   simp only [Q0] at hq; subst hq
   exact PV.low_rep _ _ h (by simpa [PV.low] using hl)
  ·cases hq
 | .cell l off,v,q,h,hq=>by
  simp only [PV.frz] at hq
  split at hq
  ·rename_i hl
   simp only [Q0] at hq; subst hq
   exact PV.low_rep _ _ h (by simpa [PV.low] using hl)
  ·cases hq
 | .mp i,v,q,h,hq=>by
  simp only [PV.frz] at hq
  split at hq
  ·rename_i hl
   simp only [Q0] at hq; subst hq
   exact PV.low_rep _ _ h (by simpa [PV.low] using hl)
  ·cases hq
 | .ref i off,v,q,h,hq=>by
  simp only [PV.frz] at hq
  split at hq
  ·rename_i hl
   simp only [Q0] at hq; subst hq
   exact PV.low_rep _ _ h (by simpa [PV.low] using hl)
  ·rename_i hl
   simp only [Q1,Q2] at hq
   obtain ⟨o,h1,l,hol,rfl⟩:=hq
   cases o<;>simp only [MO.list,reduceCtorEq,Q0] at hol
   subst hol
   obtain ⟨b,n,vs,h2,h3,h4⟩:=hk i _ (by omega) h1
   simp only [Rep] at h ⊢
   obtain ⟨b',n',h5,rfl⟩:=h
   rw [h2] at h5
   simp only [Q0,Q3] at h5
   obtain ⟨rfl,_⟩:=h5
   exact ⟨b,0,vs,by simp,h3,fun o u hu=>by simpa using h4 o u hu⟩
 | .rsl i len sz,v,q,h,hq=>by
  simp only [PV.frz] at hq
  split at hq
  ·rename_i hl
   simp only [Q0] at hq; subst hq
   exact PV.low_rep _ _ h (by simpa [PV.low] using hl)
  ·rename_i hl
   simp only [Q1,Q2] at hq
   obtain ⟨o,h1,rows,hol,rfl⟩:=hq
   cases o<;>simp only [MO.elts,reduceCtorEq] at hol
   split at hol
   case isFalse=>cases hol
   rename_i hc
   simp only [Q0] at hol
   subst hol
   obtain ⟨hc1,rfl⟩:=hc
   obtain ⟨b,n,xs,h2,h3,h4,h5,h6⟩:=hk i _ (by omega) h1
   simp only [Rep] at h ⊢
   obtain ⟨h0,b1,cap,rfl,b',n',r,h7,h8,h9⟩:=h
   rw [h2] at h7
   simp only [Q0,Q3] at h7
   obtain ⟨rfl,rfl,rfl⟩:=h7
   obtain ⟨rfl,_,hcap⟩:=h9 hc1
   have hlx:=h3.length
   refine ⟨xs,⟨h5,some ⟨b,0,none⟩,cap,by rw [hlx,hc1],by rw [hlx,hc1]; exact hcap,fun _=>⟨b,0,rfl,fun i x hi j u hj=>?_⟩⟩,h3,h4⟩
   rw [Qm]
   exact h6 _ u (a5b _ xs h5 i x j u hi hj)
 | .rpl i len r0 sz,v,q,h,hq=>by
  simp only [PV.frz] at hq
  split at hq
  ·rename_i hl
   simp only [Q0] at hq; subst hq
   exact PV.low_rep _ _ h (by simpa [PV.low] using hl)
  ·rename_i hl
   simp only [Q1,Q2] at hq
   obtain ⟨o,h1,rows,hol,rfl⟩:=hq
   cases o<;>simp only [MO.elts,reduceCtorEq] at hol
   split at hol
   case isFalse=>cases hol
   rename_i hc
   simp only [Q0] at hol
   subst hol
   obtain ⟨hc1,rfl⟩:=hc
   obtain ⟨b,n,xs,h2,h3,h4,h5,h6⟩:=hk i _ (by omega) h1
   simp only [Rep] at h ⊢
   obtain ⟨h0,hlr,b1,cap,rfl,b',n',r,h7,h8,h9⟩:=h
   rw [h2] at h7
   simp only [Q0,Q3] at h7
   obtain ⟨rfl,rfl,rfl⟩:=h7
   obtain ⟨rfl,_,hcap⟩:=h9 hc1
   have hlx:=h3.length
   refine ⟨xs.take len,⟨fun x hx=>h5 x (Qz hx),some ⟨b,0,none⟩,cap,by rw [QA,hlx,hc1,QZ hlr],by rw [QA,hlx]; omega,fun _=>⟨b,0,rfl,fun i x hi j u hj=>?_⟩⟩,h3.take len,fun r hr=>h4 r (Qz hr)⟩
   rw [Qm]
   have hi':xs[i]?=some x:=by
    rw [Qf] at hi
    split at hi
    ·exact hi
    ·cases hi
   exact h6 _ u (a5b _ xs h5 i x j u hi' hj)
 | .msl i off len cap sz,v,q,h,hq=>by
  simp only [PV.frz] at hq
  split at hq
  ·rename_i hl
   simp only [Q0] at hq; subst hq
   exact PV.low_rep _ _ h (by simpa [PV.low] using hl)
  ·rename_i hl
   simp only [Q1,Q2] at hq
   obtain ⟨o,h1,l,hol,rows,h0,rfl⟩:=hq
   cases o<;>simp only [MO.list,reduceCtorEq,Q0] at hol
   subst hol
   rename_i l T
   split at h0
   case isFalse=>cases h0
   rename_i hcap
   obtain ⟨b,n,vs,h2,h3,h4⟩:=hk i _ (by omega) h1
   simp only [Rep] at h ⊢
   obtain ⟨b',n',h5,rfl⟩:=h
   rw [h2] at h5
   simp only [Q0,Q3] at h5
   obtain ⟨rfl,_⟩:=h5
   obtain ⟨xs,e1,e2,e3,e4,e5⟩:=b7X (b:=b) len (l.drop off) (vs.drop off) off h0 (h3.drop off) (fun j u hj=>by rw [Qg] at hj; exact h4 _ u hj)
   exact ⟨xs,⟨e2,some ⟨b,off,none⟩,cap,by rw [e1],by rw [e1]; exact hcap,fun _=>⟨b,off,rfl,e5⟩⟩,e3,e4⟩
 | .fn f l,v,q,h,hq=>by
  simp only [PV.frz,Q2] at hq
  obtain ⟨l',h1,rfl⟩:=hq
  simp only [Rep] at h ⊢
  obtain ⟨vs,h2,h3⟩:=h
  exact ⟨vs,h2,PV.frzs_rep hk l vs h3 h1⟩
 | .agg l,v,q,h,hq=>by
  simp only [PV.frz,Q2] at hq
  obtain ⟨l',h1,rfl⟩:=hq
  simp only [Rep] at h ⊢
  obtain ⟨vs,h2,h3⟩:=h
  exact ⟨vs,h2,PV.frzs_rep hk l vs h3 h1⟩
 | .tup l,v,q,h,hq=>by
  simp only [PV.frz,Q2] at hq
  obtain ⟨l',h1,rfl⟩:=hq
  simp only [Rep] at h ⊢
  obtain ⟨vs,h2,h3⟩:=h
  exact ⟨vs,h2,PV.frzs_rep hk l vs h3 h1⟩
theorem PV.frzs_rep {look:Nat->Option MO} (hk:b1l s B k look):∀ (l:List PV) (v:List Value) {q:List PV},Reps s B l v->PV.frzs k look l=some q->Reps s (B.take k) q v
 | [],v,q,h,hq=>by simp only [PV.frzs,Q0] at hq; subst hq; exact h
 | p::l,v,q,h,hq=>by
  simp only [PV.frzs,Q1,Q2] at hq
  obtain ⟨p',h1,l',h2,rfl⟩:=hq
  simp only [Reps] at h ⊢
  obtain ⟨x,r,h3,h4,h5⟩:=h
  exact ⟨x,r,h3,PV.frz_rep hk p x h4 h1,PV.frzs_rep hk l r h5 h2⟩
end
theorem PV.frzss_rep {look:Nat->Option MO} (hk:b1l s B k look):∀ (l:List (List PV)) (v:List (List Value)) {q:List (List PV)},a0M s B l v->PV.frzss k look l=some q->a0M s (B.take k) q v/\(∀ r∈q,∀ p∈r,p.one=true)/\q.length=l.length
 | [],v,q,h,hq=>by simp only [PV.frzss,Q0] at hq; subst hq; exact ⟨h,by simp,rfl⟩
 | p::l,v,q,h,hq=>by
  simp only [PV.frzss,Q1] at hq
  obtain ⟨p',h1,hq⟩:=hq
  split at hq
  case isFalse=>cases hq
  rename_i hone
  simp only [Q2] at hq
  obtain ⟨l',h2,rfl⟩:=hq
  simp only [a0M] at h
  obtain ⟨x,r,rfl,h4,h5⟩:=h
  obtain ⟨e1,e2,e3⟩:=PV.frzss_rep hk l r h5 h2
  refine ⟨⟨x,r,rfl,PV.frzs_rep hk p x h4 h1,e1⟩,fun r' hr'=>?_,by simp [e3]⟩
  rcases Q7.1 hr' with rfl | hr'
  ·exact fun p hp=>List.all_eq_true.1 hone p hp
  ·exact e2 r' hr'
end
theorem b1D {s:Hp} {ρp:PEnv} {ρ:Env} (h:EnvRep s ρp ρ) (ht:c1f (ρ.m.drop ρ.k) s):∀ d,b1l s (inf ρp.m ρ.m) ρp.k (a8l ρp d)
 | 0,_,_,_,hl=>by simp only [a8l] at hl; cases hl
 | d+1,i,o,hi,hl=>by
  simp only [a8l,Q1] at hl
  obtain ⟨o',h1,h2⟩:=hl
  have told:∀ {b:Nat} {cur:Array Value} {T:TypeId},ρ.m[i]?=some (b,.cells cur T (0,0))->∀ o u,cur[o]?=some u->s b o=some u:=by
   intro b cur T g1 o u hu
   refine ht (b,.cells cur T (0,0)) ?_ _ _ _ rfl o u hu
   rw [QH]
   exact ⟨i-ρ.k,by rw [Qg,show ρ.k+(i-ρ.k)=i by rw [h.k]; omega]; exact g1⟩
  cases o' with
  | cells l T =>
   simp only [Q2] at h2
   obtain ⟨l',h3,rfl⟩:=h2
   obtain ⟨b,vs,g1,g2⟩:=h.m.get h1
   have hB:=a1C h1 g1
   exact ⟨b,_,vs,hB,PV.frzs_rep (b1D h ht d) l vs g2 h3,fun o u hu=>told g1 o u (by simpa using hu)⟩
  | row rows sz T =>
   simp only [Q2] at h2
   obtain ⟨rows',h3,rfl⟩:=h2
   obtain ⟨⟨b,ob⟩,g1,cur,g2,a1,a2,a3,a4,xs,a5,a6,a7⟩:=h.m.obj h1
   simp only at g2
   subst g2
   have hB:=a1C h1 g1
   obtain ⟨e1,e2,e3⟩:=PV.frzss_rep (b1D h ht d) rows xs a5 h3
   exact ⟨b,_,xs,by rw [e3]; exact hB,e1,e2,a6,fun o u hu=>told g1 o u (a7 o u hu)⟩
  | mp ks vs K=>simp at h2
  | mq kv ver=>simp at h2
  | it hd ver seen=>simp at h2
  | dead=>simp at h2
theorem MO.frzM_obj {s:Hp} {B:Inf} {k:Nat} {look:Nat->Option MO} (hk:b1l s B k look) {o o':MO} {x:Nat × Obj} (h:a3m s B o x) (hf:o.frzM k look=some o') :
  a3m s (B.take k) o' x/\(∀ y,a1L o' y=a1L o y)/\o'.isIt=false/\∀ p:Prop,p->MO.Step o o' p:=by
 have other:∀ {o:MO},(if o.low k then some o else none)=some o'->a3m s B o x->a3m s (B.take k) o' x/\(∀ y,a1L o' y=a1L o y)/\o'.isIt=false/\∀ p:Prop,p->MO.Step o o' p:=by
  intro o hf h
  split at hf
  ·rename_i hl
   simp only [Q0] at hf; subst hf
   exact ⟨MO.low_obj h hl,fun _=>rfl,by cases o<;>first | rfl | simp [MO.low] at hl,fun p hp=>MO.Step.refl o hp⟩
  ·cases hf
 cases o with
 | cells l T =>
  simp only [MO.frzM,Q2] at hf
  obtain ⟨l',h1,rfl⟩:=hf
  obtain ⟨vs,h2,h3⟩:=h
  exact ⟨⟨vs,h2,PV.frzs_rep hk l vs h3 h1⟩,fun _=>rfl,rfl,fun _ _=>trivial⟩
 | row rows sz T =>
  simp only [MO.frzM,Q2] at hf
  obtain ⟨rows',h1,rfl⟩:=hf
  obtain ⟨cur,g2,a1,a2,⟨cap,a31,a32,a33⟩,a4,xs,a5,a6,a7⟩:=h
  obtain ⟨e1,e2,e3⟩:=PV.frzss_rep hk rows xs a5 h1
  refine ⟨⟨cur,g2,?_,a2,⟨cap,a31,by omega,a33⟩,e2,xs,e1,a6,a7⟩,fun y=>by simp only [a1L,e3],rfl,fun _ _=>trivial⟩
  rintro rfl
  exact a1 (QW.1 e3.symm)
 | mp ks vs K=>exact other hf h
 | mq kv ver=>exact other hf h
 | it hd ver seen=>exact other hf h
 | dead=>exact other hf h
theorem b8a {s:Hp} {B:Inf} {k:Nat} {look:Nat->Option MO} (hk:b1l s B k look):∀ (σ:List MO) (m:MS) {σ':List MO},a0P s B σ m->b5F k look σ=some σ' ->
  a0P s (B.take k) σ' m/\inf σ' m=inf σ m/\(∀ o∈σ',o.isIt=false)/\∀ (i:Nat) o,σ[i]?=some o->∃ o',σ'[i]?=some o'/\∀ p:Prop,p->MO.Step o o' p
 | [],m,σ',h,hf=>by simp only [b5F,Q0] at hf; subst hf; exact ⟨h,rfl,by simp,by simp⟩
 | o::σ,m,σ',h,hf=>by
  simp only [b5F,Q1,Q2] at hf
  obtain ⟨o',h1,σ2,h2,rfl⟩:=hf
  obtain ⟨x,r,rfl,h3,h4⟩:=a2r.1 h
  obtain ⟨e1,e2,e3,e4⟩:=MO.frzM_obj hk h3 h1
  obtain ⟨f1,f2,f3,f4⟩:=b8a hk σ r h4 h2
  refine ⟨a2r.2 ⟨x,r,rfl,e1,f1⟩,?_,fun q hq=>?_,fun i q hq=>?_⟩
  ·unfold inf at f2 ⊢
   rw [X0,X0,f2,e2]
  ·rcases Q7.1 hq with rfl | hq
   ·exact e3
   ·exact f3 q hq
  ·cases i with
   | zero=>simp only [QV,Q0] at hq; subst hq; exact ⟨o',rfl,e4⟩
   | succ i=>simpa using f4 i q (by simpa using hq)
theorem VC.mono {P:Program} {Q Q':Value->Hp->MS->Prop} {T T':Cfg->Env->Hp->Prop} (hQ:∀ v s m,Q v s m->Q' v s m) (hT:∀ g ρ s,T g ρ s->T' g ρ s):∀ (o:Out) (ρ:Env) (s:Hp),VC P Q T o ρ s->VC P Q' T' o ρ s
 | .ret ..,ρ,s,h=>fun β s' h1 h2 h3=>hQ _ _ _ (h β s' h1 h2 h3)
 | .ite c x y,ρ,s,h=>⟨fun hc=>VC.mono hQ hT x ρ s (h.1 hc),fun hc=>VC.mono hQ hT y ρ s (h.2 hc)⟩
 | .need c k,ρ,s,h=>⟨h.1,fun hc=>VC.mono hQ hT k ρ s (h.2 hc)⟩
 | .load _ _ _ _ _ _ k,ρ,s,h=>by
  obtain ⟨is,bs,vs,h1,h2,h3,h4,h5,h6⟩:=h
  exact ⟨is,bs,vs,h1,h2,h3,h4,h5,VC.mono hQ hT k _ s h6⟩
 | .app _ _ _ _ k,ρ,s,h=>by
  obtain ⟨xs,es,h1,h2,h3,h4,h5⟩:=h
  exact ⟨xs,es,h1,h2,h3,h4,fun v s' a b=>VC.mono hQ hT k _ _ (h5 v s' a b)⟩
 | .cut _ _ _ _ k,ρ,s,h=>by
  obtain ⟨xs,h1,h2,h3,h4,h5⟩:=h
  exact ⟨xs,h1,h2,h3,h4,fun v a=>VC.mono hQ hT k _ _ (h5 v a)⟩
 | .scut _ _ _ k,ρ,s,h=>by
  obtain ⟨l,h1,h2,h3,h4,h5⟩:=h
  exact ⟨l,h1,h2,h3,h4,VC.mono hQ hT k _ _ h5⟩
 | .chk _ _ k,ρ,s,h=>⟨h.1,VC.mono hQ hT k _ s h.2⟩
 | .appF _ _ _ _ k,ρ,s,h=>by
  obtain ⟨xs,es,h1,h2,h3,h4,h5,h6⟩:=h
  exact ⟨xs,es,h1,h2,h3,h4,h5,fun v s' a b=>VC.mono hQ hT k _ _ (h6 v s' a b)⟩
 | .hole _ _ _ k,ρ,s,h=>by
  obtain ⟨xs,h1,h2,h3,h5⟩:=h
  exact ⟨xs,h1,h2,h3,fun v v' s' a b c=>VC.mono hQ hT k _ _ (h5 v v' s' a b c)⟩
 | .fill _ _ _ _ k,ρ,s,h=>by
  obtain ⟨xs,h1,h2,h3,h5⟩:=h
  exact ⟨xs,h1,h2,h3,fun s' a b=>VC.mono hQ hT k _ _ (h5 s' a b)⟩
 | .call _ _ _ _ _ _ _ k,ρ,s,h=>fun β s1 a b=>by
  obtain ⟨Qc,h1,h2⟩:=h β s1 a b
  refine ⟨Qc,h1,fun v s' m' a c=>?_⟩
  obtain ⟨is,bs,vs,e1,e2,e3,e4,e5,e6⟩:=h2 v s' m' a c
  exact ⟨is,bs,vs,e1,e2,e3,e4,e5,VC.mono hQ hT k _ _ e6⟩
 | .callv _ _ _ _ _ _ k,ρ,s,h=>by
  obtain ⟨F,caps,Qc,h0,h1,h2,h3⟩:=h
  refine ⟨F,caps,Qc,h0,h1,h2,fun v s' m' a c=>?_⟩
  obtain ⟨is,bs,vs,e1,e2,e3,e4,e5,e6⟩:=h3 v s' m' a c
  exact ⟨is,bs,vs,e1,e2,e3,e4,e5,VC.mono hQ hT k _ _ e6⟩
 | .newM _ _ k,ρ,s,h=>fun b hb=>VC.mono hQ hT k _ _ (h b hb)
 | .mkM _ _ _ _ _ k,ρ,s,h=>by
  obtain ⟨h1,h2,h3,h4⟩:=h
  exact ⟨h1,h2,h3,fun b hb=>VC.mono hQ hT k _ _ (h4 b hb)⟩
 | .appM _ _ _ _ _ k,ρ,s,h=>by
  obtain ⟨i,xs,es,h1,h2,h3,h4,h5,h6,h7⟩:=h
  exact ⟨i,xs,es,h1,h2,h3,h4,h5,fun he=>VC.mono hQ hT k _ _ (h6 he),fun he b' cap' cur' e1 e2 e3 e4 e5=>VC.mono hQ hT k _ _ (h7 he b' cap' cur' e1 e2 e3 e4 e5)⟩
 | .storeM _ _ k,ρ,s,h=>by
  obtain ⟨i,b,o,cur,T,h1,h2,h3,h4⟩:=h
  exact ⟨i,b,o,cur,T,h1,h2,h3,VC.mono hQ hT k _ _ h4⟩
 | .mkMap _ k,ρ,s,h=>fun b hb=>VC.mono hQ hT k _ _ (h b hb)
 | .mapGet _ _ _ _ _ _ _ _ _ k,ρ,s,h=>by
  obtain ⟨i,b,es,clock,ks,l,h1,h2,h3,is,bs,vs,e1,e2,e3,e4,e5,e6⟩:=h
  exact ⟨i,b,es,clock,ks,l,h1,h2,h3,is,bs,vs,e1,e2,e3,e4,e5,VC.mono hQ hT k _ _ e6⟩
 | .mapSet _ _ _ _ k,ρ,s,h=>by
  obtain ⟨i,b,es,clock,ks,l,h1,h2,h3,h4⟩:=h
  exact ⟨i,b,es,clock,ks,l,h1,h2,h3,fun es' clock' hm=>VC.mono hQ hT k _ _ (h4 es' clock' hm)⟩
 | .mapClr _ k,ρ,s,h=>by
  obtain ⟨i,b,es,clock,h1,h2,h3⟩:=h
  exact ⟨i,b,es,clock,h1,h2,VC.mono hQ hT k _ _ h3⟩
 | .mkQ k,ρ,s,h=>fun b hb=>VC.mono hQ hT k _ _ (h b hb)
 | .qGet _ _ _ k,ρ,s,h=>by
  obtain ⟨i,b,es,clock,kv,h1,h2,h3,h4,h5⟩:=h
  exact ⟨i,b,es,clock,kv,h1,h2,h3,h4,VC.mono hQ hT k _ _ h5⟩
 | .qSet _ _ _ k,ρ,s,h=>by
  obtain ⟨i,b,es,clock,kv,h1,h2,h3,h4,h5,h6⟩:=h
  exact ⟨i,b,es,clock,kv,h1,h2,h3,h4,h5,fun es' c' a b=>VC.mono hQ hT k _ _ (h6 es' c' a b)⟩
 | .qDel _ _ k,ρ,s,h=>by
  obtain ⟨i,b,es,clock,kv,h1,h2,h3,h4,h5,h6⟩:=h
  exact ⟨i,b,es,clock,kv,h1,h2,h3,h4,h5,fun es' c' a b=>VC.mono hQ hT k _ _ (h6 es' c' a b)⟩
 | .qLen _ k,ρ,s,h=>by
  obtain ⟨i,b,es,clock,h1,h2,h3⟩:=h
  exact ⟨i,b,es,clock,h1,h2,VC.mono hQ hT k _ _ h3⟩
 | .rng _ k,ρ,s,h=>by
  obtain ⟨i,b,es,clock,h1,h2,h3⟩:=h
  exact ⟨i,b,es,clock,h1,h2,fun b' hb'=>VC.mono hQ hT k _ _ (h3 b' hb')⟩
 | .next _ _ x y,ρ,s,h=>by
  obtain ⟨i,b',j,b,since,c0,clock,seen,es,kv,h1,h2,h3,h4,h5,h6,h7,h8,h9⟩:=h
  exact ⟨i,b',j,b,since,c0,clock,seen,es,kv,h1,h2,h3,h4,h5,h6,h7,fun h0=>VC.mono hQ hT x _ _ (h8 h0),fun e he key v a b c=>VC.mono hQ hT y _ _ (h9 e he key v a b c)⟩
 | .entry _ _ k,ρ,s,h=>by
  obtain ⟨i,b',j,b,since,clock,seen,es,e,key,v,h1,h2,h3,h4,h5,h6,h7,h8,h9⟩:=h
  exact ⟨i,b',j,b,since,clock,seen,es,e,key,v,h1,h2,h3,h4,h5,h6,h7,h8,VC.mono hQ hT k _ _ h9⟩
 | .copyM _ _ _ k,ρ,s,h=>by
  obtain ⟨i,b,o,dl,dcap,sl,cap,a,cur,T,vals,h1,h2,h3,h4,h5,h6,h7,h8⟩:=h
  exact ⟨i,b,o,dl,dcap,sl,cap,a,cur,T,vals,h1,h2,h3,h4,h5,h6,h7,VC.mono hQ hT k _ _ h8⟩
 | .both x y,ρ,s,h=>⟨VC.mono hQ hT x ρ s h.1,VC.mono hQ hT y ρ s h.2⟩
 | .stop c,ρ,s,h=>hT _ _ _ h
 | .fail _,ρ,s,h=>h.elim
theorem VC.le {P:Program} {Q:Value->Hp->MS->Prop} {T:Cfg->Env->Hp->Prop} {sb:Hp} {K:Nat}:∀ (o:Out) (ρ:Env) (s:Hp),sb.le s->ρ.k=K->VC P Q T o ρ s->VC P Q (fun g ρ' s'=>sb.le s'/\ρ'.k=K/\T g ρ' s') o ρ s
 | .ret ..,ρ,s,hl,hk,h=>fun β s' h1 h2 h3=>h β s' h1 h2 h3
 | .ite c x y,ρ,s,hl,hk,h=>⟨fun hc=>VC.le x ρ s hl hk (h.1 hc),fun hc=>VC.le y ρ s hl hk (h.2 hc)⟩
 | .need c k,ρ,s,hl,hk,h=>⟨h.1,fun hc=>VC.le k ρ s hl hk (h.2 hc)⟩
 | .load _ _ _ _ _ _ k,ρ,s,hl,hk,h=>by
  obtain ⟨is,bs,vs,h1,h2,h3,h4,h5,h6⟩:=h
  exact ⟨is,bs,vs,h1,h2,h3,h4,h5,VC.le k _ s hl hk h6⟩
 | .app _ _ _ _ k,ρ,s,hl,hk,h=>by
  obtain ⟨xs,es,h1,h2,h3,h4,h5⟩:=h
  exact ⟨xs,es,h1,h2,h3,h4,fun v s' a b=>VC.le k _ _ (Hp.le_trans hl a) hk (h5 v s' a b)⟩
 | .cut _ _ _ _ k,ρ,s,hl,hk,h=>by
  obtain ⟨xs,h1,h2,h3,h4,h5⟩:=h
  exact ⟨xs,h1,h2,h3,h4,fun v a=>VC.le k _ _ hl hk (h5 v a)⟩
 | .scut _ _ _ k,ρ,s,hl,hk,h=>by
  obtain ⟨l,h1,h2,h3,h4,h5⟩:=h
  exact ⟨l,h1,h2,h3,h4,VC.le k _ _ hl hk h5⟩
 | .chk _ _ k,ρ,s,hl,hk,h=>⟨h.1,VC.le k _ s hl hk h.2⟩
 | .appF _ _ _ _ k,ρ,s,hl,hk,h=>by
  obtain ⟨xs,es,h1,h2,h3,h4,h5,h6⟩:=h
  exact ⟨xs,es,h1,h2,h3,h4,h5,fun v s' a b=>VC.le k _ _ (Hp.le_trans hl a) hk (h6 v s' a b)⟩
 | .hole _ _ _ k,ρ,s,hl,hk,h=>by
  obtain ⟨xs,h1,h2,h3,h5⟩:=h
  exact ⟨xs,h1,h2,h3,fun v v' s' a b c=>VC.le k _ _ (Hp.le_trans hl a) hk (h5 v v' s' a b c)⟩
 | .fill _ _ _ _ k,ρ,s,hl,hk,h=>by
  obtain ⟨xs,h1,h2,h3,h5⟩:=h
  exact ⟨xs,h1,h2,h3,fun s' a b=>VC.le k _ _ (Hp.le_trans hl a) hk (h5 s' a b)⟩
 | .call _ _ _ _ _ _ _ k,ρ,s,hl,hk,h=>fun β s1 a0 b=>by
  obtain ⟨Qc,h1,h2⟩:=h β s1 a0 b
  refine ⟨Qc,h1,fun v s' m' a c=>?_⟩
  obtain ⟨is,bs,vs,e1,e2,e3,e4,e5,e6⟩:=h2 v s' m' a c
  exact ⟨is,bs,vs,e1,e2,e3,e4,e5,VC.le k _ _ (Hp.le_trans (Hp.le_trans hl a0) a) hk e6⟩
 | .callv _ _ _ _ _ _ k,ρ,s,hl,hk,h=>by
  obtain ⟨F,caps,Qc,h0,h1,h2,h3⟩:=h
  refine ⟨F,caps,Qc,h0,h1,h2,fun v s' m' a c=>?_⟩
  obtain ⟨is,bs,vs,e1,e2,e3,e4,e5,e6⟩:=h3 v s' m' a c
  exact ⟨is,bs,vs,e1,e2,e3,e4,e5,VC.le k _ _ (Hp.le_trans hl a) hk e6⟩
 | .newM _ _ k,ρ,s,hl,hk,h=>fun b hb=>VC.le k _ _ hl hk (h b hb)
 | .mkM _ _ _ _ _ k,ρ,s,hl,hk,h=>by
  obtain ⟨h1,h2,h3,h4⟩:=h
  exact ⟨h1,h2,h3,fun b hb=>VC.le k _ _ hl hk (h4 b hb)⟩
 | .appM _ _ _ _ _ k,ρ,s,hl,hk,h=>by
  obtain ⟨i,xs,es,h1,h2,h3,h4,h5,h6,h7⟩:=h
  exact ⟨i,xs,es,h1,h2,h3,h4,h5,fun he=>VC.le k _ _ hl hk (h6 he),fun he b' cap' cur' e1 e2 e3 e4 e5=>VC.le k _ _ hl hk (h7 he b' cap' cur' e1 e2 e3 e4 e5)⟩
 | .storeM _ _ k,ρ,s,hl,hk,h=>by
  obtain ⟨i,b,o,cur,T,h1,h2,h3,h4⟩:=h
  exact ⟨i,b,o,cur,T,h1,h2,h3,VC.le k _ _ hl hk h4⟩
 | .mkMap _ k,ρ,s,hl,hk,h=>fun b hb=>VC.le k _ _ hl hk (h b hb)
 | .mapGet _ _ _ _ _ _ _ _ _ k,ρ,s,hl,hk,h=>by
  obtain ⟨i,b,es,clock,ks,l,h1,h2,h3,is,bs,vs,e1,e2,e3,e4,e5,e6⟩:=h
  exact ⟨i,b,es,clock,ks,l,h1,h2,h3,is,bs,vs,e1,e2,e3,e4,e5,VC.le k _ _ hl hk e6⟩
 | .mapSet _ _ _ _ k,ρ,s,hl,hk,h=>by
  obtain ⟨i,b,es,clock,ks,l,h1,h2,h3,h4⟩:=h
  exact ⟨i,b,es,clock,ks,l,h1,h2,h3,fun es' clock' hm=>VC.le k _ _ hl hk (h4 es' clock' hm)⟩
 | .mapClr _ k,ρ,s,hl,hk,h=>by
  obtain ⟨i,b,es,clock,h1,h2,h3⟩:=h
  exact ⟨i,b,es,clock,h1,h2,VC.le k _ _ hl hk h3⟩
 | .mkQ k,ρ,s,hl,hk,h=>fun b hb=>VC.le k _ _ hl hk (h b hb)
 | .qGet _ _ _ k,ρ,s,hl,hk,h=>by
  obtain ⟨i,b,es,clock,kv,h1,h2,h3,h4,h5⟩:=h
  exact ⟨i,b,es,clock,kv,h1,h2,h3,h4,VC.le k _ _ hl hk h5⟩
 | .qSet _ _ _ k,ρ,s,hl,hk,h=>by
  obtain ⟨i,b,es,clock,kv,h1,h2,h3,h4,h5,h6⟩:=h
  exact ⟨i,b,es,clock,kv,h1,h2,h3,h4,h5,fun es' c' a b=>VC.le k _ _ hl hk (h6 es' c' a b)⟩
 | .qDel _ _ k,ρ,s,hl,hk,h=>by
  obtain ⟨i,b,es,clock,kv,h1,h2,h3,h4,h5,h6⟩:=h
  exact ⟨i,b,es,clock,kv,h1,h2,h3,h4,h5,fun es' c' a b=>VC.le k _ _ hl hk (h6 es' c' a b)⟩
 | .qLen _ k,ρ,s,hl,hk,h=>by
  obtain ⟨i,b,es,clock,h1,h2,h3⟩:=h
  exact ⟨i,b,es,clock,h1,h2,VC.le k _ _ hl hk h3⟩
 | .rng _ k,ρ,s,hl,hk,h=>by
  obtain ⟨i,b,es,clock,h1,h2,h3⟩:=h
  exact ⟨i,b,es,clock,h1,h2,fun b' hb'=>VC.le k _ _ hl hk (h3 b' hb')⟩
 | .next _ _ x y,ρ,s,hl,hk,h=>by
  obtain ⟨i,b',j,b,since,c0,clock,seen,es,kv,h1,h2,h3,h4,h5,h6,h7,h8,h9⟩:=h
  exact ⟨i,b',j,b,since,c0,clock,seen,es,kv,h1,h2,h3,h4,h5,h6,h7,fun h0=>VC.le x _ _ hl hk (h8 h0),fun e he key v a b c=>VC.le y _ _ hl hk (h9 e he key v a b c)⟩
 | .entry _ _ k,ρ,s,hl,hk,h=>by
  obtain ⟨i,b',j,b,since,clock,seen,es,e,key,v,h1,h2,h3,h4,h5,h6,h7,h8,h9⟩:=h
  exact ⟨i,b',j,b,since,clock,seen,es,e,key,v,h1,h2,h3,h4,h5,h6,h7,h8,VC.le k _ _ hl hk h9⟩
 | .copyM _ _ _ k,ρ,s,hl,hk,h=>by
  obtain ⟨i,b,o,dl,dcap,sl,cap,a,cur,T,vals,h1,h2,h3,h4,h5,h6,h7,h8⟩:=h
  exact ⟨i,b,o,dl,dcap,sl,cap,a,cur,T,vals,h1,h2,h3,h4,h5,h6,h7,VC.le k _ _ hl hk h8⟩
 | .both x y,ρ,s,hl,hk,h=>⟨VC.le x ρ s hl hk h.1,VC.le y ρ s hl hk h.2⟩
 | .stop c,ρ,s,hl,hk,h=>⟨hl,hk,h⟩
 | .fail _,ρ,s,hl,hk,h=>h.elim
theorem c6t {α:Type} (z:List α) (N:Nat):∀ i,i < N*z.length->((Qd N z).flatten)[i]?=z[i % z.length]?:=by
 induction N with
 | zero=>intro i hi; simp at hi
 | succ N ih =>
  intro i hi
  rw [X4,X5,QX]
  split
  ·rename_i h; rw [Nat.mod_eq_of_lt h]
  ·rename_i h
   rw [ih (i-z.length) (by rw [Qy] at hi; omega)]
   congr 1
   rw [<- Nat.mod_eq_sub_mod (by omega)]
theorem b9q (z:List Value) (N:Nat):madeCells z.toArray (N*z.length)=((Qd N z).flatten).toArray:=by
 apply Array.ext'
 apply QK
 intro i
 simp only [madeCells,Array.toList_map,List.getElem?_map,Qp]
 rcases Nat.lt_or_ge i (N*z.length) with h | h
 ·have hz:0 < z.length:=by
   rcases Nat.eq_zero_or_pos z.length with h0 | h0
   ·rw [h0] at h; simp at h
   ·exact h0
  have hm:=Nat.mod_lt i hz
  rw [c6t z N i h]
  simp [h,hm]
 ·rw [List.getElem?_eq_none (l:=(Qd N z).flatten) (by simp; exact h)]
  simp [h]
theorem b8c {s:Hp} {B:Inf} {z:List PV} {v:List Value} (h:Reps s B z v):∀ N,Reps s B (Qd N z).flatten (Qd N v).flatten
 | 0=>rfl
 | N+1=>by simp only [X4,X5]; exact h.append (b8c h N)
end Go.Sx
namespace Go.Sx
open Go.RowKit
variable {P:Program}
def QR (σ0:List MO) (m0:MS) (R:Res->Prop):Value->Hp->MS->Prop:=fun v s m=>∃ r σ,R (.ret r σ)/\QF σ0 m0 r σ v s m
def TR (σ0:List MO) (m0:MS) (pats:List Cfg) (R:Res->Prop):Cfg->Env->Hp->Prop:=fun g ρ s=>∃ q A t ρp,R (.jump q ρp)/\Le2 σ0 m0 ρp.m ρ.m/\σ0.length<=ρp.k/\pats[q]?=some t/\b3F t=true/\fits ⟨0,0,0,0⟩ A t g=true /\
 ∀ js,EnvRep s ρp { i:=A.is.map (IE.den ρ),b:=A.bs.map (BE.den ρ),v:=SV.dens ρ id A.vs,j:=js,m:=ρ.m,k:=ρ.k }
theorem b5W {g:Cfg}:∀ (l:List Cfg) (q:Nat) {r},b6h g l q=some r->∃ t,q<=r.1/\l[r.1-q]?=some t/\fits ⟨0,0,0,0⟩ r.2 t g=true/\b3F t=true
 | [],q,r,h=>by simp [b6h] at h
 | t::l,q,r,h=>by
  simp only [b6h] at h
  split at h
  ·rename_i hc
   simp only [Q0] at h; subst h
   simp only [Q6] at hc
   exact ⟨t,Qb _,by simp,hc.1.2,hc.2⟩
  ·obtain ⟨t',h1,h2,h3⟩:=b5W l (q+1) h
   refine ⟨t',by omega,?_,h3⟩
   rw [show r.1-q=(r.1-(q+1))+1 by omega]
   simpa using h2
theorem BE.all_spec {s:Hp} {ρp:PEnv} {ρ:Env} (h:EnvRep s ρp ρ):∀ (l:List BE) {r},BE.all ρp l=some r->l.map (BE.den ρ)=r
 | [],r,hr=>by simp only [BE.all,Q0] at hr; subst hr; rfl
 | b::l,r,hr=>by
  simp only [BE.all] at hr
  split at hr
  ·rename_i hs
   simp only [Q2] at hr
   obtain ⟨r',h1,rfl⟩:=hr
   rw [Qr,BE.pe_den h b hs,BE.all_spec h l h1]
  ·cases hr
theorem b7u {s:Hp} {ρp:PEnv} {ρ:Env} (h:EnvRep s ρp ρ) {own:Nat->Option (List PV)}:∀ (l:List SV) {r},SV.pvs ρp own l=some r->l.all SV.flat=true->∀ p∈r,p.one=true
 | [],r,hr,_,p,hp=>by simp only [SV.pvs,Q0] at hr; subst hr; simp at hp
 | x::l,r,hr,hf,p,hp=>by
  simp only [SV.pvs,Q1,Q2] at hr
  obtain ⟨q,h1,r',h2,rfl⟩:=hr
  simp only [QU,Q6] at hf
  rcases Q7.1 hp with rfl | hp
  ·exact b7W h hf.1 h1
  ·exact b7u h l h2 hf.2 p hp
theorem b2c {s:Hp} {ρp:PEnv} {ρ:Env} (h:EnvRep s ρp ρ):∀ (l:List (List SV)) {rows},l.mapM (SV.pvs ρp noOwn)=some rows->(l.all fun x=>x.all SV.flat)=true ->
  a0M s (inf ρp.m ρ.m) rows (l.map (SV.dens ρ id))/\∀ r∈rows,∀ p∈r,p.one=true
 | [],rows,hr,_=>by simp at hr; subst hr; exact ⟨rfl,by simp⟩
 | x::l,rows,hr,hf=>by
  simp only [List.mapM_cons,Option.bind_eq_bind,Q1,Option.pure_def,Q0] at hr
  obtain ⟨r,h1,rows',h2,rfl⟩:=hr
  simp only [QU,Q6] at hf
  obtain ⟨a,b⟩:=b2c h l h2 hf.2
  refine ⟨⟨_,_,rfl,SV.pvs_rep h (a3l s _ id) x r h1,a⟩,fun r' hr'=>?_⟩
  rcases Q7.1 hr' with rfl | hr'
  ·exact b7u h x h1 hf.1
  ·exact b r' hr'
theorem b1T {s:Hp} {B:Inf}:∀ {rows:List (List PV)} {xs:List (List Value)},a0M s B rows xs->(∀ r∈rows,∀ p∈r,p.one=true)->∀ e∈xs,∀ u∈e,u.oneCell'=true
 | [],xs,h,_=>by simp only [a0M] at h; subst h; simp
 | r::rows,xs,h,hone=>by
  simp only [a0M] at h
  obtain ⟨x,xs',rfl,h1,h2⟩:=h
  intro e he u hu
  rcases Q7.1 he with rfl | he
  ·obtain ⟨i,hi⟩:=QH.1 hu
   have hl:=h1.length
   have hlt:=(Q4.1 hi).1
   obtain ⟨v,e1,e2⟩:=h1.get (QQ (l:=r) (i:=i) (by omega))
   rw [hi] at e1
   simp only [Q0] at e1; subst e1
   exact a5n (e2.fine (hone r (by simp) _ (QS _)))
  ·exact b1T h2 (fun r' hr'=>hone r' (by simp [hr'])) e he u hu
theorem b4P {s:Hp} {B:Inf} {l new:List PV} {vs nv:List Value} (h:Reps s B l vs) (h':Reps s B new nv) (o:Nat):Reps s B (a3T l o new) (a2X vs o nv):=by
 unfold a3T a2X
 have hl:=h'.length
 rw [hl]
 exact ((h.take o).append h').append (h.drop _)
theorem EnvRep.pushV {s:Hp} {ρp:PEnv} {ρ:Env} (h:EnvRep s ρp ρ) {p:PV} {v:Value} (hp:Rep s (inf ρp.m ρ.m) p v) (h1:p.one=true):EnvRep s { ρp with v:=ρp.v++[p] } (ρ.push [] [] [v]):=by
 have:=h.push (r:=([],[],[p])) (vvs:=[v]) ⟨⟨v,[],rfl,hp,rfl⟩,by simpa using h1⟩
 simpa [PEnv.push] using this
theorem EnvRep.newM {s:Hp} {ρp:PEnv} {ρ:Env} (h:EnvRep s ρp ρ) {o:MO} {x:Nat × Obj} (ho:a3m s (inf ρp.m ρ.m) o x) (hit:o.isIt=false:=by rfl):Le2 ρp.m ρ.m (ρp.m++[o]) (ρ.m++[x])/\EnvRep s { ρp with m:=ρp.m++[o] } { ρ with m:=ρ.m++[x] }:=by
 have hml:=h.m.length
 have hpre:BLe (inf ρp.m ρ.m) (inf (ρp.m++[o]) (ρ.m++[x])):=by
  refine BLe.pre ⟨[a1L o x],?_⟩
  simp only [inf]
  rw [X6 (by omega)]
  rfl
 have hle:Le2 ρp.m ρ.m (ρp.m++[o]) (ρ.m++[x]):=⟨hpre,a6u.append _ _ hml⟩
 refine ⟨hle,h.turn (Hp.le_refl s) hle ?_ (h.coh.append hit hml)⟩
 exact a0P.append (a0P.mono (Hp.le_refl s) hpre _ _ h.m) (a2r.2 ⟨x,[],rfl,ho.mono (Hp.le_refl s) hpre,rfl⟩)
theorem EnvRep.setMle {s:Hp} {ρp:PEnv} {ρ:Env} (h:EnvRep s ρp ρ) {i:Nat} {o o0:MO} {x x0:Nat × Obj} (h0:ρp.m[i]?=some o0) (h1:ρ.m[i]?=some x0)
  (hi:a1L o x=a1L o0 x0\/(1<=(a1L o0 x0).2.2/\(a1L o0 x0).2.2 < (a1L o x).2.2)) (hst:MO.Step o0 o False):Le2 ρp.m ρ.m (ρp.m.set i o) (ρ.m.set i x):=by
 have hml:=h.m.length
 have hlt:=(Q4.1 h0).1
 refine ⟨?_,a6u.set h0 hst⟩
 intro j y hj
 by_cases hji:j=i
 ·subst hji
  have hI:=a1C h0 h1
  rw [hj] at hI
  simp only [Q0] at hI; subst hI
  exact ⟨_,a1C (o:=o) (x:=x) (by rw [Qq hlt]) (by rw [Qq (by omega)]),hi⟩
 ·refine ⟨y,?_,.inl rfl⟩
  simp only [inf,X7,Qh (Ne.symm hji)] at hj ⊢
  exact hj
theorem EnvRep.setM {s:Hp} {ρp:PEnv} {ρ:Env} (h:EnvRep s ρp ρ) {i:Nat} {o o0:MO} {x x0:Nat × Obj} (h0:ρp.m[i]?=some o0) (h1:ρ.m[i]?=some x0) (ho:a3m s (inf ρp.m ρ.m) o x)
  (hi:a1L o x=a1L o0 x0\/(1<=(a1L o0 x0).2.2/\(a1L o0 x0).2.2 < (a1L o x).2.2)) (hst:MO.Step o0 o False:=by trivial) (hit:o.isIt=false:=by rfl) (hit0:o0.isIt=false:=by rfl):Le2 ρp.m ρ.m (ρp.m.set i o) (ρ.m.set i x)/\EnvRep s { ρp with m:=ρp.m.set i o } { ρ with m:=ρ.m.set i x }:=by
 have hlt:=(Q4.1 h0).1
 have hle:=h.setMle h0 h1 hi hst
 exact ⟨hle,h.turn (Hp.le_refl s) hle (a0P.set (a0P.mono (Hp.le_refl s) hle.ble _ _ h.m) hlt (ho.mono (Hp.le_refl s) hle.ble)) (h.coh.set h0 hit hit0 hst)⟩
theorem b2p (l new:List Value) (o:Nat) (h:o+new.length<=l.length):(a2X l o new).length=l.length:=by
 simp only [a2X,Q5,QA,List.length_drop]; omega
theorem c4K {l new:List PV} {o:Nat} {p:PV} (h:p∈a3T l o new):p∈l\/p∈new:=by
 simp only [a3T,Qk] at h
 rcases h with (h | h) | h
 ·exact .inl (Qz h)
 ·exact .inr h
 ·exact .inl (X8 h)
theorem b7Y {s:Hp} {B:Inf}:∀ {rows:List (List PV)} {xs:List (List Value)} (_:a0M s B rows xs) (i:Nat) {r:List PV} {x:List Value} (_:Reps s B r x),a0M s B (rows.set i r) (xs.set i x)
 | [],xs,h,i,r,x,_=>by simp only [a0M] at h; subst h; rfl
 | y::rows,xs,h,i,r,x,hr=>by
  simp only [a0M] at h
  obtain ⟨z,zs,rfl,h1,h2⟩:=h
  cases i with
  | zero=>exact ⟨x,zs,rfl,hr,h2⟩
  | succ i=>exact ⟨z,_,rfl,h1,b7Y h2 i hr⟩
theorem b9F (l new:List Value) (o j:Nat) (h:o+new.length<=l.length):(a2X l o new)[j]?=if o<=j/\j < o+new.length then new[j-o]? else l[j]?:=by
 simp only [a2X,QX,Q5,QA,Qf,Qg]
 have hm:min o l.length=o:=QZ (by omega)
 rw [hm]
 by_cases h1:j < o
 ·rw [if_pos (by omega),if_pos h1,if_pos h1,if_neg (by omega)]
 ·by_cases h2:j < o+new.length
  ·rw [if_pos h2,if_neg h1,if_pos ⟨by omega,h2⟩]
  ·rw [if_neg h2,if_neg (by omega)]
   congr 1; omega
theorem c3W {sz i off:Nat} {xs:List (List Value)} {xv new:List Value} {cur:List Value} (hl:∀ x∈xs,x.length=sz) (hx:xs[i]?=some xv) (hxl:xv.length=sz) (hsl:(a2X xv off new).length=sz) (hoff:off+new.length<=sz)
  (hpre:∀ (j:Nat) (u:Value),xs.flatten[j]?=some u->cur[j]?=some u) (hcur:i*sz+sz<=cur.length) {j:Nat} {u:Value} (hj:(xs.set i (a2X xv off new)).flatten[j]?=some u):(a2X cur (i*sz+off) new)[j]?=some u:=by
 have hl':∀ x∈xs.set i (a2X xv off new),x.length=sz:=fun x hx'=>by
  rcases QL hx' with h1 | rfl
  ·exact hl x h1
  ·exact hsl
 obtain ⟨q,z,r,hq,hz,rfl⟩:=a5u sz _ hl' j u hj
 have hr:r < sz:=by have:=(Q4.1 hz).1; rw [hl' z (Qn hq)] at this; exact this
 rw [b9F _ _ _ _ (by omega)]
 rw [Qs] at hq
 split at hq
 ·rename_i hiq
  subst hiq
  split at hq
  case isFalse=>cases hq
  simp only [Q0] at hq
  subst hq
  rw [b9F _ _ _ _ (by omega)] at hz
  split at hz
  ·rename_i h1
   rw [if_pos (by omega),show i*sz+r-(i*sz+off)=r-off by omega]; exact hz
  ·rename_i h1
   rw [if_neg (by omega)]
   exact hpre _ u (a5b sz xs hl i xv r u hx hz)
 ·rename_i hiq
  have hne:¬ (i*sz+off<=q*sz+r/\q*sz+r < i*sz+off+new.length):=by
   rintro ⟨h1,h2⟩
   rcases Nat.lt_or_gt_of_ne hiq with h3 | h3
   ·have:(i+1)*sz<=q*sz:=Qt h3 (Qb _)
    rw [Qy,QY] at this; omega
   ·have:(q+1)*sz<=i*sz:=Qt h3 (Qb _)
    rw [Qy,QY] at this; omega
  rw [if_neg hne]
  exact hpre _ u (a5b sz xs hl q z r u hq hz)
theorem b9l {s:Hp} {B:Inf}:∀ (ks:List Int) (vs:List PV) (vv:List Value),Reps s B vs vv->∀ z,(a2j ks vs z=none/\a2j ks vv z=none)\/∃ p v,a2j ks vs z=some p/\a2j ks vv z=some v/\Rep s B p v
 | [],vs,vv,h,z=>.inl ⟨by cases vs<;>rfl,by cases vv<;>rfl⟩
 | k::ks,[],vv,h,z=>by simp only [Reps] at h; subst h; exact .inl ⟨rfl,rfl⟩
 | k::ks,p::vs,vv,h,z=>by
  simp only [Reps] at h
  obtain ⟨v,r,rfl,h1,h2⟩:=h
  simp only [a2j]
  split
  ·exact .inr ⟨p,v,rfl,rfl,h1⟩
  ·exact b9l ks vs r h2 z
theorem c0Y {s:Hp} {B:Inf}:∀ (ks:List Int) (vs:List PV) (vv:List Value),Reps s B vs vv->∀ z (x:PV) (y:Value),Rep s B x y->(a3p ks vs z x).1=(a3p ks vv z y).1/\Reps s B (a3p ks vs z x).2 (a3p ks vv z y).2
 | [],vs,vv,h,z,x,y,hx=>by
  have e1:a3p [] vs z x=([z],[x]):=by cases vs<;>rfl
  have e2:a3p [] vv z y=([z],[y]):=by cases vv<;>rfl
  rw [e1,e2]; exact ⟨rfl,y,[],rfl,hx,rfl⟩
 | k::ks,[],vv,h,z,x,y,hx=>by
  simp only [Reps] at h; subst h
  exact ⟨rfl,y,[],rfl,hx,rfl⟩
 | k::ks,p::vs,vv,h,z,x,y,hx=>by
  simp only [Reps] at h
  obtain ⟨v,r,rfl,h1,h2⟩:=h
  simp only [a3p]
  split
  ·exact ⟨rfl,y,r,rfl,hx,h2⟩
  ·obtain ⟨i1,i2⟩:=c0Y ks vs r h2 z x y hx
   exact ⟨by rw [i1],v,_,rfl,h1,i2⟩
theorem EnvRep.map {s:Hp} {ρp:PEnv} {ρ:Env} (h:EnvRep s ρp ρ) {n hd:Nat} {ks:List Int} {vs:List PV} {K:IntKind} (hn:ρp.v[n]?=some (.mp hd)) (hm:ρp.m[hd]?=some (.mp ks vs K)) :
  ∃ b es clock vv,ρ.m[hd]?=some (b,.map es clock)/\ρ.v.getD n vd=.map (some b)/\a8n K es ks vv/\Reps s (inf ρp.m ρ.m) vs vv:=by
 obtain ⟨v,_,g1,g2⟩:=h.get hn
 obtain ⟨⟨b,o⟩,m1,es,clock,vv,m2,m3,m4⟩:=h.m.obj hm
 simp only at m2; subst m2
 have hI:=a1C hm m1
 simp only [Rep] at g2
 obtain ⟨b',n',g3,rfl⟩:=g2
 rw [hI] at g3
 simp only [a1L,Q0,Q3] at g3
 obtain ⟨rfl,_⟩:=g3
 exact ⟨_,es,clock,vv,m1,g1,m3,m4⟩
theorem a9Z {n:Nat} {kv kv':KV} (h:kv'.Perm kv) (hw:a4E n kv=true):b1O n kv':=fun p hp=>by
 have:=List.all_eq_true.1 hw p (h.mem_iff.1 hp)
 simpa using this
theorem lookQ_some {kv:KV} {k:List Int} {v:Int} (hn:(kv.map (·.1)).Nodup):a0K kv k=some v↔(k,v)∈kv:=by
 induction kv with
 | nil=>simp [a0K]
 | cons p kv ih =>
  simp only [Qr,QB] at hn
  simp only [a0K,Q7]
  split
  ·rename_i hk
   subst hk
   constructor
   ·intro h; simp only [Q0] at h; exact .inl (by rw [<- h])
   ·rintro (h | h)
    ·rw [<- h]
    ·exact absurd (Q9.2 ⟨_,h,rfl⟩) hn.1
  ·rename_i hk
   rw [ih hn.2]
   constructor
   ·exact .inr
   ·rintro (h | h)
    ·exact absurd (by rw [<- h]) hk
    ·exact h
theorem lookQ_none {kv:KV} {k:List Int}:a0K kv k=none↔∀ v,(k,v) ∉ kv:=by
 induction kv with
 | nil=>simp [a0K]
 | cons p kv ih =>
  simp only [a0K,Q7,not_or]
  split
  ·rename_i hk
   subst hk
   simp only [reduceCtorEq,false_iff]
   intro h; exact (h p.2).1 rfl
  ·rename_i hk
   rw [ih]
   exact ⟨fun h v=>⟨fun he=>hk (by rw [<- he]),h v⟩,fun h v=>(h v).2⟩
theorem b5N {kv kv':KV} (h:kv'.Perm kv) (hn:(kv.map (·.1)).Nodup) (k:List Int):a0K kv' k=a0K kv k:=by
 have hn':(kv'.map (·.1)).Nodup:=(h.map _).nodup_iff.2 hn
 cases hk:a0K kv k with
 | none=>exact lookQ_none.2 fun v hv=>lookQ_none.1 hk v (h.mem_iff.1 hv)
 | some v=>exact (lookQ_some hn').2 (h.mem_iff.2 ((lookQ_some hn).1 hk))
theorem b3O:∀ (kv:KV) (p:List Int × Int),(a3M kv p).Perm (p::kv)
 | [],p=>.refl _
 | q::kv,p=>by
  simp only [a3M]
  split
  ·exact .refl _
  ·exact ((b3O kv p).cons q).trans (.swap p q kv)
theorem b9E:∀ (kv:KV) (k:List Int) (v:Int),(kv.map (·.1)).Nodup->(a9o kv k v).Perm ((k,v)::a3q kv k)
 | [],k,v,_=>.refl _
 | p::kv,k,v,hn=>by
  simp only [Qr,QB] at hn
  simp only [a9o,a3q,X9]
  split
  ·rename_i hk
   subst hk
   simp only [decide_true,Bool.not_true,Qa,if_false]
   have:kv.filter (fun q=>!decide (q.1=p.1))=kv:=Xa.2 fun q hq=>by
    simp only [QC,decide_eq_false_iff_not]
    intro he; exact hn.1 (Q9.2 ⟨q,hq,he⟩)
   rw [this]
  ·rename_i hk
   have:(!decide (p.1=k))=true:=by simp only [QC,decide_eq_false_iff_not]; exact fun h=>hk h.symm
   rw [this,if_pos rfl]
   exact ((b9E kv k v hn.2).cons p).trans (.swap _ _ _)
theorem b6d {kv:KV} {k:List Int} (hn:(kv.map (·.1)).Nodup):((a3q kv k).map (·.1)).Nodup:=hn.sublist ((List.filter_sublist).map _)
theorem c3F {kv:KV} {k:List Int}:k ∉ (a3q kv k).map (·.1):=by
 intro h
 obtain ⟨p,hp,rfl⟩:=Q9.1 h
 simp [a3q] at hp
theorem c2f {kv:KV} {k:List Int} {v:Int} (hn:(kv.map (·.1)).Nodup):((a3B kv k v).map (·.1)).Nodup:=by
 have:=((b3O (a3q kv k) (k,v)).map (·.1)).nodup_iff
 unfold a3B
 rw [this]
 simp only [Qr,QB]
 exact ⟨c3F,b6d hn⟩
theorem c3s {kv kv':KV} (h:kv'.Perm kv) (hn:(kv.map (·.1)).Nodup) (k:List Int) (v:Int):(a9o kv' k v).Perm (a3B kv k v)/\((a3B kv k v).map (·.1)).Nodup:=by
 refine ⟨?_,c2f hn⟩
 have hn':(kv'.map (·.1)).Nodup:=(h.map _).nodup_iff.2 hn
 exact (b9E kv' k v hn').trans (((h.filter _).cons _).trans (b3O _ _).symm)
theorem c0A:∀ (kv:KV) (k:List Int),(kv.map (·.1)).Nodup->a7V kv k=a3q kv k
 | [],k,_=>rfl
 | p::kv,k,hn=>by
  simp only [Qr,QB] at hn
  simp only [a7V,a3q,X9]
  split
  ·rename_i hk
   subst hk
   simp only [decide_true,Bool.not_true,Qa,if_false]
   exact (Xa.2 fun q hq=>by
    simp only [QC,decide_eq_false_iff_not]
    intro he; exact hn.1 (Q9.2 ⟨q,hq,he⟩)).symm
  ·rename_i hk
   have:(!decide (p.1=k))=true:=by simp only [QC,decide_eq_false_iff_not]; exact fun h=>hk h.symm
   rw [this,if_pos rfl,c0A kv k hn.2]; rfl
theorem c2T {kv kv':KV} (h:kv'.Perm kv) (hn:(kv.map (·.1)).Nodup) (k:List Int):(a7V kv' k).Perm (a3q kv k)/\((a3q kv k).map (·.1)).Nodup:=by
 have hn':(kv'.map (·.1)).Nodup:=(h.map _).nodup_iff.2 hn
 refine ⟨?_,b6d hn⟩
 rw [c0A kv' k hn']
 exact h.filter _
theorem b4V {es:Array MapEntry} {kv kv':KV} (m3:QIs es kv') (m4:kv'.Perm kv) {e:MapEntry} (he:e∈es.toList):∃ p∈kv,e.key=qkey p.1/\e.val=.int .i64 p.2:=by
 have:(e.key,e.val)∈es.toList.map (fun e=>(e.key,e.val)):=Q9.2 ⟨e,he,rfl⟩
 rw [m3] at this
 obtain ⟨p,hp,he⟩:=Q9.1 this
 simp only [encE,Q3] at he
 exact ⟨p,m4.mem_iff.1 hp,he.1.symm,he.2.symm⟩
theorem c4C {es:Array MapEntry} {kv kv':KV} (m3:QIs es kv') (m4:kv'.Perm kv) {p:List Int × Int} (hp:p∈kv):∃ e∈es.toList,e.key=qkey p.1/\e.val=.int .i64 p.2:=by
 have:encE p∈kv'.map encE:=Q9.2 ⟨p,m4.mem_iff.2 hp,rfl⟩
 rw [<- m3] at this
 obtain ⟨e,he,h⟩:=Q9.1 this
 simp only [encE,Q3] at h
 exact ⟨e,he,h.1,h.2⟩
theorem b3v {α β:Type} {f:α->β}:∀ {l:List α},(l.map f).Nodup->∀ {a b:α},a∈l->b∈l->f a=f b->a=b
 | [],_,a,b,ha,_,_=>by simp at ha
 | x::l,hn,a,b,ha,hb,he=>by
  simp only [Qr,QB] at hn
  rcases Q7.1 ha with h1 | h1
  ·rcases Q7.1 hb with h2 | h2
   ·rw [h1,h2]
   ·exact absurd (Q9.2 ⟨b,h2,by rw [<- he,h1]⟩) hn.1
  ·rcases Q7.1 hb with h2 | h2
   ·exact absurd (Q9.2 ⟨a,h1,by rw [he,h2]⟩) hn.1
   ·exact b3v hn.2 h1 h2 he
theorem c1D {es:Array MapEntry} {kv kv':KV} (m3:QIs es kv') (m4:kv'.Perm kv) (m5:(kv.map (·.1)).Nodup):(es.toList.map (·.key)).Nodup:=by
 have h1:es.toList.map (·.key)=(kv'.map (·.1)).map qkey:=by
  have:=congrArg (List.map Prod.fst) m3
  simp only [List.map_map] at this ⊢
  exact this
 rw [h1]
 exact List.Pairwise.map _ (fun a b hab h=>hab (b2f h)) ((m4.map _).nodup_iff.2 m5)
theorem c6L {es:Array MapEntry} {kv kv':KV} (m3:QIs es kv') (m4:kv'.Perm kv) (m5:(kv.map (·.1)).Nodup) {e:MapEntry} (he:e∈es.toList) {key:List Int} (hk:e.key=qkey key) {v:Int} (hv:a0K kv key=some v):e.val=.int .i64 v:=by
 obtain ⟨p,hp,h1,h2⟩:=b4V m3 m4 he
 have:p.1=key:=b2f (h1.symm.trans hk)
 have h3:=(lookQ_some m5).1 hv
 have h4:=(lookQ_some (v:=p.2) m5).2 (show (key,p.2)∈kv by rw [<- this]; exact hp)
 rw [hv] at h4
 simp only [Q0] at h4
 rw [h2,h4]
theorem b4M {es:Array MapEntry} {kv kv':KV} {sn:Array Nat} {seen:List (List Int)} (m3:QIs es kv') (m4:kv'.Perm kv) (i5:∀ e∈es.toList,sn.contains e.born=true↔∃ k∈seen,e.key=qkey k) {e:MapEntry} (he:e∈es.toList) {p:List Int × Int} (hp:e.key=qkey p.1) :
  e∈(leftOf es sn).toList↔(seen.any fun k=>decide (k=p.1))=false:=by
 simp only [leftOf,QM,Qu,QC,he,true_and]
 rw [<- Xb,i5 e he,<- Xb,List.any_eq_true]
 constructor
 ·rintro h ⟨k,hk,hkp⟩
  exact h ⟨k,hk,by rw [hp,of_decide_eq_true hkp]⟩
 ·rintro h ⟨k,hk,hkp⟩
  exact h ⟨k,hk,decide_eq_true (b2f (hkp.symm.trans hp))⟩
theorem c5j {es:Array MapEntry} {kv kv':KV} {sn:Array Nat} {seen:List (List Int)} (m3:QIs es kv') (m4:kv'.Perm kv) (i5:∀ e∈es.toList,sn.contains e.born=true↔∃ k∈seen,e.key=qkey k):(leftOf es sn).size=0↔a5M kv seen=[]:=by
 constructor
 ·intro h
  refine List.filter_eq_nil_iff.2 fun p hp=>?_
  obtain ⟨e,he,h1,_⟩:=c4C m3 m4 hp
  intro hc
  have:=(b4M m3 m4 i5 he h1).2 (by simpa using hc)
  have h0:(leftOf es sn).toList=[]:=QW.1 (by simpa using h)
  rw [h0] at this; simp at this
 ·intro h
  rw [<- QN]
  refine QW.2 (List.eq_nil_iff_forall_not_mem.2 fun e he=>?_)
  have hee:e∈es.toList:=by
   simp only [leftOf,QM,Qu] at he; exact he.1
  obtain ⟨p,hp,h1,_⟩:=b4V m3 m4 hee
  have:=(b4M m3 m4 i5 hee h1).1 he
  have hm:p∈a5M kv seen:=Qu.2 ⟨hp,by simp [this]⟩
  rw [h] at hm; simp at hm
theorem c4w {es:Array MapEntry} {kv kv':KV} {sn:Array Nat} {seen:List (List Int)} (m3:QIs es kv') (m4:kv'.Perm kv) (i5:∀ e∈es.toList,sn.contains e.born=true↔∃ k∈seen,e.key=qkey k) {e:MapEntry} (he:e∈(leftOf es sn).toList)
  {key:List Int} {v:Int} (hk:e.key=qkey key) (hv:e.val=.int .i64 v):(key,v)∈a5M kv seen/\a5M kv seen≠[]:=by
 have hee:e∈es.toList:=by
  simp only [leftOf,QM,Qu] at he; exact he.1
 obtain ⟨p,hp,h1,h2⟩:=b4V m3 m4 hee
 have e1:p.1=key:=b2f (h1.symm.trans hk)
 have e2:p.2=v:=by rw [hv] at h2; simpa using h2.symm
 have:=(b4M m3 m4 i5 hee h1).1 he
 have hm:(key,v)∈a5M kv seen:=Qu.2 ⟨by rw [<- e1,<- e2]; exact hp,by rw [<- e1]; simp [this]⟩
 exact ⟨hm,fun h=>by rw [h] at hm; simp at hm⟩
theorem EnvRep.mapQ {s:Hp} {ρp:PEnv} {ρ:Env} (h:EnvRep s ρp ρ) {n hd:Nat} {kv:KV} {ver:Nat} (hn:ρp.v[n]?=some (.mp hd)) (hm:ρp.m[hd]?=some (.mq kv ver)) :
  ∃ b es clock kv',ρ.m[hd]?=some (b,.map es clock)/\ρ.v.getD n vd=.map (some b)/\QIs es kv'/\kv'.Perm kv/\(kv.map (·.1)).Nodup/\a6l es clock:=by
 obtain ⟨v,_,g1,g2⟩:=h.get hn
 obtain ⟨⟨b,o⟩,m1,es,clock,m2,kv',m3,m4,m5,m6⟩:=h.m.obj hm
 simp only at m2; subst m2
 have hI:=a1C hm m1
 simp only [Rep] at g2
 obtain ⟨b',n',g3,rfl⟩:=g2
 rw [hI] at g3
 simp only [a1L,Q0,Q3] at g3
 obtain ⟨rfl,_⟩:=g3
 exact ⟨_,es,clock,kv',m1,g1,m3,m4,m5,m6⟩
theorem EnvRep.iter {s:Hp} {ρp:PEnv} {ρ:Env} (h:EnvRep s ρp ρ) {n ii hd ver:Nat} {seen:List (List Int)} {kv:KV} (hn:ρp.v[n]?=some (.ref ii 0)) (hit:ρp.m[ii]?=some (.it hd ver seen)) (hm:ρp.m[hd]?=some (.mq kv ver)) :
  ∃ b' b clock sn es kv',ρ.m[ii]?=some (b',.mapIter (some b) clock sn clock)/\ρ.m[hd]?=some (b,.map es clock)/\ρ.v.getD n vd=.pointer (some ⟨b',0,none⟩)/\(∀ e∈es.toList,e.born < clock) /\
   (∀ e∈es.toList,sn.contains e.born=true↔∃ k∈seen,e.key=qkey k)/\(∀ k,seen.getLast?=some k->∃ e∈es.toList,∃ sn':Array Nat,sn=sn'.push e.born/\e.key=qkey k) /\
   QIs es kv'/\kv'.Perm kv/\(kv.map (·.1)).Nodup/\a6l es clock:=by
 obtain ⟨kv2,ver',c1,c2,c3⟩:=h.coh ii hd ver seen hit
 rw [hm] at c1
 simp only [Q0,MO.mq.injEq] at c1
 obtain ⟨x,y,x1,y1,b',b,clock,sn,es,rfl,rfl,d1,d2,d3⟩:=c3 c1.2
 obtain ⟨⟨b2,o⟩,m1,es2,clock2,m2,kv',m3,m4,m5,m6⟩:=h.m.obj hm
 simp only at m2; subst m2
 rw [y1] at m1
 simp only [Q0,Q3,Obj.map.injEq] at m1
 obtain ⟨_,rfl,rfl⟩:=m1
 obtain ⟨v,_,g1,g2⟩:=h.get hn
 have hI:=a1C hit x1
 simp only [Rep] at g2
 obtain ⟨b3,n',g3,rfl⟩:=g2
 rw [hI] at g3
 simp only [a1L,Q0,Q3] at g3
 obtain ⟨rfl,_⟩:=g3
 exact ⟨_,b,clock,sn,es,kv',x1,y1,g1,d1,d2,d3,m3,m4,m5,m6⟩
theorem EnvRep.newIt {s:Hp} {ρp:PEnv} {ρ:Env} (h:EnvRep s ρp ρ) {hd ver b clock:Nat} {kv:KV} {es:Array MapEntry} (hm:ρp.m[hd]?=some (.mq kv ver)) (m1:ρ.m[hd]?=some (b,.map es clock)) (m6:a6l es clock) (b':Nat) :
  Le2 ρp.m ρ.m (ρp.m++[.it hd ver []]) (ρ.m++[(b',.mapIter (some b) clock #[] clock)])/\EnvRep s { ρp with m:=ρp.m++[.it hd ver []] } { ρ with m:=ρ.m++[(b',.mapIter (some b) clock #[] clock)] }:=by
 have hml:=h.m.length
 have hpre:BLe (inf ρp.m ρ.m) (inf (ρp.m++[.it hd ver []]) (ρ.m++[(b',.mapIter (some b) clock #[] clock)])):=by
  refine BLe.pre ⟨[a1L (.it hd ver []) (b',.mapIter (some b) clock #[] clock)],?_⟩
  simp only [inf]
  rw [X6 (by omega)]
  rfl
 have hle:Le2 ρp.m ρ.m (ρp.m++[.it hd ver []]) (ρ.m++[(b',.mapIter (some b) clock #[] clock)]):=⟨hpre,a6u.append _ _ hml⟩
 refine ⟨hle,h.turn (Hp.le_refl s) hle ?_ ?_⟩
 ·exact a0P.append (a0P.mono (Hp.le_refl s) hpre _ _ h.m) (a2r.2 ⟨_,[],rfl,⟨_,_,_,_,rfl⟩,rfl⟩)
 ·intro i hd2 ver2 seen hi
  have hlt:=(Q4.1 hm).1
  rw [QX] at hi
  split at hi
  ·rename_i hil
   obtain ⟨kv2,ver',c1,c2,c3⟩:=h.coh i hd2 ver2 seen hi
   have hlt2:=(Q4.1 c1).1
   refine ⟨kv2,ver',by rw [Qj hlt2]; exact c1,c2,fun he=>?_⟩
   obtain ⟨x',y',e1,e2,e3⟩:=c3 he
   exact ⟨x',y',by rw [Qj (by omega)]; exact e1,by rw [Qj (by omega)]; exact e2,e3⟩
  ·rename_i hil
   have hieq:i=ρp.m.length:=by
    have:=(Q4.1 hi).1
    simp only [List.length_singleton] at this; omega
   subst hieq
   simp only [Nat.sub_self,QV,Q0,MO.it.injEq] at hi
   obtain ⟨rfl,rfl,rfl⟩:=hi
   refine ⟨kv,ver,by rw [Qj hlt]; exact hm,Qb _,fun _=>?_⟩
   refine ⟨(b',.mapIter (some b) clock #[] clock),(b,.map es clock),by rw [<- hml]; simp,by rw [Qj (by omega)]; exact m1,b',b,clock,#[],es,rfl,rfl,m6.2,fun e _=>by simp,fun k hk=>by simp at hk⟩
theorem c2V {α:Type} {l:List α} {i:Nat} {x:α} (h:l[i]?=some x):l.set i x=l:=by
 apply QK
 intro j
 rw [Qs]
 split
 ·rename_i he; subst he
  rw [if_pos (Q4.1 h).1,h]
 ·rfl
theorem EnvRep.killIt {s:Hp} {ρp:PEnv} {ρ:Env} (h:EnvRep s ρp ρ) {ii hd ver:Nat} {seen:List (List Int)} {x:Nat × Obj} (hit:ρp.m[ii]?=some (.it hd ver seen)) (i1:ρ.m[ii]?=some x) :
  Le2 ρp.m ρ.m (ρp.m.set ii .dead) ρ.m/\EnvRep s { ρp with m:=ρp.m.set ii .dead } ρ:=by
 have hlt:=(Q4.1 hit).1
 have hle:=h.setMle (o:=.dead) (x:=x) hit i1 (.inl rfl) (by simp [MO.Step])
 rw [c2V i1] at hle
 refine ⟨hle,?_⟩
 have hm:=a0P.set (i:=ii) (o:=.dead) (x:=x) (a0P.mono (Hp.le_refl s) hle.ble _ _ h.m) hlt trivial
 rw [c2V i1] at hm
 have hc:Coh (ρp.m.set ii .dead) ρ.m:=by
  intro i hd2 ver2 seen2 hi
  rw [Qs] at hi
  split at hi
  ·simp at hi
  ·rename_i hne
   obtain ⟨kv2,ver',c1,c2,c3⟩:=h.coh i hd2 ver2 seen2 hi
   have hne2:ii≠hd2:=by rintro rfl; rw [hit] at c1; simp at c1
   exact ⟨kv2,ver',by rw [Qh hne2]; exact c1,c2,c3⟩
 exact h.turn (m':=ρ.m) (Hp.le_refl s) hle hm hc
theorem EnvRep.stepIt {s:Hp} {ρp:PEnv} {ρ:Env} (h:EnvRep s ρp ρ) {ii hd ver b' b clock:Nat} {seen:List (List Int)} {kv:KV} {sn:Array Nat} {es:Array MapEntry} (hit:ρp.m[ii]?=some (.it hd ver seen)) (hm:ρp.m[hd]?=some (.mq kv ver))
  (i1:ρ.m[ii]?=some (b',.mapIter (some b) clock sn clock)) (i2:ρ.m[hd]?=some (b,.map es clock)) (i4:∀ e∈es.toList,e.born < clock)
  (i5:∀ e∈es.toList,sn.contains e.born=true↔∃ k∈seen,e.key=qkey k) (i6:∀ k,seen.getLast?=some k->∃ e∈es.toList,∃ sn':Array Nat,sn=sn'.push e.born/\e.key=qkey k)
  {kv':KV} (m3:QIs es kv') (m4:kv'.Perm kv) (m5:(kv.map (·.1)).Nodup) (m6:a6l es clock)
  {e:MapEntry} (he:e∈(leftOf es sn).toList) {key:List Int} (hk:e.key=qkey key) :
  Le2 ρp.m ρ.m (ρp.m.set ii (.it hd ver (seen++[key]))) (ρ.m.set ii (b',.mapIter (some b) clock (sn.push e.born) clock)) /\
   EnvRep s { ρp with m:=ρp.m.set ii (.it hd ver (seen++[key])) } { ρ with m:=ρ.m.set ii (b',.mapIter (some b) clock (sn.push e.born) clock) }:=by
 have hee:e∈es.toList:=by
  simp only [leftOf,QM,Qu] at he; exact he.1
 have hlt:=(Q4.1 hit).1
 have hml:=h.m.length
 have hle:=h.setMle (o:=.it hd ver (seen++[key])) (x:=(b',.mapIter (some b) clock (sn.push e.born) clock)) hit i1 (.inl rfl) ⟨rfl,rfl,by simp,fun h=>by simp at h⟩
 have hne:ii≠hd:=fun he=>by rw [he,hm] at hit; simp at hit
 have hborn:∀ e'∈es.toList,(e'.born=e.born↔e'=e):=fun e' he'=>⟨fun h=>b3v m6.1 he' hee h,fun h=>by rw [h]⟩
 have hkeys:∀ e'∈es.toList,∀ e2∈es.toList,e'.key=e2.key->e'=e2:=fun e' he' e2 he2 h=>b3v (c1D m3 m4 m5) he' he2 h
 ·refine ⟨hle,h.turn (Hp.le_refl s) hle (a0P.set (a0P.mono (Hp.le_refl s) hle.ble _ _ h.m) hlt ⟨_,_,_,_,rfl⟩) ?_⟩
  intro i hd2 ver2 seen2 hi
  rw [Qs] at hi
  split at hi
  ·rename_i hieq
   subst hieq
   simp only [Q0,MO.it.injEq] at hi
   obtain ⟨rfl,rfl,rfl⟩:=hi
   refine ⟨kv,ver,by rw [Qh hne]; exact hm,Qb _,fun _=>?_⟩
   refine ⟨_,_,by rw [Qq (by omega)],by rw [Qh hne]; exact i2,b',b,clock,sn.push e.born,es,rfl,rfl,i4,fun e' he'=>?_,fun k hk'=>?_⟩
   ·have h5:=i5 e' he'
    simp only [Array.contains_push,Bool.or_eq_true,beq_iff_eq,Qk,List.mem_singleton,hborn e' he',h5]
    constructor
    ·rintro (⟨k,h1,h2⟩ | rfl)
     ·exact ⟨k,.inl h1,h2⟩
     ·exact ⟨key,.inr rfl,hk⟩
    ·rintro ⟨k,h1 | rfl,h2⟩
     ·exact .inl ⟨k,h1,h2⟩
     ·exact .inr (hkeys e' he' e hee (h2.trans hk.symm))
   ·simp only [Xc,Xd,Xe,Q0] at hk'
    subst hk'
    exact ⟨e,hee,sn,rfl,hk⟩
  ·rename_i hieq
   obtain ⟨kv2,ver',c1,c2,c3⟩:=h.coh i hd2 ver2 seen2 hi
   have hne2:ii≠hd2:=fun he=>by rw [<- he,hit] at c1; simp at c1
   refine ⟨kv2,ver',by rw [Qh hne2]; exact c1,c2,fun he=>?_⟩
   obtain ⟨x',y',e1,e2,e3⟩:=c3 he
   exact ⟨x',y',by rw [Qh hieq]; exact e1,by rw [Qh hne2]; exact e2,e3⟩
theorem b1L {s:Hp} {B:Inf}:∀ {rows:List (List PV)} {xs:List (List Value)},a0M s B rows xs->Reps s B rows.flatten xs.flatten
 | [],xs,h=>by simp only [a0M] at h; subst h; rfl
 | r::rows,xs,h=>by
  simp only [a0M] at h
  obtain ⟨x,xs',rfl,h1,h2⟩:=h
  exact h1.append (b1L h2)
theorem b8m {s:Hp} {ρp:PEnv} {ρ:Env} (h:EnvRep s ρp ρ) {size x:Nat} {sc:Nat × List PV} (hs:b2D ρp size x=some sc) :
  ∃ a cap vs,ρ.v.getD x vd=.slice a sc.1 cap/\Reps s (inf ρp.m ρ.m) sc.2 vs/\(vs=[]\/b8w s ρ.m (ρ.v.getD x vd) vs):=by
 unfold b2D at hs
 split at hs
 ·rename_i hx
  simp only [Q0] at hs; subst hs
  obtain ⟨v,_,g1,g2⟩:=h.get hx
  simp only [Rep] at g2
  exact ⟨none,0,[],by rw [g1,g2],rfl,.inl rfl⟩
 ·rename_i n rows hx
  split at hs
  case isFalse=>cases hs
  rename_i hn
  subst hn
  simp only [Q0] at hs; subst hs
  obtain ⟨v,_,g1,g2⟩:=h.get hx
  simp only [Rep] at g2
  obtain ⟨xs,⟨h1,a,cap,rfl,h2,h3⟩,h4,h5⟩:=g2
  refine ⟨a,cap,xs.flatten,by rw [g1,h4.length],b1L h4,?_⟩
  by_cases h0:xs=[]
  ·subst h0; exact .inl rfl
  ·obtain ⟨b,o,rfl,h6⟩:=h3 h0
   refine .inr ⟨b,o,by rw [g1]; rfl,.inl fun j u hj=>?_⟩
   obtain ⟨i,z,r,hi,hz,rfl⟩:=a5u n xs h1 j u hj
   rw [<- Q8]
   exact h6 i z hi r u hz
 ·rename_i hd o len cap sz hx
  split at hs
  case isFalse=>cases hs
  rename_i hn
  subst hn
  simp only [Q1] at hs
  obtain ⟨ob,hob,l,hl,hs⟩:=hs
  split at hs
  case isFalse=>cases hs
  rename_i hle
  simp only [Q0] at hs; subst hs
  cases ob<;>simp only [MO.list,reduceCtorEq,Q0] at hl
  subst hl
  rename_i l T
  obtain ⟨v,_,g1,g2⟩:=h.get hx
  obtain ⟨b,vs,m1,m2⟩:=h.m.get hob
  have hB:=a1C hob m1
  simp only [Rep] at g2
  obtain ⟨b',n',k1,rfl⟩:=g2
  rw [hB] at k1
  simp only [a1L,Q0,Q3] at k1
  obtain ⟨rfl,_⟩:=k1
  refine ⟨_,cap,(vs.drop o).take (len*sz),g1,(m2.drop o).take _,.inr ⟨b,o,by rw [g1]; rfl,.inr ⟨vs.toArray,T,(0,0),Qn m1,fun j u hj=>?_⟩⟩⟩
  rw [Qf] at hj
  split at hj
  ·rw [Qg] at hj
   simpa using hj
  ·cases hj
 ·rename_i hd len sz hx
  split at hs
  case isFalse=>cases hs
  rename_i hn
  subst hn
  simp only [Q1,Q2] at hs
  obtain ⟨ob,hob,rows,hrows,rfl⟩:=hs
  cases ob<;>simp only [MO.elts,reduceCtorEq] at hrows
  rename_i rows' sz' T
  split at hrows
  case isFalse=>cases hrows
  rename_i hc
  obtain ⟨hc1,hc2⟩:=hc
  simp only [Q0] at hrows
  subst hrows
  subst hc2
  obtain ⟨⟨b,ob⟩,m1,cur,m2,a1,a2,a3,a4,xs,a5,a6,a7⟩:=h.m.obj hob
  simp only at m2
  subst m2
  have hB:=a1C hob m1
  simp only [a1L,a3d,hc1] at hB
  obtain ⟨v,_,g1,g2⟩:=h.get hx
  simp only [Rep] at g2
  obtain ⟨_,b',cap,rfl,b2,n2,r2,k1,_,k2⟩:=g2
  rw [hB] at k1
  simp only [Q0,Q3] at k1
  obtain ⟨rfl,rfl,rfl⟩:=k1
  obtain ⟨rfl,_⟩:=k2 rfl
  refine ⟨_,cap,xs.flatten,g1,b1L a5,.inr ⟨_,0,by rw [g1]; rfl,.inr ⟨cur,T,(0,0),Qn m1,fun j u hj=>?_⟩⟩⟩
  rw [Qm]
  exact a7 j u hj
 ·cases hs
theorem c4I {s:Hp} {B:Inf} {cs:List PV} {vs:List Value} (h:Reps s B cs vs) (h1:cs.all PV.one=true):∀ u∈vs,u.oneCell'=true:=by
 intro u hu
 obtain ⟨i,hi⟩:=QH.1 hu
 have hl:=h.length
 have hlt:=(Q4.1 hi).1
 obtain ⟨v,e1,e2⟩:=h.get (QQ (l:=cs) (i:=i) (by omega))
 rw [hi] at e1
 simp only [Q0] at e1; subst e1
 exact a5n (e2.fine (List.all_eq_true.1 h1 _ (QS _)))
theorem a1e {Φ:Fns} (hΦ:∀ f,CtP P f (Φ f)) {σ0:List MO} {m0:MS} {pats:List Cfg}:∀ (o:Out) (ni nb nv:Nat) (t:PT) (ρp:PEnv) (ρ:Env) (s:Hp) (R:Res->Prop),comp pats o ni nb nv=some t->t.wp Φ ρp R->EnvRep s ρp ρ->Le2 σ0 m0 ρp.m ρ.m->σ0.length<=ρp.k ->
  ρp.i.length=ni->ρp.b.length=nb->ρp.v.length=nv->VC P (QR σ0 m0 R) (TR σ0 m0 pats R) o ρ s
 | .ret gen v H,ni,nb,nv,t,ρp,ρ,s,R,hc,he,h,hB,hk0,l1,l2,l3=>by
  simp only [comp,Q0] at hc; subst hc
  simp only [PT.wp] at he
  obtain ⟨p,hp,r,hr,hR⟩:=he
  intro β s' hs hsh ht
  have h':=h.mono hs
  have hrep:=SV.pv_rep h' (b2z h' hsh 3) v p hp
  refine ⟨r.1,r.2,hR,?_⟩
  unfold a0D at hr
  have hml:=h.m.length
  split at hr
  ·rename_i hg
   simp only [Q0] at hr; subst hr
   have hm:(if gen=true then ρ.m else ρ.m.take ρ.k)=ρ.m:=by
    split
    ·rfl
    ·rename_i hgen
     rcases hg with hg | hg
     ·exact absurd hg hgen
     ·rw [List.take_of_length_le]; rw [hml,h.k]; omega
   rw [hm]
   exact ⟨hB,hrep,h'.m,h'.coh⟩
  ·rename_i hg
   have hgen:gen=false:=by cases gen<;>simp_all
   subst hgen
   have hI:inf (ρp.m.take ρp.k) (ρ.m.take ρ.k)=(inf ρp.m ρ.m).take ρp.k:=by rw [<- h.k]; exact c3P _ _ _
   split at hr
   case isFalse =>
    simp only [Q1,Q2] at hr
    obtain ⟨σ',hσ',q,hq,rfl⟩:=hr
    simp only [Qa,if_false]
    have hL:=b1D h' (ht rfl) 3
    have hT:=a0P.take ρp.k h'.m
    rw [<- h.k] at hT
    obtain ⟨f1,f2,f3,f4⟩:=b8a hL _ (ρ.m.take ρ.k) (by rw [h.k] at hT ⊢; exact hT) hσ'
    refine ⟨⟨?_,?_⟩,?_,?_,Coh.of_none f3⟩
    ·rw [f2,hI]
     intro i x hx
     obtain ⟨x',h1,h2⟩:=hB.ble i x hx
     have:=(Q4.1 hx).1
     have hl2:(inf σ0 m0).length<=σ0.length:=by simp only [inf,Xf]; omega
     exact ⟨x',a5v h1 (by omega),h2⟩
    ·intro i o ho
     obtain ⟨o',h1,h2⟩:=hB.stay i o ho
     have:=(Q4.1 ho).1
     obtain ⟨o2,k1,k2⟩:=f4 i o' (by rw [Qw (by omega)]; exact h1)
     refine ⟨o2,k1,?_⟩
     rw [Qw (by rw [h.k]; omega)]
     exact h2.trans (k2 True trivial) (fun a _=>a)
    ·rw [f2,hI]
     exact PV.frz_rep hL p _ hrep hq
    ·rw [f2,hI]
     exact f1
   rename_i hlow
   simp only [Q2] at hr
   obtain ⟨q,hq,rfl⟩:=hr
   simp only [Qa,if_false]
   refine ⟨⟨?_,?_⟩,?_,?_,?_⟩
   ·rw [hI]
    intro i x hx
    obtain ⟨x',h1,h2⟩:=hB.ble i x hx
    have:=(Q4.1 hx).1
    have hl2:(inf σ0 m0).length<=σ0.length:=by simp only [inf,Xf]; omega
    exact ⟨x',a5v h1 (by omega),h2⟩
   ·intro i o ho
    obtain ⟨o',h1,h2⟩:=hB.stay i o ho
    have:=(Q4.1 ho).1
    refine ⟨o',by rw [Qw (by omega)]; exact h1,?_⟩
    rw [Qw (by rw [h.k]; omega)]
    exact h2
   ·rw [hI]
    exact PV.frz_rep (b1D h' (ht rfl) 3) p _ hrep hq
   ·rw [hI]
    have:=MO.low_rep (k:=ρp.k) _ _ (a0P.take ρp.k h'.m) hlow
    rw [h.k]; exact this
   ·refine Coh.of_none fun o ho=>?_
    have:=List.all_eq_true.1 hlow o ho
    cases o<;>first | rfl | simp [MO.low] at this
 | .ite c x y,ni,nb,nv,t,ρp,ρ,s,R,hc,he,h,hB,hk0,l1,l2,l3=>by
  simp only [comp,Q1,Q2] at hc
  obtain ⟨tx,hx,ty,hy,rfl⟩:=hc
  simp only [PT.wp] at he
  split at he
  case isFalse=>exact ⟨fun _=>a1e hΦ x ni nb nv tx ρp ρ s R hx he.1 h hB hk0 l1 l2 l3,fun _=>a1e hΦ y ni nb nv ty ρp ρ s R hy he.2 h hB hk0 l1 l2 l3⟩
  rename_i hs
  have hb:=BE.pe_den h c hs
  refine ⟨fun hcond=>?_,fun hcond=>?_⟩<;>rw [hb] at hcond<;>rw [hcond] at he<;>simp only [if_true,Qa,if_false] at he
  ·exact a1e hΦ x ni nb nv tx ρp ρ s R hx he h hB hk0 l1 l2 l3
  ·exact a1e hΦ y ni nb nv ty ρp ρ s R hy he h hB hk0 l1 l2 l3
 | .need c k,ni,nb,nv,t,ρp,ρ,s,R,hc,he,h,hB,hk0,l1,l2,l3=>by
  simp only [comp,Q2] at hc
  obtain ⟨tk,hk,rfl⟩:=hc
  simp only [PT.wp] at he
  split at he
  case isFalse=>cases he
  rename_i hs
  split at he
  case isFalse=>cases he
  rename_i hcond
  have hb:=BE.pe_den h c hs
  exact ⟨by rw [hb]; exact hcond,fun _=>a1e hΦ k ni nb nv tk ρp ρ s R hk he h hB hk0 l1 l2 l3⟩
 | .load fl a cs di db dv k,ni,nb,nv,t,ρp,ρ,s,R,hc,he,h,hB,hk0,l1,l2,l3=>by
  simp only [comp,Q1] at hc
  obtain ⟨ks,hks,hc⟩:=hc
  split at hc
  case isFalse=>cases hc
  rename_i hfill
  simp only [Q6,decide_eq_true_eq] at hfill
  obtain ⟨hf1,hf2⟩:=hfill
  have hf1:=SV.eq_of_beqs _ _ hf1
  simp only [Q2] at hc
  obtain ⟨tk,hk,rfl⟩:=hc
  simp only [PT.wp] at he
  obtain ⟨loc,hl,x,hx,r,hr,he⟩:=he
  obtain ⟨hn,vals,hrd,hrep⟩:=c3r h hl hx
  obtain ⟨vvs,hb,hspec⟩:=a5H ks x vals hr hrep
  obtain ⟨c1,c2⟩:=hspec ni nb nv
  rw [hf2] at c1
  simp only [Q3] at c1
  obtain ⟨d1,d2,d3⟩:=c1
  have hi:ρ.i.length=ni:=by rw [h.i]; exact l1
  have hbl:ρ.b.length=nb:=by rw [h.b]; exact l2
  have hvl:ρ.v.length=nv:=by rw [h.v.length]; exact l3
  have hden:=c2 (ρ.push r.1 r.2.1 vvs) id (At.push hi hbl hvl _ _ _)
  rw [hf1] at hden
  refine ⟨r.1,r.2.1,vvs,by omega,by omega,by omega,hb.fine,by rw [hden]; exact hrd,?_⟩
  refine a1e hΦ k _ _ _ tk _ _ s R hk he (h.push hb) hB hk0 ?_ ?_ ?_
  ·simp only [PEnv.push,Q5]; omega
  ·simp only [PEnv.push,Q5]; omega
  ·have:=hb.1.length; simp only [PEnv.push,Q5]; omega
 | .app d src size bytes k,ni,nb,nv,t,ρp,ρ,s,R,hc,he,h,hB,hk0,l1,l2,l3=>by
  simp only [comp] at hc
  split at hc
  case isFalse=>cases hc
  rename_i hflat
  simp only [Q6,decide_eq_true_eq] at hflat
  simp only [Q2] at hc
  obtain ⟨tk,hk,rfl⟩:=hc
  simp only [PT.wp,Q1] at he
  obtain ⟨xs,hxs,es,hes,he⟩:=he
  unfold a8Y at hxs
  split at he
  case isFalse=>cases he
  rename_i hlen
  have hd:∃ xv,a7F ρ s size xv d/\a0M s (inf ρp.m ρ.m) xs xv/\∀ r∈xs,∀ p∈r,p.one=true:=by
   cases d with
   | none=>simp only [Q0] at hxs; subst hxs; exact ⟨[],rfl,rfl,by simp⟩
   | some n =>
    simp only [Q1] at hxs
    obtain ⟨p,h1,h2⟩:=hxs
    obtain ⟨v,_,h3,h4⟩:=h.get h1
    obtain ⟨xv,e1,e2,e3⟩:=a4g h4 h2
    exact ⟨xv,by simp only [a7F,h3]; exact e1,e2,e3⟩
  have hsrc:∃ ev,a7B ρ s size ev src/\a0M s (inf ρp.m ρ.m) es ev/\∀ r∈es,∀ p∈r,p.one=true:=by
   cases src with
   | lit l =>
    simp only [a1f] at hes
    obtain ⟨a,b⟩:=b2c h l hes hflat.1
    exact ⟨_,rfl,a,b⟩
   | va n =>
    simp only [a1f,Q1] at hes
    obtain ⟨p,h1,h2⟩:=hes
    obtain ⟨v,_,h3,h4⟩:=h.get h1
    obtain ⟨ev,e1,e2,e3⟩:=a4g h4 h2
    exact ⟨ev,⟨by rw [h3]; exact e1,b1T e2 e3⟩,e2,e3⟩
  obtain ⟨xv,a1,a2,a3⟩:=hd
  obtain ⟨ev,b1,b2,b3⟩:=hsrc
  have e1:=a2.length
  have e2:=b2.length
  refine ⟨xv,ev,a1,b1,?_,by simp only [maxLen]; omega,fun v s' hs hsl=>?_⟩
  ·rw [e1,e2]
   calc (xs.length+es.length)*bytes<=1000000*100000000:=Qt hlen hflat.2
    _<=140737488355328:=by decide
  ·refine a1e hΦ k _ _ _ tk _ _ s' R hk he ((h.mono hs).pushV (p:=.sl size (xs++es)) ?_ rfl) hB hk0 l1 l2 (by simp [l3])
   simp only [Rep]
   refine ⟨xv++ev,hsl,(a0M.mono hs (BLe.refl _) _ _ a2).append (a0M.mono hs (BLe.refl _) _ _ b2),fun r hr=>?_⟩
   exact (Qk.1 hr).elim (a3 r) (b3 r)
 | .cut n lo hi size k,ni,nb,nv,t,ρp,ρ,s,R,hc,he,h,hB,hk0,l1,l2,l3=>by
  simp only [comp,Q2] at hc
  obtain ⟨tk,hk,rfl⟩:=hc
  simp only [PT.wp,Q1] at he
  obtain ⟨xs,⟨p,h1,h2⟩,he⟩:=he
  split at he
  case isFalse=>cases he
  rename_i hcond
  obtain ⟨v,_,h3,h4⟩:=h.get h1
  obtain ⟨xv,e1,e2,e3⟩:=a4g h4 h2
  have hlo:a5h ρ lo=a2k ρp lo:=by cases lo<;>simp only [a5h,a2k,IE.pe_den h]
  have hhi:∀ n,a5k ρ hi n=a2i ρp hi n:=by intro n; cases hi<;>simp only [a5k,a2i,IE.pe_den h]
  have hl:=e2.length
  refine ⟨xv,by rw [h3]; exact e1,by rw [hlo]; exact hcond.1,by rw [hlo,hhi,hl]; exact hcond.2.1,by rw [hhi,hl]; exact hcond.2.2,fun v' hv'=>?_⟩
  refine a1e hΦ k _ _ _ tk _ _ s R hk he (h.pushV (p:=.sl size ((xs.take (a2i ρp hi xs.length).toNat).drop (a2k ρp lo).toNat)) ?_ rfl) hB hk0 l1 l2 (by simp [l3])
  rw [hlo,hhi,hl] at hv'
  simp only [Rep]
  exact ⟨_,hv',(e2.take _).drop _,fun r hr=>e3 r (Qz (X8 hr))⟩
 | .scut n lo hi k,ni,nb,nv,t,ρp,ρ,s,R,hc,he,h,hB,hk0,l1,l2,l3=>by
  simp only [comp,Q2] at hc
  obtain ⟨tk,hk,rfl⟩:=hc
  simp only [PT.wp] at he
  split at he
  case h_2=>cases he
  rename_i l h1
  split at he
  case isFalse=>cases he
  rename_i hcond
  obtain ⟨v,_,h3,h4⟩:=h.get h1
  simp only [Rep] at h4
  have hlo:a5h ρ lo=a2k ρp lo:=by cases lo<;>simp only [a5h,a2k,IE.pe_den h]
  have hhi:∀ n,a5k ρ hi n=a2i ρp hi n:=by intro n; cases hi<;>simp only [a5k,a2i,IE.pe_den h]
  refine ⟨l,by rw [h3]; exact h4,by rw [hlo]; exact hcond.1,by rw [hlo,hhi]; exact hcond.2.1,by rw [hhi]; exact hcond.2.2,?_⟩
  refine a1e hΦ k _ _ _ tk _ _ s R hk he (h.pushV (p:=.str ((l.take (a2i ρp hi l.length).toNat).drop (a2k ρp lo).toNat)) ?_ rfl) hB hk0 l1 l2 (by simp [l3])
  rw [hlo,hhi]
  simp only [Rep]
 | .chk n size k,ni,nb,nv,t,ρp,ρ,s,R,hc,he,h,hB,hk0,l1,l2,l3=>by
  simp only [comp,Q2] at hc
  obtain ⟨tk,hk,rfl⟩:=hc
  simp only [PT.wp,Q1] at he
  obtain ⟨xs,⟨p,h1,h2⟩,he⟩:=he
  obtain ⟨v,_,h3,h4⟩:=h.get h1
  obtain ⟨xv,e1,e2,e3⟩:=a4g h4 h2
  exact ⟨⟨xv,by rw [h3]; exact e1⟩,a1e hΦ k _ _ _ tk _ _ s R hk he h hB hk0 l1 l2 l3⟩
 | .appF n src size bytes k,ni,nb,nv,t,ρp,ρ,s,R,hc,he,h,hB,hk0,l1,l2,l3=>by
  simp only [comp] at hc
  split at hc
  case isFalse=>cases hc
  rename_i hflat
  simp only [Q6,decide_eq_true_eq] at hflat
  simp only [Q2] at hc
  obtain ⟨tk,hk,rfl⟩:=hc
  simp only [PT.wp,Q1] at he
  obtain ⟨xs,⟨p0,hp1,hp2⟩,es,hes,he⟩:=he
  split at he
  case isFalse=>cases he
  rename_i hlen
  have hsrc:∃ ev,a7B ρ s size ev src/\a0M s (inf ρp.m ρ.m) es ev/\∀ r∈es,∀ p∈r,p.one=true:=by
   cases src with
   | lit l =>
    simp only [a1f] at hes
    obtain ⟨a,b⟩:=b2c h l hes hflat.1
    exact ⟨_,rfl,a,b⟩
   | va n =>
    simp only [a1f,Q1] at hes
    obtain ⟨p,h1,h2⟩:=hes
    obtain ⟨v,_,h3,h4⟩:=h.get h1
    obtain ⟨ev,e1,e2,e3⟩:=a4g h4 h2
    exact ⟨ev,⟨by rw [h3]; exact e1,b1T e2 e3⟩,e2,e3⟩
  obtain ⟨v0,_,hv3,hv4⟩:=h.get hp1
  obtain ⟨xv,a1,a2,a3⟩:=a4g hv4 hp2
  obtain ⟨ev,b1,b2,b3⟩:=hsrc
  have e1:=a2.length
  have e2:=b2.length
  refine ⟨xv,ev,by rw [hv3]; exact a1,fun hev=>hlen.1 (by rw [<- e2,hev]; rfl),b1,?_,by simp only [maxLen]; omega,fun v s' hs hsl=>?_⟩
  ·rw [e1,e2]
   calc (xs.length+es.length)*bytes<=1000000*100000000:=Qt hlen.2 hflat.2
    _<=140737488355328:=by decide
  ·refine a1e hΦ k _ _ _ tk _ _ s' R hk he ((h.mono hs).pushV (p:=.sl size (xs++es)) ?_ rfl) hB hk0 l1 l2 (by simp [l3])
   simp only [Rep]
   refine ⟨xv++ev,hsl,(a0M.mono hs (BLe.refl _) _ _ a2).append (a0M.mono hs (BLe.refl _) _ _ b2),fun r hr=>?_⟩
   exact (Qk.1 hr).elim (a3 r) (b3 r)
 | .hole ..,ni,nb,nv,t,ρp,ρ,s,R,hc,he,h,hB,hk0,l1,l2,l3=>by simp only [comp,Q0] at hc; subst hc; simp [PT.wp] at he
 | .fill ..,ni,nb,nv,t,ρp,ρ,s,R,hc,he,h,hB,hk0,l1,l2,l3=>by simp only [comp,Q0] at hc; subst hc; simp [PT.wp] at he
 | .call f args H rs di db dv k,ni,nb,nv,t,ρp,ρ,s,R,hc,he,h,hB,hk0,l1,l2,l3=>by
  simp only [comp,Q1] at hc
  obtain ⟨shs,hshs,hc⟩:=hc
  split at hc
  case isFalse=>cases hc
  rename_i hfill
  simp only [Q6,decide_eq_true_eq] at hfill
  obtain ⟨hf1,hf2⟩:=hfill
  have hf1:=SV.eq_of_beq _ _ hf1
  simp only [Q2] at hc
  obtain ⟨tk,hk,rfl⟩:=hc
  simp only [PT.wp] at he
  obtain ⟨as,has,⟨r0,σ'⟩,hΦr,x,hx,he⟩:=he
  intro β s1 hs1 hsh
  have h1:=h.mono hs1
  obtain ⟨_,hct⟩:=hΦ f as ρp.m r0 σ' hΦr
  refine ⟨_,hct s1 ρ.m _ h1.m h1.coh (SV.pvs_rep h1 (b2z h1 hsh 3) args as has),fun v s' m' hs' hq=>?_⟩
  obtain ⟨hpre,q1,q2,q3⟩:=hq
  obtain ⟨vvs,hb,hspec⟩:=a9q hx q1
  obtain ⟨c1,c2⟩:=hspec ni nb nv
  rw [hf2] at c1
  simp only [Q3] at c1
  obtain ⟨d1,d2,d3⟩:=c1
  have hi:ρ.i.length=ni:=by rw [h.i]; exact l1
  have hbl:ρ.b.length=nb:=by rw [h.b]; exact l2
  have hvl:ρ.v.length=nv:=by rw [h.v.length]; exact l3
  have hden:=c2 (ρ.push x.1 x.2.1 vvs) id (At.push hi hbl hvl _ _ _)
  rw [hf1] at hden
  have h2:=(h1.turn hs' hpre q2 q3).push (r:=x) (vvs:=vvs) hb
  refine ⟨x.1,x.2.1,vvs,by omega,by omega,by omega,hb.fine,hden.symm,?_⟩
  refine a1e hΦ k _ _ _ tk _ _ s' R hk he h2 (hB.trans hpre) hk0 ?_ ?_ ?_
  ·simp only [PEnv.push,Q5]; omega
  ·simp only [PEnv.push,Q5]; omega
  ·have:=hb.1.length; simp only [PEnv.push,Q5]; omega
 | .callv n args rs di db dv k,ni,nb,nv,t,ρp,ρ,s,R,hc,he,h,hB,hk0,l1,l2,l3=>by
  simp only [comp,Q1] at hc
  obtain ⟨shs,hshs,hc⟩:=hc
  split at hc
  case isFalse=>cases hc
  rename_i hfill
  simp only [Q6,decide_eq_true_eq] at hfill
  obtain ⟨hf1,hf2⟩:=hfill
  have hf1:=SV.eq_of_beq _ _ hf1
  simp only [Q2] at hc
  obtain ⟨tk,hk,rfl⟩:=hc
  simp only [PT.wp] at he
  split at he
  case h_2=>cases he
  rename_i f cap hf
  obtain ⟨as,has,⟨r0,σ'⟩,hΦr,x,hx,he⟩:=he
  obtain ⟨v,_,g1,g2⟩:=h.get hf
  simp only [Rep] at g2
  obtain ⟨caps,rfl,g2⟩:=g2
  obtain ⟨hen,hct⟩:=hΦ f (as++cap) ρp.m r0 σ' hΦr
  refine ⟨f,caps.toArray,_,g1,hen,hct s ρ.m _ h.m h.coh (by simpa using (SV.pvs_rep h (a3l s _ id) args as has).append g2),fun v s' m' hs' hq=>?_⟩
  obtain ⟨hpre,q1,q2,q3⟩:=hq
  obtain ⟨vvs,hb,hspec⟩:=a9q hx q1
  obtain ⟨c1,c2⟩:=hspec ni nb nv
  rw [hf2] at c1
  simp only [Q3] at c1
  obtain ⟨d1,d2,d3⟩:=c1
  have hi:ρ.i.length=ni:=by rw [h.i]; exact l1
  have hbl:ρ.b.length=nb:=by rw [h.b]; exact l2
  have hvl:ρ.v.length=nv:=by rw [h.v.length]; exact l3
  have hden:=c2 (ρ.push x.1 x.2.1 vvs) id (At.push hi hbl hvl _ _ _)
  rw [hf1] at hden
  have h2:=(h.turn hs' hpre q2 q3).push (r:=x) (vvs:=vvs) hb
  refine ⟨x.1,x.2.1,vvs,by omega,by omega,by omega,hb.fine,hden.symm,?_⟩
  refine a1e hΦ k _ _ _ tk _ _ s' R hk he h2 (hB.trans hpre) hk0 ?_ ?_ ?_
  ·simp only [PEnv.push,Q5]; omega
  ·simp only [PEnv.push,Q5]; omega
  ·have:=hb.1.length; simp only [PEnv.push,Q5]; omega
 | .newM cs T k,ni,nb,nv,t,ρp,ρ,s,R,hc,he,h,hB,hk0,l1,l2,l3=>by
  simp only [comp,Q2] at hc
  obtain ⟨tk,hk,rfl⟩:=hc
  simp only [PT.wp] at he
  obtain ⟨l,hl,he⟩:=he
  intro b hb
  have hr:=SV.pvs_rep h (a3l s _ id) cs l hl
  obtain ⟨hpre,h1⟩:=h.newM (o:=.cells l T) (x:=(b,Obj.cells (SV.dens ρ id cs).toArray T (0,0))) ⟨_,rfl,hr⟩
  have hml:=h.m.length
  have h2:=h1.pushV (p:=.ref ρp.m.length 0) (v:=.pointer (some ⟨b,0,none⟩)) (by
   simp only [Rep]
   exact ⟨b,_,a1C (o:=.cells l T) (x:=(b,Obj.cells (SV.dens ρ id cs).toArray T (0,0))) (by simp) (by simp [<- hml]),rfl⟩) rfl
  exact a1e hΦ k _ _ _ tk _ _ s R hk he h2 (hB.trans hpre) hk0 l1 l2 (by simp [l3])
 | .mkM n zero T size bytes k,ni,nb,nv,t,ρp,ρ,s,R,hc,he,h,hB,hk0,l1,l2,l3=>by
  simp only [comp] at hc
  split at hc
  case isFalse=>cases hc
  rename_i hz
  simp only [Q2] at hc
  obtain ⟨tk,hk,rfl⟩:=hc
  simp only [PT.wp] at he
  obtain ⟨z,hzp,he⟩:=he
  split at he
  case isFalse=>cases he
  rename_i hcond
  obtain ⟨c1,c2,c3⟩:=hcond
  have hn:=IE.pe_den h n
  refine ⟨by rw [hn]; exact c1,?_,by rw [hn]; omega,fun b hb=>?_⟩
  ·rw [hn]
   calc n.pe ρp*(bytes:Int)<=1000000*100000000:=Int.mul_le_mul c2 (by omega) (by omega) (by omega)
    _<=140737488355328:=by decide
  ·rw [hn]
   have hzl:(SV.dens ρ id zero).length=size:=by rw [a0R]; exact hz
   have hmc:madeCells (SV.dens ρ id zero).toArray ((n.pe ρp).toNat*size)=((Qd (n.pe ρp).toNat (SV.dens ρ id zero)).flatten).toArray:=by
    rw [<- hzl]; exact b9q _ _
   rw [hmc]
   have hr:=b8c (SV.pvs_rep h (a3l s _ id) zero z hzp) (n.pe ρp).toNat
   obtain ⟨hpre,h1⟩:=h.newM (o:=.cells (Qd (n.pe ρp).toNat z).flatten T) (x:=(b,Obj.cells ((Qd (n.pe ρp).toNat (SV.dens ρ id zero)).flatten).toArray T (0,0))) ⟨_,rfl,hr⟩
   have hml:=h.m.length
   have h2:=h1.pushV (p:=.msl ρp.m.length 0 (n.pe ρp).toNat (n.pe ρp).toNat size) (v:=.slice (some ⟨b,0,none⟩) (n.pe ρp).toNat (n.pe ρp).toNat) (by
    simp only [Rep]
    exact ⟨b,_,a1C (o:=.cells (Qd (n.pe ρp).toNat z).flatten T) (x:=(b,Obj.cells ((Qd (n.pe ρp).toNat (SV.dens ρ id zero)).flatten).toArray T (0,0))) (by simp) (by simp [<- hml]),rfl⟩) rfl
   exact a1e hΦ k _ _ _ tk _ _ s R hk he h2 (hB.trans hpre) hk0 l1 l2 (by simp [l3])
 | .storeM a cs k,ni,nb,nv,t,ρp,ρ,s,R,hc,he,h,hB,hk0,l1,l2,l3=>by
  simp only [comp,Q2] at hc
  obtain ⟨tk,hk,rfl⟩:=hc
  simp only [PT.wp] at he
  split at he
  ·rename_i hd off hloc
   split at he
   case h_2=>cases he
   rename_i l T hm
   obtain ⟨new,hnew,he⟩:=he
   split at he
   case isFalse=>cases he
   rename_i hle
   obtain ⟨b,vs,g1,g2⟩:=h.m.get hm
   have hI:=a1C hm g1
   have hr:=SV.pvs_rep h (a3l s _ id) cs new hnew
   have hnl:=hr.length
   rw [a0R] at hnl
   refine ⟨hd,b,off,vs.toArray,T,g1,c5F h hloc hI,by rw [Qp,g2.length,hnl]; exact hle,?_⟩
   obtain ⟨hpre,h2⟩:=h.setM (o:=.cells (a3T l off new) T) (x:=(b,Obj.cells (a2X vs off (SV.dens ρ id cs)).toArray T (0,0))) hm g1 ⟨_,rfl,b4P g2 hr off⟩ (.inl (by
    simp only [a1L,a3d,Qp,b2p vs (SV.dens ρ id cs) off (by rw [a0R,g2.length,hnl]; exact hle)]))
   exact a1e hΦ k _ _ _ tk _ _ s R hk he h2 (hB.trans hpre) hk0 l1 l2 l3
  ·rename_i hd len i sz off hloc
   split at he
   case h_2=>cases he
   rename_i rows sz' T hm
   split at he
   case isFalse=>cases he
   rename_i hc
   obtain ⟨hc1,rfl⟩:=hc
   obtain ⟨r,hrow,new,hnew,he⟩:=he
   split at he
   case isFalse=>cases he
   rename_i hle
   obtain ⟨hle,hone⟩:=hle
   obtain ⟨⟨b,ob⟩,g1,cur,g2,a1,a2,⟨cap,a3,a3',a3''⟩,a4,xs,a5,a6,a7⟩:=h.m.obj hm
   simp only at g2
   subst g2
   have hI:=a1C hm g1
   simp only [a1L,a3d] at hI
   have hI':=hI
   rw [hc1] at hI'
   obtain ⟨hadr,hilt⟩:=c0L h hloc hI'
   have hr:=SV.pvs_rep h (a3l s _ id) cs new hnew
   have hnl:=hr.length
   rw [a0R] at hnl
   obtain ⟨xv,x1,x2⟩:=a5.get hrow
   have hxl:=a6 xv (Qn x1)
   have hrl:r.length=sz':=by rw [<- x2.length]; exact hxl
   have hlx:=a5.length
   have hpos:i*sz'+sz'<=cur.size:=by
    rw [a3]
    calc i*sz'+sz'=(i+1)*sz':=by rw [Qy,QY]
     _<=cap*sz':=Qt (by omega) (Qb _)
   refine ⟨hd,b,i*sz'+off,cur,T,g1,hadr,by omega,?_⟩
   have hset:=b4P x2 hr off
   have hsl:(a2X xv off (SV.dens ρ id cs)).length=sz':=by rw [b2p _ _ _ (by rw [a0R]; omega)]; exact hxl
   have hcs:(a2X cur.toList (i*sz'+off) (SV.dens ρ id cs)).length=cur.size:=by rw [b2p _ _ _ (by have h9:cur.toList.length=cur.size:=QN; rw [a0R]; omega)]; exact QN
   obtain ⟨hpre,h2⟩:=h.setM (o:=.row (rows.set i (a3T r off new)) sz' T) (x:=(b,Obj.cells (a2X cur.toList (i*sz'+off) (SV.dens ρ id cs)).toArray T (0,0))) hm g1
    ⟨_,rfl,by simpa using a1,a2,⟨cap,by simp only [Qp,hcs]; exact a3,by simpa using a3',a3''⟩,fun r' hr' p hp=>by
     rcases QL hr' with h1 | rfl
     ·exact a4 r' h1 p hp
     ·rcases c4K hp with h1 | h1
      ·exact a4 r (Qn hrow) p h1
      ·exact List.all_eq_true.1 hone p h1,xs.set i (a2X xv off (SV.dens ρ id cs)),b7Y a5 i hset,fun x hx=>by
     rcases QL hx with h1 | rfl
     ·exact a6 x h1
     ·exact hsl,fun j u hj=>by
     rw [List.getElem?_toArray]
     exact c3W a6 x1 hxl hsl (by rw [a0R]; omega) (fun j u h9=>by rw [Array.getElem?_toList]; exact a7 j u h9) (by simpa using hpos) hj⟩ (.inl (by simp only [a1L,a3d,Qp,hcs,List.length_set]))
   exact a1e hΦ k _ _ _ tk _ _ s R hk he h2 (hB.trans hpre) hk0 l1 l2 l3
  ·cases he
 | .appM d src size bytes T k,ni,nb,nv,t,ρp,ρ,s,R,hc,he,h,hB,hk0,l1,l2,l3=>by
  simp only [comp] at hc
  split at hc
  case isFalse=>cases hc
  rename_i hflat
  simp only [Q6,decide_eq_true_eq] at hflat
  obtain ⟨⟨⟨⟨hfl,hsl⟩,hby⟩,hpos⟩,hdf⟩:=hflat
  simp only [Q2] at hc
  obtain ⟨tk,hk,rfl⟩:=hc
  simp only [PT.wp] at he
  obtain ⟨p,hp,es,hes,he⟩:=he
  have hpr:=SV.pv_rep (t:=s) (β:=id) h (a3l s _ id) d p hp
  have hpo:=b7W h hdf hp
  have hsrc:∃ ev,a7B ρ s size ev src/\a0M s (inf ρp.m ρ.m) es ev/\(∀ r∈es,∀ p∈r,p.one=true)/\∀ x∈ev,x.length=size:=by
   cases src with
   | lit l =>
    simp only [a1f] at hes
    obtain ⟨a,b⟩:=b2c h l hes hfl
    refine ⟨_,rfl,a,b,fun x hx=>?_⟩
    obtain ⟨y,hy,rfl⟩:=Q9.1 hx
    rw [a0R]
    simpa using List.all_eq_true.1 hsl y hy
   | va n =>
    simp only [a1f,Q1] at hes
    obtain ⟨p,h1,h2⟩:=hes
    obtain ⟨v,_,h3,h4⟩:=h.get h1
    obtain ⟨ev,e1,e2,e3⟩:=a4g h4 h2
    exact ⟨ev,⟨by rw [h3]; exact e1,b1T e2 e3⟩,e2,e3,e1.1⟩
  obtain ⟨ev,b1,b2,b3,b4⟩:=hsrc
  have e2:=b2.length
  have hml:=h.m.length
  have bnd:∀ n:Nat,n<=1000000->n*bytes<=140737488355328:=fun n hn =>
   calc n*bytes<=1000000*100000000:=Qt hn hby
    _<=140737488355328:=by decide
  split at he
  ·
   split at he
   case isFalse=>cases he
   rename_i hlen
   simp only [Rep] at hpr
   refine ⟨ρ.m.length,[],ev,by simp,.inl ⟨rfl,rfl,hpr⟩,b1,by simpa [e2] using bnd _ hlen,by simp only [maxLen,Xg,e2]; omega,fun h0=>?_,fun h0 b' cap' cur' f1 f2 f3 f4 f5=>?_⟩
   ·have hz:es.length=0:=by rw [<- e2,h0]; rfl
    rw [if_pos hz] at he
    exact a1e hΦ k _ _ _ tk _ _ s R hk he (h.pushV (p:=.nilS) (by simp only [Rep]; exact hpr) rfl) hB hk0 l1 l2 (by simp [l3])
   ·have hz:¬ es.length=0:=by rw [<- e2]; simpa using h0
    rw [if_neg hz] at he
    simp only [Nat.lt_irrefl,if_false,Xg,Qm,List.nil_append] at f2 f5 ⊢
    obtain ⟨hpre,h1⟩:=h.newM (o:=.row es size T) (x:=(b',Obj.cells cur' T (0,0))) ⟨cur',rfl,by intro h9; rw [h9] at hz; simp at hz,hpos,⟨cap',f4,by omega,f3⟩,b3,ev,b2,b4,f5⟩
    have hI:=a1C (σ:=ρp.m++[.row es size T]) (m:=ρ.m++[(b',Obj.cells cur' T (0,0))]) (i:=ρp.m.length) (o:=.row es size T) (x:=(b',Obj.cells cur' T (0,0))) (by simp) (by simp [<- hml])
    have h2:=h1.pushV (p:=.rsl ρp.m.length es.length size) (v:=.slice (some ⟨b',0,none⟩) ev.length cap') (by
     simp only [Rep]
     refine ⟨by omega,b',cap',by rw [e2],b',_,_,hI,Qb _,fun _=>⟨rfl,f4,by omega⟩⟩) rfl
    exact a1e hΦ k _ _ _ tk _ _ s R hk he h2 (hB.trans hpre) hk0 l1 l2 (by simp [l3])
  ·
   rename_i hd len sz
   split at he
   case h_2=>cases he
   rename_i rows sz' T' hm
   split at he
   case isFalse=>cases he
   rename_i hc
   obtain ⟨hc1,hs1,hs2,hs3,hc5⟩:=hc
   have hs1:=hs1.symm
   have hs2:=hs2.symm
   have hs3:=hs3.symm
   subst hs1 hs2 hs3
   obtain ⟨⟨b,ob⟩,g1,cur,g2,a1,a2,⟨cap,a3,a3',a3''⟩,a4,xs,a5,a6,a7⟩:=h.m.obj hm
   simp only at g2
   subst g2
   have hI:=a1C hm g1
   simp only [a1L,a3d] at hI
   have hlx:=a5.length
   have hpr0:=hpr
   simp only [Rep] at hpr
   obtain ⟨hlen0,b1',cap1,hdv,b2',n2,r2,k1,k2,k3⟩:=hpr
   rw [hI] at k1
   simp only [Q0,Q3] at k1
   obtain ⟨rfl,rfl,rfl⟩:=k1
   obtain ⟨rfl,k4,k5⟩:=k3 hc1
   have hcc:cap1=cap:=by rw [a3] at k4; exact (Nat.eq_of_mul_eq_mul_right a2 k4).symm
   subst hcc
   have hltm:=(Q4.1 g1).1
   refine ⟨hd,xs,ev,a6,  .inr ⟨_,cap1,cur,by rw [hdv,hlx,hc1],g1,by omega,a3'',a3,a7⟩,b1,by rw [hlx,hc1,e2]; exact bnd _ hc5,by simp only [maxLen]; omega,fun h0=>?_,fun h0 b' cap' cur' f1 f2 f3 f4 f5=>?_⟩
   ·have hz:es.length=0:=by rw [<- e2,h0]; rfl
    rw [if_pos hz] at he
    exact a1e hΦ k _ _ _ tk _ _ s R hk he (h.pushV hpr0 rfl) hB hk0 l1 l2 (by simp [l3])
   ·have hz:¬ es.length=0:=by rw [<- e2]; simpa using h0
    rw [if_neg hz] at he
    rw [if_pos hltm]
    have hall:∀ x∈xs++ev,x.length=size:=fun x hx=>(Qk.1 hx).elim (a6 x) (b4 x)
    obtain ⟨hpre,h1⟩:=h.setM (o:=.row (rows++es) size T) (x:=(b',Obj.cells cur' T (0,0))) hm g1
     ⟨cur',rfl,by simp [a1],a2,⟨cap',f4,by simp only [Q5]; omega,f3⟩,fun r hr=>(Qk.1 hr).elim (a4 r) (b3 r),xs++ev,a5.append b2,hall,f5⟩
     (.inr (by simp only [a1L,Q5]; omega))
    have hI2:=a1C (σ:=ρp.m.set hd (.row (rows++es) size T)) (m:=ρ.m.set hd (b',Obj.cells cur' T (0,0))) (i:=hd) (o:=.row (rows++es) size T) (x:=(b',Obj.cells cur' T (0,0)))
     (by rw [Qq (by omega)]) (by rw [Qq hltm])
    simp only [a1L,a3d,Q5] at hI2
    have h2:=h1.pushV (p:=.rsl hd (len+es.length) size) (v:=.slice (some ⟨b',0,none⟩) (xs.length+ev.length) cap') (by
     simp only [Rep]
     refine ⟨by omega,b',cap',by rw [hlx,hc1,e2],b',_,_,hI2,by omega,fun _=>⟨rfl,f4,by omega⟩⟩) rfl
    exact a1e hΦ k _ _ _ tk _ _ s R hk he h2 (hB.trans hpre) hk0 l1 l2 (by simp [l3])
  ·cases he
 | .mkMap K k,ni,nb,nv,t,ρp,ρ,s,R,hc,he,h,hB,hk0,l1,l2,l3=>by
  simp only [comp,Q2] at hc
  obtain ⟨tk,hk,rfl⟩:=hc
  simp only [PT.wp] at he
  intro b hb
  obtain ⟨hpre,h1⟩:=h.newM (o:=.mp [] [] K) (x:=(b,Obj.map #[] 0)) ⟨#[],0,[],rfl,⟨rfl,rfl⟩,rfl⟩
  have hml:=h.m.length
  have h2:=h1.pushV (p:=.mp ρp.m.length) (v:=.map (some b)) (by
   simp only [Rep]
   exact ⟨b,_,a1C (o:=.mp [] [] K) (x:=(b,Obj.map #[] 0)) (by simp) (by simp [<- hml]),rfl⟩) rfl
  exact a1e hΦ k _ _ _ tk _ _ s R hk he h2 (hB.trans hpre) hk0 l1 l2 (by simp [l3])
 | .mapGet n K key dflt ok rs di db dv k,ni,nb,nv,t,ρp,ρ,s,R,hc,he,h,hB,hk0,l1,l2,l3=>by
  simp only [comp,Q1] at hc
  obtain ⟨shs,hshs,hc⟩:=hc
  split at hc
  case isFalse=>cases hc
  rename_i hfill
  simp only [Q6,decide_eq_true_eq] at hfill
  obtain ⟨hf1,hf2⟩:=hfill
  have hf1:=SV.eq_of_beq _ _ hf1
  simp only [Q2] at hc
  obtain ⟨tk,hk,rfl⟩:=hc
  simp only [PT.wp] at he
  split at he
  case h_2=>cases he
  rename_i hd hn
  split at he
  case h_2=>cases he
  rename_i ks vs K' hm
  split at he
  case isFalse=>cases he
  rename_i hKK
  subst hKK
  obtain ⟨d,hd',x,hx,he⟩:=he
  obtain ⟨b,es,clock,vv,m1,m2,m3,m4⟩:=h.map hn hm
  have hdr:=SV.pv_rep h (a3l s _ id) dflt d hd'
  have hres:Rep s (inf ρp.m ρ.m) (if ok then .tup [(a2j ks vs (key.pe ρp)).getD d,.bool (a2j ks vs (key.pe ρp)).isSome] else (a2j ks vs (key.pe ρp)).getD d) (a8P ok (a2j ks vv (key.den ρ)) (dflt.den ρ id)):=by
   rw [IE.pe_den h key]
   unfold a8P
   rcases b9l ks vs vv m4 (key.pe ρp) with ⟨a1,a2⟩ | ⟨p,v,a1,a2,a3⟩
   ·rw [a1,a2]
    cases ok
    ·exact hdr
    ·exact ⟨_,rfl,_,_,rfl,hdr,_,_,rfl,rfl,rfl⟩
   ·rw [a1,a2]
    cases ok
    ·exact a3
    ·exact ⟨_,rfl,_,_,rfl,a3,_,_,rfl,rfl,rfl⟩
  obtain ⟨vvs,hb,hspec⟩:=a9q hx hres
  obtain ⟨c1,c2⟩:=hspec ni nb nv
  rw [hf2] at c1
  simp only [Q3] at c1
  obtain ⟨d1,d2,d3⟩:=c1
  have hi:ρ.i.length=ni:=by rw [h.i]; exact l1
  have hbl:ρ.b.length=nb:=by rw [h.b]; exact l2
  have hvl:ρ.v.length=nv:=by rw [h.v.length]; exact l3
  have hden:=c2 (ρ.push x.1 x.2.1 vvs) id (At.push hi hbl hvl _ _ _)
  rw [hf1] at hden
  have h2:=h.push (r:=x) (vvs:=vvs) hb
  refine ⟨hd,b,es,clock,ks,vv,m1,m2,m3,x.1,x.2.1,vvs,by omega,by omega,by omega,hb.fine,hden.symm,?_⟩
  refine a1e hΦ k _ _ _ tk _ _ s R hk he h2 hB hk0 ?_ ?_ ?_
  ·simp only [PEnv.push,Q5]; omega
  ·simp only [PEnv.push,Q5]; omega
  ·have:=hb.1.length; simp only [PEnv.push,Q5]; omega
 | .mapSet n K key v k,ni,nb,nv,t,ρp,ρ,s,R,hc,he,h,hB,hk0,l1,l2,l3=>by
  simp only [comp,Q2] at hc
  obtain ⟨tk,hk,rfl⟩:=hc
  simp only [PT.wp] at he
  split at he
  case h_2=>cases he
  rename_i hd hn
  split at he
  case h_2=>cases he
  rename_i ks vs K' hm
  split at he
  case isFalse=>cases he
  rename_i hKK
  subst hKK
  obtain ⟨x,hx,he⟩:=he
  obtain ⟨b,es,clock,vv,m1,m2,m3,m4⟩:=h.map hn hm
  have hxr:=SV.pv_rep h (a3l s _ id) v x hx
  refine ⟨hd,b,es,clock,ks,vv,m1,m2,m3,fun es' clock' hmi=>?_⟩
  rw [IE.pe_den h key] at hmi
  obtain ⟨p1,p2⟩:=c0Y ks vs vv m4 (key.pe ρp) x (v.den ρ id) hxr
  rw [<- p1] at hmi
  obtain ⟨hpre,h2⟩:=h.setM (o:=.mp (a3p ks vs (key.pe ρp) x).1 (a3p ks vs (key.pe ρp) x).2 K') (x:=(b,Obj.map es' clock')) hm m1 ⟨es',clock',_,rfl,hmi,p2⟩ (.inl rfl)
  exact a1e hΦ k _ _ _ tk _ _ s R hk he h2 (hB.trans hpre) hk0 l1 l2 l3
 | .mapClr n k,ni,nb,nv,t,ρp,ρ,s,R,hc,he,h,hB,hk0,l1,l2,l3=>by
  simp only [comp,Q2] at hc
  obtain ⟨tk,hk,rfl⟩:=hc
  simp only [PT.wp] at he
  split at he
  case h_2=>cases he
  rename_i hd hn
  split at he
  case h_2=>cases he
  rename_i ks vs K' hm
  obtain ⟨b,es,clock,vv,m1,m2,m3,m4⟩:=h.map hn hm
  refine ⟨hd,b,es,clock,m1,m2,?_⟩
  obtain ⟨hpre,h2⟩:=h.setM (o:=.mp [] [] K') (x:=(b,Obj.map #[] clock)) hm m1 ⟨#[],clock,[],rfl,⟨rfl,rfl⟩,rfl⟩ (.inl rfl)
  exact a1e hΦ k _ _ _ tk _ _ s R hk he h2 (hB.trans hpre) hk0 l1 l2 l3
 | .mkQ k,ni,nb,nv,t,ρp,ρ,s,R,hc,he,h,hB,hk0,l1,l2,l3=>by
  simp only [comp,Q2] at hc
  obtain ⟨tk,hk,rfl⟩:=hc
  simp only [PT.wp] at he
  intro b hb
  obtain ⟨hpre,h1⟩:=h.newM (o:=.mq [] 0) (x:=(b,Obj.map #[] 0)) ⟨#[],0,rfl,[],rfl,.nil,by simp,by simp [a6l]⟩
  have hml:=h.m.length
  have h2:=h1.pushV (p:=.mp ρp.m.length) (v:=.map (some b)) (by
   simp only [Rep]
   exact ⟨b,_,a1C (o:=.mq [] 0) (x:=(b,Obj.map #[] 0)) (by simp) (by simp [<- hml]),rfl⟩) rfl
  exact a1e hΦ k _ _ _ tk _ _ s R hk he h2 (hB.trans hpre) hk0 l1 l2 (by simp [l3])
 | .qGet n key ok k,ni,nb,nv,t,ρp,ρ,s,R,hc,he,h,hB,hk0,l1,l2,l3=>by
  simp only [comp,Q2] at hc
  obtain ⟨tk,hk,rfl⟩:=hc
  simp only [PT.wp] at he
  split at he
  case h_2=>cases he
  rename_i hd hn
  split at he
  case h_2=>cases he
  rename_i kv ver hm
  split at he
  case isFalse=>cases he
  rename_i hw
  obtain ⟨b,es,clock,kv',m1,m2,m3,m4,m5,m6⟩:=h.mapQ hn hm
  have hkey:key.map (IE.den ρ)=key.map (IE.pe ρp):=QP (fun e _=>IE.pe_den h e)
  refine ⟨hd,b,es,clock,kv',m1,m2,m3,a9Z m4 hw,?_⟩
  rw [hkey,b5N m4 m5]
  have h2:=h.push (r:=([(a0K kv (key.map (IE.pe ρp))).getD 0],if ok then [(a0K kv (key.map (IE.pe ρp))).isSome] else [],[])) (vvs:=[]) ⟨rfl,by simp⟩
  refine a1e hΦ k _ _ _ tk _ _ s R hk he h2 hB hk0 ?_ ?_ ?_
  ·simp [PEnv.push,l1]
  ·cases ok<;>simp [PEnv.push,l2]
  ·simp [PEnv.push,l3]
 | .qSet n key v k,ni,nb,nv,t,ρp,ρ,s,R,hc,he,h,hB,hk0,l1,l2,l3=>by
  simp only [comp,Q2] at hc
  obtain ⟨tk,hk,rfl⟩:=hc
  simp only [PT.wp] at he
  split at he
  case h_2=>cases he
  rename_i hd hn
  split at he
  case h_2=>cases he
  rename_i kv ver hm
  split at he
  case isFalse=>cases he
  rename_i hw
  obtain ⟨b,es,clock,kv',m1,m2,m3,m4,m5,m6⟩:=h.mapQ hn hm
  have hkey:key.map (IE.den ρ)=key.map (IE.pe ρp):=QP (fun e _=>IE.pe_den h e)
  refine ⟨hd,b,es,clock,kv',m1,m2,m3,a9Z m4 hw,m6,fun es' clock' hq hbn=>?_⟩
  rw [hkey,IE.pe_den h v] at hq
  obtain ⟨p1,p2⟩:=c3s m4 m5 (key.map (IE.pe ρp)) (v.pe ρp)
  obtain ⟨hpre,h2⟩:=h.setM (o:=.mq (a3B kv (key.map (IE.pe ρp)) (v.pe ρp)) (ver+1)) (x:=(b,Obj.map es' clock')) hm m1 ⟨es',clock',rfl,_,hq,p1,p2,hbn⟩ (.inl rfl) ⟨by omega,fun h=>by omega⟩
  exact a1e hΦ k _ _ _ tk _ _ s R hk he h2 (hB.trans hpre) hk0 l1 l2 l3
 | .qDel n key k,ni,nb,nv,t,ρp,ρ,s,R,hc,he,h,hB,hk0,l1,l2,l3=>by
  simp only [comp,Q2] at hc
  obtain ⟨tk,hk,rfl⟩:=hc
  simp only [PT.wp] at he
  split at he
  case h_2=>cases he
  rename_i hd hn
  split at he
  case h_2=>cases he
  rename_i kv ver hm
  split at he
  case isFalse=>cases he
  rename_i hw
  obtain ⟨b,es,clock,kv',m1,m2,m3,m4,m5,m6⟩:=h.mapQ hn hm
  have hkey:key.map (IE.den ρ)=key.map (IE.pe ρp):=QP (fun e _=>IE.pe_den h e)
  refine ⟨hd,b,es,clock,kv',m1,m2,m3,a9Z m4 hw,m6,fun es' clock' hq hbn=>?_⟩
  rw [hkey] at hq
  obtain ⟨p1,p2⟩:=c2T m4 m5 (key.map (IE.pe ρp))
  obtain ⟨hpre,h2⟩:=h.setM (o:=.mq (a3q kv (key.map (IE.pe ρp))) (ver+1)) (x:=(b,Obj.map es' clock')) hm m1 ⟨es',clock',rfl,_,hq,p1,p2,hbn⟩ (.inl rfl) ⟨by omega,fun h=>by omega⟩
  exact a1e hΦ k _ _ _ tk _ _ s R hk he h2 (hB.trans hpre) hk0 l1 l2 l3
 | .qLen n k,ni,nb,nv,t,ρp,ρ,s,R,hc,he,h,hB,hk0,l1,l2,l3=>by
  simp only [comp,Q2] at hc
  obtain ⟨tk,hk,rfl⟩:=hc
  simp only [PT.wp] at he
  split at he
  case h_2=>cases he
  rename_i hd hn
  split at he
  case h_2=>cases he
  rename_i kv ver hm
  obtain ⟨b,es,clock,kv',m1,m2,m3,m4,m5,m6⟩:=h.mapQ hn hm
  refine ⟨hd,b,es,clock,m1,m2,?_⟩
  have hsz:es.size=kv.length:=by
   have:=congrArg List.length m3
   simp only [QD,QN] at this
   rw [this,m4.length_eq]
  rw [hsz]
  have h2:=h.push (r:=([(kv.length:Int)],[],[])) (vvs:=[]) ⟨rfl,by simp⟩
  exact a1e hΦ k _ _ _ tk _ _ s R hk he h2 hB hk0 (by simp [PEnv.push,l1]) (by simp [PEnv.push,l2]) (by simp [PEnv.push,l3])
 | .rng n k,ni,nb,nv,t,ρp,ρ,s,R,hc,he,h,hB,hk0,l1,l2,l3=>by
  simp only [comp,Q2] at hc
  obtain ⟨tk,hk,rfl⟩:=hc
  simp only [PT.wp] at he
  split at he
  case h_2=>cases he
  rename_i hd hn
  split at he
  case h_2=>cases he
  rename_i kv ver hm
  obtain ⟨b,es,clock,kv',m1,m2,m3,m4,m5,m6⟩:=h.mapQ hn hm
  refine ⟨hd,b,es,clock,m1,m2,fun b' hb'=>?_⟩
  obtain ⟨hpre,h1⟩:=h.newIt hm m1 m6 b'
  have hml:=h.m.length
  have h2:=h1.pushV (p:=.ref ρp.m.length 0) (v:=.pointer (some ⟨b',0,none⟩)) (by
   simp only [Rep]
   exact ⟨b',_,a1C (o:=.it hd ver []) (x:=(b',Obj.mapIter (some b) clock #[] clock)) (by simp) (by simp [<- hml]),rfl⟩) rfl
  exact a1e hΦ k _ _ _ tk _ _ s R hk he h2 (hB.trans hpre) hk0 l1 l2 (by simp [l3])
 | .next n w x y,ni,nb,nv,t,ρp,ρ,s,R,hc,he,h,hB,hk0,l1,l2,l3=>by
  simp only [comp,Q1,Q2] at hc
  obtain ⟨tx,hx,ty,hy,rfl⟩:=hc
  simp only [PT.wp] at he
  split at he
  case h_2=>cases he
  rename_i ii hn
  split at he
  case h_2=>cases he
  rename_i hd ver seen hit
  split at he
  case h_2=>cases he
  rename_i kv ver' hm
  split at he
  case isFalse=>cases he
  rename_i hcond
  obtain ⟨rfl,hw⟩:=hcond
  obtain ⟨b',b,clock,sn,es,kv',i1,i2,i3,i4,i5,i6,m3,m4,m5,m6⟩:=h.iter hn hit hm
  refine ⟨ii,b',hd,b,clock,clock,clock,sn,es,kv',i1,i3,i2,i4,Qb _,m3,a9Z m4 hw,fun h0=>?_,fun e he' key v hk1 hk2 hkl=>?_⟩
  ·rw [if_pos ((c5j m3 m4 i5).1 h0)] at he
   obtain ⟨hpre,h1⟩:=h.killIt hit i1
   exact a1e hΦ x ni nb nv tx _ ρ s R hx he h1 (hB.trans hpre) hk0 l1 l2 l3
  ·obtain ⟨hmem,hne⟩:=c4w m3 m4 i5 he' hk1 hk2
   rw [if_neg hne] at he
   have he:=he _ hmem
   obtain ⟨hpre,h1⟩:=h.stepIt hit hm i1 i2 i4 i5 i6 m3 m4 m5 m6 he' hk1
   have h2:=h1.push (r:=(key++[v],[],[])) (vvs:=[]) ⟨rfl,by simp⟩
   refine a1e hΦ y _ _ _ ty _ _ s R hy he h2 (hB.trans hpre) hk0 ?_ ?_ ?_
   ·simp [PEnv.push,l1,hkl]
   ·simp [PEnv.push,l2]
   ·simp [PEnv.push,l3]
 | .entry n w k,ni,nb,nv,t,ρp,ρ,s,R,hc,he,h,hB,hk0,l1,l2,l3=>by
  simp only [comp,Q2] at hc
  obtain ⟨tk,hk,rfl⟩:=hc
  simp only [PT.wp] at he
  split at he
  case h_2=>cases he
  rename_i ii hn
  split at he
  case h_2=>cases he
  rename_i hd ver seen hit
  split at he
  case h_2=>cases he
  rename_i key hlast
  split at he
  case h_2=>cases he
  rename_i kv ver' hm
  split at he
  case isFalse=>cases he
  rename_i hvv
  subst hvv
  obtain ⟨v,hv,he⟩:=he
  split at he
  case isFalse=>cases he
  rename_i hkl
  obtain ⟨b',b,clock,sn,es,kv',i1,i2,i3,i4,i5,i6,m3,m4,m5,m6⟩:=h.iter hn hit hm
  obtain ⟨e,hee,sn',rfl,hek⟩:=i6 key hlast
  refine ⟨ii,b',hd,b,clock,clock,sn',es,e,key,v,i1,i3,i2,hee,m6.1,hek,c6L m3 m4 m5 hee hek hv,hkl,?_⟩
  have h2:=h.push (r:=(key++[v],[],[])) (vvs:=[]) ⟨rfl,by simp⟩
  refine a1e hΦ k _ _ _ tk _ _ s R hk he h2 hB hk0 ?_ ?_ ?_
  ·simp [PEnv.push,l1,hkl]
  ·simp [PEnv.push,l2]
  ·simp [PEnv.push,l3]
 | .copyM d x size k,ni,nb,nv,t,ρp,ρ,s,R,hc,he,h,hB,hk0,l1,l2,l3=>by
  simp only [comp,Q2] at hc
  obtain ⟨tk,hk,rfl⟩:=hc
  simp only [PT.wp] at he
  split at he
  case h_2=>cases he
  rename_i hd o len cap0 sz hn
  split at he
  case h_2=>cases he
  rename_i l T hm
  obtain ⟨sc,hsc,he⟩:=he
  split at he
  case isFalse=>cases he
  rename_i hcond
  obtain ⟨rfl,hc1,hc2,hc3⟩:=hcond
  obtain ⟨v,_,g1,g2⟩:=h.get hn
  obtain ⟨b,vs,m1,m2⟩:=h.m.get hm
  have hI:=a1C hm m1
  simp only [Rep] at g2
  obtain ⟨b',n',k1,rfl⟩:=g2
  rw [hI] at k1
  simp only [a1L,Q0,Q3] at k1
  obtain ⟨rfl,_⟩:=k1
  obtain ⟨a,cap,ws,e1,e2,e3⟩:=b8m h hsc
  have e2':=e2.take (min sc.1 len*sz)
  have hwl:=e2.length
  have htl:(ws.take (min sc.1 len*sz)).length=min sc.1 len*sz:=by rw [QA]; omega
  have hvl:=m2.length
  refine ⟨hd,b,o,len,cap0,sc.1,cap,a,vs.toArray,T,ws.take (min sc.1 len*sz),g1,m1,e1,htl,?_,fun u hu=>c4I e2 hc3 u (Qz hu),by simp only [Qp]; omega,?_⟩
  ·rcases e3 with rfl | ⟨b2,o2,f1,f2⟩
   ·exact .inl (by simp)
   ·refine .inr ⟨b2,o2,f1,?_⟩
    have tk:∀ {j:Nat} {u:Value},(ws.take (min sc.1 len*sz))[j]?=some u->ws[j]?=some u:=by
     intro j u hj
     rw [Qf] at hj
     split at hj
     ·exact hj
     ·cases hj
    rcases f2 with f2 | ⟨cur,T2,fr,f3,f4⟩
    ·exact .inl fun j u hj=>f2 j u (tk hj)
    ·exact .inr ⟨cur,T2,fr,f3,fun j u hj=>f4 j u (tk hj)⟩
  ·obtain ⟨hpre,h2⟩:=h.setM (o:=.cells (a3T l o (sc.2.take (min sc.1 len*sz))) T) (x:=(b,Obj.cells (a2X vs o (ws.take (min sc.1 len*sz))).toArray T (0,0))) hm m1 ⟨_,rfl,b4P m2 e2' o⟩ (.inl (by
    simp only [a1L,a3d,Qp,b2p vs (ws.take (min sc.1 len*sz)) o (by omega)]))
   have h3:=h2.push (r:=([((min sc.1 len:Nat):Int)],[],[])) (vvs:=[]) ⟨rfl,by simp⟩
   exact a1e hΦ k _ _ _ tk _ _ s R hk he h3 (hB.trans hpre) hk0 (by simp [PEnv.push,l1]) (by simp [PEnv.push,l2]) (by simp [PEnv.push,l3])
 | .both x y,ni,nb,nv,t,ρp,ρ,s,R,hc,he,h,hB,hk0,l1,l2,l3=>by
  simp only [comp,Q1,Q2] at hc
  obtain ⟨tx,hx,ty,hy,rfl⟩:=hc
  simp only [PT.wp] at he
  exact ⟨a1e hΦ x ni nb nv tx ρp ρ s R hx he.1 h hB hk0 l1 l2 l3,a1e hΦ y ni nb nv ty ρp ρ s R hy he.2 h hB hk0 l1 l2 l3⟩
 | .stop g,ni,nb,nv,t,ρp,ρ,s,R,hc,he,h,hB,hk0,l1,l2,l3=>by
  simp only [comp,Q2] at hc
  obtain ⟨⟨q,A⟩,hq,rfl⟩:=hc
  simp only [PT.wp] at he
  obtain ⟨b,hb,v,hv,hR⟩:=he
  obtain ⟨t,_,h2,h3,h4⟩:=b5W pats 0 hq
  have hflat:A.vs.all SV.flat=true:=by
   have h3':=h3
   unfold Sx.fits at h3'
   simp only [Q6] at h3'
   exact h3'.1.2
  refine ⟨q,A,t,_,hR,hB,hk0,by simpa using h2,h4,h3,fun js=>⟨?_,?_,?_,h.m,h.k,?_,h.coh⟩⟩
  ·exact QP (fun e _=>IE.pe_den h e)
  ·exact BE.all_spec h _ hb
  ·exact SV.pvs_rep h (a3l s _ id) _ v hv
  ·exact b7u h _ hv hflat
 | .fail _,ni,nb,nv,t,ρp,ρ,s,R,hc,he,h,hB,hk0,l1,l2,l3=>by simp only [comp,Q0] at hc; subst hc; simp [PT.wp] at he
theorem a1H {Φ:Fns} {f:PT->PT} {k:PT} {ρ:PEnv} {R:Res->Prop} (h:(PT.wrap f k).wp Φ ρ R):(f k).wp Φ ρ R:=by
 cases k<;>first | exact h | (simp [PT.wrap,PT.wp] at h)
theorem PT.prune_wp {Φ:Fns}:∀ {t:PT} {ρ:PEnv} {R:Res->Prop},t.prune.wp Φ ρ R->t.wp Φ ρ R
 | .ret ..,ρ,R,h=>h
 | .ite c x y,ρ,R,h=>by
  have h2:(PT.ite c x.prune y.prune).wp Φ ρ R:=by
   unfold PT.prune at h
   split at h
   ·simp [PT.wp] at h
   ·exact h
  simp only [PT.wp] at h2 ⊢
  split at h2
  ·rename_i hs
   rw [if_pos hs]
   split at h2
   ·rename_i hc; rw [if_pos hc]; exact PT.prune_wp h2
   ·rename_i hc; rw [if_neg hc]; exact PT.prune_wp h2
  ·rename_i hs
   rw [if_neg hs]
   exact ⟨PT.prune_wp h2.1,PT.prune_wp h2.2⟩
 | .need c k,ρ,R,h=>by
  have h2:=a1H h
  simp only [PT.wp] at h2 ⊢
  split at h2
  ·rename_i hs
   rw [if_pos hs]
   split at h2
   ·rename_i hc; rw [if_pos hc]; exact PT.prune_wp h2
   ·cases h2
  ·cases h2
 | .load ..,ρ,R,h=>by
  have h2:=a1H h
  simp only [PT.wp,Q1] at h2 ⊢
  obtain ⟨a,ha,b,hb,c,hc,h2⟩:=h2
  exact ⟨a,ha,b,hb,c,hc,PT.prune_wp h2⟩
 | .app ..,ρ,R,h=>by
  have h2:=a1H h
  simp only [PT.wp,Q1] at h2 ⊢
  obtain ⟨a,ha,b,hb,h2⟩:=h2
  refine ⟨a,ha,b,hb,?_⟩
  split at h2
  ·rename_i hs; rw [if_pos hs]; exact PT.prune_wp h2
  ·cases h2
 | .cut ..,ρ,R,h=>by
  have h2:=a1H h
  simp only [PT.wp,Q1] at h2 ⊢
  obtain ⟨a,ha,h2⟩:=h2
  refine ⟨a,ha,?_⟩
  split at h2
  ·rename_i hs; rw [if_pos hs]; exact PT.prune_wp h2
  ·cases h2
 | .scut n lo hi k,ρ,R,h=>by
  have h2:=a1H h
  rw [PT.wp] at h2 ⊢
  split at h2
  ·split at h2
   ·rename_i hs; rw [if_pos hs]; exact PT.prune_wp h2
   ·cases h2
  ·cases h2
 | .chk ..,ρ,R,h=>by
  have h2:=a1H h
  simp only [PT.wp,Q1] at h2 ⊢
  obtain ⟨a,ha,h2⟩:=h2
  exact ⟨a,ha,PT.prune_wp h2⟩
 | .appF ..,ρ,R,h=>by
  have h2:=a1H h
  simp only [PT.wp,Q1] at h2 ⊢
  obtain ⟨a,ha,b,hb,h2⟩:=h2
  refine ⟨a,ha,b,hb,?_⟩
  split at h2
  ·rename_i hs; rw [if_pos hs]; exact PT.prune_wp h2
  ·cases h2
 | .call ..,ρ,R,h=>by
  have h2:=a1H h
  simp only [PT.wp,Q1] at h2 ⊢
  obtain ⟨a,ha,b,hb,c,hc,h2⟩:=h2
  exact ⟨a,ha,b,hb,c,hc,PT.prune_wp h2⟩
 | .callv n args shs k,ρ,R,h=>by
  have h2:=a1H h
  rw [PT.wp] at h2 ⊢
  split at h2
  ·simp only [Q1] at h2 ⊢
   obtain ⟨a,ha,b,hb,c,hc,h2⟩:=h2
   exact ⟨a,ha,b,hb,c,hc,PT.prune_wp h2⟩
  ·cases h2
 | .newM ..,ρ,R,h=>by
  have h2:=a1H h
  simp only [PT.wp,Q1] at h2 ⊢
  obtain ⟨a,ha,h2⟩:=h2
  exact ⟨a,ha,PT.prune_wp h2⟩
 | .mkM ..,ρ,R,h=>by
  have h2:=a1H h
  simp only [PT.wp,Q1] at h2 ⊢
  obtain ⟨a,ha,h2⟩:=h2
  refine ⟨a,ha,?_⟩
  split at h2
  ·rename_i hs; rw [if_pos hs]; exact PT.prune_wp h2
  ·cases h2
 | .storeM a cs k,ρ,R,h=>by
  have h2:=a1H h
  rw [PT.wp] at h2 ⊢
  split at h2
  ·split at h2
   ·rename_i e1 _ _ _ e2
    obtain ⟨a,ha,h2⟩:=h2
    refine ⟨a,ha,?_⟩
    split at h2
    ·rename_i hs; rw [if_pos hs]; exact PT.prune_wp h2
    ·cases h2
   ·cases h2
  ·split at h2
   ·split at h2
    ·rename_i hs
     rw [if_pos hs]
     obtain ⟨a,ha,b,hb,h2⟩:=h2
     refine ⟨a,ha,b,hb,?_⟩
     split at h2
     ·rename_i hs; rw [if_pos hs]; exact PT.prune_wp h2
     ·cases h2
    ·cases h2
   ·cases h2
  ·cases h2
 | .appM d src size T k,ρ,R,h=>by
  have h2:=a1H h
  rw [PT.wp] at h2 ⊢
  obtain ⟨a,ha,b,hb,h2⟩:=h2
  refine ⟨a,ha,b,hb,?_⟩
  split at h2
  ·split at h2
   ·rename_i hs
    rw [if_pos hs]
    split at h2
    ·rename_i hs; rw [if_pos hs]; exact PT.prune_wp h2
    ·rename_i hs; rw [if_neg hs]; exact PT.prune_wp h2
   ·cases h2
  ·split at h2
   ·split at h2
    ·rename_i hs
     rw [if_pos hs]
     split at h2
     ·rename_i hs; rw [if_pos hs]; exact PT.prune_wp h2
     ·rename_i hs; rw [if_neg hs]; exact PT.prune_wp h2
    ·cases h2
   ·cases h2
  ·cases h2
 | .mkMap ..,ρ,R,h=>by
  have h2:=a1H h
  rw [PT.wp] at h2 ⊢
  exact PT.prune_wp h2
 | .mapGet n K key dflt ok shs k,ρ,R,h=>by
  have h2:=a1H h
  rw [PT.wp] at h2 ⊢
  split at h2
  ·split at h2
   ·split at h2
    ·rename_i hs
     rw [if_pos hs]
     obtain ⟨a,ha,b,hb,h2⟩:=h2
     exact ⟨a,ha,b,hb,PT.prune_wp h2⟩
    ·cases h2
   ·cases h2
  ·cases h2
 | .mapSet n K key val k,ρ,R,h=>by
  have h2:=a1H h
  rw [PT.wp] at h2 ⊢
  split at h2
  ·split at h2
   ·split at h2
    ·rename_i hs
     rw [if_pos hs]
     obtain ⟨a,ha,h2⟩:=h2
     exact ⟨a,ha,PT.prune_wp h2⟩
    ·cases h2
   ·cases h2
  ·cases h2
 | .mapClr n k,ρ,R,h=>by
  have h2:=a1H h
  rw [PT.wp] at h2 ⊢
  split at h2
  ·split at h2
   ·exact PT.prune_wp h2
   ·cases h2
  ·cases h2
 | .mkQ _,ρ,R,h=>by
  have h2:=a1H h
  rw [PT.wp] at h2 ⊢
  exact PT.prune_wp h2
 | .qGet n key ok k,ρ,R,h=>by
  have h2:=a1H h
  rw [PT.wp] at h2 ⊢
  split at h2
  ·split at h2
   ·split at h2
    ·rename_i hs; rw [if_pos hs]; exact PT.prune_wp h2
    ·cases h2
   ·cases h2
  ·cases h2
 | .qSet n key v k,ρ,R,h=>by
  have h2:=a1H h
  rw [PT.wp] at h2 ⊢
  split at h2
  ·split at h2
   ·split at h2
    ·rename_i hs; rw [if_pos hs]; exact PT.prune_wp h2
    ·cases h2
   ·cases h2
  ·cases h2
 | .qDel n key k,ρ,R,h=>by
  have h2:=a1H h
  rw [PT.wp] at h2 ⊢
  split at h2
  ·split at h2
   ·split at h2
    ·rename_i hs; rw [if_pos hs]; exact PT.prune_wp h2
    ·cases h2
   ·cases h2
  ·cases h2
 | .qLen n k,ρ,R,h=>by
  have h2:=a1H h
  rw [PT.wp] at h2 ⊢
  split at h2
  ·split at h2
   ·exact PT.prune_wp h2
   ·cases h2
  ·cases h2
 | .rng n k,ρ,R,h=>by
  have h2:=a1H h
  rw [PT.wp] at h2 ⊢
  split at h2
  ·split at h2
   ·exact PT.prune_wp h2
   ·cases h2
  ·cases h2
 | .next n w x y,ρ,R,h=>by
  have h2:(PT.next n w x.prune y.prune).wp Φ ρ R:=by
   unfold PT.prune at h
   split at h
   ·simp [PT.wp] at h
   ·exact h
  rw [PT.wp] at h2 ⊢
  split at h2
  ·split at h2
   ·split at h2
    ·split at h2
     ·rename_i hs
      rw [if_pos hs]
      split at h2
      ·rename_i h0; rw [if_pos h0]; exact PT.prune_wp h2
      ·rename_i h0; rw [if_neg h0]; exact fun p hp=>PT.prune_wp (h2 p hp)
     ·cases h2
    ·cases h2
   ·cases h2
  ·cases h2
 | .entry n w k,ρ,R,h=>by
  have h2:=a1H h
  rw [PT.wp] at h2 ⊢
  split at h2
  ·split at h2
   ·split at h2
    ·split at h2
     ·split at h2
      ·rename_i hs
       rw [if_pos hs]
       obtain ⟨v,hv,h2⟩:=h2
       refine ⟨v,hv,?_⟩
       split at h2
       ·rename_i h0; rw [if_pos h0]; exact PT.prune_wp h2
       ·cases h2
      ·cases h2
     ·cases h2
    ·cases h2
   ·cases h2
  ·cases h2
 | .copyM d x size k,ρ,R,h=>by
  have h2:=a1H h
  rw [PT.wp] at h2 ⊢
  split at h2
  ·split at h2
   ·obtain ⟨a,ha,h2⟩:=h2
    refine ⟨a,ha,?_⟩
    split at h2
    ·rename_i hs; rw [if_pos hs]; exact PT.prune_wp h2
    ·cases h2
   ·cases h2
  ·cases h2
 | .both x y,ρ,R,h=>by
  have h2:(PT.both x.prune y.prune).wp Φ ρ R:=by
   unfold PT.prune at h
   split at h
   ·simp [PT.wp] at h
   ·simp [PT.wp] at h
   ·exact h
  simp only [PT.wp,Q1] at h2 ⊢
  exact ⟨PT.prune_wp h2.1,PT.prune_wp h2.2⟩
 | .jump ..,ρ,R,h=>h
 | .stuck,ρ,R,h=>h
theorem PT.ev_wp {Φ:Fns} {R:Res->Prop}:∀ {t:PT} {ρ:PEnv} {r:Res},t.ev Φ ρ=some r->R r->t.wp Φ ρ R
 | .ret ..,ρ,r,h2,hR=>by
  simp only [PT.ev,Q1,Q2] at h2
  obtain ⟨p,hp,r',hr,rfl⟩:=h2
  exact ⟨p,hp,r',hr,hR⟩
 | .ite c x y,ρ,r,h2,hR=>by
  simp only [PT.ev,PT.wp] at h2 ⊢
  split at h2
  ·rename_i hs
   rw [if_pos hs]
   split at h2
   ·rename_i hc; rw [if_pos hc]; exact PT.ev_wp h2 hR
   ·rename_i hc; rw [if_neg hc]; exact PT.ev_wp h2 hR
  ·cases h2
 | .need c k,ρ,r,h2,hR=>by
  simp only [PT.ev,PT.wp] at h2 ⊢
  split at h2
  ·rename_i hs
   rw [if_pos hs]
   split at h2
   ·rename_i hc; rw [if_pos hc]; exact PT.ev_wp h2 hR
   ·cases h2
  ·cases h2
 | .load ..,ρ,r,h2,hR=>by
  simp only [PT.ev,PT.wp,Q1] at h2 ⊢
  obtain ⟨a,ha,b,hb,c,hc,h2⟩:=h2
  exact ⟨a,ha,b,hb,c,hc,PT.ev_wp h2 hR⟩
 | .app ..,ρ,r,h2,hR=>by
  simp only [PT.ev,PT.wp,Q1] at h2 ⊢
  obtain ⟨a,ha,b,hb,h2⟩:=h2
  refine ⟨a,ha,b,hb,?_⟩
  split at h2
  ·rename_i hs; rw [if_pos hs]; exact PT.ev_wp h2 hR
  ·cases h2
 | .cut ..,ρ,r,h2,hR=>by
  simp only [PT.ev,PT.wp,Q1] at h2 ⊢
  obtain ⟨a,ha,h2⟩:=h2
  refine ⟨a,ha,?_⟩
  split at h2
  ·rename_i hs; rw [if_pos hs]; exact PT.ev_wp h2 hR
  ·cases h2
 | .scut n lo hi k,ρ,r,h2,hR=>by
  rw [PT.ev] at h2; rw [PT.wp]
  split at h2
  ·split at h2
   ·rename_i hs; rw [if_pos hs]; exact PT.ev_wp h2 hR
   ·cases h2
  ·cases h2
 | .chk ..,ρ,r,h2,hR=>by
  simp only [PT.ev,PT.wp,Q1] at h2 ⊢
  obtain ⟨a,ha,h2⟩:=h2
  exact ⟨a,ha,PT.ev_wp h2 hR⟩
 | .appF ..,ρ,r,h2,hR=>by
  simp only [PT.ev,PT.wp,Q1] at h2 ⊢
  obtain ⟨a,ha,b,hb,h2⟩:=h2
  refine ⟨a,ha,b,hb,?_⟩
  split at h2
  ·rename_i hs; rw [if_pos hs]; exact PT.ev_wp h2 hR
  ·cases h2
 | .call ..,ρ,r,h2,hR=>by
  simp only [PT.ev,PT.wp,Q1] at h2 ⊢
  obtain ⟨a,ha,b,hb,c,hc,h2⟩:=h2
  exact ⟨a,ha,b,hb,c,hc,PT.ev_wp h2 hR⟩
 | .callv n args shs k,ρ,r,h2,hR=>by
  rw [PT.ev] at h2; rw [PT.wp]
  split at h2
  ·try simp only [Q1] at h2 ⊢
   try simp only [Q1] at h2
   obtain ⟨a,ha,b,hb,c,hc,h2⟩:=h2
   exact ⟨a,ha,b,hb,c,hc,PT.ev_wp h2 hR⟩
  ·cases h2
 | .newM ..,ρ,r,h2,hR=>by
  simp only [PT.ev,PT.wp,Q1] at h2 ⊢
  obtain ⟨a,ha,h2⟩:=h2
  exact ⟨a,ha,PT.ev_wp h2 hR⟩
 | .mkM ..,ρ,r,h2,hR=>by
  simp only [PT.ev,PT.wp,Q1] at h2 ⊢
  obtain ⟨a,ha,h2⟩:=h2
  refine ⟨a,ha,?_⟩
  split at h2
  ·rename_i hs; rw [if_pos hs]; exact PT.ev_wp h2 hR
  ·cases h2
 | .storeM a cs k,ρ,r,h2,hR=>by
  rw [PT.ev] at h2; rw [PT.wp]
  split at h2
  ·split at h2
   ·rename_i e1 _ _ _ e2
    try simp only [Q1] at h2
    obtain ⟨a,ha,h2⟩:=h2
    refine ⟨a,ha,?_⟩
    split at h2
    ·rename_i hs; rw [if_pos hs]; exact PT.ev_wp h2 hR
    ·cases h2
   ·cases h2
  ·split at h2
   ·split at h2
    ·rename_i hs
     rw [if_pos hs]
     try simp only [Q1] at h2
     obtain ⟨a,ha,b,hb,h2⟩:=h2
     refine ⟨a,ha,b,hb,?_⟩
     split at h2
     ·rename_i hs; rw [if_pos hs]; exact PT.ev_wp h2 hR
     ·cases h2
    ·cases h2
   ·cases h2
  ·cases h2
 | .appM d src size T k,ρ,r,h2,hR=>by
  rw [PT.ev] at h2; rw [PT.wp]
  try simp only [Q1] at h2
  obtain ⟨a,ha,b,hb,h2⟩:=h2
  refine ⟨a,ha,b,hb,?_⟩
  split at h2
  ·split at h2
   ·rename_i hs
    rw [if_pos hs]
    split at h2
    ·rename_i hs; rw [if_pos hs]; exact PT.ev_wp h2 hR
    ·rename_i hs; rw [if_neg hs]; exact PT.ev_wp h2 hR
   ·cases h2
  ·split at h2
   ·split at h2
    ·rename_i hs
     rw [if_pos hs]
     split at h2
     ·rename_i hs; rw [if_pos hs]; exact PT.ev_wp h2 hR
     ·rename_i hs; rw [if_neg hs]; exact PT.ev_wp h2 hR
    ·cases h2
   ·cases h2
  ·cases h2
 | .mkMap ..,ρ,r,h2,hR=>by
  rw [PT.ev] at h2; rw [PT.wp]
  exact PT.ev_wp h2 hR
 | .mapGet n K key dflt ok shs k,ρ,r,h2,hR=>by
  rw [PT.ev] at h2; rw [PT.wp]
  split at h2
  ·split at h2
   ·split at h2
    ·rename_i hs
     rw [if_pos hs]
     try simp only [Q1] at h2
     obtain ⟨a,ha,b,hb,h2⟩:=h2
     exact ⟨a,ha,b,hb,PT.ev_wp h2 hR⟩
    ·cases h2
   ·cases h2
  ·cases h2
 | .mapSet n K key val k,ρ,r,h2,hR=>by
  rw [PT.ev] at h2; rw [PT.wp]
  split at h2
  ·split at h2
   ·split at h2
    ·rename_i hs
     rw [if_pos hs]
     try simp only [Q1] at h2
     obtain ⟨a,ha,h2⟩:=h2
     exact ⟨a,ha,PT.ev_wp h2 hR⟩
    ·cases h2
   ·cases h2
  ·cases h2
 | .mapClr n k,ρ,r,h2,hR=>by
  rw [PT.ev] at h2; rw [PT.wp]
  split at h2
  ·split at h2
   ·exact PT.ev_wp h2 hR
   ·cases h2
  ·cases h2
 | .mkQ _,ρ,r,h2,hR=>by
  rw [PT.ev] at h2; rw [PT.wp]
  exact PT.ev_wp h2 hR
 | .qGet n key ok k,ρ,r,h2,hR=>by
  rw [PT.ev] at h2; rw [PT.wp]
  split at h2
  ·split at h2
   ·split at h2
    ·rename_i hs; rw [if_pos hs]; exact PT.ev_wp h2 hR
    ·cases h2
   ·cases h2
  ·cases h2
 | .qSet n key v k,ρ,r,h2,hR=>by
  rw [PT.ev] at h2; rw [PT.wp]
  split at h2
  ·split at h2
   ·split at h2
    ·rename_i hs; rw [if_pos hs]; exact PT.ev_wp h2 hR
    ·cases h2
   ·cases h2
  ·cases h2
 | .qDel n key k,ρ,r,h2,hR=>by
  rw [PT.ev] at h2; rw [PT.wp]
  split at h2
  ·split at h2
   ·split at h2
    ·rename_i hs; rw [if_pos hs]; exact PT.ev_wp h2 hR
    ·cases h2
   ·cases h2
  ·cases h2
 | .qLen n k,ρ,r,h2,hR=>by
  rw [PT.ev] at h2; rw [PT.wp]
  split at h2
  ·split at h2
   ·exact PT.ev_wp h2 hR
   ·cases h2
  ·cases h2
 | .rng n k,ρ,r,h2,hR=>by
  rw [PT.ev] at h2; rw [PT.wp]
  split at h2
  ·split at h2
   ·exact PT.ev_wp h2 hR
   ·cases h2
  ·cases h2
 | .next ..,ρ,r,h2,hR=>by simp [PT.ev] at h2
 | .entry n w k,ρ,r,h2,hR=>by
  rw [PT.ev] at h2; rw [PT.wp]
  split at h2
  ·split at h2
   ·split at h2
    ·split at h2
     ·split at h2
      ·rename_i hs
       rw [if_pos hs]
       try simp only [Q1] at h2
       obtain ⟨v,hv,h2⟩:=h2
       refine ⟨v,hv,?_⟩
       split at h2
       ·rename_i h0; rw [if_pos h0]; exact PT.ev_wp h2 hR
       ·cases h2
      ·cases h2
     ·cases h2
    ·cases h2
   ·cases h2
  ·cases h2
 | .copyM d x size k,ρ,r,h2,hR=>by
  rw [PT.ev] at h2; rw [PT.wp]
  split at h2
  ·split at h2
   ·simp only [Q1] at h2
    obtain ⟨a,ha,h2⟩:=h2
    refine ⟨a,ha,?_⟩
    split at h2
    ·rename_i hs; rw [if_pos hs]; exact PT.ev_wp h2 hR
    ·cases h2
   ·cases h2
  ·cases h2
 | .both x y,ρ,r,h2,hR=>by
  simp only [PT.ev,Q1] at h2
  obtain ⟨r1,h1,r2,h3,h2⟩:=h2
  split at h2
  case isFalse=>cases h2
  rename_i hbeq
  have hrr:=Res.beq_eq hbeq
  subst hrr
  simp only [Q0] at h2; subst h2
  exact ⟨PT.ev_wp h1 hR,PT.ev_wp h3 hR⟩
 | .jump ..,ρ,r,h2,hR=>by
  simp only [PT.ev,Q1,Q2] at h2
  obtain ⟨b,hb,v,hv,rfl⟩:=h2
  exact ⟨b,hb,v,hv,hR⟩
 | .stuck,ρ,r,h2,hR=>by simp [PT.ev] at h2
structure SysOk (P:Program) (f:FuncId) (S:Sys):Prop where
 ct:∀ Φ:Fns,(∀ f,CtP P f (Φ f))->∀ n,CtP P f (S.run Φ n)
theorem b4B {t:Cfg} (h:b3F t=true):∀ p d ks k,t.todo≠.dreg p d ks::k:=by
 intro p d ks k he
 simp [b3F,he] at h
def Sys.loopD (Φ:Fns) (S:Sys):Nat->Nat->PEnv->(PV->List MO->Prop)->Prop
 | 0,_,_,_=>False
 | n+1,q,ρ,R=>∃ t,S.loops[q]?=some t/\t.wp Φ ρ fun
  | .ret r σ=>R r σ
  | .jump q' ρ'=>S.loopD Φ n q' ρ' R
def Sys.runD (Φ:Fns) (S:Sys) (n:Nat) (as:List PV) (σ:List MO) (R:PV->List MO->Prop):Prop :=
 ∃ r,a0E S.ps as=some r/\S.start.wp Φ { i:=r.1,b:=r.2.1,v:=r.2.2,m:=σ,k:=σ.length } fun
  | .ret r σ=>R r σ
  | .jump q ρ=>S.loopD Φ n q ρ R
def CtD (P:Program) (f:Nat) (as:List PV) (σ:List MO) (R:PV->List MO->Prop):Prop :=
 (∀ args w,(callFunc f args).run P w=.ok (.enter f args) w) /\
  ∀ s m vs,a0P s (inf σ m) σ m->Coh σ m->Reps s (inf σ m) as vs->Ct P f vs s m (fun v s' m'=>∃ r σ',R r σ'/\QF σ m r σ' v s' m')
theorem b6F {Φ:Fns} {S:Sys} {R:PV->List MO->Prop}:∀ (n q:Nat) (ρ:PEnv) {r:PV} {σ:List MO},S.loop Φ n q ρ=some (r,σ)->R r σ->S.loopD Φ n q ρ R
 | 0,q,ρ,r,σ,h,_=>by simp [Sys.loop] at h
 | n+1,q,ρ,r,σ,h,hR=>by
  simp only [Sys.loop,Q1] at h
  obtain ⟨t,ht,res,hres,h⟩:=h
  refine ⟨t,ht,PT.ev_wp hres ?_⟩
  cases res with
  | ret r' σ'=>simp only [Q0,Q3] at h; obtain ⟨rfl,rfl⟩:=h; exact hR
  | jump q' ρ'=>exact b6F n q' ρ' h hR
theorem c4U {Φ:Fns} {S:Sys} (hp:S.prim=none) (hr:S.rg=none) {R:PV->List MO->Prop} {n:Nat} {as:List PV} {σ:List MO} {r:PV} {σ':List MO} (h:S.run Φ n as σ=some (r,σ')) (hR:R r σ'):S.runD Φ n as σ R:=by
 unfold Sys.run at h
 simp only [hp,hr] at h
 simp only [Q1] at h
 obtain ⟨x,hx,res,hres,hfin⟩:=h
 refine ⟨x,hx,PT.ev_wp hres ?_⟩
 cases res with
 | ret r' σ'=>simp only [Q0,Q3] at hfin; obtain ⟨rfl,rfl⟩:=hfin; exact hR
 | jump q' ρ'=>exact b6F n q' ρ' hfin hR
structure SysIs (P:Program) (f:FuncId) (S:Sys):Prop where
 dm:∀ Φ:Fns,(∀ f,CtP P f (Φ f))->∀ n as σ R,S.runD Φ n as σ R->CtD P f as σ R
theorem a8F {c:Ctx} {f:FuncId} {fnc:Func} (hP:ProgOk P c) (hf:P.funcs[f]?=some fnc) (hen:∀ args w,(callFunc f args).run P w=.ok (.enter f args) w) (hb:fnc.body.isSome=true)
  (pats:List Cfg) (S:Sys) (fuel:Nat) {ni nb nv:Nat} {args:List SV} (hargs:a6X S.ps 0 0 0=(args,ni,nb,nv))
  (h0:(comp pats (run c (b3r fnc) fuel (a4F fnc.ntmps args ni nb nv)) ni nb nv).map PT.prune=some S.start)
  (h1:pats.mapM (fun g=>(comp pats (run c (b3r fnc) fuel g) g.ni g.nb g.nv).map PT.prune)=some S.loops):SysIs P f S where
 dm Φ hΦ n as σ R hrun:=by
  refine ⟨hen,fun s m vs hm hcoh hvs=>?_⟩
  have hbody:fnc.body=some (b3r fnc).body:=by
   cases hb':fnc.body with
   | none=>rw [hb'] at hb; cases hb
   | some x=>simp [b3r,hb']
  obtain ⟨x,hx,hwp⟩:=hrun
  obtain ⟨vvs,hbd,hspec⟩:=b0K S.ps as vs hx hvs
  obtain ⟨c1,c2⟩:=hspec 0 0 0
  rw [hargs] at c1 c2
  simp only [Qm,Q3] at c1
  obtain ⟨d1,d2,d3⟩:=c1
  let ρ:Env:={ i:=x.1,b:=x.2.1,v:=vvs,j:=[],m:=m,k:=m.length }
  have hat:At ρ 0 0 0 x.1 x.2.1 vvs:=⟨fun j z h=>by simpa [ρ] using h,fun j z h=>by simpa [ρ] using h,fun j z h=>by simpa [ρ] using h⟩
  have hden:SV.dens ρ id args=vs:=c2 ρ id hat
  have hrep:EnvRep s { i:=x.1,b:=x.2.1,v:=x.2.2,m:=σ,k:=σ.length } ρ:=⟨rfl,rfl,hbd.1,hm,hm.length,hbd.2,hcoh⟩
  rw [<- hden]
  have hvl:=hbd.1.length
  refine c6M (ρ:=ρ) hP hf hbody rfl fuel hrep.ok rfl rfl (fun w0=>?_)
  have hl1:ρ.i.length=ni:=d1.symm
  have hl2:ρ.b.length=nb:=d2.symm
  have hl3:ρ.v.length=nv:=d3.symm
  rw [hl1,hl2,hl3]
  have hpat:∀ (q:Nat) (t:Cfg),pats[q]?=some t->∃ pt,S.loops[q]?=some pt/\(comp pats (run c (b3r fnc) fuel t) t.ni t.nb t.nv).map PT.prune=some pt:=fun q t hq=>(b1S h1).2 q t hq
  have loops:∀ (n q:Nat) (ρp:PEnv),S.loopD Φ n q ρp R->∀ (t:Cfg) (ρ1:Env) (s1:Hp),pats[q]?=some t->EnvRep s1 ρp ρ1->Le2 σ m ρp.m ρ1.m->σ.length<=ρp.k->ρp.i.length=t.ni->ρp.b.length=t.nb->ρp.v.length=t.nv ->
    Reach P f (Ret (fun v s' m'=>∃ r σ',R r σ'/\QF σ m r σ' v s' m') s m w0) (b3r fnc).body w0 s m t ρ1 s1:=by
   intro n
   induction n with
   | zero=>intro q ρp h; exact h.elim
   | succ n ih =>
    intro q ρp h t ρ1 s1 hq he hB hk0 e1 e2 e3
    obtain ⟨pt,hpt,hwp⟩:=h
    obtain ⟨pt',hpt',hcomp⟩:=hpat q t hq
    rw [hpt] at hpt'
    simp only [Q0] at hpt'; subst hpt'
    obtain ⟨pt0,hcomp,hpr⟩:=Q2.1 hcomp
    rw [<- hpr] at hwp
    have hwp:=PT.prune_wp hwp
    have hvc:=a1e (σ0:=σ) (m0:=m) hΦ _ _ _ _ pt0 ρp ρ1 s1 _ hcomp hwp he hB hk0 e1 e2 e3
    refine b7y (Q:=fun v s' m'=>∃ r σ',R r σ'/\QF σ m r σ' v s' m') hP hf rfl ?_ fuel t ρ1 s1 (VC.mono ?_ (fun _ _ _ h=>h) _ _ _ hvc)
    ·rintro g ρ2 s2 ⟨q',A,t',ρp',hR',hB',hk',hq',hho,hfit,hE⟩
     refine b8d hfit (b4B hho) (fun js _=>?_)
     have hfit1:=hfit
     unfold Sx.fits at hfit1
     simp only [Q6,beq_iff_eq] at hfit1
     have hE':=hE js
     have a1:=hE'.i
     have a2:=hE'.b
     have a3:=hE'.v.length
     refine ih q' ρp' hR' t' _ s2 hq' hE' hB' hk' ?_ ?_ ?_
     ·rw [<- a1]; simp only [QD]; have:=hfit1.1.1.1.1.1.1.1.1.1.2; omega
     ·rw [<- a2]; simp only [QD]; have:=hfit1.1.1.1.1.1.1.1.1.2; omega
     ·rw [<- a3]; simp only [a0R]; have:=hfit1.1.1.1.1.1.1.1.2; omega
    ·exact fun v s' m' h=>h
  obtain ⟨st0,h0,hpr⟩:=Q2.1 h0
  rw [<- hpr] at hwp
  have hwp:=PT.prune_wp hwp
  have hvc:=a1e (σ0:=σ) (m0:=m) hΦ _ _ _ _ st0 _ ρ s _ h0 hwp hrep (Le2.refl _ _) (Qb _) d1.symm d2.symm (by simp only; omega)
  refine VC.mono ?_ ?_ _ _ _ hvc
  ·exact fun v s' m' h=>h
  ·rintro g ρ2 s2 ⟨q',A,t',ρp',hR',hB',hk',hq',hho,hfit,hE⟩
   refine b8d hfit (b4B hho) (fun js _=>?_)
   have hfit1:=hfit
   unfold Sx.fits at hfit1
   simp only [Q6,beq_iff_eq] at hfit1
   have hE':=hE js
   have a1:=hE'.i
   have a2:=hE'.b
   have a3:=hE'.v.length
   refine loops n q' ρp' hR' t' _ s2 hq' hE' hB' hk' ?_ ?_ ?_
   ·rw [<- a1]; simp only [QD]; have:=hfit1.1.1.1.1.1.1.1.1.1.2; omega
   ·rw [<- a2]; simp only [QD]; have:=hfit1.1.1.1.1.1.1.1.1.2; omega
   ·rw [<- a3]; simp only [a0R]; have:=hfit1.1.1.1.1.1.1.1.2; omega
theorem CtD.one {f:Nat} {as:List PV} {σ:List MO} {r:PV} {σ':List MO} (h:CtD P f as σ (fun x y=>x=r/\y=σ')):(∀ args w,(callFunc f args).run P w=.ok (.enter f args) w) /\
  ∀ s m vs,a0P s (inf σ m) σ m->Coh σ m->Reps s (inf σ m) as vs->Ct P f vs s m (QF σ m r σ'):=by
 refine ⟨h.1,fun s m vs a b c w hs hm=>(h.2 s m vs a b c w hs hm).mono ?_⟩
 rintro e w' ⟨v,s',m',e1,e2,e3,e4,e5,e6,e7,r',σ'',⟨rfl,rfl⟩,hq⟩
 exact ⟨v,s',m',e1,e2,e3,e4,e5,e6,e7,hq⟩
theorem SysIs.ok {f:FuncId} {S:Sys} (h:SysIs P f S) (hp:S.prim=none) (hr:S.rg=none:=by rfl):SysOk P f S where
 ct Φ hΦ n as σ r σ' hrun:=(h.dm Φ hΦ n as σ _ (c4U hp hr hrun ⟨rfl,rfl⟩)).one
theorem a0N {c:Ctx} {f:FuncId} {fnc:Func} (hP:ProgOk P c) (hf:P.funcs[f]?=some fnc) (hen:∀ args w,(callFunc f args).run P w=.ok (.enter f args) w) (hb:fnc.body.isSome=true)
  (pats:List Cfg) (S:Sys) (fuel:Nat) {ni nb nv:Nat} {args:List SV} (hargs:a6X S.ps 0 0 0=(args,ni,nb,nv))
  (h0:(comp pats (run c (b3r fnc) fuel (a4F fnc.ntmps args ni nb nv)) ni nb nv).map PT.prune=some S.start)
  (h1:pats.mapM (fun g=>(comp pats (run c (b3r fnc) fuel g) g.ni g.nb g.nv).map PT.prune)=some S.loops) (hp:S.prim=none) (hr:S.rg=none:=by rfl):SysOk P f S :=
 (a8F hP hf hen hb pats S fuel hargs h0 h1).ok hp hr
theorem evalF_good {Tab:Nat->Option Sys} (hT:∀ f S,Tab f=some S->SysOk P f S):∀ n f,CtP P f (a0B Tab n f)
 | 0,f=>fun as σ r σ' h=>by simp [a0B] at h
 | n+1,f=>fun as σ r σ' h=>by
  simp only [a0B,Q1] at h
  obtain ⟨S,hS,h⟩:=h
  exact (hT f S hS).ct _ (evalF_good hT n) n as σ r σ' h
end Go.Sx
namespace Go.Sx
open Go.RowKit
variable {P:Program} {f:Nat} {as:List PV} {σ:List MO}
theorem b9I.perm {es:Array MapEntry} {clock:Nat} {a b:KV} (h:b9I es clock a) (hp:a.Perm b):b9I es clock b:=by
 obtain ⟨kv',h1,h2,h3,h4⟩:=h
 exact ⟨kv',h1,h2.trans hp,(hp.map fun p:List Int × Int=>p.1).nodup_iff.1 h3,h4⟩
theorem c5P {σ:List MO} {m:MS} {k:Nat} (h:σ.all (MO.low k)=true):Coh σ m:=Coh.of_none fun o ho=>by
 have:=List.all_eq_true.1 h o ho
 cases o<;>first | rfl | simp [MO.low] at this
theorem c6q {σ:List MO} {m:MS} {h:Nat} {o o':MO} (h0:σ[h]?=some o) (he:∀ x,a1L o' x=a1L o x):inf (σ.set h o') m=inf σ m:=by
 unfold inf
 apply QK
 intro i
 simp only [X7,Qs]
 by_cases hi:h=i
 ·subst hi
  rw [if_pos rfl,if_pos (Q4.1 h0).1,h0]
  cases m[h]? with
  | none=>rfl
  | some x=>simp [he]
 ·rw [if_neg hi]
theorem c4f {α:Type} {l:List α} {i:Nat} {x:α} (h:l[i]?=some x):l.set i x=l:=by
 apply QK
 intro j
 rw [Qs]
 split
 ·rename_i he; subst he
  rw [if_pos (Q4.1 h).1,h]
 ·rfl
theorem CtD.turned {R:PV->List MO->Prop} (hct:CtD P f as σ R) {r:PV} {h:Nat} {kv kv2:KV} {v v2:Nat} (h0:σ[h]?=some (.mq kv v)) (hv:v < v2) (hlow:σ.all (MO.low σ.length)=true)
  (hR:∀ r' σ',R r' σ'->r'=r/\∃ kv1 v1,σ'=σ.set h (.mq kv1 v1)/\kv1.Perm kv2):CtD P f as σ (fun r' σ'=>r'=r/\σ'=σ.set h (.mq kv2 v2)):=by
 refine ⟨hct.1,fun s m vs a b c w hs hm=>(hct.2 s m vs a b c w hs hm).mono ?_⟩
 rintro e w' ⟨x,s',m',e1,e2,e3,e4,e5,e6,e7,r',σ',hr,hle,hrep,hrm,hcoh⟩
 obtain ⟨rfl,kv1,v1,rfl,hp⟩:=hR _ _ hr
 have hlt:=(Q4.1 h0).1
 have h1:(σ.set h (.mq kv1 v1))[h]?=some (.mq kv1 v1):=Qq hlt
 have hset:σ.set h (.mq kv2 v2)=(σ.set h (.mq kv1 v1)).set h (.mq kv2 v2):=by rw [List.set_set]
 have hI:inf (σ.set h (.mq kv2 v2)) m'=inf (σ.set h (.mq kv1 v1)) m':=by rw [hset]; exact c6q h1 (fun _=>rfl)
 refine ⟨x,s',m',e1,e2,e3,e4,e5,e6,e7,r',_,⟨rfl,rfl⟩,⟨?_,?_⟩,?_,?_,?_⟩
 ·rw [hI]; exact hle.ble
 ·intro i o ho
  by_cases hi:i=h
  ·subst hi
   rw [h0] at ho
   simp only [Q0] at ho; subst ho
   exact ⟨_,Qq hlt,by omega,fun he=>by omega⟩
  ·obtain ⟨o',k1,k2⟩:=hle.stay i o ho
   rw [Qh (Ne.symm hi)] at k1
   exact ⟨o',by rw [Qh (Ne.symm hi)]; exact k1,k2⟩
 ·rw [hI]; exact hrep
 ·rw [hI,hset]
  obtain ⟨y,hy,es,clock,ho,hq⟩:=hrm.obj h1
  have:=a0P.set (i:=h) (o:=.mq kv2 v2) (x:=y) hrm (by simpa using hlt) ⟨es,clock,ho,hq.perm hp⟩
  rwa [c4f hy] at this
 ·refine c5P (k:=σ.length) (List.all_eq_true.2 fun o ho=>?_)
  rcases QL ho with ho | rfl
  ·exact List.all_eq_true.1 hlow o ho
  ·rfl
mutual
theorem PV.low_mono {k k':Nat} (hk:k<=k'):∀ p:PV,p.low k=true->p.low k'=true
 | .ref h _,e=>by simp only [PV.low,decide_eq_true_eq] at *; omega
 | .mp h,e=>by simp only [PV.low,decide_eq_true_eq] at *; omega
 | .msl h _ _ _ _,e=>by simp only [PV.low,decide_eq_true_eq] at *; omega
 | .rsl h _ _,e=>by simp only [PV.low,decide_eq_true_eq] at *; omega
 | .rpl h _ _ _,e=>by simp only [PV.low,decide_eq_true_eq] at *; omega
 | .sl _ rows,e=>by simp only [PV.low] at *; exact PV.lowss_mono hk rows e
 | .cell l _,e=>by simp only [PV.low] at *; exact PV.lows_mono hk l e
 | .fn _ l,e=>by simp only [PV.low] at *; exact PV.lows_mono hk l e
 | .agg l,e=>by simp only [PV.low] at *; exact PV.lows_mono hk l e
 | .tup l,e=>by simp only [PV.low] at *; exact PV.lows_mono hk l e
 | .int ..,_=>rfl
 | .bool ..,_=>rfl
 | .str ..,_=>rfl
 | .undef,_=>rfl
 | .nilS,_=>rfl
 | .nilF,_=>rfl
 | .nilP,_=>rfl
 | .nilI,_=>rfl
 | .nilM,_=>rfl
theorem PV.lows_mono {k k':Nat} (hk:k<=k'):∀ l:List PV,PV.lows k l=true->PV.lows k' l=true
 | [],_=>rfl
 | p::l,e=>by
  simp only [PV.lows,Q6] at *
  exact ⟨PV.low_mono hk p e.1,PV.lows_mono hk l e.2⟩
theorem PV.lowss_mono {k k':Nat} (hk:k<=k'):∀ l:List (List PV),PV.lowss k l=true->PV.lowss k' l=true
 | [],_=>rfl
 | p::l,e=>by
  simp only [PV.lowss,Q6] at *
  exact ⟨PV.lows_mono hk p e.1,PV.lowss_mono hk l e.2⟩
end
theorem MO.low_mono {k k':Nat} (hk:k<=k') {o:MO} (h:o.low k=true):o.low k'=true:=by
 cases o with
 | cells l T=>exact PV.lows_mono hk l h
 | row rows sz T=>exact PV.lowss_mono hk rows h
 | mp ks vs K=>exact PV.lows_mono hk vs h
 | mq kv ver=>rfl
 | it hd ver seen=>cases h
 | dead=>rfl
section
variable {Φ:Fns} {ρ:PEnv} {R:Res->Prop} {k x y:PT}
theorem a8B {fl:Bool} {a:SV} {ks:List Kd} {l:Loc} {z:List PV} {r:List Int × List Bool × List PV} (h1:a0y ρ a=some l) (h2:a0o ρ fl ks.length l=some z) (h3:a0w ks z=some r) (hk:k.wp Φ (ρ.push r) R) :
  (PT.load fl a ks k).wp Φ ρ R:=⟨l,h1,z,h2,r,h3,hk⟩
theorem a4b {c:BE} (hs:c.safe ρ=true) (hc:c.pe ρ=true) (h:x.wp Φ ρ R):(PT.ite c x y).wp Φ ρ R:=by simp only [PT.wp,hs,hc,if_true]; exact h
theorem a4O {c:BE} (hs:c.safe ρ=true) (hc:c.pe ρ=false) (h:y.wp Φ ρ R):(PT.ite c x y).wp Φ ρ R:=by simp only [PT.wp,hs,hc,if_true,Qa,if_false]; exact h
theorem a1W {c:BE} (hs:c.safe ρ=true) (hc:c.pe ρ=true) (h:k.wp Φ ρ R):(PT.need c k).wp Φ ρ R:=by simp only [PT.wp,hs,hc,if_true]; exact h
theorem a8z {f:Nat} {args:List SV} {H:List Blk} {shs:List Sh} {aa:List PV} {r:PV} {σ:List MO} {z:List Int × List Bool × List PV} (h1:SV.pvs ρ (a6e ρ H 3) args=some aa) (h2:Φ f aa ρ.m=some (r,σ)) (h3:a0p shs r=some z)
  (hk:k.wp Φ { ρ.push z with m:=σ } R):(PT.call f args H shs k).wp Φ ρ R:=⟨aa,h1,(r,σ),h2,z,h3,hk⟩
theorem b4a {q:Nat} {is:List IE} {bs:List BE} {vs:List SV} {b:List Bool} {v:List PV} (h1:BE.all ρ bs=some b) (h2:SV.pvs ρ noOwn vs=some v) (h3:R (.jump q { i:=is.map (IE.pe ρ),b:=b,v:=v,m:=ρ.m,k:=ρ.k })):(PT.jump q is bs vs).wp Φ ρ R:=⟨b,h1,v,h2,h3⟩
theorem b5V {n h off:Nat} {l z:List PV} {T:Nat} (h1:ρ.m[h]?=some (.cells l T)) (h2:a0z n (l.drop off)=some z):a0o ρ false n (.obj h off)=some z:=by
 simp only [a0o,Qa,if_false,h1,Option.bind_some,MO.list]; exact h2
theorem c6U {n:Nat} {h:Nat} {kv:KV} {ver:Nat} (h1:ρ.v[n]?=some (.mp h)) (h2:ρ.m[h]?=some (.mq kv ver)) (hk:k.wp Φ { ρ with v:=ρ.v++[.ref ρ.m.length 0],m:=ρ.m++[.it h ver []] } R):(PT.rng n k).wp Φ ρ R:=by
 simp only [PT.wp,h1,h2]; exact hk
theorem c0F {n w i h:Nat} {kv:KV} {ver:Nat} {seen:List (List Int)} (h1:ρ.v[n]?=some (.ref i 0)) (h2:ρ.m[i]?=some (.it h ver seen)) (h3:ρ.m[h]?=some (.mq kv ver)) (hw:a4E w kv=true)
  (hx:a5M kv seen=[]->x.wp Φ { ρ with m:=ρ.m.set i .dead } R) (hy:∀ p∈a5M kv seen,y.wp Φ { ρ.push (p.1++[p.2],[],[]) with m:=ρ.m.set i (.it h ver (seen++[p.1])) } R):(PT.next n w x y).wp Φ ρ R:=by
 simp only [PT.wp,h1,h2,h3,hw,and_self,if_true]
 split
 ·rename_i he; exact hx he
 ·exact hy
theorem b8L {n w i h:Nat} {kv:KV} {ver:Nat} {seen:List (List Int)} {key:List Int} {v:Int} (h1:ρ.v[n]?=some (.ref i 0)) (h2:ρ.m[i]?=some (.it h ver (seen++[key]))) (h3:ρ.m[h]?=some (.mq kv ver)) (h4:a0K kv key=some v) (h5:key.length=w)
  (hk:k.wp Φ (ρ.push (key++[v],[],[])) R):(PT.entry n w k).wp Φ ρ R:=by
 simp only [PT.wp,h1,h2,h3,Xc,Xd,Xe,h5,if_true]
 exact ⟨v,h4,hk⟩
theorem c0O {v:SV} {H:List Blk} {p:PV} (h1:v.pv ρ (a6e ρ H 3)=some p) (hR:R (.ret p ρ.m)):(PT.ret true v H).wp Φ ρ R:=⟨p,h1,(p,ρ.m),by unfold a0D; rw [if_pos (.inl rfl)],hR⟩
end
end Go.Sx
